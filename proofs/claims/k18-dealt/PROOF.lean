import PyProof.Rows.All
import Wide.All
import OpenK.AllK
import Wide.FinOn
import PyProof.EqAt
import PyProof.EqKinds
import PyProof.TupleCall
import HandS.ForMost
import HandS.ForExc
import HandS.Walk
import HandS.Deep
import HandS.TupAny
import HandS.IsInst
import HandS.Conv
import HandS.ListEq
import PyProof.TupleOfSeq
import HandS.Strs
import HandS.Remove
import HandS.SetFor
import KE.SortData
import HandS.ExcIs
import HandS.TryOnly
import PyProof.StrOps2
import KE.DataMinMax
import PyProof.NeKinds
import HandS.Zip
import PySem.Challenge.RW_ranksure_k18_dealt
set_option Elab.async false
set_option linter.all false
set_option maxRecDepth 100000
set_option maxHeartbeats 2000000
/-! The data layer: what a def does to plain data, as a total function; no heap in sight of the mathematics. -/
namespace L2.DL
open PySem PySem.Spec PyProof.Rows

/-! ### results -/
inductive Res (α : Type) where
  | ok (a : α) | err (c : Str) | bad
def Res.bind {α β : Type} : Res α → (α → Res β) → Res β
  | .ok a, f => f a
  | .err c, _ => .err c
  | .bad, _ => .bad
@[simp] theorem Res.bind_ok {α β : Type} (a : α) (f : α → Res β) : (Res.ok a).bind f = f a := rfl
@[simp] theorem Res.bind_err {α β : Type} (c : Str) (f : α → Res β) : (Res.err c : Res α).bind f = .err c := rfl
@[simp] theorem Res.bind_bad {α β : Type} (f : α → Res β) : (Res.bad : Res α).bind f = .bad := rfl
def Res.of {α : Type} : Option α → Res α
  | some a => .ok a
  | none => .bad
@[simp] theorem Res.of_some {α : Type} (a : α) : Res.of (some a) = .ok a := rfl
@[simp] theorem Res.of_none {α : Type} : (Res.of (none : Option α)) = .bad := rfl
abbrev Env := List (Option PyData)
abbrev Ex := Env → Res PyData
abbrev Te := Env → Res Bool
abbrev Ar := Env → Res (List PyData)

/-! ### data and the heap: as L2.Dp, but that a tuple's object is known to have no dict (its methods want it) -/
def PlT (K : PySem.W.Frag) (H : Hp) (a : Addr) (xs : List V) : Prop :=
  (∃ o : Obj, H a = some (.frz o (.tup xs)) ∧ o.dict = none) ∨
    ∃ (o : Obj) (its : Array Value) (n : Nat), K.lookup a = some o ∧ o.cls = .type "tuple" ∧ o.dict = none ∧ o.data = .seq its n ∧ its.size ≤ sizeLine ∧ Vals xs its.toList
theorem PlT.sqt {K : PySem.W.Frag} {H : Hp} {a : Addr} {xs : List V} (h : PlT K H a xs) : SqT K H a xs := by
  rcases h with ⟨o, h, _⟩ | ⟨o, its, n, h1, h2, _, h3⟩
  · exact .inl (.inr ⟨o, h⟩)
  · exact .inr ⟨o, its, n, h1, h2, h3⟩
theorem PlT.mono {K : PySem.W.Frag} {H H' : Hp} {a : Addr} {xs : List V} (s : Same H H') (h : PlT K H a xs) : PlT K H' a xs := by
  rcases h with ⟨o, h, d⟩ | h
  · exact .inl ⟨o, s _ _ h, d⟩
  · exact .inr h
/-- a key of a dict -/
def keyD : Key → PyData
  | .inl i => .int i
  | .inr x => .str x
/-- the class of a name of the text -/
def ClsAt (K : PySem.W.Frag) (c : Str) (C : Addr) : Prop := PySem.W.nsIn K mainGlobals c = some (some (.ref C))
theorem ClsAt.one {K : PySem.W.Frag} {c : Str} {C D : Addr} (h : ClsAt K c C) (h' : ClsAt K c D) : C = D := by
  unfold ClsAt at h h'
  rw [h] at h'
  cases h'
  rfl
/-- an instance as data: its class and its place ahead of its fields -/
def insTag (c : Str) (a : Addr) : PyData × PyData := (.none, .tuple [.str c, .int ((a : Nat) : Int)])
mutual
inductive Dp (K : PySem.W.Frag) (H : Hp) : V → PyData → Prop
  | non : Dp K H .non .none
  | bl (b : Bool) : Dp K H (.bl b) (.bool b)
  | int (i : Int) : Dp K H (.int i) (.int i)
  | str (x : Str) : Dp K H (.str x) (.str x)
  | lst {a : Addr} {xs : List V} {ds : List PyData} : SqL K H a xs → DpAll K H xs ds → Dp K H (.ref a) (.list ds)
  | tup {a : Addr} {xs : List V} {ds : List PyData} : PlT K H a xs → DpAll K H xs ds → Dp K H (.ref a) (.tuple ds)
  | dic {a : Addr} {kvs : List (Key × V)} {ds : List (PyData × PyData)} : Rd H a (.dK kvs) → DpK K H kvs ds → Dp K H (.ref a) (.dict ds)
  | ins {a dx C : Addr} {c : Str} {fs : List (Str × V)} {ds : List (PyData × PyData)} : H a = some (.ins C dx fs) → ClsAt K c C → DpF K H fs ds → Dp K H (.ref a) (.dict (insTag c a :: ds))
inductive DpAll (K : PySem.W.Frag) (H : Hp) : List V → List PyData → Prop
  | nil : DpAll K H [] []
  | cons {v : V} {vs : List V} {d : PyData} {ds : List PyData} : Dp K H v d → DpAll K H vs ds → DpAll K H (v :: vs) (d :: ds)
inductive DpK (K : PySem.W.Frag) (H : Hp) : List (Key × V) → List (PyData × PyData) → Prop
  | nil : DpK K H [] []
  | cons {k : Key} {v : V} {vs : List (Key × V)} {d : PyData} {ds : List (PyData × PyData)} : Dp K H v d → DpK K H vs ds → DpK K H ((k, v) :: vs) ((keyD k, d) :: ds)
inductive DpF (K : PySem.W.Frag) (H : Hp) : List (Str × V) → List (PyData × PyData) → Prop
  | nil : DpF K H [] []
  | cons {x : Str} {v : V} {vs : List (Str × V)} {d : PyData} {ds : List (PyData × PyData)} : Dp K H v d → DpF K H vs ds → DpF K H ((x, v) :: vs) ((.str x, d) :: ds)
end
mutual
theorem dpOld {K : PySem.W.Frag} {H : Hp} : ∀ {v : V} {d : PyData}, Dp K H v d → d.canLay0 = true → L2.Dp K H v d
  | _, _, .non, _ => .non
  | _, _, .bl b, _ => .bl b
  | _, _, .int i, _ => .int i
  | _, _, .str x, _ => .str x
  | _, _, .lst h a, c => .lst h (dpAllOld a (by simpa [PyData.canLay0] using c))
  | _, _, .tup h a, c => .tup h.sqt (dpAllOld a (by simpa [PyData.canLay0] using c))
  | _, _, .dic _ _, c => by simp [PyData.canLay0] at c
  | _, _, .ins _ _ _, c => by simp [PyData.canLay0] at c
theorem dpAllOld {K : PySem.W.Frag} {H : Hp} : ∀ {vs : List V} {ds : List PyData}, DpAll K H vs ds → PyData.canLayAll0 ds = true → L2.DpAll K H vs ds
  | _, _, .nil, _ => .nil
  | _, _, .cons h t, c => .cons (dpOld h (by simp only [PyData.canLayAll0, Bool.and_eq_true] at c; exact c.1)) (dpAllOld t (by simp only [PyData.canLayAll0, Bool.and_eq_true] at c; exact c.2))
end
theorem Same.rd {H H' : Hp} {a : Addr} {u : HO} (s : Same H H') (h : Rd H a u) : Rd H' a u := by
  rcases h with h | ⟨o, h⟩
  · exact .inl (s _ _ h)
  · exact .inr ⟨o, s _ _ h⟩
mutual
theorem dpMono {K : PySem.W.Frag} {H H' : Hp} (s : Same H H') : ∀ {v : V} {d : PyData}, Dp K H v d → Dp K H' v d
  | _, _, .non => .non
  | _, _, .bl b => .bl b
  | _, _, .int i => .int i
  | _, _, .str x => .str x
  | _, _, .lst h a => .lst (s.seq h) (dpAllMono s a)
  | _, _, .tup h a => .tup (h.mono s) (dpAllMono s a)
  | _, _, .dic h a => .dic (Same.rd s h) (dpKMono s a)
  | _, _, .ins h c a => .ins (s _ _ h) c (dpFMono s a)
theorem dpAllMono {K : PySem.W.Frag} {H H' : Hp} (s : Same H H') : ∀ {vs : List V} {ds : List PyData}, DpAll K H vs ds → DpAll K H' vs ds
  | _, _, .nil => .nil
  | _, _, .cons h t => .cons (dpMono s h) (dpAllMono s t)
theorem dpKMono {K : PySem.W.Frag} {H H' : Hp} (s : Same H H') : ∀ {vs : List (Key × V)} {ds : List (PyData × PyData)}, DpK K H vs ds → DpK K H' vs ds
  | _, _, .nil => .nil
  | _, _, .cons h t => .cons (dpMono s h) (dpKMono s t)
theorem dpFMono {K : PySem.W.Frag} {H H' : Hp} (s : Same H H') : ∀ {vs : List (Str × V)} {ds : List (PyData × PyData)}, DpF K H vs ds → DpF K H' vs ds
  | _, _, .nil => .nil
  | _, _, .cons h t => .cons (dpMono s h) (dpFMono s t)
end
theorem lay_of_shaped {d : PyData} (h : SeqAt.shaped d = true) : d.canLay0 = true := by
  unfold SeqAt.shaped at h
  simp only [Bool.and_eq_true] at h
  exact h.1
theorem layAll_of_shaped {ds : List PyData} (h : SeqAt.shaped (.list ds) = true) : PyData.canLayAll0 ds = true := by
  simpa [PyData.canLay0] using lay_of_shaped h
theorem sameUpd {H : Hp} {p : Addr} {o : HO} (h : H p = none) : Same H (upd H p o) := fun b x e => by
  rw [upd_ne (ne_of_none e h)]
  exact e
theorem DpAll.len {K : PySem.W.Frag} {H : Hp} : ∀ {vs : List V} {ds : List PyData}, DpAll K H vs ds → vs.length = ds.length
  | _, _, .nil => rfl
  | _, _, .cons _ t => congrArg (· + 1) (DpAll.len t)
theorem DpAll.get {K : PySem.W.Frag} {H : Hp} : ∀ {vs : List V} {ds : List PyData} {i : Nat} {d : PyData}, DpAll K H vs ds → ds[i]? = some d → ∃ v, vs[i]? = some v ∧ Dp K H v d
  | _, _, _, _, .nil, e => by simp at e
  | _, _, 0, _, .cons h _, e => by
    simp at e
    subst e
    exact ⟨_, rfl, h⟩
  | _, _, i + 1, d, .cons _ t, e => by
    obtain ⟨v, h1, h2⟩ := DpAll.get (i := i) (d := d) t (by simpa using e)
    exact ⟨v, by simpa using h1, h2⟩
theorem DpAll.getV {K : PySem.W.Frag} {H : Hp} : ∀ {vs : List V} {ds : List PyData} {i : Nat} {v : V}, DpAll K H vs ds → vs[i]? = some v → ∃ d, ds[i]? = some d ∧ Dp K H v d
  | _, _, _, _, .nil, e => by simp at e
  | _, _, 0, _, .cons h _, e => by
    simp at e
    subst e
    exact ⟨_, rfl, h⟩
  | _, _, i + 1, v, .cons _ t, e => by
    obtain ⟨d, h1, h2⟩ := DpAll.getV (i := i) (v := v) t (by simpa using e)
    exact ⟨d, by simpa using h1, h2⟩
theorem DpAll.app {K : PySem.W.Frag} {H : Hp} : ∀ {vs ws : List V} {ds es : List PyData}, DpAll K H vs ds → DpAll K H ws es → DpAll K H (vs ++ ws) (ds ++ es)
  | _, _, _, _, .nil, q => q
  | _, _, _, _, .cons h t, q => .cons h (DpAll.app t q)
theorem DpAll.take {K : PySem.W.Frag} {H : Hp} : ∀ {vs : List V} {ds : List PyData} (n : Nat), DpAll K H vs ds → DpAll K H (vs.take n) (ds.take n)
  | _, _, 0, _ => by simpa using DpAll.nil
  | _, _, _ + 1, .nil => by simpa using DpAll.nil
  | _, _, n + 1, .cons h t => by simpa using DpAll.cons h (DpAll.take n t)
theorem DpAll.drop {K : PySem.W.Frag} {H : Hp} : ∀ {vs : List V} {ds : List PyData} (n : Nat), DpAll K H vs ds → DpAll K H (vs.drop n) (ds.drop n)
  | _, _, 0, h => by simpa using h
  | _, _, _ + 1, .nil => by simpa using DpAll.nil
  | _, _, n + 1, .cons h t => by simpa using DpAll.drop n t
theorem DpAll.set {K : PySem.W.Frag} {H : Hp} {v : V} {d : PyData} (q : Dp K H v d) : ∀ {vs : List V} {ds : List PyData} (n : Nat), DpAll K H vs ds → DpAll K H (vs.set n v) (ds.set n d)
  | _, _, _, .nil => by simpa using DpAll.nil
  | _, _, 0, .cons h t => by simpa using DpAll.cons q t
  | _, _, n + 1, .cons h t => by simpa using DpAll.cons h (DpAll.set q n t)
theorem DpAll.erase {K : PySem.W.Frag} {H : Hp} : ∀ {vs : List V} {ds : List PyData} (n : Nat), DpAll K H vs ds → DpAll K H (vs.eraseIdx n) (ds.eraseIdx n)
  | _, _, _, .nil => by simpa using DpAll.nil
  | _, _, 0, .cons h t => by simpa using t
  | _, _, n + 1, .cons h t => by simpa using DpAll.cons h (DpAll.erase n t)

/-- the slots hold the data -/
structure DpS (K : PySem.W.Frag) (H : Hp) (σ : St) (ρ : Env) : Prop where
  len : ρ.length = σ.length
  get : ∀ (i : Nat) (d : PyData), ρ[i]? = some (some d) → ∃ v, σ[i]? = some (some v) ∧ Dp K H v d
theorem DpS.mono {K : PySem.W.Frag} {H H' : Hp} {σ : St} {ρ : Env} (h : DpS K H σ ρ) (s : Same H H') : DpS K H' σ ρ := ⟨h.len, fun i d e => by
  obtain ⟨v, h1, h2⟩ := h.get i d e
  exact ⟨v, h1, dpMono s h2⟩⟩
theorem DpS.set {K : PySem.W.Frag} {H : Hp} {σ : St} {ρ : Env} {i : Nat} {v : V} {d : PyData} (h : DpS K H σ ρ) (q : Dp K H v d) : DpS K H (σ.set i (some v)) (ρ.set i (some d)) := by
  refine ⟨by rw [List.length_set, List.length_set, h.len], fun j e hj => ?_⟩
  by_cases hij : i = j
  · subst hij
    by_cases hl : i < ρ.length
    · rw [List.getElem?_set_self hl] at hj
      cases hj
      exact ⟨v, List.getElem?_set_self (by rw [← h.len]; exact hl), q⟩
    · rw [List.getElem?_eq_none (by rw [List.length_set]; omega)] at hj
      cases hj
  · rw [List.getElem?_set_ne hij] at hj
    rw [List.getElem?_set_ne hij]
    exact h.get j e hj

/-! ### what is asked behind an expression -/
/-- an exception of the text's own classes has no dict yet -/
abbrev D0 := {d : Option Addr // d = none}
def Post (K : PySem.W.Frag) (mg : Str → Option Value) (W : WX) (σ : St) (H : Hp) (Q : VK) : Res PyData → Prop
  | .ok d => ∀ v H', Same H H' → Dp K H' v d → Q v H'
  | .err c => ∃ C, mg c = some (.ref C) ∧ ∀ (d : D0) H', Same H H' → W (.ref C) d σ H'
  | .bad => False
def PostB (K : PySem.W.Frag) (mg : Str → Option Value) (W : WX) (σ : St) (H : Hp) (Q : Bool → Hp → Prop) : Res Bool → Prop
  | .ok b => ∀ H', Same H H' → Q b H'
  | .err c => ∃ C, mg c = some (.ref C) ∧ ∀ (d : D0) H', Same H H' → W (.ref C) d σ H'
  | .bad => False
def PostA (K : PySem.W.Frag) (mg : Str → Option Value) (W : WX) (σ : St) (n : Nat) (H : Hp) (Q : List V → Hp → Prop) : Res (List PyData) → Prop
  | .ok ds => ∀ vs H', vs.length = n → Same H H' → DpAll K H' vs ds → Q vs H'
  | .err c => ∃ C, mg c = some (.ref C) ∧ ∀ (d : D0) H', Same H H' → W (.ref C) d σ H'
  | .bad => False
section
variable {K : PySem.W.Frag} {mg : Str → Option Value} {W : WX} {σ : St} {H H' : Hp}
theorem Post.mono {Q : VK} {r : Res PyData} (h : Post K mg W σ H Q r) (s : Same H H') : Post K mg W σ H' Q r := by
  cases r with
  | ok d => exact fun v H2 s2 q => h v H2 (s.trans s2) q
  | err c =>
    obtain ⟨C, h1, h2⟩ := h
    exact ⟨C, h1, fun d H2 s2 => h2 d H2 (s.trans s2)⟩
  | bad => exact h
theorem Post.imp {Q Q' : VK} {r : Res PyData} (h : Post K mg W σ H Q r) (k : ∀ v H', Same H H' → Q v H' → Q' v H') : Post K mg W σ H Q' r := by
  cases r with
  | ok d => exact fun v H2 s2 q => k v H2 s2 (h v H2 s2 q)
  | err c => exact h
  | bad => exact h
theorem PostB.mono {Q : Bool → Hp → Prop} {r : Res Bool} (h : PostB K mg W σ H Q r) (s : Same H H') : PostB K mg W σ H' Q r := by
  cases r with
  | ok d => exact fun H2 s2 => h H2 (s.trans s2)
  | err c =>
    obtain ⟨C, h1, h2⟩ := h
    exact ⟨C, h1, fun d H2 s2 => h2 d H2 (s.trans s2)⟩
  | bad => exact h
theorem PostA.mono {n : Nat} {Q : List V → Hp → Prop} {r : Res (List PyData)} (h : PostA K mg W σ n H Q r) (s : Same H H') : PostA K mg W σ n H' Q r := by
  cases r with
  | ok d => exact fun v H2 hl s2 q => h v H2 hl (s.trans s2) q
  | err c =>
    obtain ⟨C, h1, h2⟩ := h
    exact ⟨C, h1, fun d H2 s2 => h2 d H2 (s.trans s2)⟩
  | bad => exact h
theorem PostA.imp {n : Nat} {Q Q' : List V → Hp → Prop} {r : Res (List PyData)} (h : PostA K mg W σ n H Q r) (k : ∀ vs H', Same H H' → Q vs H' → Q' vs H') : PostA K mg W σ n H Q' r := by
  cases r with
  | ok d => exact fun v H2 hl s2 q => k v H2 s2 (h v H2 hl s2 q)
  | err c => exact h
  | bad => exact h
theorem PostB.imp {Q Q' : Bool → Hp → Prop} {r : Res Bool} (h : PostB K mg W σ H Q r) (k : ∀ b H', Same H H' → Q b H' → Q' b H') : PostB K mg W σ H Q' r := by
  cases r with
  | ok d => exact fun H2 s2 => k _ H2 s2 (h H2 s2)
  | err c => exact h
  | bad => exact h
/-- first r, then k -/
theorem Post.bind {Q : VK} {r : Res PyData} {k : PyData → Res PyData} (h : Post K mg W σ H Q (r.bind k)) :
    Post K mg W σ H (fun v H' => ∃ d, r = .ok d ∧ Same H H' ∧ Dp K H' v d ∧ Post K mg W σ H' Q (k d)) r := by
  cases r with
  | ok d => exact fun v H2 s2 q => ⟨d, rfl, s2, q, Post.mono (r := k d) h s2⟩
  | err c => exact h
  | bad => exact h
theorem Post.bindB {Q : Bool → Hp → Prop} {r : Res PyData} {k : PyData → Res Bool} (h : PostB K mg W σ H Q (r.bind k)) :
    Post K mg W σ H (fun v H' => ∃ d, r = .ok d ∧ Same H H' ∧ Dp K H' v d ∧ PostB K mg W σ H' Q (k d)) r := by
  cases r with
  | ok d => exact fun v H2 s2 q => ⟨d, rfl, s2, q, PostB.mono (r := k d) h s2⟩
  | err c => exact h
  | bad => exact h
theorem Post.bindA {n : Nat} {Q : List V → Hp → Prop} {r : Res PyData} {k : PyData → Res (List PyData)} (h : PostA K mg W σ n H Q (r.bind k)) :
    Post K mg W σ H (fun v H' => ∃ d, r = .ok d ∧ Same H H' ∧ Dp K H' v d ∧ PostA K mg W σ n H' Q (k d)) r := by
  cases r with
  | ok d => exact fun v H2 s2 q => ⟨d, rfl, s2, q, PostA.mono (r := k d) h s2⟩
  | err c => exact h
  | bad => exact h
theorem PostB.bind {Q : VK} {r : Res Bool} {k : Bool → Res PyData} (h : Post K mg W σ H Q (r.bind k)) :
    PostB K mg W σ H (fun b H' => r = .ok b ∧ Same H H' ∧ Post K mg W σ H' Q (k b)) r := by
  cases r with
  | ok d => exact fun H2 s2 => ⟨rfl, s2, Post.mono (r := k d) h s2⟩
  | err c => exact h
  | bad => exact h
theorem PostB.bindB {Q : Bool → Hp → Prop} {r : Res Bool} {k : Bool → Res Bool} (h : PostB K mg W σ H Q (r.bind k)) :
    PostB K mg W σ H (fun b H' => r = .ok b ∧ Same H H' ∧ PostB K mg W σ H' Q (k b)) r := by
  cases r with
  | ok d => exact fun H2 s2 => ⟨rfl, s2, PostB.mono (r := k d) h s2⟩
  | err c => exact h
  | bad => exact h
theorem PostA.bind {n : Nat} {Q : VK} {r : Res (List PyData)} {k : List PyData → Res PyData} (h : Post K mg W σ H Q (r.bind k)) :
    PostA K mg W σ n H (fun vs H' => ∃ ds, r = .ok ds ∧ vs.length = n ∧ Same H H' ∧ DpAll K H' vs ds ∧ Post K mg W σ H' Q (k ds)) r := by
  cases r with
  | ok d => exact fun v H2 hl s2 q => ⟨d, rfl, hl, s2, q, Post.mono (r := k d) h s2⟩
  | err c => exact h
  | bad => exact h
theorem PostA.bindA {n m : Nat} {Q : List V → Hp → Prop} {r : Res (List PyData)} {k : List PyData → Res (List PyData)} (h : PostA K mg W σ m H Q (r.bind k)) :
    PostA K mg W σ n H (fun vs H' => ∃ ds, r = .ok ds ∧ vs.length = n ∧ Same H H' ∧ DpAll K H' vs ds ∧ PostA K mg W σ m H' Q (k ds)) r := by
  cases r with
  | ok d => exact fun v H2 hl s2 q => ⟨d, rfl, hl, s2, q, PostA.mono (r := k d) h s2⟩
  | err c => exact h
  | bad => exact h
end

/-! ### the judgements over data -/
def tD (K : PySem.W.Frag) (mg : Str → Option Value) (W : WX) (f : Ex) : TE := fun σ H Q => ∃ ρ, DpS K H σ ρ ∧ Post K mg W σ H Q (f ρ)
def tDT (K : PySem.W.Frag) (mg : Str → Option Value) (W : WX) (f : Te) : TT := fun σ H Q => ∃ ρ, DpS K H σ ρ ∧ PostB K mg W σ H Q (f ρ)
def tDA (K : PySem.W.Frag) (mg : Str → Option Value) (W : WX) (n : Nat) (f : Ar) : TA := fun σ H Q => ∃ ρ, DpS K H σ ρ ∧ PostA K mg W σ n H Q (f ρ)
abbrev DE (X : Cx) (W : WX) (e : Expr) (f : Ex) : Prop := PE X e (tD X.K X.mg W f)
abbrev DT (X : Cx) (W : WX) (e : Expr) (f : Te) : Prop := PT X e (tDT X.K X.mg W f)
abbrev DW (X : Cx) (W : WX) (e : Expr) (f : Te) : Prop := PW X e (tDT X.K X.mg W f)
abbrev DA (X : Cx) (W : WX) (es : List Expr) (f : Ar) : Prop := PA X es (tDA X.K X.mg W es.length f)
theorem peImp {X : Cx} {e : Expr} {t t' : TE} (h : PE X e t) (k : ∀ σ H Q, t' σ H Q → t σ H Q) : PE X e t' := ⟨fun pins s σ H Q I q => h.run pins s σ H Q I (k σ H Q q)⟩
theorem ptImp {X : Cx} {e : Expr} {t t' : TT} (h : PT X e t) (k : ∀ σ H Q, t' σ H Q → t σ H Q) : PT X e t' := ⟨fun pins s σ H Q I q => h.run pins s σ H Q I (k σ H Q q)⟩
theorem pwImp {X : Cx} {e : Expr} {t t' : TT} (h : PW X e t) (k : ∀ σ H Q, t' σ H Q → t σ H Q) : PW X e t' := ⟨fun w pins s σ H Q I q => h.run w pins s σ H Q I (k σ H Q q)⟩
theorem paImp {X : Cx} {es : List Expr} {t t' : TA} (h : PA X es t) (k : ∀ σ H Q, t' σ H Q → t σ H Q) : PA X es t' := ⟨fun pos pins s σ H Q I q => h.run pos pins s σ H Q I (k σ H Q q)⟩
theorem psImp {X : Cx} {st : Stmt} {t t' : TS} (h : PS X st t) (k : ∀ D σ H, t' D σ H → t D σ H) : PS X st t' := ⟨fun pins s σ H D I q => h.run pins s σ H D I (k D σ H q)⟩
theorem pssImp {X : Cx} {st : List Stmt} {t t' : TS} (h : PSs X st t) (k : ∀ D σ H, t' D σ H → t D σ H) : PSs X st t' := ⟨fun pins s σ H D I q => h.run pins s σ H D I (k D σ H q)⟩

/-! ### names, constants -/
def eVar (i : Nat) : Ex := fun ρ => Res.of (ρ[i]?.join)
def eC (d : PyData) : Ex := fun _ => .ok d
section
variable {X : Cx} {W : WX}
theorem dv (i : Nat) {x : Str} {pos : Pos} (hN : X.N[i]? = some x := by rfl) (hv : Vis X.env.scope x := by first | exact Or.inl rfl | exact Or.inr (Or.inl rfl) | exact Or.inr (Or.inr rfl)) (hd : (x == ("__debug__" : Str)) = false := by decide)
    (hcd : (x == ("__classdict__" : Str)) = false := by decide) : DE X W (.Name x pos) (eVar i) := by
  refine peImp (pe_var hN hv hd hcd) fun σ H Q h => ?_
  obtain ⟨ρ, hρ, h⟩ := h
  unfold eVar at h
  cases e : ρ[i]? with
  | none =>
    rw [e] at h
    exact h.elim
  | some o =>
    cases o with
    | none =>
      rw [e] at h
      exact h.elim
    | some d =>
      rw [e] at h
      obtain ⟨v, h1, h2⟩ := hρ.get i d e
      exact ⟨v, h1, h v H (Same.refl H) h2⟩
theorem deC {e : Expr} {v : V} {d : PyData} (h : PE X e (tC v)) (r : ∀ H, Dp X.K H v d) : DE X W e (eC d) := peImp h fun σ H Q ⟨ρ, _, q⟩ => q v H (Same.refl H) (r H)
theorem d_int {i j pos} : DE X W (.Constant (.int i) j pos) (eC (.int i)) := deC pe_int fun _ => .int _
theorem d_bl {b j pos} : DE X W (.Constant (.bool b) j pos) (eC (.bool b)) := deC pe_bl fun _ => .bl _
theorem d_non {j pos} : DE X W (.Constant .none j pos) (eC .none) := deC pe_non fun _ => .non
theorem d_str {x j pos} : DE X W (.Constant (.str x) j pos) (eC (.str x)) := deC pe_str fun _ => .str _
/-- a module's constant, an int -/
theorem d_glob {x : Str} {i : Int} {t : Tok} {pos : Pos} (hm : X.mg x = some (.int i t)) (hg : Gl X x := by rfl) (hd : (x == ("__debug__" : Str)) = false := by decide) : DE X W (.Name x pos) (eC (.int i)) := deC (v := .int i) (pe_glob hg hm ⟨_, rfl⟩ hd) fun _ => .int _
end

/-! ### operators -/
def eOp (op : PyData → PyData → Option PyData) (f g : Ex) : Ex := fun ρ => (f ρ).bind fun x => (g ρ).bind fun y => Res.of (op x y)
/-- the rule r serves the operation op -/
def Op2 (K : PySem.W.Frag) (r : R2) (op : PyData → PyData → Option PyData) : Prop := ∀ (x y : V) (dx dy d : PyData) (H : Hp) (Q : VK), Dp K H x dx → Dp K H y dy → op dx dy = some d → (∀ v H', Same H H' → Dp K H' v d → Q v H') → r x y H Q
section
variable {X : Cx} {W : WX} {a b c : Expr} {fa fb fc : Ex} {pos : Pos} {op : PyData → PyData → Option PyData} {r : R2}
theorem tOp_of (hr : Op2 X.K r op) {σ : St} {H : Hp} {Q : VK} (h : tD X.K X.mg W (eOp op fa fb) σ H Q) : tOp r (tD X.K X.mg W fa) (tD X.K X.mg W fb) σ H Q := by
  obtain ⟨ρ, hρ, h⟩ := h
  refine ⟨ρ, hρ, (Post.bind h).imp fun v H1 _ ⟨dx, _, s1, rx, h1⟩ => ⟨ρ, hρ.mono s1, (Post.bind h1).imp fun u H2 _ ⟨dy, _, s2, ry, h2⟩ => ?_⟩⟩
  cases e : op dx dy with
  | none =>
    rw [e] at h2
    exact h2.elim
  | some d =>
    rw [e] at h2
    exact hr v u dx dy d H2 Q (dpMono s2 rx) ry e h2
theorem d_op {o : Operator} (ho : OpR X (binaryOp o) r) (hr : Op2 X.K r op) (ha : DE X W a fa) (hb : DE X W b fb) : DE X W (.BinOp a o b pos) (eOp op fa fb) := peImp (pe_op ho ha hb) fun _ _ _ h => tOp_of hr h
theorem d_cmp {o : CmpOp} (ho : OpR X (compareOp o) r) (hr : Op2 X.K r op) (ha : DE X W a fa) (hb : DE X W b fb) (hm : behindInMarks o b = false) : DE X W (.Compare a [o] [b] pos) (eOp op fa fb) := peImp (pe_cmpR ho ha hb hm) fun _ _ _ h => tOp_of hr h
end

end L2.DL
set_option maxHeartbeats 2000000
namespace L2.DL
open PySem PySem.Spec PyProof.Rows

/-! ### tests -/
def asB : PyData → Res Bool
  | .bool b => .ok b
  | _ => .bad
@[simp] theorem asB_bool (b : Bool) : asB (.bool b) = .ok b := rfl
def eB (f : Ex) : Te := fun ρ => (f ρ).bind asB
def bE (f : Te) : Ex := fun ρ => (f ρ).bind fun b => .ok (.bool b)
def teAnd (f g : Te) : Te := fun ρ => (f ρ).bind fun c => if c = true then g ρ else .ok false
def teOr (f g : Te) : Te := fun ρ => (f ρ).bind fun c => if c = true then .ok true else g ρ
def teNot (f : Te) : Te := fun ρ => (f ρ).bind fun c => .ok (!c)
def eIf (c : Te) (a b : Ex) : Ex := fun ρ => (c ρ).bind fun k => if k = true then a ρ else b ρ
def eChain (op op' : PyData → PyData → Option PyData) (fa fb fc : Ex) : Te := fun ρ => (fa ρ).bind fun x => (fb ρ).bind fun y => (Res.of (op x y)).bind fun k => (asB k).bind fun k => if k = true then (fc ρ).bind fun z => (Res.of (op' y z)).bind asB else .ok false
section
variable {X : Cx} {W : WX} {a b c e : Expr} {fa fb fc f : Ex} {ta tb tc : Te} {pos : Pos} {op op' : PyData → PyData → Option PyData} {r r' : R2} {rest : List Expr}
theorem dp_bool {K : PySem.W.Frag} {H : Hp} {v : V} {k : Bool} (h : Dp K H v (.bool k)) : v = .bl k := by cases h; rfl
theorem tB_of {t : TE} {σ : St} {H : Hp} {Q : Bool → Hp → Prop} (k : ∀ σ H Q, tD X.K X.mg W f σ H Q → t σ H Q) (h : tDT X.K X.mg W (eB f) σ H Q) : t σ H fun x H1 => ∃ c, x = .bl c ∧ Q c H1 := by
  obtain ⟨ρ, hρ, h⟩ := h
  refine k σ H _ ⟨ρ, hρ, (Post.bindB h).imp fun v H1 _ ⟨d, _, s1, rx, h1⟩ => ?_⟩
  cases d with
  | bool b =>
    rw [dp_bool rx]
    exact ⟨b, rfl, h1 H1 (Same.refl _)⟩
  | _ => exact h1.elim
theorem dt_val (h : DE X W e f) (he : ∀ whole, isTrue e X.env whole = (do let v ← whole; standAt e.pos; holding [v] (truthy v)) := by intro _; rfl) : DT X W e (eB f) :=
  ptImp (pt_val h he) fun _ _ _ h => tB_of (fun _ _ _ q => q) h
theorem dt_cmp {o : CmpOp} (ho : OpR X (compareOp o) r) (hr : Op2 X.K r op) (ha : DE X W a fa) (hb : DE X W b fb) (hm : behindInMarks o b = false) : DT X W (.Compare a [o] [b] pos) (eB (eOp op fa fb)) :=
  ptImp (pt_cmpR ho ha hb hm) fun _ _ _ h => tB_of (fun _ _ _ q => tOp_of hr q) h
theorem dt_chain {o o' : CmpOp} (ho : OpR X (compareOp o) r) (hr : Op2 X.K r op) (ho' : OpR X (compareOp o') r') (hr' : Op2 X.K r' op') (ha : DE X W a fa) (hb : DE X W b fb) (hc : DE X W c fc)
    (hm : lastMarks [o, o'] [b, c] = false := by with_unfolding_all rfl) : DT X W (.Compare a [o, o'] [b, c] pos) (eChain op op' fa fb fc) := by
  refine ptImp (pt_chain ho ho' ha hb hc hm) fun σ H Q h => ?_
  obtain ⟨ρ, hρ, h⟩ := h
  refine ⟨ρ, hρ, (Post.bindB h).imp fun v H1 _ ⟨dx, _, s1, rx, h1⟩ => ⟨ρ, hρ.mono s1, (Post.bindB h1).imp fun u H2 _ ⟨dy, _, s2, ry, h2⟩ => ?_⟩⟩
  cases e1 : op dx dy with
  | none => rw [e1] at h2; exact h2.elim
  | some d =>
    rw [e1] at h2
    refine hr v u dx dy d H2 _ (dpMono s2 rx) ry e1 fun z H3 s3 rz => ?_
    cases d with
    | bool k =>
      rw [dp_bool rz]
      refine ⟨k, rfl, ?_⟩
      cases k with
      | true =>
        refine iteT ⟨ρ, ((hρ.mono s1).mono s2).mono s3, ?_⟩
        have h3 : PostB X.K X.mg W σ H3 Q ((fc ρ).bind fun z => (Res.of (op' dy z)).bind asB) := PostB.mono h2 s3
        refine (Post.bindB h3).imp fun w H4 _ ⟨dz, _, s4, rw', h4⟩ => ?_
        cases e2 : op' dy dz with
        | none => rw [e2] at h4; exact h4.elim
        | some d2 =>
          rw [e2] at h4
          refine hr' u w dy dz d2 H4 _ (dpMono (s3.trans s4) ry) rw' e2 fun z5 H5 s5 rz5 => ?_
          cases d2 with
          | bool k2 =>
            rw [dp_bool rz5]
            exact ⟨k2, rfl, h4 H5 s5⟩
          | _ => exact h4.elim
      | false => exact iteF ⟨false, rfl, h2 H3 s3⟩
    | _ => exact h2.elim
theorem dw_and1 (ha : DT X W a ta) : DW X W (.BoolOp .And [a] pos) ta := pw_and1 ha
theorem dw_or1 (ha : DT X W a ta) : DW X W (.BoolOp .Or [a] pos) ta := pw_or1 ha
theorem dw_and (ha : DT X W a ta) (hb : DW X W (.BoolOp .And (b :: rest) pos) tb) : DW X W (.BoolOp .And (a :: b :: rest) pos) (teAnd ta tb) := by
  refine pwImp (pw_and ha hb) fun σ H Q h => ?_
  obtain ⟨ρ, hρ, h⟩ := h
  refine ⟨ρ, hρ, ?_⟩
  have h1 := PostB.bindB h
  cases e : ta ρ with
  | ok b =>
    rw [e] at h1
    intro H1 s1
    have h2 := (h1 H1 s1).2.2
    cases b with
    | true => exact iteT ⟨ρ, hρ.mono s1, h2⟩
    | false => exact iteF (h2 H1 (Same.refl _))
  | err c => rw [e] at h1; exact h1
  | bad => rw [e] at h1; exact h1
theorem dw_or (ha : DT X W a ta) (hb : DW X W (.BoolOp .Or (b :: rest) pos) tb) : DW X W (.BoolOp .Or (a :: b :: rest) pos) (teOr ta tb) := by
  refine pwImp (pw_or ha hb) fun σ H Q h => ?_
  obtain ⟨ρ, hρ, h⟩ := h
  refine ⟨ρ, hρ, ?_⟩
  have h1 := PostB.bindB h
  cases e : ta ρ with
  | ok b =>
    rw [e] at h1
    intro H1 s1
    have h2 := (h1 H1 s1).2.2
    cases b with
    | true => exact iteT (h2 H1 (Same.refl _))
    | false => exact iteF ⟨ρ, hρ.mono s1, h2⟩
  | err c => rw [e] at h1; exact h1
  | bad => rw [e] at h1; exact h1
theorem dwt (h : DW X W e ta) : DT X W e ta := PW.pt h
theorem dt_not (ha : DT X W a ta) : DT X W (.UnaryOp .Not a pos) (teNot ta) := by
  refine ptImp (pt_not ha) fun σ H Q h => ?_
  obtain ⟨ρ, hρ, h⟩ := h
  refine ⟨ρ, hρ, ?_⟩
  have h1 := PostB.bindB h
  cases e : ta ρ with
  | ok b =>
    rw [e] at h1
    intro H1 s1
    exact (h1 H1 s1).2.2 H1 (Same.refl _)
  | err c => rw [e] at h1; exact h1
  | bad => rw [e] at h1; exact h1
/-- values of and, or, not: truth values -/
def eAnd (f g : Ex) : Ex := fun ρ => (f ρ).bind fun x => (asB x).bind fun c => if c = true then g ρ else .ok (.bool false)
def eOr (f g : Ex) : Ex := fun ρ => (f ρ).bind fun x => (asB x).bind fun c => if c = true then .ok (.bool true) else g ρ
def eNot (f : Ex) : Ex := fun ρ => (f ρ).bind fun x => (asB x).bind fun c => .ok (.bool (!c))
theorem d_one {o} (h : DE X W a fa) : DE X W (.BoolOp o [a] pos) fa := pe_one h
theorem d_and (ha : DE X W a fa) (hb : DE X W (.BoolOp .And (b :: rest) pos) fb) : DE X W (.BoolOp .And (a :: b :: rest) pos) (eAnd fa fb) := by
  refine peImp (pe_and ha hb) fun σ H Q h => ?_
  obtain ⟨ρ, hρ, h⟩ := h
  refine ⟨ρ, hρ, (Post.bind h).imp fun v H1 _ ⟨d, _, s1, rx, h1⟩ => ?_⟩
  cases d with
  | bool k =>
    rw [dp_bool rx]
    refine ⟨k, rfl, ?_⟩
    cases k with
    | true => exact iteT ⟨ρ, hρ.mono s1, h1⟩
    | false => exact iteF (h1 _ H1 (Same.refl _) (.bl _))
  | _ => exact h1.elim
theorem d_or (ha : DE X W a fa) (hb : DE X W (.BoolOp .Or (b :: rest) pos) fb) : DE X W (.BoolOp .Or (a :: b :: rest) pos) (eOr fa fb) := by
  refine peImp (pe_or ha hb) fun σ H Q h => ?_
  obtain ⟨ρ, hρ, h⟩ := h
  refine ⟨ρ, hρ, (Post.bind h).imp fun v H1 _ ⟨d, _, s1, rx, h1⟩ => ?_⟩
  cases d with
  | bool k =>
    rw [dp_bool rx]
    refine ⟨k, rfl, ?_⟩
    cases k with
    | true => exact iteT (h1 _ H1 (Same.refl _) (.bl _))
    | false => exact iteF ⟨ρ, hρ.mono s1, h1⟩
  | _ => exact h1.elim
theorem d_not (ha : DE X W a fa) : DE X W (.UnaryOp .Not a pos) (eNot fa) := by
  refine peImp (pe_not ha) fun σ H Q h => ?_
  obtain ⟨ρ, hρ, h⟩ := h
  refine ⟨ρ, hρ, (Post.bind h).imp fun v H1 _ ⟨d, _, s1, rx, h1⟩ => ?_⟩
  cases d with
  | bool k =>
    rw [dp_bool rx]
    exact ⟨k, rfl, h1 _ H1 (Same.refl _) (.bl _)⟩
  | _ => exact h1.elim
theorem d_if (hc : DT X W c tc) (ha : DE X W a fa) (hb : DE X W b fb) : DE X W (.IfExp c a b pos) (eIf tc fa fb) := by
  refine peImp (pe_ifExp hc ha hb) fun σ H Q h => ?_
  obtain ⟨ρ, hρ, h⟩ := h
  refine ⟨ρ, hρ, ?_⟩
  have h1 := PostB.bind h
  cases e : tc ρ with
  | ok b =>
    rw [e] at h1
    intro H1 s1
    have h2 := (h1 H1 s1).2.2
    cases b with
    | true => exact iteT ⟨ρ, hρ.mono s1, h2⟩
    | false => exact iteF ⟨ρ, hρ.mono s1, h2⟩
  | err c => rw [e] at h1; exact h1
  | bad => rw [e] at h1; exact h1
theorem d_chain {o o' : CmpOp} (ho : OpR X (compareOp o) r) (hr : Op2 X.K r op) (ho' : OpR X (compareOp o') r') (hr' : Op2 X.K r' op') (ha : DE X W a fa) (hb : DE X W b fb) (hc : DE X W c fc)
    (hm : lastMarks [o, o'] [b, c] = false := by with_unfolding_all rfl) : DE X W (.Compare a [o, o'] [b, c] pos) (bE (eChain op op' fa fb fc)) := by
  refine peImp (pe_chain ho ho' ha hb hc hm) fun σ H Q h => ?_
  obtain ⟨ρ, hρ, h⟩ := h
  have h0 := PostB.bind h
  have h : PostB X.K X.mg W σ H (fun b H' => Q (.bl b) H') (eChain op op' fa fb fc ρ) := by
    cases e : eChain op op' fa fb fc ρ with
    | ok b => rw [e] at h0; exact fun H1 s1 => (h0 H1 s1).2.2 _ H1 (Same.refl _) (.bl _)
    | err c => rw [e] at h0; exact h0
    | bad => rw [e] at h0; exact h0
  refine ⟨ρ, hρ, (Post.bindB h).imp fun v H1 _ ⟨dx, _, s1, rx, h1⟩ => ⟨ρ, hρ.mono s1, (Post.bindB h1).imp fun u H2 _ ⟨dy, _, s2, ry, h2⟩ => ?_⟩⟩
  cases e1 : op dx dy with
  | none => rw [e1] at h2; exact h2.elim
  | some d =>
    rw [e1] at h2
    refine hr v u dx dy d H2 _ (dpMono s2 rx) ry e1 fun z H3 s3 rz => ?_
    cases d with
    | bool k =>
      rw [dp_bool rz]
      refine ⟨k, rfl, ?_⟩
      cases k with
      | true =>
        refine iteT ⟨ρ, ((hρ.mono s1).mono s2).mono s3, ?_⟩
        have h3 : PostB X.K X.mg W σ H3 (fun b H' => Q (.bl b) H') ((fc ρ).bind fun z => (Res.of (op' dy z)).bind asB) := PostB.mono h2 s3
        refine (Post.bindB h3).imp fun w H4 _ ⟨dz, _, s4, rw', h4⟩ => ?_
        cases e2 : op' dy dz with
        | none => rw [e2] at h4; exact h4.elim
        | some d2 =>
          rw [e2] at h4
          refine hr' u w dy dz d2 H4 _ (dpMono (s3.trans s4) ry) rw' e2 fun z5 H5 s5 rz5 => ?_
          cases d2 with
          | bool k2 =>
            rw [dp_bool rz5]
            exact h4 H5 s5
          | _ => exact h4.elim
      | false => exact iteF (h2 H3 s3)
    | _ => exact h2.elim
end

/-! ### operators on data -/
def oI (g : Int → Int → PyData) : PyData → PyData → Option PyData
  | .int i, .int j => some (g i j)
  | _, _ => none
def oAdd : PyData → PyData → Option PyData := oI fun i j => .int (i + j)
def oSub : PyData → PyData → Option PyData := oI fun i j => .int (i - j)
/-- one factor within 64 bits -/
def oMul : PyData → PyData → Option PyData
  | .int i, .int j => if (-(2 ^ 64) < i ∧ i < 2 ^ 64) ∨ (-(2 ^ 64) < j ∧ j < 2 ^ 64) then some (.int (i * j)) else none
  | _, _ => none
def oMod : PyData → PyData → Option PyData
  | .int i, .int j => if 0 < j then some (.int (i % j)) else none
  | _, _ => none
def oDiv : PyData → PyData → Option PyData
  | .int i, .int j => if 0 < j ∧ j < 1073741824 then some (.int (i / j)) else none
  | _, _ => none
def oLt : PyData → PyData → Option PyData := oI fun i j => .bool (decide (i < j))
def oLe : PyData → PyData → Option PyData := oI fun i j => .bool (decide (i ≤ j))
def oGt : PyData → PyData → Option PyData := oI fun i j => .bool (decide (j < i))
def oGe : PyData → PyData → Option PyData := oI fun i j => .bool (decide (j ≤ i))
def oEq (x y : PyData) : Option PyData := if SeqAt.shaped x = true ∧ SeqAt.shaped y = true then some (.bool (PyData.eqv x y)) else none
def oNe (x y : PyData) : Option PyData := if SeqAt.shaped x = true ∧ SeqAt.shaped y = true then some (.bool (!PyData.eqv x y)) else none
def isN : PyData → Bool
  | .none => true
  | _ => false
def oIs (x y : PyData) : Option PyData := if isN y = true then some (.bool (isN x)) else none
def oIsNot (x y : PyData) : Option PyData := if isN y = true then some (.bool (!isN x)) else none
/-- t + u of tuples, of lists, of texts -/
def oCatT : PyData → PyData → Option PyData
  | .tuple xs, .tuple ys => if xs.length + ys.length ≤ 16777216 then some (.tuple (xs ++ ys)) else none
  | _, _ => none
def oCatL : PyData → PyData → Option PyData
  | .list xs, .list ys => if xs.length + ys.length ≤ 16777216 then some (.list (xs ++ ys)) else none
  | _, _ => none
def oCatS : PyData → PyData → Option PyData
  | .str x, .str y => if x.length + y.length ≤ 16777216 then some (.str (x ++ y)) else none
  | _, _ => none
def oIx : PyData → PyData → Option PyData
  | .list xs, .int i => atI xs i
  | .tuple xs, .int i => atI xs i
  | _, _ => none
def oIn (x : PyData) : PyData → Option PyData
  | .list ys => if SeqAt.shaped x = true ∧ SeqAt.shaped (.list ys) = true then some (.bool (ys.any fun z => PyData.eqv z x)) else none
  | _ => none
def oNotIn (x : PyData) : PyData → Option PyData
  | .list ys => if SeqAt.shaped x = true ∧ SeqAt.shaped (.list ys) = true then some (.bool (!ys.any fun z => PyData.eqv z x)) else none
  | _ => none
section
variable {K : PySem.W.Frag}
theorem dp_int {H : Hp} {v : V} {k : Int} (h : Dp K H v (.int k)) : v = .int k := by cases h; rfl
theorem dp_non {H : Hp} {v : V} (h : Dp K H v .none) : v = .non := by cases h; rfl
theorem dp_str {H : Hp} {v : V} {k : Str} (h : Dp K H v (.str k)) : v = .str k := by cases h; rfl
theorem o2I {g : Int → Int → V} {g' : Int → Int → PyData} (hg : ∀ i j H, Dp K H (g i j) (g' i j)) : Op2 K (rI0 g) (oI g') := by
  intro x y dx dy d H Q rx ry e q
  cases dx with
  | int i =>
    cases dy with
    | int j =>
      cases e
      exact ⟨i, j, dp_int rx, dp_int ry, q _ H (Same.refl _) (hg i j H)⟩
    | _ => cases e
  | _ => cases e
theorem o2_add : Op2 K (rI0 fun i j => .int (i + j)) oAdd := o2I fun _ _ _ => .int _
theorem o2_sub : Op2 K (rI0 fun i j => .int (i - j)) oSub := o2I fun _ _ _ => .int _
theorem o2_lt : Op2 K (rI0 fun i j => .bl (decide (i < j))) oLt := o2I fun _ _ _ => .bl _
theorem o2_le : Op2 K (rI0 fun i j => .bl (decide (i ≤ j))) oLe := o2I fun _ _ _ => .bl _
theorem o2_gt : Op2 K (rI0 fun i j => .bl (decide (j < i))) oGt := o2I fun _ _ _ => .bl _
theorem o2_ge : Op2 K (rI0 fun i j => .bl (decide (j ≤ i))) oGe := o2I fun _ _ _ => .bl _
theorem o2_mul : Op2 K (rI CMul fun i j => .int (i * j)) oMul := by
  intro x y dx dy d H Q rx ry e q
  cases dx with
  | int i =>
    cases dy with
    | int j =>
      unfold oMul at e
      dsimp only at e
      split at e
      · rename_i hc
        cases e
        exact ⟨i, j, dp_int rx, dp_int ry, hc, q _ H (Same.refl _) (.int _)⟩
      · cases e
    | _ => cases e
  | _ => cases e
theorem o2_mod : Op2 K (rI (fun _ j => 0 < j) fun i j => .int (i % j)) oMod := by
  intro x y dx dy d H Q rx ry e q
  cases dx with
  | int i =>
    cases dy with
    | int j =>
      unfold oMod at e
      dsimp only at e
      split at e
      · rename_i hc
        cases e
        exact ⟨i, j, dp_int rx, dp_int ry, hc, q _ H (Same.refl _) (.int _)⟩
      · cases e
    | _ => cases e
  | _ => cases e
theorem o2_div : Op2 K (rI CDiv fun i j => .int (i / j)) oDiv := by
  intro x y dx dy d H Q rx ry e q
  cases dx with
  | int i =>
    cases dy with
    | int j =>
      unfold oDiv at e
      dsimp only at e
      split at e
      · rename_i hc
        cases e
        exact ⟨i, j, dp_int rx, dp_int ry, hc, q _ H (Same.refl _) (.int _)⟩
      · cases e
    | _ => cases e
  | _ => cases e
theorem o2_eq : Op2 K (rEqD K) oEq := by
  intro x y dx dy d H Q rx ry e q
  unfold oEq at e
  split at e
  · rename_i hc
    cases e
    exact ⟨dx, dy, dpOld rx (lay_of_shaped hc.1), dpOld ry (lay_of_shaped hc.2), hc.1, hc.2, q _ H (Same.refl _) (.bl _)⟩
  · cases e
theorem o2_ne : Op2 K (rNeD K) oNe := by
  intro x y dx dy d H Q rx ry e q
  unfold oNe at e
  split at e
  · rename_i hc
    cases e
    exact ⟨dx, dy, dpOld rx (lay_of_shaped hc.1), dpOld ry (lay_of_shaped hc.2), hc.1, hc.2, q _ H (Same.refl _) (.bl _)⟩
  · cases e
theorem isN_of {H : Hp} {v : V} {d : PyData} (h : Dp K H v d) : decide (v = .non) = isN d := by
  cases h <;> simp [isN]
theorem o2_is : Op2 K (fun x y H Q => y = .non ∧ Q (.bl (decide (x = .non))) H) oIs := by
  intro x y dx dy d H Q rx ry e q
  unfold oIs at e
  split at e
  · rename_i hc
    cases e
    have ey : y = .non := of_decide_eq_true ((isN_of ry).trans hc)
    exact ⟨ey, q _ H (Same.refl _) (by rw [isN_of rx]; exact .bl _)⟩
  · cases e
theorem o2_isnot : Op2 K (fun x y H Q => y = .non ∧ Q (.bl (!decide (x = .non))) H) oIsNot := by
  intro x y dx dy d H Q rx ry e q
  unfold oIsNot at e
  split at e
  · rename_i hc
    cases e
    have ey : y = .non := of_decide_eq_true ((isN_of ry).trans hc)
    exact ⟨ey, q _ H (Same.refl _) (by rw [isN_of rx]; exact .bl _)⟩
  · cases e
theorem dp_tup {H : Hp} {v : V} {ds : List PyData} (h : Dp K H v (.tuple ds)) : ∃ a xs, v = .ref a ∧ SqT K H a xs ∧ DpAll K H xs ds := by
  cases h with
  | tup h1 h2 => exact ⟨_, _, rfl, h1.sqt, h2⟩
theorem dp_tupP {H : Hp} {v : V} {ds : List PyData} (h : Dp K H v (.tuple ds)) : ∃ a xs, v = .ref a ∧ PlT K H a xs ∧ DpAll K H xs ds := by
  cases h with
  | tup h1 h2 => exact ⟨_, _, rfl, h1, h2⟩
theorem dp_lst {H : Hp} {v : V} {ds : List PyData} (h : Dp K H v (.list ds)) : ∃ a xs, v = .ref a ∧ SqL K H a xs ∧ DpAll K H xs ds := by
  cases h with
  | lst h1 h2 => exact ⟨_, _, rfl, h1, h2⟩
theorem DpAll.nil_iff {H : Hp} {xs : List V} {ds : List PyData} (h : DpAll K H xs ds) : xs = [] ↔ ds = [] := by
  cases h <;> simp
/-- t + u: the new tuple's object is known -/
def rCatF (K : PySem.W.Frag) : R2 := fun x y H Q => ∃ a b xs ys, x = .ref a ∧ y = .ref b ∧ SqT K H a xs ∧ SqT K H b ys ∧ xs.length + ys.length ≤ sizeLine ∧
  (xs = [] → Q (.ref b) H) ∧ (xs ≠ [] → ys = [] → Q (.ref a) H) ∧ (xs ≠ [] → ys ≠ [] → ∀ (p : Addr) (o : Obj), o.dict = none → H p = none → Q (.ref p) (upd H p (.frz o (.tup (xs ++ ys)))))
theorem op_catF {X : Cx} : OpR X (binaryOp .Add) (rCatF X.K) := by
  intro pins s σ H x y v u Q I rx ry h
  obtain ⟨a, b, xs, ys, rfl, rfl, ha, hb, hz, q0, q1, q2⟩ := h
  cases rx
  cases ry
  obtain ⟨its, r1, p1, _⟩ := I.tuple ha
  obtain ⟨its2, r2, p2, _⟩ := I.tuple hb
  by_cases hx : xs = []
  · subst hx
    cases r1
    exact cat_tup0 p1 p2 ⟨.ref b, H, I, rfl, q0 rfl⟩
  · refine HT.cat_tup p1 p2 (fun z => hx (r1.nil_iff.mp z)) (fun z => ⟨.ref a, H, I, rfl, q1 hx (r2.nil_iff.mp z)⟩) (fun z => ?_) (by rw [← r1.length, ← r2.length]; exact hz)
    refine ⟨.ref s.heap.objs.size, _, I.laid (t' := s.toks) (o := .frz { cls := .type "tuple", data := .seq (its ++ its2).toArray } (.tup (xs ++ ys))) (fun b ob q => Heap.get?_push_of_some _ q) (Nat.le_refl _) ?_, rfl, q2 hx (fun w => z (r2.nil_iff.mpr w)) _ _ rfl (I.hok.fresh (Nat.le_refl _))⟩
    exact ⟨Heap.get?_push_size _ rfl, by rw [List.length_append]; exact hz, _, r1.append r2, IsTup.new _ _⟩
theorem o2_catT : Op2 K (rCatF K) oCatT := by
  intro x y dx dy d H Q rx ry e q
  cases dx with
  | tuple xs =>
    cases dy with
    | tuple ys =>
      unfold oCatT at e
      dsimp only at e
      split at e
      · rename_i hc
        cases e
        obtain ⟨a, vs, rfl, ha, hva⟩ := dp_tup rx
        obtain ⟨b, us, rfl, hb, hvb⟩ := dp_tup ry
        refine ⟨a, b, vs, us, rfl, rfl, ha, hb, ?_, fun e0 => ?_, fun e0 e1 => ?_, fun e0 e1 p o hdn hp => ?_⟩
        · rw [hva.len, hvb.len, sizeLine_eq]
          exact hc
        · have e1 : xs = [] := hva.nil_iff.mp e0
          subst e1
          exact q _ H (Same.refl _) (by simpa using ry)
        · have e2 : ys = [] := hvb.nil_iff.mp e1
          subst e2
          exact q _ H (Same.refl _) (by simpa using rx)
        · have s1 : Same H (upd H p (.frz o (.tup (vs ++ us)))) := sameUpd hp
          exact q _ _ s1 (.tup (.inl ⟨o, upd_same, hdn⟩) ((dpAllMono s1 hva).app (dpAllMono s1 hvb)))
      · cases e
    | _ => cases e
  | _ => cases e
theorem atI_dp {H : Hp} {vs : List V} {ds : List PyData} {i : Int} {d : PyData} (h : DpAll K H vs ds) (e : atI ds i = some d) : ∃ v, atI vs i = some v ∧ Dp K H v d := by
  unfold atI at e ⊢
  rw [h.len]
  cases e1 : ixN ds.length i with
  | none => rw [e1] at e; cases e
  | some j =>
    rw [e1] at e
    exact h.get e
theorem o2_ix : Op2 K (rIx K) oIx := by
  intro x y dx dy d H Q rx ry e q
  cases dy with
  | int i =>
    cases dx with
    | list ds =>
      obtain ⟨a, vs, rfl, ha, hva⟩ := dp_lst rx
      obtain ⟨v, h1, h2⟩ := atI_dp hva e
      exact .inl ⟨a, vs, i, v, rfl, dp_int ry, ha, h1, q v H (Same.refl _) h2⟩
    | tuple ds =>
      obtain ⟨a, vs, rfl, ha, hva⟩ := dp_tup rx
      obtain ⟨v, h1, h2⟩ := atI_dp hva e
      exact .inr (.inl ⟨a, vs, i, v, rfl, dp_int ry, ha, h1, q v H (Same.refl _) h2⟩)
    | _ => cases e
  | _ => cases dx <;> cases e
theorem o2_in : Op2 K (rInD K) oIn := by
  intro x y dx dy d H Q rx ry e q
  cases dy with
  | list ds =>
    unfold oIn at e
    dsimp only at e
    split at e
    · rename_i hc
      cases e
      exact ⟨dx, ds, dpOld rx (lay_of_shaped hc.1), dpOld ry (lay_of_shaped hc.2), hc.1, hc.2, q _ H (Same.refl _) (.bl _)⟩
    · cases e
  | _ => cases e
theorem o2_notin : Op2 K (rNotInD K) oNotIn := by
  intro x y dx dy d H Q rx ry e q
  cases dy with
  | list ds =>
    unfold oNotIn at e
    dsimp only at e
    split at e
    · rename_i hc
      cases e
      exact ⟨dx, ds, dpOld rx (lay_of_shaped hc.1), dpOld ry (lay_of_shaped hc.2), hc.1, hc.2, q _ H (Same.refl _) (.bl _)⟩
    · cases e
  | _ => cases e
/-- list + list -/
def rCatQ (K : PySem.W.Frag) : R2 := fun x y H Q => ∃ l b xs zs, x = .ref l ∧ y = .ref b ∧ SqL K H l xs ∧ SqL K H b zs ∧ xs.length + zs.length ≤ sizeLine ∧ ∀ p, H p = none → Q (.ref p) (upd H p (.lst (xs ++ zs)))
theorem op_catQ {X : Cx} : OpR X (binaryOp .Add) (rCatQ X.K) := by
  intro pins s σ H x y v u Q I rx ry h
  obtain ⟨l, b, xs, zs, rfl, rfl, hH, hB, hz, q⟩ := h
  cases rx
  cases ry
  obtain ⟨its, r, pl, _⟩ := I.list hH
  obtain ⟨its2, r2, pl2, _⟩ := I.list hB
  have hl1 := r.length
  have hl2 := r2.length
  obtain ⟨⟨cls, dd, data, sl⟩, n, ho, hc, _, hd⟩ := pl
  obtain ⟨⟨cls2, dd2, data2, sl2⟩, n2, ho2, hc2, _, hd2⟩ := pl2
  simp only at hc hd hc2 hd2
  subst hc hd hc2 hd2
  refine concat_meets ⟨_, ho, rfl⟩ ⟨_, ho2, rfl⟩ noFill_list_add seq_list_add PySem.F.slot_list_add PySem.F.entry_list_add (PySem.F.args_list_add_2 _ _) (list_addW l b its.toArray its2.toArray n n2 dd dd2 sl sl2 (by rw [List.size_toArray, List.size_toArray]; omega)) ⟨ho, ho2, ?_⟩
  have ea : its.toArray ++ its2.toArray = (its ++ its2).toArray := by simp
  rw [ea]
  exact ⟨.ref _, _, I.lnew (t' := s.toks) (r.append r2) (by rw [List.length_append]; omega), rfl, q _ I.fresh⟩
theorem o2_catL : Op2 K (rCatQ K) oCatL := by
  intro x y dx dy d H Q rx ry e q
  cases dx with
  | list xs =>
    cases dy with
    | list ys =>
      unfold oCatL at e
      dsimp only at e
      split at e
      · rename_i hc
        cases e
        obtain ⟨a, vs, rfl, ha, hva⟩ := dp_lst rx
        obtain ⟨b, us, rfl, hb, hvb⟩ := dp_lst ry
        refine ⟨a, b, vs, us, rfl, rfl, ha, hb, ?_, fun p hp => ?_⟩
        · rw [hva.len, hvb.len, sizeLine_eq]
          exact hc
        · have s1 : Same H (upd H p (.lst (vs ++ us))) := sameUpd hp
          exact q _ _ s1 (.lst (.inl (.inl upd_same)) ((dpAllMono s1 hva).app (dpAllMono s1 hvb)))
      · cases e
    | _ => cases e
  | _ => cases e
theorem o2_catS : Op2 K (fun x y H Q => ∃ i j, x = .str i ∧ y = .str j ∧ i.length + j.length ≤ sizeLine ∧ Q (.str (i ++ j)) H) oCatS := by
  intro x y dx dy d H Q rx ry e q
  cases dx with
  | str i =>
    cases dy with
    | str j =>
      unfold oCatS at e
      dsimp only at e
      split at e
      · rename_i hc
        cases e
        exact ⟨i, j, dp_str rx, dp_str ry, by rw [sizeLine_eq]; exact hc, q _ H (Same.refl _) (.str _)⟩
      · cases e
    | _ => cases e
  | _ => cases e
end
/-! the operators, short -/
section
variable {X : Cx} {W : WX} {a b : Expr} {fa fb : Ex} {pos : Pos} {k : Nat}
theorem d_add (ha : DE X W a fa) (hb : DE X W b fb) : DE X W (.BinOp a .Add b pos) (eOp oAdd fa fb) := d_op op_add o2_add ha hb
theorem d_sub (ha : DE X W a fa) (hb : DE X W b fb) : DE X W (.BinOp a .Sub b pos) (eOp oSub fa fb) := d_op op_sub o2_sub ha hb
theorem d_mul (ha : DE X W a fa) (hb : DE X W b fb) : DE X W (.BinOp a .Mult b pos) (eOp oMul fa fb) := d_op op_mul o2_mul ha hb
theorem d_mod (ha : DE X W a fa) (hb : DE X W b fb) : DE X W (.BinOp a .Mod b pos) (eOp oMod fa fb) := d_op op_mod o2_mod ha hb
theorem d_div (ha : DE X W a fa) (hb : DE X W b fb) : DE X W (.BinOp a .FloorDiv b pos) (eOp oDiv fa fb) := d_op op_fdiv o2_div ha hb
theorem d_catT (ha : DE X W a fa) (hb : DE X W b fb) : DE X W (.BinOp a .Add b pos) (eOp oCatT fa fb) := d_op op_catF o2_catT ha hb
theorem d_catL (ha : DE X W a fa) (hb : DE X W b fb) : DE X W (.BinOp a .Add b pos) (eOp oCatL fa fb) := d_op op_catQ o2_catL ha hb
theorem d_catS (ha : DE X W a fa) (hb : DE X W b fb) : DE X W (.BinOp a .Add b pos) (eOp oCatS fa fb) := d_op op_add_str o2_catS ha hb
theorem d_lt (ha : DE X W a fa) (hb : DE X W b fb) : DE X W (.Compare a [.Lt] [b] pos) (eOp oLt fa fb) := d_cmp op_lt o2_lt ha hb (nomark _)
theorem d_le (ha : DE X W a fa) (hb : DE X W b fb) : DE X W (.Compare a [.LtE] [b] pos) (eOp oLe fa fb) := d_cmp op_le o2_le ha hb (nomark _)
theorem d_gt (ha : DE X W a fa) (hb : DE X W b fb) : DE X W (.Compare a [.Gt] [b] pos) (eOp oGt fa fb) := d_cmp op_gt o2_gt ha hb (nomark _)
theorem d_ge (ha : DE X W a fa) (hb : DE X W b fb) : DE X W (.Compare a [.GtE] [b] pos) (eOp oGe fa fb) := d_cmp op_ge o2_ge ha hb (nomark _)
theorem d_eq (hu : X.A.units + 65 < cLine) (ha : DE X W a fa) (hb : DE X W b fb) : DE X W (.Compare a [.Eq] [b] pos) (eOp oEq fa fb) := d_cmp (op_eqD (Nat.lt_of_succ_lt hu)) o2_eq ha hb (nomark _)
theorem d_ne (hu : X.A.units + 65 < cLine) (ha : DE X W a fa) (hb : DE X W b fb) : DE X W (.Compare a [.NotEq] [b] pos) (eOp oNe fa fb) := d_cmp (op_neD (Nat.lt_of_succ_lt hu)) o2_ne ha hb (nomark _)
theorem d_is (ha : DE X W a fa) (hb : DE X W b fb) : DE X W (.Compare a [.Is] [b] pos) (eOp oIs fa fb) := d_cmp op_isN o2_is ha hb (nomark _)
theorem d_isnot (ha : DE X W a fa) (hb : DE X W b fb) : DE X W (.Compare a [.IsNot] [b] pos) (eOp oIsNot fa fb) := d_cmp op_notN o2_isnot ha hb (nomark _)
theorem d_in (hu : X.A.units + 65 < cLine) (ha : DE X W a fa) (hb : DE X W b fb) (hm : behindInMarks .In b = false := by with_unfolding_all rfl) : DE X W (.Compare a [.In] [b] pos) (eOp oIn fa fb) := d_cmp (op_inD hu) o2_in ha hb hm
theorem d_notin (hu : X.A.units + 65 < cLine) (ha : DE X W a fa) (hb : DE X W b fb) (hm : behindInMarks .NotIn b = false := by with_unfolding_all rfl) : DE X W (.Compare a [.NotIn] [b] pos) (eOp oNotIn fa fb) := d_cmp (op_notInD hu) o2_notin ha hb hm
theorem t_lt (ha : DE X W a fa) (hb : DE X W b fb) : DT X W (.Compare a [.Lt] [b] pos) (eB (eOp oLt fa fb)) := dt_cmp op_lt o2_lt ha hb (nomark _)
theorem t_le (ha : DE X W a fa) (hb : DE X W b fb) : DT X W (.Compare a [.LtE] [b] pos) (eB (eOp oLe fa fb)) := dt_cmp op_le o2_le ha hb (nomark _)
theorem t_gt (ha : DE X W a fa) (hb : DE X W b fb) : DT X W (.Compare a [.Gt] [b] pos) (eB (eOp oGt fa fb)) := dt_cmp op_gt o2_gt ha hb (nomark _)
theorem t_ge (ha : DE X W a fa) (hb : DE X W b fb) : DT X W (.Compare a [.GtE] [b] pos) (eB (eOp oGe fa fb)) := dt_cmp op_ge o2_ge ha hb (nomark _)
theorem t_eq (hu : X.A.units + 65 < cLine) (ha : DE X W a fa) (hb : DE X W b fb) : DT X W (.Compare a [.Eq] [b] pos) (eB (eOp oEq fa fb)) := dt_cmp (op_eqD (Nat.lt_of_succ_lt hu)) o2_eq ha hb (nomark _)
theorem t_ne (hu : X.A.units + 65 < cLine) (ha : DE X W a fa) (hb : DE X W b fb) : DT X W (.Compare a [.NotEq] [b] pos) (eB (eOp oNe fa fb)) := dt_cmp (op_neD (Nat.lt_of_succ_lt hu)) o2_ne ha hb (nomark _)
theorem t_is (ha : DE X W a fa) (hb : DE X W b fb) : DT X W (.Compare a [.Is] [b] pos) (eB (eOp oIs fa fb)) := dt_cmp op_isN o2_is ha hb (nomark _)
theorem t_isnot (ha : DE X W a fa) (hb : DE X W b fb) : DT X W (.Compare a [.IsNot] [b] pos) (eB (eOp oIsNot fa fb)) := dt_cmp op_notN o2_isnot ha hb (nomark _)
theorem t_in (hu : X.A.units + 65 < cLine) (ha : DE X W a fa) (hb : DE X W b fb) (hm : behindInMarks .In b = false := by with_unfolding_all rfl) : DT X W (.Compare a [.In] [b] pos) (eB (eOp oIn fa fb)) := dt_cmp (op_inD hu) o2_in ha hb hm
theorem t_notin (hu : X.A.units + 65 < cLine) (ha : DE X W a fa) (hb : DE X W b fb) (hm : behindInMarks .NotIn b = false := by with_unfolding_all rfl) : DT X W (.Compare a [.NotIn] [b] pos) (eB (eOp oNotIn fa fb)) := dt_cmp (op_notInD hu) o2_notin ha hb hm
theorem hu65 {A : Around} (hr : Room k A) : A.units + 65 < cLine := by have := hr.un; omega
/-- xs[i] -/
theorem d_ix (ha : DE X W a fa) (hb : DE X W b fb) (hs : PlainIx b := by exact fun _ _ => rfl) : DE X W (.Subscript a b pos) (eOp oIx fa fb) := peImp (pe_ix ix_seq ha hb hs) fun _ _ _ h => tOp_of o2_ix h
/-- -a -/
def eUn (op : PyData → Option PyData) (f : Ex) : Ex := fun ρ => (f ρ).bind fun x => Res.of (op x)
def oNeg : PyData → Option PyData
  | .int i => some (.int (-i))
  | _ => none
theorem d_neg (ha : DE X W a fa) : DE X W (.UnaryOp .USub a pos) (eUn oNeg fa) := by
  refine peImp (pe_un un_neg ha) fun σ H Q h => ?_
  obtain ⟨ρ, hρ, h⟩ := h
  refine ⟨ρ, hρ, (Post.bind h).imp fun v H1 _ ⟨d, _, s1, rx, h1⟩ => ?_⟩
  cases d with
  | int i => exact ⟨i, dp_int rx, h1 _ H1 (Same.refl _) (.int _)⟩
  | _ => exact h1.elim
end
end L2.DL
set_option maxHeartbeats 2000000
namespace L2.DL
open PySem PySem.Spec PyProof.Rows

/-! ### argument lists, displays -/
def aNil : Ar := fun _ => .ok []
def aCons (f : Ex) (g : Ar) : Ar := fun ρ => (f ρ).bind fun x => (g ρ).bind fun xs => .ok (x :: xs)
def eTup (f : Ar) : Ex := fun ρ => (f ρ).bind fun xs => if xs.length ≤ 16777216 then .ok (.tuple xs) else .bad
def eLst (f : Ar) : Ex := fun ρ => (f ρ).bind fun xs => if xs.length ≤ 16777216 then .ok (.list xs) else .bad
section
variable {X : Cx} {W : WX} {a e : Expr} {es : List Expr} {f : Ex} {g : Ar} {pos : Pos}
theorem a_nil : DA X W [] aNil := paImp pa_nil fun σ H Q ⟨ρ, _, h⟩ => h [] H rfl (Same.refl _) .nil
theorem a_cons (ha : DE X W e f) (hr : DA X W es g) (hs : starEach (e :: es) X.env = (false, eval e X.env) :: starEach es X.env := by rfl) : DA X W (e :: es) (aCons f g) := by
  refine paImp (pa_cons ha hr hs) fun σ H Q h => ?_
  obtain ⟨ρ, hρ, h⟩ := h
  refine ⟨ρ, hρ, (Post.bindA h).imp fun v H1 _ ⟨d, _, s1, rx, h1⟩ => ⟨ρ, hρ.mono s1, (PostA.bindA h1).imp fun vs H2 _ ⟨ds, _, hl, s2, r2, h2⟩ => ?_⟩⟩
  exact h2 (v :: vs) H2 (congrArg (· + 1) hl) (Same.refl _) (.cons (dpMono s2 rx) r2)
/-- a written tuple: its object is known -/
def tTupF (t : TA) : TE := fun σ H Q => t σ H fun xs H1 => xs.length ≤ sizeLine ∧ ∀ (p : Addr) (o : Obj), o.dict = none → H1 p = none → Q (.ref p) (upd H1 p (.frz o (.tup xs)))
theorem pe_tupF {x1} {t : TA} (h : PA X es t) : PE X (.Tuple es x1 pos) (tTupF t) := by
  refine ⟨fun pins s σ H Q I hq => ?_⟩
  refine wpAny_Tuple_spliced (thn (h.run pos pins s σ H _ I hq) fun us s1 ⟨xs, H1, I1, r, z, q⟩ => ⟨by rw [← r.length]; exact z, ?_⟩)
  refine ⟨.ref s1.heap.objs.size, _, I1.laid (t' := s1.toks) (o := .frz { cls := .type "tuple", data := .seq us.toArray } (.tup xs)) (fun b u e => Heap.get?_push_of_some _ e) (Nat.le_refl _) ?_, rfl, q _ _ rfl (I1.hok.fresh (Nat.le_refl _))⟩
  exact ⟨Heap.get?_push_size _ rfl, z, us, r, ⟨_, Heap.get?_push_size _ rfl, rfl, _, rfl⟩⟩
theorem d_tup {x1} (h : DA X W es g) : DE X W (.Tuple es x1 pos) (eTup g) := by
  refine peImp (pe_tupF h) fun σ H Q h => ?_
  obtain ⟨ρ, hρ, h⟩ := h
  refine ⟨ρ, hρ, (PostA.bind h).imp fun vs H2 _ ⟨ds, _, hl, s2, r2, h3⟩ => ?_⟩
  by_cases hl : ds.length ≤ 16777216
  · rw [if_pos hl] at h3
    exact ⟨by rw [r2.len, sizeLine_eq]; exact hl, fun p o hdn hp => h3 _ _ (sameUpd hp) (.tup (.inl ⟨o, upd_same, hdn⟩) (dpAllMono (sameUpd hp) r2))⟩
  · rw [if_neg hl] at h3
    exact h3.elim
theorem d_lst (h : DA X W es g) : DE X W (.List es pos) (eLst g) := by
  refine peImp (pe_lst h) fun σ H Q h => ?_
  obtain ⟨ρ, hρ, h⟩ := h
  refine ⟨ρ, hρ, (PostA.bind h).imp fun vs H2 _ ⟨ds, _, hl, s2, r2, h3⟩ => ?_⟩
  by_cases hl : ds.length ≤ 16777216
  · rw [if_pos hl] at h3
    exact ⟨by rw [r2.len, sizeLine_eq]; exact hl, fun p hp => h3 _ _ (sameUpd hp) (.lst (.inl (.inl upd_same)) (dpAllMono (sameUpd hp) r2))⟩
  · rw [if_neg hl] at h3
    exact h3.elim
end

/-! ### calls of the text's defs -/
def eCall (fn : List PyData → Res PyData) (args : Ar) : Ex := fun ρ => (args ρ).bind fn
/-- a def of n parameters that does fn -/
def spD (K : PySem.W.Frag) (mg : Str → Option Value) (n : Nat) (fn : List PyData → Res PyData) : Sp := fun vs H Q E => vs.length = n ∧ ∃ ds, DpAll K H vs ds ∧ match fn ds with
  | .ok d => ∀ v H', Same H H' → Dp K H' v d → Q v H'
  | .err c => ∃ C, mg c = some (.ref C) ∧ ∀ (d : D0) H', Same H H' → E (.ref C) d H'
  | .bad => False
structure Df (P : Program) (w : World) (K : PySem.W.Frag) (mg : Str → Option Value) (base : Heap) (x : Str) (k n : Nat) (fn : List PyData → Res PyData) : Prop where
  ex : ∃ (f : Addr) (fd : FuncData) (ps : List Str), FnOk P w K mg base (L2.CX P w) k f fd ps (spD K mg n fn) ∧ mg x = some (.ref f) ∧ PySem.W.keepIn K (.ref f) = true ∧ Binds K fd ps []
theorem Df.mono {P : Program} {w : World} {K : PySem.W.Frag} {mg : Str → Option Value} {base : Heap} {x : Str} {j k n : Nat} {fn : List PyData → Res PyData} (F : Df P w K mg base x j n fn) (h : j ≤ k) : Df P w K mg base x k n fn := by
  obtain ⟨f, fd, ps, h1, h2⟩ := F.ex
  exact ⟨f, fd, ps, h1.mono h, h2⟩
section
variable {X : Cx} {W : WX} {e : Expr} {es : List Expr} {g : Ar} {p pos : Pos} {x : Str} {k n : Nat} {fn : List PyData → Res PyData}
theorem d_call (F : Df X.prog X.w X.K X.mg X.base x k n fn) (hr : Room k X.A) (tk : Takes X W) (ha : DA X W (e :: es) g) (hn : (e :: es).length = n := by rfl) (hg : Gl X x := by rfl)
    (hdb : (x == ("__debug__" : Str)) = false := by decide) (he : starEach (e :: es) X.env = (false, eval e X.env) :: starEach es X.env := by rfl) (hpl : (backTo pos (starEach es X.env)).any (·.1) = false := by rfl) :
    DE X W (.Call (.Name x p) (e :: es) [] pos) (eCall fn g) := by
  obtain ⟨f, fd, ps, h1, hm, hk, hb⟩ := F.ex
  refine peImp (pe_callS (E := WE W) h1 hr hg hm hk hb (fun σ => passAt tk σ) ha hdb he hpl) fun σ H Q h => ?_
  obtain ⟨ρ, hρ, h⟩ := h
  refine ⟨ρ, hρ, (PostA.bind h).imp fun vs H2 _ ⟨ds, _, hl, s2, r2, h3⟩ => ⟨hl.trans hn, ds, r2, ?_⟩⟩
  cases e2 : fn ds with
  | ok d => rw [e2] at h3; exact h3
  | err c => rw [e2] at h3; exact h3
  | bad => rw [e2] at h3; exact h3

/-! ### built-ins by their name -/
def eCall1 (op : PyData → Option PyData) (f : Ex) : Ex := fun ρ => (f ρ).bind fun x => Res.of (op x)
def eCall2 (op : PyData → PyData → Option PyData) (f g : Ex) : Ex := fun ρ => (f ρ).bind fun x => (g ρ).bind fun y => Res.of (op x y)
def Op1 (K : PySem.W.Frag) (r : List V → Hp → VK → Prop) (op : PyData → Option PyData) : Prop := ∀ (x : V) (dx d : PyData) (H : Hp) (Q : VK), Dp K H x dx → op dx = some d → (∀ v H', Same H H' → Dp K H' v d → Q v H') → r [x] H Q
def OpA2 (K : PySem.W.Frag) (r : List V → Hp → VK → Prop) (op : PyData → PyData → Option PyData) : Prop := ∀ (x y : V) (dx dy d : PyData) (H : Hp) (Q : VK), Dp K H x dx → Dp K H y dy → op dx dy = some d → (∀ v H', Same H H' → Dp K H' v d → Q v H') → r [x, y] H Q
section
variable {a b : Expr} {fa fb : Ex} {r : List V → Hp → VK → Prop}
theorem tCB1 {op : PyData → Option PyData} (hr : Op1 X.K r op) {σ : St} {H : Hp} {Q : VK} (h : tD X.K X.mg W (eCall1 op fa) σ H Q) : tCB r (tCons (tD X.K X.mg W fa) tNil) σ H Q := by
  obtain ⟨ρ, hρ, h⟩ := h
  refine ⟨ρ, hρ, (Post.bind h).imp fun v H1 _ ⟨dx, _, s1, rx, h1⟩ => ?_⟩
  cases e : op dx with
  | none => rw [e] at h1; exact h1.elim
  | some d => rw [e] at h1; exact hr v dx d H1 Q rx e h1
theorem tCB2 {op : PyData → PyData → Option PyData} (hr : OpA2 X.K r op) {σ : St} {H : Hp} {Q : VK} (h : tD X.K X.mg W (eCall2 op fa fb) σ H Q) : tCB r (tCons (tD X.K X.mg W fa) (tCons (tD X.K X.mg W fb) tNil)) σ H Q := by
  obtain ⟨ρ, hρ, h⟩ := h
  refine ⟨ρ, hρ, (Post.bind h).imp fun v H1 _ ⟨dx, _, s1, rx, h1⟩ => ⟨ρ, hρ.mono s1, (Post.bind h1).imp fun u H2 _ ⟨dy, _, s2, ry, h2⟩ => ?_⟩⟩
  cases e : op dx dy with
  | none => rw [e] at h2; exact h2.elim
  | some d => rw [e] at h2; exact hr v u dx dy d H2 Q (dpMono s2 rx) ry e h2
theorem d_b1 {id : String} {op : PyData → Option PyData} (hc : CallR X (.builtin id) r) (hr : Op1 X.K r op) (hm : X.mg x = none) (ha : DE X W a fa) (hg : Gl X x := by rfl) (hv : bootBuiltins x = some (.builtin id) := by decide +kernel) (hn : x ≠ "__name__" := by decide)
    (hdb : (x == ("__debug__" : Str)) = false := by decide) (hs : starEach [a] X.env = (false, eval a X.env) :: starEach [] X.env := by rfl) (hpl : (backTo pos (starEach [] X.env)).any (·.1) = false := by rfl) :
    DE X W (.Call (.Name x p) [a] [] pos) (eCall1 op fa) := peImp (pe_callB hc hg hm hv (pa_cons ha pa_nil hs) hn hdb hs hpl) fun _ _ _ h => tCB1 hr h
theorem d_t1 {id : String} {op : PyData → Option PyData} (hc : CallR X (.type id) r) (hr : Op1 X.K r op) (hm : X.mg x = none) (ha : DE X W a fa) (hg : Gl X x := by rfl) (hv : bootBuiltins x = some (.type id) := by decide +kernel) (hn : x ≠ "__name__" := by decide)
    (hdb : (x == ("__debug__" : Str)) = false := by decide) (hs : starEach [a] X.env = (false, eval a X.env) :: starEach [] X.env := by rfl) (hpl : (backTo pos (starEach [] X.env)).any (·.1) = false := by rfl) :
    DE X W (.Call (.Name x p) [a] [] pos) (eCall1 op fa) := peImp (pe_callTy hc hg hm hv (pa_cons ha pa_nil hs) hn hdb hs hpl) fun _ _ _ h => tCB1 hr h
theorem d_b2 {id : String} {op : PyData → PyData → Option PyData} (hc : CallR X (.builtin id) r) (hr : OpA2 X.K r op) (hm : X.mg x = none) (ha : DE X W a fa) (hb : DE X W b fb) (hg : Gl X x := by rfl) (hv : bootBuiltins x = some (.builtin id) := by decide +kernel) (hn : x ≠ "__name__" := by decide)
    (hdb : (x == ("__debug__" : Str)) = false := by decide) (hs : starEach [a, b] X.env = (false, eval a X.env) :: starEach [b] X.env := by rfl) (hs2 : starEach [b] X.env = (false, eval b X.env) :: starEach [] X.env := by rfl) (hpl : (backTo pos (starEach [b] X.env)).any (·.1) = false := by rfl) :
    DE X W (.Call (.Name x p) [a, b] [] pos) (eCall2 op fa fb) := peImp (pe_callB hc hg hm hv (pa_cons ha (pa_cons hb pa_nil hs2) hs) hn hdb hs hpl) fun _ _ _ h => tCB2 hr h
end

/-! len, min, max, abs, int, tuple, list, sum, all, any, sorted -/
def oLen : PyData → Option PyData
  | .list xs => some (.int (xs.length : Int))
  | .tuple xs => some (.int (xs.length : Int))
  | .str x => if x.length ≤ 16777216 then some (.int (x.length : Int)) else none
  | _ => none
def oMin : PyData → PyData → Option PyData := oI fun i j => .int (if j < i then j else i)
def oMax : PyData → PyData → Option PyData := oI fun i j => .int (if j > i then j else i)
def oAbs : PyData → Option PyData
  | .int i => some (.int (if i < 0 then -i else i))
  | _ => none
def oInt : PyData → Option PyData
  | .int i => some (.int i)
  | .bool b => some (.int (if b then 1 else 0))
  | _ => none
def oTuple : PyData → Option PyData
  | .list xs => some (.tuple xs)
  | .tuple xs => some (.tuple xs)
  | _ => none
def oList : PyData → Option PyData
  | .list xs => some (.list xs)
  | .tuple xs => some (.list xs)
  | _ => none
def toInts : List PyData → Option (List Int)
  | [] => some []
  | .int i :: r => (toInts r).map (i :: ·)
  | _ => none
def toBools : List PyData → Option (List Bool)
  | [] => some []
  | .bool i :: r => (toBools r).map (i :: ·)
  | _ => none
def oSum : PyData → Option PyData
  | .list xs => (toInts xs).map fun ns => .int ns.sum
  | _ => none
def oAll : PyData → Option PyData
  | .list xs => (toBools xs).map fun bs => .bool (bs.all id)
  | _ => none
def oAny : PyData → Option PyData
  | .list xs => (toBools xs).map fun bs => .bool (bs.any id)
  | _ => none
/-- the least of a list of ints, as python finds it -/
def minI : List Int → Int
  | [] => 0
  | x :: r => r.foldl min x
def maxI : List Int → Int
  | [] => 0
  | x :: r => r.foldl max x
def oMinL : PyData → Option PyData
  | .list xs => (toInts xs).bind fun ns => if ns = [] then none else some (.int (minI ns))
  | _ => none
def oMaxL : PyData → Option PyData
  | .list xs => (toInts xs).bind fun ns => if ns = [] then none else some (.int (maxI ns))
  | _ => none
/-- rising, by insertion -/
def insI (x : Int) : List Int → List Int
  | [] => [x]
  | y :: r => if x ≤ y then x :: y :: r else y :: insI x r
def sortI (ns : List Int) : List Int := ns.foldr insI []
def oSorted : PyData → Option PyData
  | .list xs => (toInts xs).bind fun ns => if ns.length < 64 then some (.list ((sortI ns).map .int)) else none
  | .tuple xs => (toInts xs).bind fun ns => if ns.length < 64 then some (.list ((sortI ns).map .int)) else none
  | _ => none
section
variable {K : PySem.W.Frag} {H : Hp}
theorem dp_ints : ∀ {ds : List PyData} {vs : List V} {ns : List Int}, DpAll K H vs ds → toInts ds = some ns → vs = ns.map V.int
  | [], _, _, h, e => by
    cases h
    cases e
    rfl
  | d :: r, _, ns, h, e => by
    cases h with
    | cons h1 h2 =>
      cases d with
      | int i =>
        unfold toInts at e
        cases e1 : toInts r with
        | none => rw [e1] at e; cases e
        | some ms =>
          rw [e1] at e
          cases e
          rw [dp_int h1, dp_ints h2 e1]
          rfl
      | _ => cases e
theorem dp_bools : ∀ {ds : List PyData} {vs : List V} {ns : List Bool}, DpAll K H vs ds → toBools ds = some ns → vs = ns.map V.bl
  | [], _, _, h, e => by
    cases h
    cases e
    rfl
  | d :: r, _, ns, h, e => by
    cases h with
    | cons h1 h2 =>
      cases d with
      | bool i =>
        unfold toBools at e
        cases e1 : toBools r with
        | none => rw [e1] at e; cases e
        | some ms =>
          rw [e1] at e
          cases e
          rw [dp_bool h1, dp_bools h2 e1]
          rfl
      | _ => cases e
theorem of_ints : ∀ (ns : List Int), DpAll K H (ns.map V.int) (ns.map PyData.int)
  | [] => .nil
  | _ :: r => .cons (.int _) (of_ints r)
@[simp] theorem toInts_map : ∀ ns : List Int, toInts (ns.map PyData.int) = some ns
  | [] => rfl
  | n :: r => by
    show (toInts (r.map PyData.int)).map (n :: ·) = _
    rw [toInts_map r]
    rfl
@[simp] theorem toBools_map : ∀ ns : List Bool, toBools (ns.map PyData.bool) = some ns
  | [] => rfl
  | n :: r => by
    show (toBools (r.map PyData.bool)).map (n :: ·) = _
    rw [toBools_map r]
    rfl
/-- tuple(x): the new tuple's object is known -/
def rTupF (K : PySem.W.Frag) : List V → Hp → VK → Prop := fun xs H Q => ∃ p ys, xs = [.ref p] ∧ ((SqL K H p ys ∧ ∀ (l : Addr) (o : Obj), o.dict = none → H l = none → Q (.ref l) (upd H l (.frz o (.tup ys)))) ∨ (SqT K H p ys ∧ Q (.ref p) H))
theorem call_tupF {X : Cx} : CallR X (.type "tuple") (rTupF X.K) := by
  intro pins s σ H xs us Q I r h
  obtain ⟨p, ys, rfl, h⟩ := h
  obtain ⟨u, rfl, rx⟩ := vals1 r
  cases rx
  rcases h with ⟨hq, q⟩ | ⟨hq, q⟩
  · obtain ⟨its, r', pl, hz⟩ := I.list hq
    have hlen := r'.length
    refine call_tuple_list pl.isList (fun h' kp => ?_) (by simp only [List.size_toArray] <;> omega)
    have I1 : Inv X pins σ H { s with heap := h' } := I.kept (t' := s.toks) kp
    have I2 : Inv X pins σ (upd H h'.objs.size (.frz { cls := .type "tuple", data := .seq its.toArray } (.tup ys))) { s with heap := h'.push { cls := .type "tuple", data := .seq its.toArray } } :=
      I1.laid (t' := s.toks) (fun b o e => Heap.get?_push_of_some _ e) (Nat.le_refl _) (show ObjOk X.prog X.w _ _ _ (.frz _ (.tup ys)) from ⟨Heap.get?_push_size _ rfl, hz, its, r', IsTup.new _ _⟩)
    exact ⟨.ref h'.objs.size, _, I2, rfl, q _ _ rfl (I1.hok.fresh (Nat.le_refl _))⟩
  · obtain ⟨its, r', pl, hz⟩ := I.tuple hq
    exact call_tuple_same pl ⟨.ref p, H, I, rfl, q⟩
theorem o1_len : Op1 K (fun xs H Q => ∃ x n, xs = [x] ∧ LenV K x H n ∧ Q (.int n) H) oLen := by
  intro x dx d H Q rx e q
  cases dx with
  | list ds =>
    cases e
    obtain ⟨a, vs, rfl, ha, hva⟩ := dp_lst rx
    exact ⟨_, ds.length, rfl, .inl ⟨vs, ha, hva.len.symm⟩, q _ H (Same.refl _) (.int _)⟩
  | tuple ds =>
    cases e
    obtain ⟨a, vs, rfl, ha, hva⟩ := dp_tup rx
    exact ⟨_, ds.length, rfl, .inr ⟨vs, ha, hva.len.symm⟩, q _ H (Same.refl _) (.int _)⟩
  | str z =>
    unfold oLen at e
    dsimp only at e
    split at e
    · rename_i hc
      cases e
      rw [dp_str rx]
      exact ⟨_, z.length, rfl, ⟨by rw [sizeLine_eq]; exact hc, rfl⟩, q _ H (Same.refl _) (.int _)⟩
    · cases e
  | _ => cases e
theorem oa2I {g : Int → Int → V} {g' : Int → Int → PyData} (hg : ∀ i j H, Dp K H (g i j) (g' i j)) : OpA2 K (fun xs H Q => ∃ i j, xs = [.int i, .int j] ∧ Q (g i j) H) (oI g') := by
  intro x y dx dy d H Q rx ry e q
  cases dx with
  | int i =>
    cases dy with
    | int j =>
      cases e
      exact ⟨i, j, by rw [dp_int rx, dp_int ry], q _ H (Same.refl _) (hg i j H)⟩
    | _ => cases e
  | _ => cases e
theorem o2_min : OpA2 K (fun xs H Q => ∃ i j, xs = [.int i, .int j] ∧ Q (.int (if j < i then j else i)) H) oMin := oa2I fun _ _ _ => .int _
theorem o2_max : OpA2 K (fun xs H Q => ∃ i j, xs = [.int i, .int j] ∧ Q (.int (if j > i then j else i)) H) oMax := oa2I fun _ _ _ => .int _
theorem o1_abs : Op1 K (fun xs H Q => ∃ i, xs = [.int i] ∧ Q (.int (if i < 0 then -i else i)) H) oAbs := by
  intro x dx d H Q rx e q
  cases dx with
  | int i =>
    cases e
    exact ⟨i, by rw [dp_int rx], q _ H (Same.refl _) (.int _)⟩
  | _ => cases e
theorem o1_int : Op1 K (fun xs H Q => (∃ i, xs = [.int i] ∧ Q (.int i) H) ∨ ∃ k, xs = [.bl k] ∧ Q (.int (if k then 1 else 0)) H) oInt := by
  intro x dx d H Q rx e q
  cases dx with
  | int i =>
    cases e
    exact .inl ⟨i, by rw [dp_int rx], q _ H (Same.refl _) (.int _)⟩
  | bool b =>
    cases e
    exact .inr ⟨b, by rw [dp_bool rx], q _ H (Same.refl _) (.int _)⟩
  | _ => cases e
theorem o1_tuple : Op1 K (rTupF K) oTuple := by
  intro x dx d H Q rx e q
  cases dx with
  | list ds =>
    cases e
    obtain ⟨a, vs, rfl, ha, hva⟩ := dp_lst rx
    exact ⟨a, vs, rfl, .inl ⟨ha, fun l o hdn hl => q _ _ (sameUpd hl) (.tup (.inl ⟨o, upd_same, hdn⟩) (dpAllMono (sameUpd hl) hva))⟩⟩
  | tuple ds =>
    cases e
    obtain ⟨a, vs, rfl, ha, hva⟩ := dp_tup rx
    exact ⟨a, vs, rfl, .inr ⟨ha, q _ H (Same.refl _) rx⟩⟩
  | _ => cases e
theorem o1_list : Op1 K (fun xs H Q => ∃ p ys, xs = [.ref p] ∧ (SqL K H p ys ∨ SqT K H p ys) ∧ ∀ l, H l = none → Q (.ref l) (upd H l (.lst ys))) oList := by
  intro x dx d H Q rx e q
  cases dx with
  | list ds =>
    cases e
    obtain ⟨a, vs, rfl, ha, hva⟩ := dp_lst rx
    exact ⟨a, vs, rfl, .inl ha, fun l hl => q _ _ (sameUpd hl) (.lst (.inl (.inl upd_same)) (dpAllMono (sameUpd hl) hva))⟩
  | tuple ds =>
    cases e
    obtain ⟨a, vs, rfl, ha, hva⟩ := dp_tup rx
    exact ⟨a, vs, rfl, .inr ha, fun l hl => q _ _ (sameUpd hl) (.lst (.inl (.inl upd_same)) (dpAllMono (sameUpd hl) hva))⟩
  | _ => cases e
theorem o1_sum : Op1 K (rSum K) oSum := by
  intro x dx d H Q rx e q
  cases dx with
  | list ds =>
    obtain ⟨a, vs, rfl, ha, hva⟩ := dp_lst rx
    unfold oSum at e
    cases e1 : toInts ds with
    | none => simp only [e1] at e; cases e
    | some ns =>
      simp only [e1] at e
      cases e
      rw [dp_ints hva e1] at ha
      exact ⟨a, ns, rfl, ha, q _ H (Same.refl _) (.int _)⟩
  | _ => cases e
theorem o1_all : Op1 K (rAll K) oAll := by
  intro x dx d H Q rx e q
  cases dx with
  | list ds =>
    obtain ⟨a, vs, rfl, ha, hva⟩ := dp_lst rx
    unfold oAll at e
    cases e1 : toBools ds with
    | none => simp only [e1] at e; cases e
    | some ns =>
      simp only [e1] at e
      cases e
      rw [dp_bools hva e1] at ha
      exact ⟨a, ns, rfl, ha, q _ H (Same.refl _) (.bl _)⟩
  | _ => cases e
theorem o1_any : Op1 K (rAny K) oAny := by
  intro x dx d H Q rx e q
  cases dx with
  | list ds =>
    obtain ⟨a, vs, rfl, ha, hva⟩ := dp_lst rx
    unfold oAny at e
    cases e1 : toBools ds with
    | none => simp only [e1] at e; cases e
    | some ns =>
      simp only [e1] at e
      cases e
      rw [dp_bools hva e1] at ha
      exact ⟨a, ns, rfl, ha, q _ H (Same.refl _) (.bl _)⟩
  | _ => cases e
theorem foldl_min_le : ∀ (r : List Int) (x : Int), r.foldl min x ≤ x ∧ (∀ y ∈ r, r.foldl min x ≤ y) ∧ (r.foldl min x = x ∨ r.foldl min x ∈ r)
  | [], x => ⟨Int.le_refl _, (fun y h => by cases h), .inl rfl⟩
  | z :: r, x => by
    obtain ⟨h1, h2, h3⟩ := foldl_min_le r (min x z)
    rw [List.foldl_cons]
    refine ⟨by omega, fun y hy => ?_, ?_⟩
    · rcases List.mem_cons.mp hy with rfl | hy
      · omega
      · exact h2 y hy
    · rcases h3 with h3 | h3
      · by_cases hxz : x ≤ z
        · exact .inl (by omega)
        · exact .inr (by rw [h3]; exact List.mem_cons.mpr (.inl (by omega)))
      · exact .inr (List.mem_cons_of_mem _ h3)
theorem foldl_max_le : ∀ (r : List Int) (x : Int), x ≤ r.foldl max x ∧ (∀ y ∈ r, y ≤ r.foldl max x) ∧ (r.foldl max x = x ∨ r.foldl max x ∈ r)
  | [], x => ⟨Int.le_refl _, (fun y h => by cases h), .inl rfl⟩
  | z :: r, x => by
    obtain ⟨h1, h2, h3⟩ := foldl_max_le r (max x z)
    rw [List.foldl_cons]
    refine ⟨by omega, fun y hy => ?_, ?_⟩
    · rcases List.mem_cons.mp hy with rfl | hy
      · omega
      · exact h2 y hy
    · rcases h3 with h3 | h3
      · by_cases hxz : z ≤ x
        · exact .inl (by omega)
        · exact .inr (by rw [h3]; exact List.mem_cons.mpr (.inl (by omega)))
      · exact .inr (List.mem_cons_of_mem _ h3)
theorem minI_spec {ns : List Int} (h : ns ≠ []) : minI ns ∈ ns ∧ ∀ y ∈ ns, minI ns ≤ y := by
  cases ns with
  | nil => exact absurd rfl h
  | cons x r =>
    obtain ⟨h1, h2, h3⟩ := foldl_min_le r x
    refine ⟨?_, fun y hy => ?_⟩
    · rcases h3 with h3 | h3
      · exact List.mem_cons.mpr (.inl h3)
      · exact List.mem_cons_of_mem _ h3
    · rcases List.mem_cons.mp hy with rfl | hy
      · exact h1
      · exact h2 y hy
theorem maxI_spec {ns : List Int} (h : ns ≠ []) : maxI ns ∈ ns ∧ ∀ y ∈ ns, y ≤ maxI ns := by
  cases ns with
  | nil => exact absurd rfl h
  | cons x r =>
    obtain ⟨h1, h2, h3⟩ := foldl_max_le r x
    refine ⟨?_, fun y hy => ?_⟩
    · rcases h3 with h3 | h3
      · exact List.mem_cons.mpr (.inl h3)
      · exact List.mem_cons_of_mem _ h3
    · rcases List.mem_cons.mp hy with rfl | hy
      · exact h1
      · exact h2 y hy
theorem o1_minL : Op1 K (rMin K) oMinL := by
  intro x dx d H Q rx e q
  cases dx with
  | list ds =>
    obtain ⟨a, vs, rfl, ha, hva⟩ := dp_lst rx
    unfold oMinL at e
    cases e1 : toInts ds with
    | none => simp only [e1] at e; cases e
    | some ns =>
      simp only [e1, Option.bind_some] at e
      split at e
      · cases e
      · rename_i hne
        cases e
        rw [dp_ints hva e1] at ha
        refine ⟨a, ns, rfl, ha, List.length_pos_iff.mpr hne, fun m hm hle => ?_⟩
        obtain ⟨g1, g2⟩ := minI_spec hne
        have e2 : minI ns = m := Int.le_antisymm (g2 m hm) (hle _ g1)
        exact q _ H (Same.refl _) (by rw [e2]; exact .int _)
  | _ => cases e
theorem o1_maxL : Op1 K (rMax K) oMaxL := by
  intro x dx d H Q rx e q
  cases dx with
  | list ds =>
    obtain ⟨a, vs, rfl, ha, hva⟩ := dp_lst rx
    unfold oMaxL at e
    cases e1 : toInts ds with
    | none => simp only [e1] at e; cases e
    | some ns =>
      simp only [e1, Option.bind_some] at e
      split at e
      · cases e
      · rename_i hne
        cases e
        rw [dp_ints hva e1] at ha
        refine ⟨a, ns, rfl, ha, List.length_pos_iff.mpr hne, fun m hm hle => ?_⟩
        obtain ⟨g1, g2⟩ := maxI_spec hne
        have e2 : maxI ns = m := Int.le_antisymm (hle _ g1) (g2 m hm)
        exact q _ H (Same.refl _) (by rw [e2]; exact .int _)
  | _ => cases e
theorem insI_perm (x : Int) : ∀ l : List Int, (insI x l).Perm (x :: l)
  | [] => .refl _
  | y :: r => by
    unfold insI
    split
    · exact .refl _
    · exact ((insI_perm x r).cons y).trans (.swap x y r)
theorem insI_mem {x z : Int} {l : List Int} (h : z ∈ insI x l) : z = x ∨ z ∈ l := List.mem_cons.mp ((insI_perm x l).mem_iff.mp h)
theorem insI_rise (x : Int) : ∀ l : List Int, l.Pairwise (· ≤ ·) → (insI x l).Pairwise (· ≤ ·)
  | [], _ => by simp [insI]
  | y :: r, h => by
    rw [List.pairwise_cons] at h
    unfold insI
    split
    · rename_i hxy
      refine List.pairwise_cons.mpr ⟨fun z hz => ?_, List.pairwise_cons.mpr h⟩
      rcases List.mem_cons.mp hz with rfl | hz
      · exact hxy
      · exact Int.le_trans hxy (h.1 z hz)
    · rename_i hxy
      refine List.pairwise_cons.mpr ⟨fun z hz => ?_, insI_rise x r h.2⟩
      rcases insI_mem hz with rfl | hz
      · omega
      · exact h.1 z hz
theorem sortI_perm : ∀ l : List Int, (sortI l).Perm l
  | [] => .refl _
  | x :: r => (insI_perm x _).trans ((sortI_perm r).cons x)
theorem sortI_rise : ∀ l : List Int, (sortI l).Pairwise (· ≤ ·)
  | [] => .nil
  | x :: r => insI_rise x _ (sortI_rise r)
theorem rise_one : ∀ {l m : List Int}, l.Perm m → l.Pairwise (· ≤ ·) → m.Pairwise (· ≤ ·) → l = m
  | [], m, p, _, _ => (List.nil_perm.mp p).symm
  | x :: r, [], p, _, _ => by simpa using p.length_eq
  | x :: r, y :: t, p, h, g => by
    rw [List.pairwise_cons] at h g
    have hx : x ∈ y :: t := p.mem_iff.mp List.mem_cons_self
    have hy : y ∈ x :: r := p.mem_iff.mpr List.mem_cons_self
    have e : x = y := by
      rcases List.mem_cons.mp hx with e | hx
      · exact e
      · rcases List.mem_cons.mp hy with e | hy
        · exact e.symm
        · exact Int.le_antisymm (h.1 y hy) (g.1 x hx)
    subst e
    rw [rise_one (List.Perm.cons_inv p) h.2 g.2]
/-- sorted of a tuple of whole numbers -/
theorem sortedTup {prog : Program} {w : World} {A : Around} {E : Value → Shared → Prop} {s : Shared} {Q : Value → Shared → Prop} {it : Addr} {vs : List Value} {ns : List Int} (ht : IsTup s.heap it vs.toArray) (hI : IntsAre vs ns) (h64 : vs.length < 64)
    (k : ∀ (g g2 : Heap) (out : Array Value) (e : Nat) (ns' : List Int), (∀ b o, s.heap.get? b = some o → g.get? b = some o) → (∀ b o, g.get? b = some o → g2.get? b = some o) → g2.get? g.objs.size = some (seqObj "list" out e) → IntsAre out.toList ns' → ns'.Perm ns → ns'.Pairwise (· ≤ ·) → Q (.ref g.objs.size) { s with heap := g2 }) :
    wpAny (model prog w) A (call (.builtin "sorted") [.ref it]) Q E s := by
  obtain ⟨o, ho, hc, n, hd⟩ := ht
  refine Calls.call_function_entry kind_sorted plain_sorted entry_sorted (args_sorted1 _) ?_
  unfold Builtin.«sorted»
  refine wpAny_bind (m := checkCount "sorted" 1 1 _) (wpAny_pure (wpAny_bind (wpAny_collect_seq it (.inr rfl) ho hc hd (fun g hg => ?_) (by rw [List.size_toArray]; exact small64 h64))))
  have e0 : vs.toArray.toList = vs := rfl
  rw [e0]
  have hp : (g.push (seqObj "list" vs.toArray 0)).get? g.objs.size = some (seqObj "list" vs.toArray 0) := Heap.get?_push_size _ rfl
  refine wpAny_bind (wpAny_newList ?_)
  show wpAny _ _ _ _ _ { s with heap := g.push (seqObj "list" vs.toArray 0) }
  refine wpAny_bind (wpAny_holding (wpAny_call_entry slot_list_sort ⟨_, hp, rfl⟩ entry_list_sort (list_sort_tree hp hI h64 fun out ns' a1 a2 a3 => ⟨_, rfl, ?_⟩) (args_list_sort _)))
  obtain ⟨e, he⟩ := sortedHeap_at (out := out) hp
  refine wpAny_pure ⟨_, rfl, k g _ out e ns' hg (fun b ob hb => ?_) he a1 a2 a3⟩
  have hlt := Heap.lt_size hb
  rw [sortedHeap_old (Nat.ne_of_lt hlt) (by rw [size_push']; exact Nat.lt_succ_of_lt hlt), Heap.get?_push_ne _ _ _ (Nat.ne_of_lt hlt)]
  exact hb
def rSortedQ (K : PySem.W.Frag) : List V → Hp → VK → Prop := fun vs H Q => ∃ (a : Addr) (ns : List Int), vs = [V.ref a] ∧ (SqL K H a (ns.map V.int) ∨ SqT K H a (ns.map V.int)) ∧ ns.length < 64 ∧
  ∀ (ns' : List Int) (p : Addr), ns'.Perm ns → ns'.Pairwise (· ≤ ·) → H p = none → Q (.ref p) (upd H p (.lst (ns'.map V.int)))
theorem cr_sortedQ {X : Cx} : CallR X (.builtin "sorted") (rSortedQ X.K) := by
  intro pins s σ H vs us Q I r h
  obtain ⟨a, ns, rfl, hs | hs, h64, q⟩ := h
  · exact cr_sorted pins s σ H _ us Q I r ⟨a, ns, rfl, hs, h64, q⟩
  · obtain ⟨its, rv, hl, _⟩ := I.tuple hs
    rw [Vals.ref1 r]
    have hi := rv.ints
    refine sortedTup hl hi (by rw [hi.length]; exact h64) fun g g2 out e ns' hg hg2 he h1 h2 h3 => ?_
    have hlen : (ns'.map V.int).length ≤ sizeLine := by rw [List.length_map, h2.length_eq]; exact small64 h64
    have I1 : Inv X pins σ H { s with heap := g } := I.kept (t' := s.toks) hg
    exact ⟨.ref _, upd H g.objs.size (.lst (ns'.map V.int)), I1.laid (t' := s.toks) hg2 (Nat.le_refl _) ⟨hlen, out.toList, e, vals_of_ints h1, he⟩, rfl, q ns' _ h2 h3 (I1.hok.fresh (Nat.le_refl _))⟩
theorem o1_sorted : Op1 K (rSortedQ K) oSorted := by
  intro x dx d H Q rx e q
  cases dx with
  | list ds =>
    obtain ⟨a, vs, rfl, ha, hva⟩ := dp_lst rx
    unfold oSorted at e
    cases e1 : toInts ds with
    | none => simp only [e1] at e; cases e
    | some ns =>
      simp only [e1, Option.bind_some] at e
      split at e
      · rename_i h64
        cases e
        rw [dp_ints hva e1] at ha
        refine ⟨a, ns, rfl, .inl ha, h64, fun ns' p pm rs hp => ?_⟩
        have e2 : ns' = sortI ns := rise_one (pm.trans (sortI_perm ns).symm) rs (sortI_rise ns)
        subst e2
        exact q _ _ (sameUpd hp) (.lst (.inl (.inl upd_same)) (of_ints _))
      · cases e
  | tuple ds =>
    obtain ⟨a, vs, rfl, ha, hva⟩ := dp_tup rx
    unfold oSorted at e
    cases e1 : toInts ds with
    | none => simp only [e1] at e; cases e
    | some ns =>
      simp only [e1, Option.bind_some] at e
      split at e
      · rename_i h64
        cases e
        rw [dp_ints hva e1] at ha
        refine ⟨a, ns, rfl, .inr ha, h64, fun ns' p pm rs hp => ?_⟩
        have e2 : ns' = sortI ns := rise_one (pm.trans (sortI_perm ns).symm) rs (sortI_rise ns)
        subst e2
        exact q _ _ (sameUpd hp) (.lst (.inl (.inl upd_same)) (of_ints _))
      · cases e
  | _ => cases e
end
section
variable {a b : Expr} {fa fb : Ex}
theorem d_len (hm : X.mg "len" = none) (ha : DE X W a fa) (hg : Gl X "len" := by rfl) (hs : starEach [a] X.env = (false, eval a X.env) :: starEach [] X.env := by rfl) (hpl : (backTo pos (starEach [] X.env)).any (·.1) = false := by rfl) : DE X W (.Call (.Name "len" p) [a] [] pos) (eCall1 oLen fa) :=
  d_b1 call_len o1_len hm ha hg (hs := hs) (hpl := hpl)
theorem d_min2 (hc : X.calm = true) (hm : X.mg "min" = none) (ha : DE X W a fa) (hb : DE X W b fb) (hg : Gl X "min" := by rfl) (hs : starEach [a, b] X.env = (false, eval a X.env) :: starEach [b] X.env := by rfl) (hs2 : starEach [b] X.env = (false, eval b X.env) :: starEach [] X.env := by rfl) (hpl : (backTo pos (starEach [b] X.env)).any (·.1) = false := by rfl) :
    DE X W (.Call (.Name "min" p) [a, b] [] pos) (eCall2 oMin fa fb) := d_b2 (call_min2 hc) o2_min hm ha hb hg (hs := hs) (hs2 := hs2) (hpl := hpl)
theorem d_max2 (hc : X.calm = true) (hm : X.mg "max" = none) (ha : DE X W a fa) (hb : DE X W b fb) (hg : Gl X "max" := by rfl) (hs : starEach [a, b] X.env = (false, eval a X.env) :: starEach [b] X.env := by rfl) (hs2 : starEach [b] X.env = (false, eval b X.env) :: starEach [] X.env := by rfl) (hpl : (backTo pos (starEach [b] X.env)).any (·.1) = false := by rfl) :
    DE X W (.Call (.Name "max" p) [a, b] [] pos) (eCall2 oMax fa fb) := d_b2 (call_max2 hc) o2_max hm ha hb hg (hs := hs) (hs2 := hs2) (hpl := hpl)
theorem d_abs (hm : X.mg "abs" = none) (ha : DE X W a fa) (hg : Gl X "abs" := by rfl) (hs : starEach [a] X.env = (false, eval a X.env) :: starEach [] X.env := by rfl) (hpl : (backTo pos (starEach [] X.env)).any (·.1) = false := by rfl) : DE X W (.Call (.Name "abs" p) [a] [] pos) (eCall1 oAbs fa) := d_b1 call_abs o1_abs hm ha hg (hs := hs) (hpl := hpl)
theorem d_intc (hm : X.mg "int" = none) (ha : DE X W a fa) (hg : Gl X "int" := by rfl) (hs : starEach [a] X.env = (false, eval a X.env) :: starEach [] X.env := by rfl) (hpl : (backTo pos (starEach [] X.env)).any (·.1) = false := by rfl) : DE X W (.Call (.Name "int" p) [a] [] pos) (eCall1 oInt fa) := d_t1 call_int1 o1_int hm ha hg (hs := hs) (hpl := hpl)
theorem d_tupc (hm : X.mg "tuple" = none) (ha : DE X W a fa) (hg : Gl X "tuple" := by rfl) (hs : starEach [a] X.env = (false, eval a X.env) :: starEach [] X.env := by rfl) (hpl : (backTo pos (starEach [] X.env)).any (·.1) = false := by rfl) : DE X W (.Call (.Name "tuple" p) [a] [] pos) (eCall1 oTuple fa) := d_t1 call_tupF o1_tuple hm ha hg (hs := hs) (hpl := hpl)
theorem d_lstc (hm : X.mg "list" = none) (ha : DE X W a fa) (hg : Gl X "list" := by rfl) (hs : starEach [a] X.env = (false, eval a X.env) :: starEach [] X.env := by rfl) (hpl : (backTo pos (starEach [] X.env)).any (·.1) = false := by rfl) : DE X W (.Call (.Name "list" p) [a] [] pos) (eCall1 oList fa) := d_t1 call_list_of o1_list hm ha hg (hs := hs) (hpl := hpl)
theorem d_sum (hc : X.calm = true) (hm : X.mg "sum" = none) (ha : DE X W a fa) (hg : Gl X "sum" := by rfl) (hs : starEach [a] X.env = (false, eval a X.env) :: starEach [] X.env := by rfl) (hpl : (backTo pos (starEach [] X.env)).any (·.1) = false := by rfl) : DE X W (.Call (.Name "sum" p) [a] [] pos) (eCall1 oSum fa) := d_b1 (cr_sum hc) o1_sum hm ha hg (hs := hs) (hpl := hpl)
theorem d_all (hc : X.calm = true) (hm : X.mg "all" = none) (ha : DE X W a fa) (hg : Gl X "all" := by rfl) (hs : starEach [a] X.env = (false, eval a X.env) :: starEach [] X.env := by rfl) (hpl : (backTo pos (starEach [] X.env)).any (·.1) = false := by rfl) : DE X W (.Call (.Name "all" p) [a] [] pos) (eCall1 oAll fa) := d_b1 (cr_all hc) o1_all hm ha hg (hs := hs) (hpl := hpl)
theorem d_any (hc : X.calm = true) (hm : X.mg "any" = none) (ha : DE X W a fa) (hg : Gl X "any" := by rfl) (hs : starEach [a] X.env = (false, eval a X.env) :: starEach [] X.env := by rfl) (hpl : (backTo pos (starEach [] X.env)).any (·.1) = false := by rfl) : DE X W (.Call (.Name "any" p) [a] [] pos) (eCall1 oAny fa) := d_b1 (cr_any hc) o1_any hm ha hg (hs := hs) (hpl := hpl)
theorem d_minL (hc : X.calm = true) (hm : X.mg "min" = none) (ha : DE X W a fa) (hg : Gl X "min" := by rfl) (hs : starEach [a] X.env = (false, eval a X.env) :: starEach [] X.env := by rfl) (hpl : (backTo pos (starEach [] X.env)).any (·.1) = false := by rfl) : DE X W (.Call (.Name "min" p) [a] [] pos) (eCall1 oMinL fa) := d_b1 (cr_min hc) o1_minL hm ha hg (hs := hs) (hpl := hpl)
theorem d_maxL (hc : X.calm = true) (hm : X.mg "max" = none) (ha : DE X W a fa) (hg : Gl X "max" := by rfl) (hs : starEach [a] X.env = (false, eval a X.env) :: starEach [] X.env := by rfl) (hpl : (backTo pos (starEach [] X.env)).any (·.1) = false := by rfl) : DE X W (.Call (.Name "max" p) [a] [] pos) (eCall1 oMaxL fa) := d_b1 (cr_max hc) o1_maxL hm ha hg (hs := hs) (hpl := hpl)
theorem d_sorted (hm : X.mg "sorted" = none) (ha : DE X W a fa) (hg : Gl X "sorted" := by rfl) (hs : starEach [a] X.env = (false, eval a X.env) :: starEach [] X.env := by rfl) (hpl : (backTo pos (starEach [] X.env)).any (·.1) = false := by rfl) : DE X W (.Call (.Name "sorted" p) [a] [] pos) (eCall1 oSorted fa) := d_b1 cr_sortedQ o1_sorted hm ha hg (hs := hs) (hpl := hpl)
end
end
end L2.DL
set_option maxHeartbeats 2000000
namespace L2.DL
open PySem PySem.Spec PyProof.Rows

/-! ### some tracked lists set aside: an expression runs without them, they stay as they are -/
def cut (A : List Addr) (H : Hp) : Hp := fun b => if b ∈ A then none else H b
def glue (A : List Addr) (H H' : Hp) : Hp := fun b => if b ∈ A then H b else H' b
theorem cut_in {A : List Addr} {H : Hp} {b : Addr} (h : b ∈ A) : cut A H b = none := if_pos h
theorem cut_out {A : List Addr} {H : Hp} {b : Addr} (h : b ∉ A) : cut A H b = H b := if_neg h
theorem glue_in {A : List Addr} {H H' : Hp} {b : Addr} (h : b ∈ A) : glue A H H' b = H b := if_pos h
theorem glue_out {A : List Addr} {H H' : Hp} {b : Addr} (h : b ∉ A) : glue A H H' b = H' b := if_neg h
theorem cut_some {A : List Addr} {H : Hp} {b : Addr} {o : HO} (h : cut A H b = some o) : b ∉ A ∧ H b = some o := by
  unfold cut at h
  split at h
  · cases h
  · exact ⟨by assumption, h⟩
/-- a list or a dict -/
inductive Own1 : HO → Prop
  | lst (xs : List V) : Own1 (.lst xs)
  | dK (kvs : List (Key × V)) : Own1 (.dK kvs)
/-- the lists, dicts at A are tracked -/
def Lsts (A : List Addr) (H : Hp) : Prop := ∀ a ∈ A, ∃ o, H a = some o ∧ Own1 o
theorem cutSame {A : List Addr} {H : Hp} : Same (cut A H) H := fun b o e => (cut_some e).2
theorem cutMono {A : List Addr} {H H' : Hp} (s : Same H H') : Same (cut A H) (cut A H') := fun b o e => by
  obtain ⟨h1, h2⟩ := cut_some e
  rw [cut_out h1]
  exact s b o h2
theorem glueCut {A : List Addr} {H H' : Hp} (n : ∀ a ∈ A, H' a = none) : cut A (glue A H H') = H' := by
  funext b
  by_cases h : b ∈ A
  · rw [cut_in h, n b h]
  · rw [cut_out h, glue_out h]
theorem glueSame {A : List Addr} {H H' : Hp} (s : Same (cut A H) H') : Same H (glue A H H') := fun b o e => by
  by_cases h : b ∈ A
  · rw [glue_in h]; exact e
  · rw [glue_out h]; exact s b o (by rw [cut_out h]; exact e)
theorem Lsts.glue {A : List Addr} {H H' : Hp} (h : Lsts A H) : Lsts A (glue A H H') := fun a ha => by
  rw [glue_in ha]; exact h a ha
theorem Own1.obj {P : Program} {w : World} {H : Hp} {h : Heap} {a : Addr} (hok : HOk P w H h) (hA : ∃ o, H a = some o ∧ Own1 o) : ∃ o, h.get? a = some o ∧ ∀ v, o.data ≠ .cell v := by
  obtain ⟨o, e, k⟩ := hA
  cases k with
  | lst xs =>
    obtain ⟨_, its, n, _, q⟩ := hok a _ e
    exact ⟨_, q, fun v z => by cases z⟩
  | dK kvs =>
    obtain ⟨_, _, vs, _, ob, es, ep, q, _, d, _⟩ := hok a _ e
    exact ⟨_, q, fun v z => by rw [d] at z; cases z⟩
def pinA (A : List Addr) (h : Heap) : List (Addr × Obj) := pinsAt A h
section
variable {X : Cx} {pins : List (Addr × Obj)} {σ : St} {H H' : Hp} {s s' : Shared} {A : List Addr}
theorem Inv.setAside (I : Inv X pins σ H s) (hA : Lsts A H) : Inv X (pins ++ pinA A s.heap) σ (cut A H) s := by
  have obj : ∀ a ∈ A, ∃ o, s.heap.get? a = some o ∧ ∀ v, o.data ≠ .cell v := fun a ha => Own1.obj I.hok (hA a ha)
  have tracked : ∀ a ∈ A, H a ≠ none := fun a ha z => by
    obtain ⟨o, e, _⟩ := hA a ha
    rw [e] at z; cases z
  have nL : ∀ {b o}, H b = some o → ¬ Own1 o → b ∉ A := fun {b o} e n ha => by
    obtain ⟨o', e', h⟩ := hA b ha
    rw [e] at e'; cases e'
    exact n h
  refine ⟨I.ok, I.os, I.bare, ⟨I.base.keep, I.base.slot, fun b o e n hx => ?_, I.base.there, fun b xs e => ?_, fun b o u e => ?_, fun b ps e => ?_⟩, I.loc, I.cell, ?_, fun x c e => ?_, fun p hp => ?_, fun a o e => ?_, I.len⟩
  · have z := I.base.free b o e n hx
    by_cases h : b ∈ A
    · exact cut_in h
    · rw [cut_out h]; exact z
  · have z := I.base.tups b xs e
    rw [cut_out (nL z (fun q => nomatch q))]; exact z
  · have z := I.base.frzs b o u e
    rw [cut_out (nL z (fun q => nomatch q))]; exact z
  · obtain ⟨more, z⟩ := I.base.tbls b ps e
    exact ⟨more, by rw [cut_out (nL z (fun q => nomatch q))]; exact z⟩
  · by_cases h : X.env.locals ∈ A
    · exact cut_in h
    · rw [cut_out h]; exact I.free
  · by_cases h : c ∈ A
    · exact cut_in h
    · rw [cut_out h]; exact I.freeC x c e
  · rw [← List.append_assoc] at hp
    rcases List.mem_append.mp hp with hp | hp
    · obtain ⟨e, n, ne, nf, d⟩ := I.pin p hp
      refine ⟨e, ?_, ne, nf, d⟩
      by_cases h : p.1 ∈ A
      · exact cut_in h
      · rw [cut_out h]; exact n
    · obtain ⟨ha, e⟩ := of_pinsAt hp
      obtain ⟨ob, q, nc⟩ := obj p.1 ha
      refine ⟨e, cut_in ha, fun z => tracked p.1 ha (by rw [z]; exact I.free), fun hf => ?_, fun v z => ?_⟩
      · obtain ⟨_, o, ho, _⟩ := I.ok.funs.mem hf
        exact tracked p.1 ha (I.base.free p.1 o ho (I.ok.frf p.1 hf) fun z => I.ok.exfs p.1 z hf)
      · rw [e] at q
        exact nc v (Option.some.inj q ▸ z)
  · obtain ⟨h1, h2⟩ := cut_some e
    exact (I.hok a o h2).stay (fun b u _ q => q) (fun b q => by rw [cut_out (nL q (fun z => nomatch z))]; exact q) fun b xs q => by rw [cut_out (nL q (fun z => nomatch z))]; exact q
theorem Inv.putBack {σ' : St} (I : Inv X pins σ H s) (hA : Lsts A H) (J : Inv X (pins ++ pinA A s.heap) σ' H' s') : (∀ a ∈ A, H' a = none) ∧ Inv X pins σ' (glue A H H') s' := by
  have obj : ∀ a ∈ A, ∃ o, s.heap.get? a = some o ∧ s'.heap.get? a = some o ∧ H' a = none := fun a ha => by
    obtain ⟨ob, q, _⟩ := Own1.obj I.hok (hA a ha)
    obtain ⟨z1, z2, _⟩ := J.pin (a, _) (List.mem_append_right _ (List.mem_append_right _ (mem_pinsAt ha q)))
    exact ⟨_, q, z1, z2⟩
  have none' : ∀ a ∈ A, H' a = none := fun a ha => let ⟨_, _, _, z⟩ := obj a ha; z
  have tracked : ∀ a ∈ A, H a ≠ none := fun a ha z => by
    obtain ⟨o, e, _⟩ := hA a ha
    rw [e] at z; cases z
  have out : ∀ {b o}, H' b = some o → b ∉ A := fun {b o} e ha => by rw [none' b ha] at e; cases e
  refine ⟨none', ⟨J.ok, J.os, J.bare, ⟨J.base.keep, J.base.slot, fun b o e n hx => ?_, J.base.there, fun b xs e => ?_, fun b o u e => ?_, fun b ps e => ?_⟩, J.loc, J.cell, ?_, fun x c e => ?_, fun p hp => ?_, fun a o e => ?_, J.len⟩⟩
  · have z := I.base.free b o e n hx
    by_cases h : b ∈ A
    · exact absurd z (tracked b h)
    · rw [glue_out h]; exact J.base.free b o e n hx
  · have z := J.base.tups b xs e
    rw [glue_out (out z)]; exact z
  · have z := J.base.frzs b o u e
    rw [glue_out (out z)]; exact z
  · obtain ⟨more, z⟩ := J.base.tbls b ps e
    exact ⟨more, by rw [glue_out (out z)]; exact z⟩
  · by_cases h : X.env.locals ∈ A
    · exact absurd I.free (tracked _ h)
    · rw [glue_out h]; exact J.free
  · by_cases h : c ∈ A
    · exact absurd (I.freeC x c e) (tracked _ h)
    · rw [glue_out h]; exact J.freeC x c e
  · have hp' : p ∈ X.pn ++ (pins ++ pinA A s.heap) := by
      rcases List.mem_append.mp hp with h | h
      · exact List.mem_append_left _ h
      · exact List.mem_append_right _ (List.mem_append_left _ h)
    obtain ⟨e, n, ne, nf, d⟩ := J.pin p hp'
    refine ⟨e, ?_, ne, nf, d⟩
    by_cases h : p.1 ∈ A
    · exact absurd (I.pin p hp).2.1 (tracked _ h)
    · rw [glue_out h]; exact n
  · by_cases h : a ∈ A
    · rw [glue_in h] at e
      obtain ⟨o1, e', h1⟩ := hA a h
      rw [e'] at e
      cases e
      obtain ⟨o, q1, q2, _⟩ := obj a h
      cases h1 with
      | lst xs =>
        obtain ⟨z, its, n, r, q⟩ := I.hok a _ e'
        rw [q1] at q; cases q
        exact ⟨z, its, n, r, q2⟩
      | dK kvs =>
        obtain ⟨z, y, vs, r, ob, es, ep, q, c⟩ := I.hok a _ e'
        rw [q1] at q; cases q
        exact ⟨z, y, vs, r, o, es, ep, q2, c⟩
    · rw [glue_out h] at e
      exact (J.hok a o e).stay (fun b u _ q => q) (fun b q => by rw [glue_out (out q)]; exact q) fun b xs q => by rw [glue_out (out q)]; exact q
end
def tFr (t : TE) : TE := fun σ H Q => ∃ A, Lsts A H ∧ t σ (cut A H) fun v H' => (∀ a ∈ A, H' a = none) → Q v (glue A H H')
theorem pe_frame {X : Cx} {e : Expr} {t : TE} (h : PE X e t) : PE X e (tFr t) := ⟨fun pins s σ H Q I ⟨A, hA, q⟩ =>
  thn (h.run _ s σ _ _ (Inv.setAside I hA) q) fun u s' ⟨v, H', J, r, q'⟩ => by
    obtain ⟨n, K⟩ := Inv.putBack I hA J
    exact ⟨v, _, K, r, q' n⟩⟩
def Ends.fr (A : List Addr) (H : Hp) (D : Ends) : Ends := { nx := fun σ' H' => (∀ a ∈ A, H' a = none) → D.nx σ' (glue A H H'), rt := fun v H' => (∀ a ∈ A, H' a = none) → D.rt v (glue A H H'), bk := fun σ' H' => (∀ a ∈ A, H' a = none) → D.bk σ' (glue A H H'), ct := fun σ' H' => (∀ a ∈ A, H' a = none) → D.ct σ' (glue A H H') }
def tFrS (t : TS) : TS := fun D σ H => ∃ A, Lsts A H ∧ t (Ends.fr A H D) σ (cut A H)
theorem ps_frame {X : Cx} {st : Stmt} {t : TS} (h : PS X st t) : PS X st (tFrS t) := ⟨fun pins s σ H D I ⟨A, hA, q⟩ =>
  thn (h.run _ s σ _ _ (Inv.setAside I hA) q) fun f s' hs => by
    cases f with
    | next =>
      obtain ⟨σ', H', J, q'⟩ := hs
      obtain ⟨n, K⟩ := Inv.putBack I hA J
      exact ⟨σ', _, K, q' n⟩
    | brk =>
      obtain ⟨σ', H', J, q'⟩ := hs
      obtain ⟨n, K⟩ := Inv.putBack I hA J
      exact ⟨σ', _, K, q' n⟩
    | cont =>
      obtain ⟨σ', H', J, q'⟩ := hs
      obtain ⟨n, K⟩ := Inv.putBack I hA J
      exact ⟨σ', _, K, q' n⟩
    | ret u =>
      obtain ⟨v, σ', H', J, r, q'⟩ := hs
      obtain ⟨n, K⟩ := Inv.putBack I hA J
      exact ⟨v, σ', _, K, r, q' n⟩⟩
def tFrT (t : TT) : TT := fun σ H Q => ∃ A, Lsts A H ∧ t σ (cut A H) fun v H' => (∀ a ∈ A, H' a = none) → Q v (glue A H H')
def tFrI (t : TI) : TI := fun σ H R => ∃ A, Lsts A H ∧ t σ (cut A H) fun J H' => (∀ a ∈ A, H' a = none) → R J (glue A H H')
theorem pi_frame {X : Cx} {tg e : Expr} {t : TI} (h : PI X tg e t) : PI X tg e (tFrI t) := ⟨fun pins s σ H R I ⟨A, hA, q⟩ =>
  thn (h.run _ s σ _ _ (Inv.setAside I hA) q) fun u s1 h1 => thn h1 fun itv s' ⟨it, fp, tn, J, H', e, I2, T, st, f2, r⟩ => by
    obtain ⟨n, K⟩ := Inv.putBack I hA I2
    refine ⟨it, fp, tn, J, _, e, K, T, st, fun b hb => ?_, r n⟩
    obtain ⟨z0, z1, z2, z3, z4, z5⟩ := f2 b hb
    refine ⟨?_, z1, z2, z3, z4, fun p hp => z5 p ?_⟩
    · have hbA : b ∉ A := fun ha => by
        obtain ⟨ob, q, _⟩ := Own1.obj I.hok (hA b ha)
        exact z5 (b, _) (List.mem_append_right _ (List.mem_append_right _ (mem_pinsAt ha q))) rfl
      rw [glue_out hbA]; exact z0
    · rcases List.mem_append.mp hp with h | h
      · exact List.mem_append_left _ h
      · exact List.mem_append_right _ (List.mem_append_left _ h)⟩

/-! ### isinstance -/
def isaInt : PyData → Option PyData
  | .int _ => some (.bool true)
  | .bool _ => some (.bool true)
  | .dict _ => none
  | _ => some (.bool false)
def isaBool : PyData → Option PyData
  | .bool _ => some (.bool true)
  | .dict _ => none
  | _ => some (.bool false)
def isaTuple : PyData → Option PyData
  | .tuple _ => some (.bool true)
  | .dict _ => none
  | _ => some (.bool false)
def isaList : PyData → Option PyData
  | .list _ => some (.bool true)
  | .dict _ => none
  | _ => some (.bool false)
def isaStr : PyData → Option PyData
  | .str _ => some (.bool true)
  | .dict _ => none
  | _ => some (.bool false)
def tyName : PyData → String
  | .none => "NoneType"
  | .bool _ => "bool"
  | .int _ => "int"
  | .str _ => "str"
  | .list _ => "list"
  | .tuple _ => "tuple"
  | .dict _ => "dict"
theorem dp_ty {K : PySem.W.Frag} {H : Hp} {v : V} {d : PyData} (h : Dp K H v d) (hn : ∀ ds, d ≠ .dict ds) : TyX K H v (.type (tyName d)) := by
  cases h with
  | dic _ _ => exact absurd rfl (hn _)
  | ins _ _ _ => exact absurd rfl (hn _)
  | non => exact .base .non
  | bl b => exact .base (.bl b)
  | int i => exact .base (.int i)
  | str x => exact .base (.str x)
  | lst hs ha =>
    rcases hs with (h | ⟨o, h⟩) | ⟨o, its, n, h, c, _⟩
    · exact .base (.lst h)
    · exact .base (.frz h)
    · exact .kList h c
  | tup hs ha =>
    rcases hs with ⟨o, h, _⟩ | ⟨o, its, n, h, c, _⟩
    · exact .fTuple h
    · exact .kTuple h c
section
variable {X : Cx} {W : WX} {a : Expr} {fa : Ex} {p p2 pos : Pos}
theorem d_isa {T : Str} {t : String} {op : PyData → Option PyData} (hnd : ∀ ds, op (.dict ds) = none) (hop : ∀ d b, op d = some (.bool b) → kitB (tyName d) t = some b) (hb : ∀ d r, op d = some r → ∃ b, r = .bool b) (hm : X.mg "isinstance" = none) (hm2 : X.mg T = none) (hv : bootBuiltins T = some (.type t)) (ha : DE X W a fa) (hg : Gl X "isinstance") (hg2 : Gl X T) (hn : T ≠ "__name__") (hd : (T == ("__debug__" : Str)) = false)
    (hs : starEach [a, .Name T p2] X.env = (false, eval a X.env) :: starEach [.Name T p2] X.env) (hs2 : starEach [.Name T p2] X.env = (false, eval (.Name T p2) X.env) :: starEach [] X.env) (hpl : (backTo pos (starEach [.Name T p2] X.env)).any (·.1) = false) :
    DE X W (.Call (.Name "isinstance" p) [a, .Name T p2] [] pos) (eCall1 op fa) := by
  refine peImp (pe_callB call_isi hg hm (by decide +kernel) (pa_cons ha (pa_cons (pe_bltn (v := .ty t) hg2 hm2 hv rfl hn hd) pa_nil hs2) hs) (he := hs) (hpl := hpl)) fun σ H Q h => ?_
  obtain ⟨ρ, hρ, h⟩ := h
  refine ⟨ρ, hρ, (Post.bind h).imp fun v H1 _ ⟨dx, _, s1, rx, h1⟩ => ?_⟩
  cases e : op dx with
  | none => rw [e] at h1; exact h1.elim
  | some d =>
    rw [e] at h1
    obtain ⟨b, rfl⟩ := hb _ _ e
    exact ⟨v, .ty t, _, _, b, rfl, .ty t, dp_ty rx (fun ds z => by rw [z, hnd] at e; cases e), kit_ty (hop dx b e), h1 _ H1 (Same.refl _) (.bl _)⟩
theorem d_isInt (hm : X.mg "isinstance" = none) (hm2 : X.mg "int" = none) (ha : DE X W a fa) (hg : Gl X "isinstance" := by rfl) (hg2 : Gl X "int" := by rfl)
    (hs : starEach [a, .Name "int" p2] X.env = (false, eval a X.env) :: starEach [.Name "int" p2] X.env := by rfl) (hs2 : starEach [.Name "int" p2] X.env = (false, eval (.Name "int" p2) X.env) :: starEach [] X.env := by rfl) (hpl : (backTo pos (starEach [.Name "int" p2] X.env)).any (·.1) = false := by rfl) :
    DE X W (.Call (.Name "isinstance" p) [a, .Name "int" p2] [] pos) (eCall1 isaInt fa) :=
  d_isa (t := "int") (fun _ => rfl) (fun d b e => by cases d <;> cases e <;> (simp only [tyName]; decide +kernel)) (fun d r e => by cases d <;> cases e <;> exact ⟨_, rfl⟩) hm hm2 (by decide +kernel) ha hg hg2 (by decide) (by decide) hs hs2 hpl
theorem d_isBool (hm : X.mg "isinstance" = none) (hm2 : X.mg "bool" = none) (ha : DE X W a fa) (hg : Gl X "isinstance" := by rfl) (hg2 : Gl X "bool" := by rfl)
    (hs : starEach [a, .Name "bool" p2] X.env = (false, eval a X.env) :: starEach [.Name "bool" p2] X.env := by rfl) (hs2 : starEach [.Name "bool" p2] X.env = (false, eval (.Name "bool" p2) X.env) :: starEach [] X.env := by rfl) (hpl : (backTo pos (starEach [.Name "bool" p2] X.env)).any (·.1) = false := by rfl) :
    DE X W (.Call (.Name "isinstance" p) [a, .Name "bool" p2] [] pos) (eCall1 isaBool fa) :=
  d_isa (t := "bool") (fun _ => rfl) (fun d b e => by cases d <;> cases e <;> (simp only [tyName]; decide +kernel)) (fun d r e => by cases d <;> cases e <;> exact ⟨_, rfl⟩) hm hm2 (by decide +kernel) ha hg hg2 (by decide) (by decide) hs hs2 hpl
theorem d_isTuple (hm : X.mg "isinstance" = none) (hm2 : X.mg "tuple" = none) (ha : DE X W a fa) (hg : Gl X "isinstance" := by rfl) (hg2 : Gl X "tuple" := by rfl)
    (hs : starEach [a, .Name "tuple" p2] X.env = (false, eval a X.env) :: starEach [.Name "tuple" p2] X.env := by rfl) (hs2 : starEach [.Name "tuple" p2] X.env = (false, eval (.Name "tuple" p2) X.env) :: starEach [] X.env := by rfl) (hpl : (backTo pos (starEach [.Name "tuple" p2] X.env)).any (·.1) = false := by rfl) :
    DE X W (.Call (.Name "isinstance" p) [a, .Name "tuple" p2] [] pos) (eCall1 isaTuple fa) :=
  d_isa (t := "tuple") (fun _ => rfl) (fun d b e => by cases d <;> cases e <;> (simp only [tyName]; decide +kernel)) (fun d r e => by cases d <;> cases e <;> exact ⟨_, rfl⟩) hm hm2 (by decide +kernel) ha hg hg2 (by decide) (by decide) hs hs2 hpl
theorem d_isList (hm : X.mg "isinstance" = none) (hm2 : X.mg "list" = none) (ha : DE X W a fa) (hg : Gl X "isinstance" := by rfl) (hg2 : Gl X "list" := by rfl)
    (hs : starEach [a, .Name "list" p2] X.env = (false, eval a X.env) :: starEach [.Name "list" p2] X.env := by rfl) (hs2 : starEach [.Name "list" p2] X.env = (false, eval (.Name "list" p2) X.env) :: starEach [] X.env := by rfl) (hpl : (backTo pos (starEach [.Name "list" p2] X.env)).any (·.1) = false := by rfl) :
    DE X W (.Call (.Name "isinstance" p) [a, .Name "list" p2] [] pos) (eCall1 isaList fa) :=
  d_isa (t := "list") (fun _ => rfl) (fun d b e => by cases d <;> cases e <;> (simp only [tyName]; decide +kernel)) (fun d r e => by cases d <;> cases e <;> exact ⟨_, rfl⟩) hm hm2 (by decide +kernel) ha hg hg2 (by decide) (by decide) hs hs2 hpl
theorem d_isStr (hm : X.mg "isinstance" = none) (hm2 : X.mg "str" = none) (ha : DE X W a fa) (hg : Gl X "isinstance" := by rfl) (hg2 : Gl X "str" := by rfl)
    (hs : starEach [a, .Name "str" p2] X.env = (false, eval a X.env) :: starEach [.Name "str" p2] X.env := by rfl) (hs2 : starEach [.Name "str" p2] X.env = (false, eval (.Name "str" p2) X.env) :: starEach [] X.env := by rfl) (hpl : (backTo pos (starEach [.Name "str" p2] X.env)).any (·.1) = false := by rfl) :
    DE X W (.Call (.Name "isinstance" p) [a, .Name "str" p2] [] pos) (eCall1 isaStr fa) :=
  d_isa (t := "str") (fun _ => rfl) (fun d b e => by cases d <;> cases e <;> (simp only [tyName]; decide +kernel)) (fun d r e => by cases d <;> cases e <;> exact ⟨_, rfl⟩) hm hm2 (by decide +kernel) ha hg hg2 (by decide) (by decide) hs hs2 hpl
end

/-! ### slices -/
abbrev Pt := Env → Res (Option Int)
def ptNo : Pt := fun _ => .ok none
def asI : PyData → Res Int
  | .int i => .ok i
  | _ => .bad
def ptSome (f : Ex) : Pt := fun ρ => (f ρ).bind fun x => (asI x).bind fun i => .ok (some i)
def cutD (xs : List PyData) (lo hi : Option Int) : List PyData := (xs.drop (HT.sIx xs.length 0 lo)).take (HT.sIx xs.length xs.length hi - HT.sIx xs.length 0 lo)
def oSlice (d : PyData) (lo hi : Option Int) : Option PyData := match d with
  | .list xs => some (.list (cutD xs lo hi))
  | .tuple xs => some (.tuple (cutD xs lo hi))
  | _ => none
def eSlice (f : Ex) (lo hi : Pt) : Ex := fun ρ => (f ρ).bind fun x => (lo ρ).bind fun l => (hi ρ).bind fun h => Res.of (oSlice x l h)
def PostO (K : PySem.W.Frag) (mg : Str → Option Value) (W : WX) (σ : St) (H : Hp) (Q : Option Int → Hp → Prop) : Res (Option Int) → Prop
  | .ok b => ∀ H', Same H H' → Q b H'
  | .err c => ∃ C, mg c = some (.ref C) ∧ ∀ (d : D0) H', Same H H' → W (.ref C) d σ H'
  | .bad => False
def tDO (K : PySem.W.Frag) (mg : Str → Option Value) (W : WX) (f : Pt) : TO := fun σ H Q => ∃ ρ, DpS K H σ ρ ∧ PostO K mg W σ H Q (f ρ)
abbrev DO (X : Cx) (W : WX) (e : Option Expr) (f : Pt) : Prop := PO X e (tDO X.K X.mg W f)
theorem poImp {X : Cx} {e : Option Expr} {t t' : TO} (h : PO X e t) (k : ∀ σ H Q, t' σ H Q → t σ H Q) : PO X e t' := ⟨fun pins s σ H Q I q => h.run pins s σ H Q I (k σ H Q q)⟩
section
variable {K : PySem.W.Frag} {mg : Str → Option Value} {W : WX} {σ : St} {H H' : Hp}
theorem PostO.mono {Q : Option Int → Hp → Prop} {r : Res (Option Int)} (h : PostO K mg W σ H Q r) (s : Same H H') : PostO K mg W σ H' Q r := by
  cases r with
  | ok d => exact fun H2 s2 => h H2 (s.trans s2)
  | err c =>
    obtain ⟨C, h1, h2⟩ := h
    exact ⟨C, h1, fun d H2 s2 => h2 d H2 (s.trans s2)⟩
  | bad => exact h
theorem PostO.imp {Q Q' : Option Int → Hp → Prop} {r : Res (Option Int)} (h : PostO K mg W σ H Q r) (k : ∀ b H', Same H H' → Q b H' → Q' b H') : PostO K mg W σ H Q' r := by
  cases r with
  | ok d => exact fun H2 s2 => k _ H2 s2 (h H2 s2)
  | err c => exact h
  | bad => exact h
theorem PostO.bind {Q : VK} {r : Res (Option Int)} {k : Option Int → Res PyData} (h : Post K mg W σ H Q (r.bind k)) :
    PostO K mg W σ H (fun b H' => r = .ok b ∧ Same H H' ∧ Post K mg W σ H' Q (k b)) r := by
  cases r with
  | ok d => exact fun H2 s2 => ⟨rfl, s2, Post.mono (r := k d) h s2⟩
  | err c => exact h
  | bad => exact h
theorem Post.bindO {Q : Option Int → Hp → Prop} {r : Res PyData} {k : PyData → Res (Option Int)} (h : PostO K mg W σ H Q (r.bind k)) :
    Post K mg W σ H (fun v H' => ∃ d, r = .ok d ∧ Same H H' ∧ Dp K H' v d ∧ PostO K mg W σ H' Q (k d)) r := by
  cases r with
  | ok d => exact fun v H2 s2 q => ⟨d, rfl, s2, q, PostO.mono (r := k d) h s2⟩
  | err c => exact h
  | bad => exact h
end
section
variable {X : Cx} {W : WX} {a b : Expr} {fa fb : Ex} {lo hi : Option Expr} {fl fh : Pt} {p2 pos : Pos}
theorem o_none : DO X W none ptNo := poImp po_none fun σ H Q ⟨ρ, _, h⟩ => h H (Same.refl _)
theorem o_some (h : DE X W a fa) : DO X W (some a) (ptSome fa) := by
  refine poImp (po_some h) fun σ H Q ⟨ρ, hρ, h⟩ => ⟨ρ, hρ, (Post.bindO h).imp fun v H1 _ ⟨d, _, s1, rx, h1⟩ => ?_⟩
  cases d with
  | int i => exact ⟨i, dp_int rx, h1 H1 (Same.refl _)⟩
  | _ => exact h1.elim
theorem cutD_of {K : PySem.W.Frag} {H : Hp} {vs : List V} {ds : List PyData} (h : DpAll K H vs ds) (l u : Option Int) : DpAll K H (cutV vs l u) (cutD ds l u) := by
  unfold cutV cutD
  rw [h.len]
  exact (h.drop _).take _
theorem cutD_whole {ds : List PyData} {l u : Option Int} (h1 : HT.sIx ds.length 0 l = 0) (h2 : HT.sIx ds.length ds.length u = ds.length) : cutD ds l u = ds := by
  unfold cutD
  rw [h1, h2]
  simp
/-- t[lo:hi]: the new tuple's object is known -/
def rSlF (K : PySem.W.Frag) : V → Option Int → Option Int → Hp → VK → Prop := fun x lo hi H Q => ∃ a xs, x = .ref a ∧ SqT K H a xs ∧
  (HT.sIx xs.length 0 lo = 0 ∧ HT.sIx xs.length xs.length hi = xs.length → Q (.ref a) H) ∧ (¬ (HT.sIx xs.length 0 lo = 0 ∧ HT.sIx xs.length xs.length hi = xs.length) → ∀ (p : Addr) (o : Obj), o.dict = none → H p = none → Q (.ref p) (upd H p (.frz o (.tup (cutV xs lo hi)))))
theorem sl_tupF : SlR X (rSlF X.K) := by
  intro pins s σ H x v vl vu lo hi sl Q I rx hs pl pu h
  obtain ⟨a, xs, rfl, hx, q1, q2⟩ := h
  cases rx
  obtain ⟨its, r, ht, hz⟩ := I.tuple hx
  have hlen : its.toArray.size = xs.length := by rw [List.size_toArray]; exact r.length.symm
  refine ⟨"tuple", _, PyProof.Rows.slot_tuple_getitem.lookup, ht.typeIs, ?_⟩
  by_cases hw : HT.sIx xs.length 0 lo = 0 ∧ HT.sIx xs.length xs.length hi = xs.length
  · exact getItem_tuple_whole ht hs pl pu (by rw [hlen]; exact hw) ⟨.ref a, H, I, rfl, q1 hw⟩
  · refine HT.getItem_tuple_cut ht hs pl pu (by rw [hlen]; exact hw) ?_ (by rw [hlen]; exact hz)
    rw [hlen]
    refine ⟨.ref s.heap.objs.size, _, I.laid (t' := s.toks) (o := .frz { cls := .type "tuple", data := .seq ((its.toArray.toList.drop (HT.sIx xs.length 0 lo)).take (HT.sIx xs.length xs.length hi - HT.sIx xs.length 0 lo)).toArray } (.tup (cutV xs lo hi))) (fun b ob q => Heap.get?_push_of_some _ q) (Nat.le_refl _) ?_, rfl, q2 hw _ _ rfl (I.hok.fresh (Nat.le_refl _))⟩
    · exact ⟨Heap.get?_push_size _ rfl, Nat.le_trans (cutV_length xs lo hi) hz, _, (r.drop (HT.sIx xs.length 0 lo)).take (HT.sIx xs.length xs.length hi - HT.sIx xs.length 0 lo), IsTup.new _ _⟩
theorem d_slice (ha : DE X W a fa) (hl : DO X W lo fl) (hh : DO X W hi fh) : DE X W (.Subscript a (.Slice lo hi none p2) pos) (eSlice fa fl fh) := by
  refine peImp (pe_slice (SlR.or sl_list sl_tupF) ha hl hh) fun σ H Q ⟨ρ, hρ, h⟩ => ⟨ρ, hρ, (Post.bind h).imp fun v H1 _ ⟨d, _, s1, rx, h1⟩ => ⟨ρ, hρ.mono s1, (PostO.bind h1).imp fun l H2 _ ⟨_, s2, h2⟩ => ⟨ρ, (hρ.mono s1).mono s2, (PostO.bind h2).imp fun u H3 _ ⟨_, s3, h3⟩ => ?_⟩⟩⟩
  have rx3 := dpMono (s2.trans s3) rx
  cases d with
  | list ds =>
    obtain ⟨q, vs, rfl, hs, hv⟩ := dp_lst rx3
    exact .inl ⟨q, vs, rfl, hs, fun p hp => h3 _ _ (sameUpd hp) (.lst (.inl (.inl upd_same)) (cutD_of (dpAllMono (sameUpd hp) hv) l u))⟩
  | tuple ds =>
    obtain ⟨q, vs, rfl, hs, hv⟩ := dp_tupP rx3
    refine .inr ⟨q, vs, rfl, hs.sqt, fun ⟨e1, e2⟩ => ?_, fun _ p o hdn hp => h3 _ _ (sameUpd hp) (.tup (.inl ⟨o, upd_same, hdn⟩) (cutD_of (dpAllMono (sameUpd hp) hv) l u))⟩
    rw [hv.len] at e1 e2
    exact h3 _ H3 (Same.refl _) (by rw [cutD_whole e1 e2]; exact .tup hs hv)
  | _ => exact h3.elim
end
end L2.DL
set_option maxHeartbeats 2000000
namespace L2.DL
open PySem PySem.Spec PyProof.Rows

/-! ### targets -/
inductive Tgt where
  | one (i : Nat) | tup (is : List Nat)
def setAll : List Nat → List PyData → Env → Env
  | i :: is, d :: ds, ρ => setAll is ds (ρ.set i (some d))
  | _, _, ρ => ρ
def bindT : Tgt → PyData → Env → Res Env
  | .one i, d, ρ => .ok (ρ.set i (some d))
  | .tup is, .tuple ds, ρ => if ds.length = is.length then .ok (setAll is ds ρ) else .bad
  | .tup _, _, _ => .bad
def Tgt.slots : Tgt → List Nat
  | .one i => [i]
  | .tup is => is
def gNames : List Nat → TGs
  | [] => gNil
  | i :: is => gCons (gName i) (gNames is)
def tgG (K : PySem.W.Frag) : Tgt → TG
  | .one i => gName i
  | .tup is => gTup K is.length (gNames is)
abbrev DG (X : Cx) (tg : Expr) (t : Tgt) : Prop := PG X tg (tgG X.K t)
/-- only the slots of L differ -/
def OnlyAt (L : List Nat) (σ σ' : St) : Prop := σ'.length = σ.length ∧ ∀ i, i ∉ L → σ'[i]? = σ[i]?
theorem OnlyAt.set {i : Nat} {σ : St} {v : Option V} {L : List Nat} (h : i ∈ L) : OnlyAt L σ (σ.set i v) := ⟨List.length_set, fun j hj => List.getElem?_set_ne (fun e => hj (by rw [← e]; exact h))⟩
theorem OnlyAt.trans {L : List Nat} {σ σ' σ'' : St} (a : OnlyAt L σ σ') (b : OnlyAt L σ' σ'') : OnlyAt L σ σ'' := ⟨b.1.trans a.1, fun i hi => (b.2 i hi).trans (a.2 i hi)⟩
theorem OnlyAt.refl {L : List Nat} {σ : St} : OnlyAt L σ σ := ⟨rfl, fun _ _ => rfl⟩
theorem gNames_of {K : PySem.W.Frag} {G H : Hp} {L : List Nat} : ∀ (is : List Nat) {vs : List V} {ds : List PyData} {σ : St} {ρ : Env} {Q : St → Hp → Prop}, (∀ i ∈ is, i ∈ L) → ds.length = is.length → DpAll K G vs ds → DpS K G σ ρ →
    (∀ σ', OnlyAt L σ σ' → DpS K G σ' (setAll is ds ρ) → Q σ' H) → gNames is vs σ H Q
  | [], vs, ds, σ, ρ, Q, _, hl, hv, hρ, q => by
    cases hv with
    | nil => exact ⟨rfl, q σ .refl hρ⟩
    | cons _ _ => simp at hl
  | i :: is, vs, ds, σ, ρ, Q, hL, hl, hv, hρ, q => by
    cases hv with
    | nil => simp at hl
    | cons h1 h2 =>
      exact ⟨_, _, rfl, gNames_of is (fun j hj => hL j (List.mem_cons_of_mem _ hj)) (by simpa using hl) h2 (hρ.set h1) fun σ' o r => q σ' ((OnlyAt.set (hL i List.mem_cons_self)).trans o) r⟩
/-- G: a part of the heap in which the item and the slots' data lie -/
theorem tgG_of {K : PySem.W.Frag} {G H : Hp} {t : Tgt} {v : V} {d : PyData} {σ : St} {ρ ρ' : Env} {Q : St → Hp → Prop} (s : Same G H) (hd : Dp K G v d) (hρ : DpS K G σ ρ) (e : bindT t d ρ = .ok ρ') (q : ∀ σ', OnlyAt t.slots σ σ' → DpS K G σ' ρ' → Q σ' H) : tgG K t v σ H Q := by
  cases t with
  | one i =>
    cases e
    exact q _ (.set (by simp [Tgt.slots])) (hρ.set hd)
  | tup is =>
    cases d with
    | tuple ds =>
      unfold bindT at e
      dsimp only at e
      split at e
      · rename_i hl
        cases e
        obtain ⟨a, xs, rfl, hs, hv⟩ := dp_tup hd
        exact ⟨a, xs, rfl, by
          rcases hs with (h | ⟨o, h⟩) | h
          · exact .inl (.inl (s _ _ h))
          · exact .inl (.inr ⟨o, s _ _ h⟩)
          · exact .inr h, by rw [hv.len]; exact hl, gNames_of is (fun i hi => hi) hl hv hρ q⟩
      · cases e
    | _ => cases e
section
variable {X : Cx} {pos : Pos}
theorem g_one (i : Nat) {x : Str} (hN : X.N.Nodup) (hi : X.N[i]? = some x := by rfl) (hx : Loc X.env.scope x := by first | exact Or.inl rfl | exact Or.inr rfl) (hf : X.fn x = true ∨ X.env.scope.names.lookup x = some .local := by first | exact .inl rfl | exact .inr rfl | assumption) : DG X (.Name x pos) (.one i) := pg_name hN hi hx hf
theorem gs_nil : PGs X [] (gNames []) := pgs_nil
theorem gs_cons (i : Nat) {x : Str} {es : List Expr} {is : List Nat} (hN : X.N.Nodup) (h2 : PGs X es (gNames is)) (hi : X.N[i]? = some x := by rfl) (hx : Loc X.env.scope x := by first | exact Or.inl rfl | exact Or.inr rfl) (hf : X.fn x = true ∨ X.env.scope.names.lookup x = some .local := by first | exact .inl rfl | exact .inr rfl | assumption)
    (hs : (assignEach (.Name x pos :: es) X.env).map (·.2) = assign (.Name x pos) X.env :: (assignEach es X.env).map (·.2) := by rfl) : PGs X (.Name x pos :: es) (gNames (i :: is)) := pgs_cons (pg_name hN hi hx hf) h2 hs
theorem g_tup {es : List Expr} {k : Nat} {is : List Nat} (hc : X.calm = true) (h : PGs X es (gNames is)) (hn : (assignEach es X.env).length = is.length := by rfl) (hst : (assignEach es X.env).findIdx? (·.1) = none := by rfl) : DG X (.Tuple es k pos) (.tup is) := pg_tup hc h hn hst
end

/-! ### what is walked -/
abbrev Itr' := Env → Res (List PyData)
/-- what is given at a turn: an item, or a new tuple of items -/
def YD (K : PySem.W.Frag) (B : Hp) (H : Hp) (x : V) (H' : Hp) (d : PyData) : Prop :=
  (H' = H ∧ Dp K B x d) ∨ ∃ (T : Addr) (o : Obj) (us : List V) (es : List PyData), o.dict = none ∧ H T = none ∧ x = .ref T ∧ H' = upd H T (.frz o (.tup us)) ∧ DpAll K B us es ∧ d = .tuple es
structure WalkD (K : PySem.W.Frag) (J : It) (B : Hp) (ds : List PyData) : Prop where
  goes : ∀ i H, i < ds.length → Same B H → J.go i H
  stops : ∀ H, Same B H → J.stop ds.length H
  yields : ∀ i H x H', i < ds.length → Same B H → J.yld i H x H' → ∃ d, ds[i]? = some d ∧ YD K B H x H' d
def PostI (K : PySem.W.Frag) (mg : Str → Option Value) (W : WX) (σ : St) (H : Hp) (R : It → Hp → Prop) : Res (List PyData) → Prop
  | .ok ds => ∀ J H', Same H H' → WalkD K J H' ds → R J H'
  | .err c => ∃ C, mg c = some (.ref C) ∧ ∀ (d : D0) H', Same H H' → W (.ref C) d σ H'
  | .bad => False
def tDI (K : PySem.W.Frag) (mg : Str → Option Value) (W : WX) (f : Itr') : TI := fun σ H R => ∃ ρ, DpS K H σ ρ ∧ PostI K mg W σ H R (f ρ)
abbrev DI (X : Cx) (W : WX) (tg e : Expr) (f : Itr') : Prop := PI X tg e (tDI X.K X.mg W f)
theorem piImp {X : Cx} {tg e : Expr} {t t' : TI} (h : PI X tg e t) (k : ∀ σ H Q, t' σ H Q → t σ H Q) : PI X tg e t' := ⟨fun pins s σ H Q I q => h.run pins s σ H Q I (k σ H Q q)⟩
theorem WalkD.of {K : PySem.W.Frag} {J : It} {B : Hp} {ds : List PyData} {n : Nat} {G : Hp → Prop} {Y : Nat → Hp → V → Hp → Prop} (w : Walk J n G Y) (hn : n = ds.length) (hG : ∀ H, Same B H → G H) (hY : ∀ i H x H', i < n → Same B H → Y i H x H' → ∃ d, ds[i]? = some d ∧ YD K B H x H' d) : WalkD K J B ds := by
  subst hn
  exact ⟨fun i H hi s => w.goes i H hi (hG H s), fun H s => w.stops H (hG H s), fun i H x H' hi s y => hY i H x H' hi s (w.yields i H x H' hi (hG H s) y)⟩
theorem WalkD.walk {K : PySem.W.Frag} {J : It} {B : Hp} {ds : List PyData} (w : WalkD K J B ds) : Walk J ds.length (fun H => Same B H) (fun i H x H' => ∃ d, ds[i]? = some d ∧ YD K B H x H' d) := ⟨w.goes, w.stops, w.yields⟩
theorem Same.sqt {K : PySem.W.Frag} {H H' : Hp} {a : Addr} {xs : List V} (s : Same H H') (h : SqT K H a xs) : SqT K H' a xs := by
  rcases h with (h | ⟨o, h⟩) | h
  · exact .inl (.inl (s _ _ h))
  · exact .inl (.inr ⟨o, s _ _ h⟩)
  · exact .inr h
section
variable {K : PySem.W.Frag} {mg : Str → Option Value} {W : WX} {σ : St} {H H' : Hp}
theorem PostI.mono {R : It → Hp → Prop} {r : Res (List PyData)} (h : PostI K mg W σ H R r) (s : Same H H') : PostI K mg W σ H' R r := by
  cases r with
  | ok d => exact fun J H2 s2 q => h J H2 (s.trans s2) q
  | err c =>
    obtain ⟨C, h1, h2⟩ := h
    exact ⟨C, h1, fun d H2 s2 => h2 d H2 (s.trans s2)⟩
  | bad => exact h
theorem Post.bindI {R : It → Hp → Prop} {r : Res PyData} {k : PyData → Res (List PyData)} (h : PostI K mg W σ H R (r.bind k)) :
    Post K mg W σ H (fun v H' => ∃ d, r = .ok d ∧ Same H H' ∧ Dp K H' v d ∧ PostI K mg W σ H' R (k d)) r := by
  cases r with
  | ok d => exact fun v H2 s2 q => ⟨d, rfl, s2, q, PostI.mono (r := k d) h s2⟩
  | err c => exact h
  | bad => exact h
theorem walkL {a : Addr} {vs : List V} {ds : List PyData} (hs : SqL K H a vs) (hv : DpAll K H vs ds) : WalkD K (Itl K a) H ds :=
  .of walk_list hv.len (fun H' s => s.seq hs) fun i H1 x H' hi s ⟨e, y⟩ => by
    obtain ⟨d, h1, h2⟩ := hv.getV y
    exact ⟨d, h1, .inl ⟨e, h2⟩⟩
theorem walkT {a : Addr} {vs : List V} {ds : List PyData} (hs : SqT K H a vs) (hv : DpAll K H vs ds) : WalkD K (Itt K a) H ds :=
  .of walk_tup hv.len (fun H' s => Same.sqt s hs) fun i H1 x H' hi s ⟨e, y⟩ => by
    obtain ⟨d, h1, h2⟩ := hv.getV y
    exact ⟨d, h1, .inl ⟨e, h2⟩⟩
end
/-- a list or a tuple -/
def iSq (K : PySem.W.Frag) (tl : TE) : TI := fun σ H R => tl σ H fun x H1 => ∃ a, x = .ref a ∧ (((∃ xs, SqL K H1 a xs) ∧ R (Itl K a) H1) ∨ ((∃ xs, SqT K H1 a xs) ∧ R (Itt K a) H1))
theorem pi_sq {X : Cx} {tg l : Expr} {tl : TE} (hl : PE X l tl) : PI X tg l (iSq X.K tl) := by
  refine ⟨fun pins s σ H R I h => ?_⟩
  refine thn (hl.run pins s σ H _ I h) fun v s1 ⟨x, H1, I1, r1, q1⟩ => ?_
  obtain ⟨a, e, ⟨⟨xs, hq⟩, q⟩ | ⟨⟨xs, hq⟩, q⟩⟩ := q1
  · subst e
    cases r1
    obtain ⟨its, rv, p, hz⟩ := I1.list hq
    refine wpAny_pyIter_list p.isList ?_
    refine ⟨s1.heap.objs.size, [s1.heap.objs.size], _, _, H1, rfl, I1.kept (t' := s1.toks) fun b o e => Heap.get?_push_of_some _ e, turn_list a _, ⟨_, Heap.get?_push_size _ rfl, rfl, rfl⟩, fun b hb => ?_, q⟩
    have e : b = s1.heap.objs.size := by simpa using hb
    subst e
    exact I1.fpOk (Nat.le_refl _) (I1.hok.fresh (Nat.le_refl _))
  · subst e
    cases r1
    obtain ⟨its, rv, p, hz⟩ := I1.tuple hq
    refine wpAny_pyIter_tuple (show s1.heap.IsTuple a its.toArray from p) ?_
    refine ⟨s1.heap.objs.size, [s1.heap.objs.size], _, _, H1, rfl, I1.kept (t' := s1.toks) fun b o e => Heap.get?_push_of_some _ e, turn_tuple a _, ⟨_, Heap.get?_push_size _ rfl, rfl, rfl⟩, fun b hb => ?_, q⟩
    have e : b = s1.heap.objs.size := by simpa using hb
    subst e
    exact I1.fpOk (Nat.le_refl _) (I1.hok.fresh (Nat.le_refl _))
def items : PyData → Res (List PyData)
  | .list xs => .ok xs
  | .tuple xs => .ok xs
  | _ => .bad
@[simp] theorem items_list (xs : List PyData) : items (.list xs) = .ok xs := rfl
@[simp] theorem items_tuple (xs : List PyData) : items (.tuple xs) = .ok xs := rfl
def itSq (f : Ex) : Itr' := fun ρ => (f ρ).bind items
def rangeD (lo hi : Int) : List PyData := (List.range (hi - lo).toNat).map fun (i : Nat) => .int (lo + (i : Int))
theorem rangeD_length (lo hi : Int) : (rangeD lo hi).length = (hi - lo).toNat := by unfold rangeD; rw [List.length_map, List.length_range]
theorem rangeD_get {lo hi : Int} {i : Nat} (h : i < (hi - lo).toNat) : (rangeD lo hi)[i]? = some (.int (lo + (i : Int))) := by
  unfold rangeD
  rw [List.getElem?_map, List.getElem?_range h]
  rfl
def inB (i : Int) : Prop := -1000000 ≤ i ∧ i ≤ 1000000
instance (i : Int) : Decidable (inB i) := by unfold inB; infer_instance
def itR1 (f : Ex) : Itr' := fun ρ => (f ρ).bind fun x => (asI x).bind fun n => if inB n then .ok (rangeD 0 n) else .bad
def itR2 (f g : Ex) : Itr' := fun ρ => (f ρ).bind fun x => (g ρ).bind fun y => (asI x).bind fun m => (asI y).bind fun n => if inB m ∧ inB n then .ok (rangeD m n) else .bad
def enumFrom (i : Nat) : List PyData → List PyData
  | [] => []
  | d :: r => .tuple [.int (i : Int), d] :: enumFrom (i + 1) r
theorem enumFrom_length : ∀ (ds : List PyData) (i : Nat), (enumFrom i ds).length = ds.length
  | [], _ => rfl
  | _ :: r, i => congrArg (· + 1) (enumFrom_length r (i + 1))
theorem enumFrom_get : ∀ {ds : List PyData} {i k : Nat} {d : PyData}, ds[k]? = some d → (enumFrom i ds)[k]? = some (.tuple [.int ((i + k : Nat) : Int), d])
  | [], _, _, _, h => by simp at h
  | _ :: _, i, 0, _, h => by
    simp at h
    subst h
    rfl
  | _ :: r, i, k + 1, d, h => by
    have q := enumFrom_get (ds := r) (i := i + 1) (k := k) (d := d) (by simpa using h)
    show (enumFrom (i + 1) r)[k]? = _
    rw [q]
    congr 5
    omega
def zipD : List PyData → List PyData → List PyData
  | x :: xs, y :: ys => .tuple [x, y] :: zipD xs ys
  | _, _ => []
theorem zipD_length : ∀ (xs ys : List PyData), (zipD xs ys).length = min xs.length ys.length
  | [], _ => by simp [zipD]
  | _ :: _, [] => by simp [zipD]
  | _ :: xs, _ :: ys => by simp [zipD, zipD_length xs ys]
theorem zipD_get : ∀ {xs ys : List PyData} {i : Nat} {x y : PyData}, xs[i]? = some x → ys[i]? = some y → (zipD xs ys)[i]? = some (.tuple [x, y])
  | [], _, _, _, _, h, _ => by simp at h
  | _ :: _, [], _, _, _, _, h => by simp at h
  | _ :: _, _ :: _, 0, _, _, h, h' => by
    simp at h h'
    subst h h'
    rfl
  | _ :: xs, _ :: ys, i + 1, x, y, h, h' => zipD_get (xs := xs) (ys := ys) (i := i) (by simpa using h) (by simpa using h')
def asL : PyData → Res (List PyData)
  | .list xs => .ok xs
  | _ => .bad
def itEnum (f : Ex) : Itr' := fun ρ => (f ρ).bind fun x => (asL x).bind fun ds => .ok (enumFrom 0 ds)
def itZip (f g : Ex) : Itr' := fun ρ => (f ρ).bind fun x => (g ρ).bind fun y => (asL x).bind fun xs => (asL y).bind fun ys => .ok (zipD xs ys)
section
variable {X : Cx} {W : WX} {tg a b : Expr} {fa fb : Ex} {p pos : Pos}
theorem i_sq (h : DE X W a fa) : DI X W tg a (itSq fa) := by
  refine piImp (pi_sq h) fun σ H Q ⟨ρ, hρ, h⟩ => ⟨ρ, hρ, (Post.bindI h).imp fun v H1 _ ⟨d, _, s1, rx, h1⟩ => ?_⟩
  cases d with
  | list ds =>
    obtain ⟨q, vs, rfl, hs, hv⟩ := dp_lst rx
    exact ⟨q, rfl, .inl ⟨⟨vs, hs⟩, h1 _ H1 (Same.refl _) (walkL hs hv)⟩⟩
  | tuple ds =>
    obtain ⟨q, vs, rfl, hs, hv⟩ := dp_tup rx
    exact ⟨q, rfl, .inr ⟨⟨vs, hs⟩, h1 _ H1 (Same.refl _) (walkT hs hv)⟩⟩
  | _ => exact h1.elim
theorem walkR {K : PySem.W.Frag} {H : Hp} (lo hi : Int) : WalkD K (Itr lo (hi - lo).toNat) H (rangeD lo hi) :=
  .of walk_range (rangeD_length lo hi).symm (fun _ _ => trivial) fun i H1 x H' hi s ⟨e, y⟩ => ⟨_, rangeD_get hi, .inl ⟨e, by rw [y]; exact .int _⟩⟩
theorem i_range1 (hm : X.mg "range" = none) (h : DE X W a fa) (hg : Gl X "range" := by rfl) (hs : starEach [a] X.env = [(false, eval a X.env)] := by rfl) (hs' : starEach [a] X.env = (false, eval a X.env) :: starEach [] X.env := by rfl) : DI X W tg (.Call (.Name "range" p) [a] [] pos) (itR1 fa) := by
  refine piImp (pi_range1 hg hm (pa_cons h pa_nil hs') hs) fun σ H Q ⟨ρ, hρ, h⟩ => ⟨ρ, hρ, (Post.bindI h).imp fun v H1 _ ⟨d, _, s1, rx, h1⟩ => ?_⟩
  cases d with
  | int n =>
    have h1 : PostI X.K X.mg W σ H1 Q (if inB n then .ok (rangeD 0 n) else .bad) := h1
    by_cases hb : inB n
    · rw [if_pos hb] at h1
      unfold inB at hb
      refine ⟨n, by rw [dp_int rx], by omega, by omega, ?_⟩
      have w := walkR (K := X.K) (H := H1) 0 n
      rw [Int.sub_zero] at w
      exact h1 _ H1 (Same.refl _) w
    · rw [if_neg hb] at h1
      exact h1.elim
  | _ => exact h1.elim
theorem i_range2 (hm : X.mg "range" = none) (ha : DE X W a fa) (hb : DE X W b fb) (hg : Gl X "range" := by rfl) (hs : starEach [a, b] X.env = [(false, eval a X.env), (false, eval b X.env)] := by rfl) (hs2 : starEach [b] X.env = [(false, eval b X.env)] := by rfl) (hs' : starEach [a, b] X.env = (false, eval a X.env) :: starEach [b] X.env := by rfl) (hs2' : starEach [b] X.env = (false, eval b X.env) :: starEach [] X.env := by rfl) :
    DI X W tg (.Call (.Name "range" p) [a, b] [] pos) (itR2 fa fb) := by
  refine piImp (pi_range2 hg hm (pa_cons ha (pa_cons hb pa_nil hs2') hs') hs hs2) fun σ H Q ⟨ρ, hρ, h⟩ => ⟨ρ, hρ, (Post.bindI h).imp fun v H1 _ ⟨d, _, s1, rx, h1⟩ => ⟨ρ, hρ.mono s1, (Post.bindI h1).imp fun u H2 _ ⟨e, _, s2, ry, h2⟩ => ?_⟩⟩
  cases d with
  | int m =>
    cases e with
    | int n =>
      have h2 : PostI X.K X.mg W σ H2 Q (if inB m ∧ inB n then .ok (rangeD m n) else .bad) := h2
      by_cases hb : inB m ∧ inB n
      · rw [if_pos hb] at h2
        unfold inB at hb
        exact ⟨m, n, by rw [dp_int rx, dp_int ry], ⟨by omega, by omega, by omega, by omega⟩, h2 _ H2 (Same.refl _) (walkR m n)⟩
      · rw [if_neg hb] at h2
        exact h2.elim
    | _ => exact h2.elim
  | _ => exact h2.elim
end
section
variable {X : Cx} {W : WX} {a b : Expr} {fa fb : Ex} {p pos tpos : Pos} {elts : List Expr} {kk : Nat}
end

/-! ### list(range(..)) -/
def eLstR1 (f : Ex) : Ex := fun ρ => (f ρ).bind fun x => (asI x).bind fun n => if inB n then .ok (.list (rangeD 0 n)) else .bad
def eLstR2 (f g : Ex) : Ex := fun ρ => (f ρ).bind fun x => (g ρ).bind fun y => (asI x).bind fun m => (asI y).bind fun n => if inB m ∧ inB n then .ok (.list (rangeD m n)) else .bad
theorem dp_rg {K : PySem.W.Frag} {H : Hp} (a b : Int) : DpAll K H (rgV a b) (rangeD a b) := by
  unfold rgV rangeD
  generalize List.range (b - a).toNat = l
  induction l with
  | nil => exact .nil
  | cons x r ih => exact .cons (.int _) ih
section
variable {X : Cx} {W : WX} {a b : Expr} {fa fb : Ex} {p p2 pos pos2 : Pos}
theorem d_lstR1 (hc : X.calm = true) (hm : X.mg "list" = none) (hm2 : X.mg "range" = none) (h : DE X W a fa) (hg : Gl X "list" := by rfl) (hg2 : Gl X "range" := by rfl) (na : starEach [a] X.env = (false, eval a X.env) :: starEach [] X.env := by rfl)
    (nb : starEach [.Call (.Name "range" p2) [a] [] pos2] X.env = (false, eval (.Call (.Name "range" p2) [a] [] pos2) X.env) :: starEach [] X.env := by rfl) : DE X W (.Call (.Name "list" p) [.Call (.Name "range" p2) [a] [] pos2] [] pos) (eLstR1 fa) := by
  refine peImp (pe_listRg hc hg hm (prg_1 hg2 hm2 h na) nb) fun σ H Q ⟨ρ, hρ, h⟩ => ⟨ρ, hρ, (Post.bind h).imp fun v H1 _ ⟨d, _, s1, rx, h1⟩ => ?_⟩
  cases d with
  | int n =>
    have h1 : Post X.K X.mg W σ H1 Q (if inB n then .ok (.list (rangeD 0 n)) else .bad) := h1
    by_cases hb : inB n
    · rw [if_pos hb] at h1
      unfold inB at hb
      exact ⟨n, dp_int rx, ⟨by omega, by omega, by omega, by omega, by omega⟩, fun q hq => h1 _ _ (sameUpd hq) (.lst (.inl (.inl upd_same)) (dp_rg 0 n))⟩
    · rw [if_neg hb] at h1
      exact h1.elim
  | _ => exact h1.elim
theorem d_lstR2 (hc : X.calm = true) (hm : X.mg "list" = none) (hm2 : X.mg "range" = none) (ha : DE X W a fa) (hb : DE X W b fb) (hg : Gl X "list" := by rfl) (hg2 : Gl X "range" := by rfl) (na : starEach [a, b] X.env = (false, eval a X.env) :: starEach [b] X.env := by rfl) (na2 : starEach [b] X.env = (false, eval b X.env) :: starEach [] X.env := by rfl)
    (nb : starEach [.Call (.Name "range" p2) [a, b] [] pos2] X.env = (false, eval (.Call (.Name "range" p2) [a, b] [] pos2) X.env) :: starEach [] X.env := by rfl) (hpl : ((backTo pos2 (starEach [b] X.env)).any fun x => x.fst) = false := by rfl) : DE X W (.Call (.Name "list" p) [.Call (.Name "range" p2) [a, b] [] pos2] [] pos) (eLstR2 fa fb) := by
  refine peImp (pe_listRg hc hg hm (prg_2 hg2 hm2 ha hb na na2 hpl) nb) fun σ H Q ⟨ρ, hρ, h⟩ => ⟨ρ, hρ, (Post.bind h).imp fun v H1 _ ⟨d, _, s1, rx, h1⟩ => ⟨ρ, hρ.mono s1, (Post.bind h1).imp fun u H2 _ ⟨e, _, s2, ry, h2⟩ => ?_⟩⟩
  cases d with
  | int m =>
    cases e with
    | int n =>
      have h2 : Post X.K X.mg W σ H2 Q (if inB m ∧ inB n then .ok (.list (rangeD m n)) else .bad) := h2
      by_cases hb : inB m ∧ inB n
      · rw [if_pos hb] at h2
        unfold inB at hb
        exact ⟨m, n, dp_int rx, dp_int ry, ⟨by omega, by omega, by omega, by omega, by omega⟩, fun q hq => h2 _ _ (sameUpd hq) (.lst (.inl (.inl upd_same)) (dp_rg m n))⟩
      · rw [if_neg hb] at h2
        exact h2.elim
    | _ => exact h2.elim
  | _ => exact h2.elim
end

/-! ### list comprehensions -/
def wipeD (ρ : Env) : List Nat → Env
  | [] => ρ
  | v :: vs => (wipeD ρ vs).set v none
def noErr {α : Type} : Res α → Res α
  | .err _ => .bad
  | r => r
@[simp] theorem noErr_ok {α : Type} (a : α) : noErr (.ok a) = .ok a := rfl
def compD (t : Tgt) (c : Te) (e : Ex) (ρ : Env) : List PyData → Res (List PyData)
  | [] => .ok []
  | d :: ds => (bindT t d ρ).bind fun ρ1 => (noErr (c ρ1)).bind fun k => if k = true then (noErr (e ρ1)).bind fun x => (compD t c e ρ ds).bind fun xs => .ok (x :: xs) else compD t c e ρ ds
def eCompL (it : Itr') (t : Tgt) (c : Te) (e : Ex) : Env → Res (List PyData) := fun ρ => (it ρ).bind fun ds => if ds.length < 16777216 then compD t c e (wipeD ρ t.slots) ds else .bad
def eComp (it : Itr') (t : Tgt) (c : Te) (e : Ex) : Ex := fun ρ => (eCompL it t c e ρ).bind fun xs => .ok (.list xs)
def PostC (K : PySem.W.Frag) (mg : Str → Option Value) (W : WX) (σ : St) (H : Hp) (Q : VK) (it : Itr') (t : Tgt) (c : Te) (e : Ex) (ρ : Env) : Prop := match it ρ with
  | .ok ds => ds.length < 16777216 ∧ ∃ xs, compD t c e (wipeD ρ t.slots) ds = .ok xs ∧ ∀ D vs H', H D = none → Same H (cut [D] H') → H' D = some (.lst vs) → DpAll K (cut [D] H') vs xs → Q (.ref D) H'
  | .err c => ∃ C, mg c = some (.ref C) ∧ ∀ (d : D0) H', Same H H' → W (.ref C) d σ H'
  | .bad => False
def teYes : Te := fun _ => .ok true
abbrev W0 : WX := fun _ _ _ _ => False
abbrev DTs (X : Cx) (W : WX) (es : List Expr) (f : Te) : Prop := PTs X es (tDT X.K X.mg W f)
theorem ts_nil {X : Cx} {W : WX} : DTs X W [] teYes := ⟨fun pins s σ H Q I ⟨ρ, _, h⟩ => (pts_nil (X := X)).run pins s σ H Q I (h H (Same.refl _))⟩
theorem ts_one {X : Cx} {W : WX} {c : Expr} {f : Te} (h : DT X W c f) : DTs X W [c] f := pts_one h
theorem wipe_get_in {σ : St} {i : Nat} : ∀ {vs : List Nat}, i ∈ vs → i < σ.length → (wipe σ vs)[i]? = some none
  | [], h, _ => by simp at h
  | v :: vs, h, hi => by
    show ((wipe σ vs).set v none)[i]? = _
    by_cases e : v = i
    · subst e
      rw [List.getElem?_set_self (by rw [wipe_length]; exact hi)]
    · rw [List.getElem?_set_ne e]
      exact wipe_get_in ((List.mem_cons.mp h).resolve_left (Ne.symm e)) hi
theorem wipe_same {σ σ' : St} {vs : List Nat} (h : OnlyAt vs σ σ') : wipe σ' vs = wipe σ vs := by
  apply List.ext_getElem?
  intro i
  by_cases hi : i ∈ vs
  · by_cases hl : i < σ.length
    · rw [wipe_get_in hi hl, wipe_get_in hi (by rw [h.1]; exact hl)]
    · rw [List.getElem?_eq_none (by rw [wipe_length, h.1]; omega), List.getElem?_eq_none (by rw [wipe_length]; omega)]
  · rw [wipe_out hi, wipe_out hi]
    exact h.2 i hi
theorem wipe_idem {σ : St} {vs : List Nat} : OnlyAt vs σ (wipe σ vs) := ⟨wipe_length σ vs, fun _ hi => wipe_out hi⟩
theorem dps_wipe {K : PySem.W.Frag} {H : Hp} {σ : St} {ρ : Env} (h : DpS K H σ ρ) : ∀ vs : List Nat, DpS K H (wipe σ vs) (wipeD ρ vs)
  | [] => h
  | v :: vs => by
    have ih := dps_wipe h vs
    refine ⟨by show ((wipeD ρ vs).set v none).length = ((wipe σ vs).set v none).length; rw [List.length_set, List.length_set, ih.len], fun j e hj => ?_⟩
    have hj : ((wipeD ρ vs).set v none)[j]? = some (some e) := hj
    show ∃ w, ((wipe σ vs).set v none)[j]? = some (some w) ∧ _
    by_cases hvj : v = j
    · subst hvj
      by_cases hl : v < (wipeD ρ vs).length
      · rw [List.getElem?_set_self hl] at hj
        cases hj
      · rw [List.getElem?_eq_none (by rw [List.length_set]; omega)] at hj
        cases hj
    · rw [List.getElem?_set_ne hvj] at hj
      rw [List.getElem?_set_ne hvj]
      exact ih.get j e hj
theorem compD_app {t : Tgt} {c : Te} {e : Ex} {ρ : Env} : ∀ {ds : List PyData} {xs : List PyData} {i : Nat}, compD t c e ρ ds = .ok xs → i ≤ ds.length → ∃ ys zs, compD t c e ρ (ds.take i) = .ok ys ∧ compD t c e ρ (ds.drop i) = .ok zs ∧ xs = ys ++ zs
  | [], xs, i, h, _ => by
    cases h
    refine ⟨[], [], ?_, ?_, rfl⟩ <;> simp [compD]
  | d :: ds, xs, 0, h, _ => ⟨[], xs, rfl, h, rfl⟩
  | d :: ds, xs, i + 1, h, hi => by
    unfold compD at h
    rw [List.take_succ_cons, List.drop_succ_cons]
    cases e1 : bindT t d ρ with
    | ok ρ1 =>
      rw [e1] at h
      simp only [Res.bind_ok] at h
      cases e2 : noErr (c ρ1) with
      | ok k =>
        rw [e2] at h
        simp only [Res.bind_ok] at h
        cases k with
        | true =>
          rw [if_pos rfl] at h
          cases e3 : noErr (e ρ1) with
          | ok x =>
            rw [e3] at h
            simp only [Res.bind_ok] at h
            cases e4 : compD t c e ρ ds with
            | ok ws =>
              rw [e4] at h
              cases h
              obtain ⟨ys, zs, g1, g2, g3⟩ := compD_app (i := i) e4 (by simpa using hi)
              refine ⟨x :: ys, zs, ?_, g2, by rw [g3]; rfl⟩
              unfold compD
              simp [e1, e2, e3, g1]
            | err q => rw [e4] at h; cases h
            | bad => rw [e4] at h; cases h
          | err q => rw [e3] at h; cases h
          | bad => rw [e3] at h; cases h
        | false =>
          rw [if_neg Bool.false_ne_true] at h
          obtain ⟨ys, zs, g1, g2, g3⟩ := compD_app (i := i) h (by simpa using hi)
          refine ⟨ys, zs, ?_, g2, g3⟩
          unfold compD
          simp [e1, e2, g1]
      | err q => rw [e2] at h; cases h
      | bad => rw [e2] at h; cases h
    | err q => rw [e1] at h; cases h
    | bad => rw [e1] at h; cases h
theorem compD_noerr {t : Tgt} {c : Te} {e : Ex} {ρ : Env} {q : Str} : ∀ {ds : List PyData}, compD t c e ρ ds ≠ .err q
  | [] => fun h => by cases h
  | d :: ds => fun h => by
    unfold compD at h
    cases e1 : bindT t d ρ with
    | ok ρ1 =>
      rw [e1] at h
      simp only [Res.bind_ok] at h
      cases e2 : c ρ1 with
      | ok k =>
        rw [e2] at h
        simp only [noErr, Res.bind_ok] at h
        cases k with
        | true =>
          rw [if_pos rfl] at h
          cases e3 : e ρ1 with
          | ok x =>
            rw [e3] at h
            simp only [noErr, Res.bind_ok] at h
            cases e4 : compD t c e ρ ds with
            | ok ws => rw [e4] at h; cases h
            | err q => exact compD_noerr e4
            | bad => rw [e4] at h; cases h
          | err q => rw [e3] at h; cases h
          | bad => rw [e3] at h; cases h
        | false =>
          rw [if_neg Bool.false_ne_true] at h
          exact compD_noerr h
      | err q => rw [e2] at h; cases h
      | bad => rw [e2] at h; cases h
    | err q =>
      cases t with
      | one i => cases e1
      | tup is =>
        cases d <;> simp only [bindT] at e1 <;> first | cases e1 | (split at e1 <;> cases e1)
    | bad => rw [e1] at h; cases h
theorem dp_yd {K : PySem.W.Frag} {B H H' : Hp} {x : V} {d : PyData} (s : Same B H) (y : YD K B H x H' d) : Same H H' ∧ Dp K H' x d := by
  rcases y with ⟨rfl, h⟩ | ⟨T, o, us, es, hdn, hT, rfl, rfl, ha, rfl⟩
  · exact ⟨Same.refl _, dpMono s h⟩
  · exact ⟨sameUpd hT, .tup (.inl ⟨o, upd_same, hdn⟩) (dpAllMono (s.trans (sameUpd hT)) ha)⟩
theorem cut_upd {A : List Addr} {H : Hp} {T : Addr} {o : HO} (h : T ∉ A) : cut A (upd H T o) = upd (cut A H) T o := by
  funext b
  unfold cut upd
  by_cases h1 : b ∈ A
  · have : b ≠ T := fun e => h (e ▸ h1)
    simp [h1, this]
  · simp [h1]
theorem cut_upd_in {A : List Addr} {H : Hp} {T : Addr} {o : HO} (h : T ∈ A) : cut A (upd H T o) = cut A H := by
  funext b
  unfold cut upd
  by_cases h1 : b ∈ A
  · simp [h1]
  · have : b ≠ T := fun e => h1 (e ▸ h)
    simp [h1, this]
/-- the reading of a comprehension over data -/
theorem tLc_of {K : PySem.W.Frag} {mg : Str → Option Value} {W : WX} {it : Itr'} {t : Tgt} {c : Te} {e : Ex} {σ : St} {H : Hp} {Q : VK} (h : ∃ ρ, DpS K H σ ρ ∧ PostC K mg W σ H Q it t c e ρ) :
    tLc (tDI K mg W it) (tgG K t) (tDT K mg W0 c) (tFr (tD K mg W0 e)) t.slots σ H Q := by
  obtain ⟨ρ, hρ, h⟩ := h
  refine ⟨ρ, hρ, ?_⟩
  unfold PostC at h
  cases ei : it ρ with
  | err q => rw [ei] at h; exact h
  | bad => rw [ei] at h; exact h
  | ok ds =>
    rw [ei] at h
    obtain ⟨hlen, xs, ec, h⟩ := h
    · · intro J H1 s1 w D hD
        have hρ1 : DpS K H1 (wipe σ t.slots) (wipeD ρ t.slots) := dps_wipe (hρ.mono s1) _
        refine lc_it w.walk (fun i H' => Same H1 (cut [D] H') ∧ ∃ vs ys, H' D = some (.lst vs) ∧ DpAll K (cut [D] H') vs ys ∧ compD t c e (wipeD ρ t.slots) (ds.take i) = .ok ys ∧ vs.length ≤ i) ?_ ?_ ?_ ?_
        · have nD : ∀ b o, H1 b = some o → b ≠ D := fun b o q z => by rw [z, hD] at q; cases q
          refine ⟨fun b o q => ?_, [], [], upd_same, .nil, rfl, Nat.zero_le _⟩
          rw [cut_out (by simpa using nD b o q), upd_ne (nD b o q)]
          exact q
        · exact fun i H' _ ⟨s, _⟩ => s.trans cutSame
        · rintro i x H2 H3 hi ⟨s2, vs, ys, eD, hvs, hys, hl⟩ ⟨d, hd, y⟩
          have s2' : Same H1 H2 := s2.trans cutSame
          obtain ⟨s3, hx⟩ := dp_yd s2' y
          have eD3 : H3 D = some (.lst vs) := s3 _ _ eD
          -- in the heap without D
          have hxc : Dp K (cut [D] H3) x d := by
            rcases y with ⟨rfl, h⟩ | ⟨T, o, us, es, hdn, hT, rfl, rfl, ha, rfl⟩
            · exact dpMono s2 h
            · have nT : T ∉ [D] := fun z => by
                have e' : T = D := by simpa using z
                rw [e', eD] at hT; cases hT
              rw [cut_upd nT]
              have nT2 : cut [D] H2 T = none := by rw [cut_out nT]; exact hT
              exact .tup (.inl ⟨o, upd_same, hdn⟩) (dpAllMono (s2.trans (sameUpd nT2)) ha)
          have s3c : Same (cut [D] H2) (cut [D] H3) := cutMono s3
          have hρ3 : DpS K (cut [D] H3) (wipe σ t.slots) (wipeD ρ t.slots) := hρ1.mono (s2.trans s3c)
          have htake : ds.take (i + 1) = ds.take i ++ [d] := by rw [List.take_succ, hd]; rfl
          obtain ⟨_, _, ht1, ht2, _⟩ := compD_app (t := t) (c := c) (e := e) (ρ := wipeD ρ t.slots) (i := i) ec (Nat.le_of_lt hi)
          have hdrop : ds.drop i = d :: ds.drop (i + 1) := by
            obtain ⟨hi', e'⟩ := List.getElem?_eq_some_iff.mp hd
            rw [← e', ← List.drop_eq_getElem_cons hi']
          rw [hdrop] at ht2
          unfold compD at ht2
          cases eb : bindT t d (wipeD ρ t.slots) with
          | err q => rw [eb] at ht2; cases ht2
          | bad => rw [eb] at ht2; cases ht2
          | ok ρ2 =>
            rw [eb] at ht2
            simp only [Res.bind_ok] at ht2
            refine tgG_of cutSame hxc hρ3 eb fun σ2 o2 hρ2' => ⟨wipe_same (wipe_idem.trans o2), ?_⟩
            -- the data of the slots, in the heap without D: bind once more there
            cases ecn : c ρ2 with
            | err q => rw [ecn] at ht2; cases ht2
            | bad => rw [ecn] at ht2; cases ht2
            | ok k =>
              rw [ecn] at ht2
              simp only [noErr_ok, Res.bind_ok] at ht2
              have one : compD t c e (wipeD ρ t.slots) [d] = if k = true then (noErr (e ρ2)).bind fun x => .ok [x] else .ok [] := by
                unfold compD
                simp only [eb, ecn, Res.bind_ok, noErr_ok, compD]
              refine ⟨ρ2, hρ2'.mono cutSame, ?_⟩
              rw [ecn]
              intro H4 s4
              have eD4 : H4 D = some (.lst vs) := s4 _ _ eD3
              have s4c : Same (cut [D] H3) (cut [D] H4) := cutMono s4
              have app1 : ∀ zs, compD t c e (wipeD ρ t.slots) [d] = .ok zs → compD t c e (wipeD ρ t.slots) (ds.take (i + 1)) = .ok (ys ++ zs) := fun zs hz => by
                have ext : ∀ {l : List PyData} {ys zs : List PyData}, compD t c e (wipeD ρ t.slots) l = .ok ys → compD t c e (wipeD ρ t.slots) [d] = .ok zs → compD t c e (wipeD ρ t.slots) (l ++ [d]) = .ok (ys ++ zs) := by
                  intro l
                  induction l with
                  | nil => intro ys zs h1 h2; cases h1; simpa using h2
                  | cons a l ih =>
                    intro ys zs h1 h2
                    unfold compD at h1
                    show compD t c e (wipeD ρ t.slots) (a :: (l ++ [d])) = _
                    unfold compD
                    cases g1 : bindT t a (wipeD ρ t.slots) with
                    | err q => rw [g1] at h1; cases h1
                    | bad => rw [g1] at h1; cases h1
                    | ok ρ5 =>
                      rw [g1] at h1
                      simp only [Res.bind_ok] at h1 ⊢
                      cases g2 : noErr (c ρ5) with
                      | err q => rw [g2] at h1; cases h1
                      | bad => rw [g2] at h1; cases h1
                      | ok k5 =>
                        rw [g2] at h1
                        simp only [Res.bind_ok] at h1 ⊢
                        cases k5 with
                        | false =>
                          rw [if_neg Bool.false_ne_true] at h1 ⊢
                          exact ih h1 h2
                        | true =>
                          rw [if_pos rfl] at h1 ⊢
                          cases g3 : noErr (e ρ5) with
                          | err q => rw [g3] at h1; cases h1
                          | bad => rw [g3] at h1; cases h1
                          | ok x5 =>
                            rw [g3] at h1
                            simp only [Res.bind_ok] at h1 ⊢
                            cases g4 : compD t c e (wipeD ρ t.slots) l with
                            | err q => rw [g4] at h1; cases h1
                            | bad => rw [g4] at h1; cases h1
                            | ok ws =>
                              rw [g4] at h1
                              cases h1
                              rw [ih g4 h2]
                              rfl
                rw [htake]
                exact ext hys hz
              cases k with
              | false =>
                refine iteF ⟨s2.trans (s3c.trans s4c), vs, ys, eD4, dpAllMono (s3c.trans s4c) hvs, ?_, by omega⟩
                have z := app1 [] (by rw [one, if_neg Bool.false_ne_true])
                simpa using z
              | true =>
                rw [if_pos rfl] at ht2
                refine iteT ?_
                have hρ2c : DpS K (cut [D] H4) σ2 ρ2 := hρ2'.mono s4c
                cases ee : e ρ2 with
                | err q => rw [ee] at ht2; cases ht2
                | bad => rw [ee] at ht2; cases ht2
                | ok x' =>
                  have hA : Lsts [D] H4 := fun a ha => by
                    have e' : a = D := by simpa using ha
                    exact ⟨_, by rw [e']; exact eD4, .lst vs⟩
                  refine ⟨[D], hA, ρ2, hρ2c, ?_⟩
                  rw [ee]
                  intro v5 H5 s5 r5 n5
                  have eg : glue [D] H4 H5 D = some (.lst vs) := by rw [glue_in (by simp)]; exact eD4
                  refine ⟨vs, eg, by rw [sizeLine_eq]; omega, ?_⟩
                  have cg : cut [D] (upd (glue [D] H4 H5) D (.lst (vs ++ [v5]))) = H5 := by rw [cut_upd_in (by simp), glueCut n5]
                  refine ⟨?_, vs ++ [v5], ys ++ [x'], upd_same, ?_, ?_, ?_⟩
                  · rw [cg]; exact (s2.trans (s3c.trans s4c)).trans s5
                  · rw [cg]; exact (dpAllMono ((s3c.trans s4c).trans s5) hvs).app (.cons r5 .nil)
                  · exact app1 [x'] (by rw [one, if_pos rfl, ee]; rfl)
                  · rw [List.length_append, List.length_singleton]; omega
        · rintro H' ⟨s, vs, ys, eD, hvs, hys, _⟩
          rw [List.take_length, ec] at hys
          cases hys
          exact h D vs H' (s1.free hD) (s1.trans s) eD hvs
theorem postC_of {K : PySem.W.Frag} {mg : Str → Option Value} {W : WX} {it : Itr'} {t : Tgt} {c : Te} {e : Ex} {σ : St} {H : Hp} {Q : VK} {ρ : Env} (h : Post K mg W σ H Q (eComp it t c e ρ)) : PostC K mg W σ H Q it t c e ρ := by
  unfold PostC
  unfold eComp eCompL at h
  cases ei : it ρ with
  | err q => rw [ei] at h; exact h
  | bad => rw [ei] at h; exact h
  | ok ds =>
    rw [ei] at h
    simp only [Res.bind_ok] at h
    by_cases hlen : ds.length < 16777216
    · rw [if_pos hlen] at h
      cases ec : compD t c e (wipeD ρ t.slots) ds with
      | err q => exact absurd ec compD_noerr
      | bad => rw [ec] at h; exact h.elim
      | ok xs =>
        rw [ec] at h
        exact ⟨hlen, xs, ec, fun D vs H' hD s eD hvs => h _ H' (s.trans cutSame) (.lst (.inl (.inl eD)) (dpAllMono cutSame hvs))⟩
    · rw [if_neg hlen] at h
      exact h.elim
section
variable {X : Cx} {W : WX} {elt tg iter : Expr} {ifs : List Expr} {scope : Scope} {own : List (Str × Nat)} {pos : Pos} {it : Itr'} {t : Tgt} {c : Te} {e : Ex}
theorem d_comp (hc : X.calm = true) (hN : X.N.Nodup) (hi : DI X W tg iter it) (ok : BlkOk X.N X.env.scope scope own) (hsl : own.map (·.2) = t.slots)
    (hg : ∀ (s : Shared) (H : Hp) (C : Addr) (cl : List (Str × Addr)) (fp : List Addr), DG (X.blk s H scope (compEnvC scope cl C X.env) fp) tg t) (ht : ∀ (s : Shared) (H : Hp) (C : Addr) (cl : List (Str × Addr)) (fp : List Addr), DTs (X.blk s H scope (compEnvC scope cl C X.env) fp) W0 ifs c)
    (he : ∀ (s : Shared) (H : Hp) (C : Addr) (cl : List (Str × Addr)) (fp : List Addr), DE (X.blk s H scope (compEnvC scope cl C X.env) fp) W0 elt e) (hs : ∀ x, foldedSetIterable iter X.env x = pure x := by intro _; rfl) :
    DE X W (.ListComp elt [⟨tg, iter, ifs, 0⟩] scope pos) (eComp it t c e) :=
  peImp (pe_lc hc hN hi ok hg ht (fun s H C cl fp => pe_frame (he s H C cl fp)) hs) fun σ H Q ⟨ρ, hρ, h⟩ => by rw [hsl]; exact tLc_of ⟨ρ, hρ, postC_of h⟩
end
end L2.DL
set_option maxHeartbeats 2000000
namespace L2.DL
open PySem PySem.Spec PyProof.Rows

/-! ### statements: the frame's data, some slots hold lists of their own (own: slot, address) that may be changed -/
inductive SRes where
  | nx (ρ : Env) | ret (d : PyData) | brk (ρ : Env) | cnt (ρ : Env) | err (c : Str) (ρ : Env) | bad
abbrev Sf := Env → SRes
abbrev Ow := List (Nat × Addr)
abbrev AD (o : Ow) : List Addr := o.map (·.2)
abbrev ID (o : Ow) : List Nat := o.map (·.1)
/-- an own thing: a list, a dict -/
inductive OwnD (K : PySem.W.Frag) (B H : Hp) (a : Addr) : PyData → Prop
  | lst {vs : List V} {ds : List PyData} : H a = some (.lst vs) → DpAll K B vs ds → OwnD K B H a (.list ds)
  | dic {kvs : List (Key × V)} {ds : List (PyData × PyData)} : H a = some (.dK kvs) → DpK K B kvs ds → OwnD K B H a (.dict ds)
theorem OwnD.list {K : PySem.W.Frag} {B H : Hp} {a : Addr} {ds : List PyData} (h : OwnD K B H a (.list ds)) : ∃ vs, H a = some (.lst vs) ∧ DpAll K B vs ds := by
  cases h with
  | lst h1 h2 => exact ⟨_, h1, h2⟩
theorem OwnD.dict {K : PySem.W.Frag} {B H : Hp} {a : Addr} {ds : List (PyData × PyData)} (h : OwnD K B H a (.dict ds)) : ∃ kvs, H a = some (.dK kvs) ∧ DpK K B kvs ds := by
  cases h with
  | dic h1 h2 => exact ⟨_, h1, h2⟩
theorem OwnD.mono {K : PySem.W.Frag} {B B' H H' : Hp} {a : Addr} {d : PyData} (h : OwnD K B H a d) (e : H' a = H a) (s : Same B B') : OwnD K B' H' a d := by
  cases h with
  | lst h1 h2 => exact .lst (by rw [e]; exact h1) (dpAllMono s h2)
  | dic h1 h2 => exact .dic (by rw [e]; exact h1) (dpKMono s h2)
theorem OwnD.dp {K : PySem.W.Frag} {B H : Hp} {a : Addr} {d : PyData} (h : OwnD K B H a d) (s : Same B H) : Dp K H (.ref a) d := by
  cases h with
  | lst h1 h2 => exact .lst (.inl (.inl h1)) (dpAllMono s h2)
  | dic h1 h2 => exact .dic (.inl h1) (dpKMono s h2)
theorem OwnD.own1 {K : PySem.W.Frag} {B H : Hp} {a : Addr} {d : PyData} (h : OwnD K B H a d) : ∃ o, H a = some o ∧ Own1 o := by
  cases h with
  | lst h1 h2 => exact ⟨_, h1, .lst _⟩
  | dic h1 h2 => exact ⟨_, h1, .dK _⟩
theorem Same.eq_of {H H' : Hp} (s : Same H H') {a : Addr} {o : HO} (e : H a = some o) : H' a = H a := (s _ _ e).trans e.symm
structure SRep (K : PySem.W.Frag) (G : Hp) (o : Ow) (H : Hp) (σ : St) (ρ : Env) : Prop where
  len : ρ.length = σ.length
  get : ∀ (i : Nat) (d : PyData), ρ[i]? = some (some d) → i ∉ ID o → ∃ v, σ[i]? = some (some v) ∧ Dp K (cut (AD o) H) v d
  own : ∀ i a, (i, a) ∈ o → ∃ d, ρ[i]? = some (some d) ∧ σ[i]? = some (some (.ref a)) ∧ OwnD K (cut (AD o) H) H a d
  nda : (AD o).Nodup
  ndi : (ID o).Nodup
  base : Same G (cut (AD o) H)
theorem wipeD_length (ρ : Env) : ∀ vs : List Nat, (wipeD ρ vs).length = ρ.length
  | [] => rfl
  | v :: vs => by unfold wipeD; rw [List.length_set, wipeD_length ρ vs]
theorem wipeD_get {ρ : Env} {i : Nat} {d : PyData} : ∀ {vs : List Nat}, (wipeD ρ vs)[i]? = some (some d) → ρ[i]? = some (some d) ∧ i ∉ vs
  | [], h => ⟨h, by simp⟩
  | v :: vs, h => by
    unfold wipeD at h
    by_cases hi : v = i
    · subst hi
      by_cases hv : v < (wipeD ρ vs).length
      · rw [List.getElem?_set_self hv] at h; cases h
      · rw [List.getElem?_eq_none (by rw [List.length_set]; omega)] at h; cases h
    · rw [List.getElem?_set_ne hi] at h
      obtain ⟨h1, h2⟩ := wipeD_get h
      exact ⟨h1, by simp only [List.mem_cons, not_or]; exact ⟨fun e => hi e.symm, h2⟩⟩
theorem wipeD_out {ρ : Env} {i : Nat} : ∀ {vs : List Nat}, i ∉ vs → (wipeD ρ vs)[i]? = ρ[i]?
  | [], _ => rfl
  | v :: vs, h => by
    unfold wipeD
    rw [List.getElem?_set_ne (fun e => h (by rw [← e]; exact List.mem_cons_self)), wipeD_out fun z => h (List.mem_cons_of_mem _ z)]
section
variable {K : PySem.W.Frag} {G G' H H' : Hp} {o : Ow} {σ : St} {ρ : Env}
theorem SRep.lsts (R : SRep K G o H σ ρ) : Lsts (AD o) H := fun a ha => by
  obtain ⟨⟨i, b⟩, hp, rfl⟩ := List.mem_map.mp ha
  obtain ⟨d, _, _, h⟩ := R.own i b hp
  exact h.own1
theorem SRep.erase (R : SRep K G o H σ ρ) : DpS K (cut (AD o) H) σ (wipeD ρ (ID o)) := ⟨by rw [wipeD_length, R.len], fun i d e => by
  obtain ⟨h1, h2⟩ := wipeD_get e
  exact R.get i d h1 h2⟩
theorem SRep.full (R : SRep K G o H σ ρ) : DpS K H σ ρ := ⟨R.len, fun i d e => by
  by_cases h : i ∈ ID o
  · obtain ⟨⟨j, a⟩, hp, rfl⟩ := List.mem_map.mp h
    obtain ⟨d', h1, h2, h3⟩ := R.own j a hp
    rw [h1] at e
    cases e
    exact ⟨_, h2, h3.dp cutSame⟩
  · obtain ⟨v, h1, h2⟩ := R.get i d e h
    exact ⟨v, h1, dpMono cutSame h2⟩⟩
theorem SRep.mono (R : SRep K G o H σ ρ) (s : Same H H') : SRep K G o H' σ ρ := ⟨R.len, fun i d e h => by
  obtain ⟨v, h1, h2⟩ := R.get i d e h
  exact ⟨v, h1, dpMono (cutMono s) h2⟩, fun i a h => by
  obtain ⟨d, h1, h2, h3⟩ := R.own i a h
  obtain ⟨u, e, _⟩ := h3.own1
  exact ⟨d, h1, h2, h3.mono (Same.eq_of s e) (cutMono s)⟩, R.nda, R.ndi, R.base.trans (cutMono s)⟩
theorem SRep.glued (R : SRep K G o H σ ρ) (s : Same (cut (AD o) H) H') (n : ∀ a ∈ AD o, H' a = none) : SRep K G o (glue (AD o) H H') σ ρ ∧ cut (AD o) (glue (AD o) H H') = H' := ⟨R.mono (glueSame s), glueCut n⟩
theorem SRep.grow (R : SRep K G o H σ ρ) (s : Same G G') (h : Same G' (cut (AD o) H)) : SRep K G' o H σ ρ := ⟨R.len, R.get, R.own, R.nda, R.ndi, h⟩
theorem SRep.shrink (R : SRep K G o H σ ρ) (s : Same G' G) : SRep K G' o H σ ρ := ⟨R.len, R.get, R.own, R.nda, R.ndi, s.trans R.base⟩
theorem SRep.set {i : Nat} {v : V} {d : PyData} (R : SRep K G o H σ ρ) (hi : i ∉ ID o) (h : Dp K (cut (AD o) H) v d) : SRep K G o H (σ.set i (some v)) (ρ.set i (some d)) := by
  refine ⟨by rw [List.length_set, List.length_set, R.len], fun j e hj hn => ?_, fun j a hj => ?_, R.nda, R.ndi, R.base⟩
  · by_cases hij : i = j
    · subst hij
      by_cases hl : i < ρ.length
      · rw [List.getElem?_set_self hl] at hj
        cases hj
        exact ⟨v, List.getElem?_set_self (by rw [← R.len]; exact hl), h⟩
      · rw [List.getElem?_eq_none (by rw [List.length_set]; omega)] at hj
        cases hj
    · rw [List.getElem?_set_ne hij] at hj
      rw [List.getElem?_set_ne hij]
      exact R.get j e hj hn
  · have hij : i ≠ j := fun e => hi (by rw [e]; exact List.mem_map.mpr ⟨(j, a), hj, rfl⟩)
    rw [List.getElem?_set_ne hij, List.getElem?_set_ne hij]
    exact R.own j a hj
/-- a slot's list becomes data like any other -/
theorem cut_cons (a : Addr) (A : List Addr) (H : Hp) : cut (a :: A) H = cut A (cut [a] H) := by
  funext b
  unfold cut
  by_cases h1 : b = a <;> by_cases h2 : b ∈ A <;> simp [h1, h2]
theorem cut_cons_same (a : Addr) (A : List Addr) (H : Hp) : Same (cut (a :: A) H) (cut A H) := fun b u e => by
  obtain ⟨h1, h2⟩ := cut_some e
  rw [cut_out fun z => h1 (List.mem_cons_of_mem _ z)]
  exact h2
theorem cut_sub {A B : List Addr} (h : ∀ a ∈ B, a ∈ A) (H : Hp) : Same (cut A H) (cut B H) := fun b u e => by
  obtain ⟨h1, h2⟩ := cut_some e
  rw [cut_out fun z => h1 (h b z)]
  exact h2
def keepM (M : List Nat) (o : Ow) : Ow := o.filter fun p => decide (p.1 ∈ M)
theorem SRep.freeze (R : SRep K G o H σ ρ) (M : List Nat) : SRep K G (keepM M o) H σ ρ := by
  have sub : ∀ p ∈ keepM M o, p ∈ o := fun p hp => (List.mem_filter.mp hp).1
  have sA : ∀ a ∈ AD (keepM M o), a ∈ AD o := fun a ha => by
    obtain ⟨p, hp, rfl⟩ := List.mem_map.mp ha
    exact List.mem_map.mpr ⟨p, sub p hp, rfl⟩
  refine ⟨R.len, fun i d e h => ?_, fun i a h => ?_, ?_, ?_, R.base.trans (cut_sub sA H)⟩
  · by_cases hi : i ∈ ID o
    · obtain ⟨⟨j, a⟩, hp, rfl⟩ := List.mem_map.mp hi
      obtain ⟨d', h1, h2, h3⟩ := R.own j a hp
      rw [h1] at e
      cases e
      have na : a ∉ AD (keepM M o) := fun z => by
        obtain ⟨⟨k, b⟩, hq, e⟩ := List.mem_map.mp z
        have e : b = a := e
        subst e
        have hjk : (j, b) = (k, b) := by
          have nd := R.nda
          exact nodup_snd nd hp (sub _ hq) rfl
        cases hjk
        exact h (List.mem_map.mpr ⟨_, hq, rfl⟩)
      exact ⟨_, h2, (h3.mono (H' := cut (AD (keepM M o)) H) (cut_out na) (cut_sub sA H)).dp (Same.refl _)⟩
    · obtain ⟨v, h1, h2⟩ := R.get i d e hi
      exact ⟨v, h1, dpMono (cut_sub sA H) h2⟩
  · obtain ⟨d, h1, h2, h3⟩ := R.own i a (sub _ h)
    exact ⟨d, h1, h2, h3.mono rfl (cut_sub sA H)⟩
  · exact R.nda.sublist ((List.filter_sublist).map _)
  · exact R.ndi.sublist ((List.filter_sublist).map _)
where
  nodup_snd {l : Ow} {p q : Nat × Addr} (nd : (AD l).Nodup) (hp : p ∈ l) (hq : q ∈ l) : p.2 = q.2 → p = q := by
    induction l with
    | nil => cases hp
    | cons x r ih =>
      intro e
      have nd' := List.nodup_cons.mp (show (x.2 :: AD r).Nodup from nd)
      rcases List.mem_cons.mp hp with hp' | hp'
      · rcases List.mem_cons.mp hq with hq' | hq'
        · exact hp'.trans hq'.symm
        · exact absurd (show x.2 ∈ AD r from List.mem_map.mpr ⟨q, hq', by rw [← e, hp']⟩) nd'.1
      · rcases List.mem_cons.mp hq with hq' | hq'
        · exact absurd (show x.2 ∈ AD r from List.mem_map.mpr ⟨p, hp', by rw [e, hq']⟩) nd'.1
        · exact ih nd'.2 hp' hq' e
end
end L2.DL
set_option maxHeartbeats 2000000
namespace L2.DL
open PySem PySem.Spec PyProof.Rows

def SPost (K : PySem.W.Frag) (mg : Str → Option Value) (W : WX) (G : Hp) (M' Lb : List Nat) (D : Ends) : SRes → Prop
  | .nx ρ => ∀ σ' H' o, ID o = M' → SRep K G o H' σ' ρ → D.nx σ' H'
  | .brk ρ => ∀ σ' H' o, ID o = Lb → SRep K G o H' σ' ρ → D.bk σ' H'
  | .cnt ρ => ∀ σ' H' o, ID o = Lb → SRep K G o H' σ' ρ → D.ct σ' H'
  | .ret d => ∀ v H', Same G H' → Dp K H' v d → D.rt v H'
  | .err c ρ => ∃ C, mg c = some (.ref C) ∧ ∀ σ' H' (d : D0), Same G H' → DpS K H' σ' ρ → W (.ref C) d σ' H'
  | .bad => False
def tS (K : PySem.W.Frag) (mg : Str → Option Value) (W : WX) (M M' Lb : List Nat) (f : Sf) : TS := fun D σ H => ∃ G o ρ, ID o = M ∧ SRep K G o H σ ρ ∧ SPost K mg W G M' Lb D (f ρ)
abbrev DS (X : Cx) (W : WX) (M M' Lb : List Nat) (st : Stmt) (f : Sf) : Prop := PS X st (tS X.K X.mg W M M' Lb f)
abbrev DSs (X : Cx) (W : WX) (M M' Lb : List Nat) (st : List Stmt) (f : Sf) : Prop := PSs X st (tS X.K X.mg W M M' Lb f)
/-- an expression whose value shares nothing with the frame's own lists; these stay -/
def PostE (K : PySem.W.Frag) (mg : Str → Option Value) (W : WX) (G : Hp) (o : Ow) (σ : St) (ρ : Env) (Q : VK) : Res PyData → Prop
  | .ok d => ∀ v H', SRep K G o H' σ ρ → Dp K (cut (AD o) H') v d → Q v H'
  | .err c => ∃ C, mg c = some (.ref C) ∧ ∀ H' (d : D0), Same G H' → DpS K H' σ (wipeD ρ (ID o)) → W (.ref C) d σ H'
  | .bad => False
def tSE (K : PySem.W.Frag) (mg : Str → Option Value) (W : WX) (M : List Nat) (f : Ex) : TE := fun σ H Q => ∃ G o ρ, ID o = M ∧ SRep K G o H σ ρ ∧ PostE K mg W G o σ ρ Q (f ρ)
abbrev SE (X : Cx) (W : WX) (M : List Nat) (e : Expr) (f : Ex) : Prop := PE X e (tSE X.K X.mg W M f)
/-- an expression that lays a new list -/
def PostN (K : PySem.W.Frag) (mg : Str → Option Value) (W : WX) (σ : St) (H : Hp) (Q : VK) : Res (List PyData) → Prop
  | .ok ds => ∀ a vs H', Same H H' → H' a = none → DpAll K H' vs ds → Q (.ref a) (upd H' a (.lst vs))
  | .err c => ∃ C, mg c = some (.ref C) ∧ ∀ (d : D0) H', Same H H' → W (.ref C) d σ H'
  | .bad => False
def tDN (K : PySem.W.Frag) (mg : Str → Option Value) (W : WX) (f : Env → Res (List PyData)) : TE := fun σ H Q => ∃ ρ, DpS K H σ ρ ∧ PostN K mg W σ H Q (f ρ)
abbrev DN (X : Cx) (W : WX) (e : Expr) (f : Env → Res (List PyData)) : Prop := PE X e (tDN X.K X.mg W f)
section
variable {K : PySem.W.Frag} {mg : Str → Option Value} {W : WX} {G G' H H' : Hp} {o : Ow} {σ : St} {ρ : Env} {M M' Lb : List Nat} {D : Ends}
theorem Same.upd_of {a : Addr} {u : HO} (s : Same H H') (h : H a = none) (n : H' a = none) : Same H (upd H' a u) := s.trans (sameUpd n)
theorem SRep.same (R : SRep K G o H σ ρ) : Same G H := R.base.trans cutSame
end

/-! ### blocks -/
def nxS : Sf := fun ρ => .nx ρ
def seqS (f g : Sf) : Sf := fun ρ => match f ρ with
  | .nx ρ' => g ρ'
  | r => r
def ifS (c : Te) (a b : Sf) : Sf := fun ρ => match c ρ with
  | .ok k => if k = true then a ρ else b ρ
  | .err c => .err c ρ
  | .bad => .bad
def retS (e : Ex) : Sf := fun ρ => match e ρ with
  | .ok d => .ret d
  | .err c => .err c ρ
  | .bad => .bad
def exprS (e : Ex) : Sf := fun ρ => match e ρ with
  | .ok _ => .nx ρ
  | .err c => .err c ρ
  | .bad => .bad
def raiseS (c : Str) : Sf := fun ρ => .err c ρ
def setS (M : List Nat) (i : Nat) (e : Ex) : Sf := fun ρ => match e ρ with
  | .ok d => .nx (ρ.set i (some d))
  | .err c => .err c (wipeD ρ M)
  | .bad => .bad
def newS (M : List Nat) (i : Nat) (e : Env → Res (List PyData)) : Sf := fun ρ => match e (wipeD ρ M) with
  | .ok ds => if i < ρ.length then .nx (ρ.set i (some (.list ds))) else .bad
  | .err c => .err c (wipeD ρ M)
  | .bad => .bad
def asgS (M : List Nat) (t : Tgt) (e : Ex) : Sf := fun ρ => match e ρ with
  | .ok d => (match bindT t d ρ with
    | .ok ρ' => .nx ρ'
    | _ => .bad)
  | .err c => .err c (wipeD ρ M)
  | .bad => .bad
section
variable {X : Cx} {W : WX} {M M' M1 M2 Lb : List Nat} {st : Stmt} {rest a b : List Stmt} {f g : Sf} {e : Expr} {fe : Ex} {c : Expr} {fc : Te} {pos : Pos}
theorem s_nil : DSs X W M M Lb [] nxS := pssImp pss_nil fun D σ H ⟨G, o, ρ, hm, R, q⟩ => q σ H o hm R
theorem s_one (h : DS X W M M' Lb st f) : DSs X W M M' Lb [st] f := pss_one h
theorem s_cons (h1 : DS X W M M1 Lb st f) (h2 : DSs X W M1 M2 Lb rest g) : DSs X W M M2 Lb (st :: rest) (seqS f g) := by
  refine pssImp (pss_cons h1 h2) fun D σ H ⟨G, o, ρ, hm, R, q⟩ => ⟨G, o, ρ, hm, R, ?_⟩
  unfold seqS at q
  cases e : f ρ with
  | nx ρ' => rw [e] at q; exact fun σ' H' o' hm' R' => ⟨G, o', ρ', hm', R', q⟩
  | ret d => rw [e] at q; exact q
  | brk ρ' => rw [e] at q; exact q
  | cnt ρ' => rw [e] at q; exact q
  | err c ρ' => rw [e] at q; exact q
  | bad => rw [e] at q; exact q
/-- some slots' own lists become plain data ahead of a block -/
theorem s_frz (M1 : List Nat) (hM : M.filter (fun i => decide (i ∈ M1)) = M1) (h : DSs X W M1 M2 Lb rest g) : DSs X W M M2 Lb rest g := by
  refine pssImp h fun D σ H ⟨G, o, ρ, hm, R, q⟩ => ⟨G, keepM M1 o, ρ, ?_, R.freeze M1, q⟩
  have z : ID (keepM M1 o) = (ID o).filter fun i => decide (i ∈ M1) := by
    show ((o.filter fun p => decide (p.1 ∈ M1)).map (·.1)) = _
    rw [List.filter_map]
    rfl
  rw [z, hm, hM]
theorem s_pass : DS X W M M Lb (.Pass pos) nxS := psImp ps_pass fun D σ H ⟨G, o, ρ, hm, R, q⟩ => q σ H o hm R
theorem s_doc {x j pos'} : DS X W M M Lb (.Expr (.Constant (.str x) j pos') pos) nxS := psImp ps_doc fun D σ H ⟨G, o, ρ, hm, R, q⟩ => q σ H o hm R
theorem s_break : DS X W M M' M (.Break pos) (fun ρ => .brk ρ) := psImp ps_break fun D σ H ⟨G, o, ρ, hm, R, q⟩ => q σ H o hm R
theorem s_cont : DS X W M M' M (.Continue pos) (fun ρ => .cnt ρ) := psImp ps_continue fun D σ H ⟨G, o, ρ, hm, R, q⟩ => q σ H o hm R
theorem s_if (hc : DT X W c fc) (ha : DSs X W M M' Lb a f) (hb : DSs X W M M' Lb b g) : DS X W M M' Lb (.If c a b pos) (ifS fc f g) := by
  refine psImp (ps_if hc ha hb) fun D σ H ⟨G, o, ρ, hm, R, q⟩ => ⟨ρ, R.full, ?_⟩
  unfold ifS at q
  cases e : fc ρ with
  | ok k =>
    rw [e] at q
    intro H1 s1
    cases k with
    | true => exact iteT ⟨G, o, ρ, hm, R.mono s1, q⟩
    | false => exact iteF ⟨G, o, ρ, hm, R.mono s1, q⟩
  | err c =>
    rw [e] at q
    obtain ⟨C, h1, h2⟩ := q
    exact ⟨C, h1, fun d H' s => h2 σ H' d (R.same.trans s) (R.full.mono s)⟩
  | bad => rw [e] at q; exact q.elim
theorem s_ret (h : DE X W e fe) : DS X W M M' Lb (.Return (some e) pos) (retS fe) := by
  refine psImp (ps_ret h) fun D σ H ⟨G, o, ρ, hm, R, q⟩ => ⟨ρ, R.full, ?_⟩
  unfold retS at q
  cases e : fe ρ with
  | ok k => rw [e] at q; exact fun v H' s r => q v H' (R.same.trans s) r
  | err c =>
    rw [e] at q
    obtain ⟨C, h1, h2⟩ := q
    exact ⟨C, h1, fun d H' s => h2 σ H' d (R.same.trans s) (R.full.mono s)⟩
  | bad => rw [e] at q; exact q.elim
theorem s_retN : DS X W M M' Lb (.Return none pos) (fun _ => .ret .none) := psImp ps_retN fun D σ H ⟨G, o, ρ, hm, R, q⟩ => q .non H R.same .non
theorem s_expr (h : DE X W e fe) (hs : swapsWith e none pos.line X.env = pure false := by rfl) : DS X W M M Lb (.Expr e pos) (exprS fe) := by
  refine psImp (ps_expr h hs) fun D σ H ⟨G, o, ρ, hm, R, q⟩ => ⟨ρ, R.full, ?_⟩
  unfold exprS at q
  cases e : fe ρ with
  | ok k => rw [e] at q; exact fun v H' s r => q σ H' o hm (R.mono s)
  | err c =>
    rw [e] at q
    obtain ⟨C, h1, h2⟩ := q
    exact ⟨C, h1, fun d H' s => h2 σ H' d (R.same.trans s) (R.full.mono s)⟩
  | bad => rw [e] at q; exact q.elim
end

/-! ### values for slots -/
mutual
/-- no list lies in it: it shares nothing with a list -/
def noList : PyData → Bool
  | .list _ => false
  | .dict _ => false
  | .tuple xs => noLists xs
  | .none => true
  | .bool _ => true
  | .int _ => true
  | .str _ => true
def noLists : List PyData → Bool
  | [] => true
  | x :: xs => noList x && noLists xs
end
def scal (d : PyData) : Res PyData := if noList d = true then .ok d else .bad
@[simp] theorem noList_none : noList .none = true := rfl
@[simp] theorem noList_bool (b : Bool) : noList (.bool b) = true := rfl
@[simp] theorem noList_int (i : Int) : noList (.int i) = true := rfl
@[simp] theorem noList_str (x : Str) : noList (.str x) = true := rfl
@[simp] theorem noList_tuple (xs : List PyData) : noList (.tuple xs) = noLists xs := rfl
@[simp] theorem noLists_nil : noLists [] = true := rfl
@[simp] theorem noLists_cons (x : PyData) (xs : List PyData) : noLists (x :: xs) = (noList x && noLists xs) := rfl
@[simp] theorem scal_none : scal .none = .ok .none := rfl
@[simp] theorem scal_bool (b : Bool) : scal (.bool b) = .ok (.bool b) := rfl
@[simp] theorem scal_int (i : Int) : scal (.int i) = .ok (.int i) := rfl
@[simp] theorem scal_str (x : Str) : scal (.str x) = .ok (.str x) := rfl
theorem scal_ok {d : PyData} (h : noList d = true) : scal d = .ok d := if_pos h
mutual
theorem dp_noList {K : PySem.W.Frag} {A : List Addr} {H : Hp} (hA : Lsts A H) : ∀ {v : V} {d : PyData}, Dp K H v d → noList d = true → Dp K (cut A H) v d
  | _, _, .non, _ => .non
  | _, _, .bl b, _ => .bl b
  | _, _, .int i, _ => .int i
  | _, _, .str x, _ => .str x
  | _, _, .lst _ _, n => by cases n
  | _, _, .dic _ _, n => by cases n
  | _, _, .ins _ _ _, n => by cases n
  | _, _, .tup h a, n => .tup (by
      have out : ∀ {p o}, H p = some o → ¬ Own1 o → cut A H p = some o := fun {p o} e z => by
        rw [cut_out]
        · exact e
        · intro q
          obtain ⟨o1, e', k⟩ := hA p q
          rw [e] at e'; cases e'
          exact z k
      rcases h with ⟨o, h, d⟩ | h
      · exact .inl ⟨o, out h (fun z => nomatch z), d⟩
      · exact .inr h) (dp_noLists hA a n)
theorem dp_noLists {K : PySem.W.Frag} {A : List Addr} {H : Hp} (hA : Lsts A H) : ∀ {vs : List V} {ds : List PyData}, DpAll K H vs ds → noLists ds = true → DpAll K (cut A H) vs ds
  | _, _, .nil, _ => .nil
  | _, _, .cons h t, n => by
    rw [noLists_cons, Bool.and_eq_true] at n
    exact .cons (dp_noList hA h n.1) (dp_noLists hA t n.2)
end
section
variable {X : Cx} {W : WX} {M M' M1 M2 Lb : List Nat} {e : Expr} {fe : Ex} {pos : Pos}
/-- run without the own lists -/
theorem se_fr (h : DE X W e fe) : SE X W M e (fun ρ => fe (wipeD ρ M)) := by
  refine peImp (pe_frame h) fun σ H Q ⟨G, o, ρ, hm, R, q⟩ => ⟨AD o, R.lsts, wipeD ρ M, by rw [← hm]; exact R.erase, ?_⟩
  dsimp only at q
  cases e : fe (wipeD ρ M) with
  | ok d =>
    rw [e] at q
    intro v H' s r n
    obtain ⟨R', ec⟩ := R.glued s n
    exact q v _ R' (by rw [ec]; exact r)
  | err c =>
    rw [e] at q
    obtain ⟨C, h1, h2⟩ := q
    refine ⟨C, h1, fun d H' s => h2 H' d (R.base.trans s) ((R.erase).mono s)⟩
  | bad => rw [e] at q; exact q.elim
/-- where there are no own lists -/
theorem se_no (h : DE X W e fe) : SE X W [] e fe := se_fr (M := []) h
/-- with the own lists in sight: a plain scalar comes of it -/
theorem se_sc (h : DE X W e fe) : SE X W M e (fun ρ => (fe ρ).bind scal) := by
  refine peImp h fun σ H Q ⟨G, o, ρ, hm, R, q⟩ => ⟨ρ, R.full, ?_⟩
  dsimp only at q
  cases e : fe ρ with
  | ok d =>
    rw [e] at q
    simp only [Res.bind_ok] at q
    intro v H' s r
    unfold scal at q
    by_cases hd : noList d = true
    · rw [if_pos hd] at q
      have R' := R.mono s
      exact q v H' R' (dp_noList R'.lsts r hd)
    · rw [if_neg hd] at q
      exact q.elim
  | err c =>
    rw [e] at q
    obtain ⟨C, h1, h2⟩ := q
    refine ⟨C, h1, fun d H' s => h2 H' d (R.same.trans s) ⟨by rw [wipeD_length, R.len], fun i d' hi => ?_⟩⟩
    exact (R.full.mono s).get i d' (wipeD_get hi).1
  | bad => rw [e] at q; exact q.elim
theorem s_set (i : Nat) {x : Str} {px : Pos} (hN : X.N.Nodup) (h : SE X W M e fe) (hi : X.N[i]? = some x := by rfl) (hx : Loc X.env.scope x := by first | exact Or.inl rfl | exact Or.inr rfl) (hiM : i ∉ M := by decide)
    (hs : swapsWith e (some (.Name x px)) pos.line X.env = pure false := by rfl) (hf : X.fn x = true ∨ X.env.scope.names.lookup x = some .local := by first | exact .inl rfl | exact .inr rfl | assumption) : DS X W M M Lb (.Assign [.Name x px] e pos) (setS M i fe) := by
  refine psImp (ps_set hN hi hx h hs hf) fun D σ H ⟨G, o, ρ, hm, R, q⟩ => ⟨G, o, ρ, hm, R, ?_⟩
  unfold setS at q
  cases e : fe ρ with
  | ok d =>
    rw [e] at q
    exact fun v H' R' r => q _ H' o hm (R'.set (by rw [hm]; exact hiM) r)
  | err c =>
    rw [e] at q
    obtain ⟨C, h1, h2⟩ := q
    exact ⟨C, h1, fun H' d s r => h2 σ H' d s (by rw [← hm]; exact r)⟩
  | bad => rw [e] at q; exact q.elim
/-- a target that may be several names -/
theorem s_asg {tg : Expr} {t : Tgt} (hg : DG X tg t) (h : SE X W M e fe) (hd : ∀ i ∈ t.slots, i ∉ M := by decide) (hs : swapsWithSole [tg] e pos.line X.env = pure false := by rfl) (hw : swappedStores [tg] e X.env = pure none := by rfl)
    (h1 : (assignEach [tg] X.env).map (·.2) = [assign tg X.env] := by rfl) : DS X W M M Lb (.Assign [tg] e pos) (asgS M t fe) := by
  refine psImp (ps_asg h hg hs hw h1) fun D σ H ⟨G, o, ρ, hm, R, q⟩ => ⟨G, o, ρ, hm, R, ?_⟩
  unfold asgS at q
  cases e : fe ρ with
  | ok d =>
    rw [e] at q
    intro v H' R' r
    dsimp only at q
    cases eb : bindT t d ρ with
    | ok ρ' =>
      rw [eb] at q
      exact bind_own R' r (by rw [hm]; exact hd) eb fun σ' R2 => q σ' H' o hm R2
    | err c => rw [eb] at q; exact q.elim
    | bad => rw [eb] at q; exact q.elim
  | err c =>
    rw [e] at q
    obtain ⟨C, h1, h2⟩ := q
    exact ⟨C, h1, fun H' d s r => h2 σ H' d s (by rw [← hm]; exact r)⟩
  | bad => rw [e] at q; exact q.elim
where
  setAll_own {K : PySem.W.Frag} {G H : Hp} {o : Ow} {Q : St → Hp → Prop} : ∀ (is : List Nat) {vs : List V} {ds : List PyData} {σ : St} {ρ : Env}, (∀ i ∈ is, i ∉ ID o) → ds.length = is.length → DpAll K (cut (AD o) H) vs ds → SRep K G o H σ ρ →
      (∀ σ', SRep K G o H σ' (setAll is ds ρ) → Q σ' H) → gNames is vs σ H Q
    | [], vs, ds, σ, ρ, _, hl, hv, R, q => by
      cases hv with
      | nil => exact ⟨rfl, q σ R⟩
      | cons _ _ => simp at hl
    | i :: is, vs, ds, σ, ρ, hn, hl, hv, R, q => by
      cases hv with
      | nil => simp at hl
      | cons h1 h2 => exact ⟨_, _, rfl, setAll_own is (fun j hj => hn j (List.mem_cons_of_mem _ hj)) (by simpa using hl) h2 (R.set (hn i List.mem_cons_self) h1) q⟩
  bind_own {K : PySem.W.Frag} {G H : Hp} {o : Ow} {σ : St} {ρ ρ' : Env} {t : Tgt} {v : V} {d : PyData} {Q : St → Hp → Prop} (R : SRep K G o H σ ρ) (hd : Dp K (cut (AD o) H) v d) (hn : ∀ i ∈ t.slots, i ∉ ID o) (e : bindT t d ρ = .ok ρ')
      (q : ∀ σ', SRep K G o H σ' ρ' → Q σ' H) : tgG K t v σ H Q := by
    cases t with
    | one i =>
      cases e
      exact q _ (R.set (hn i (by simp [Tgt.slots])) hd)
    | tup is =>
      cases d with
      | tuple ds =>
        unfold bindT at e
        dsimp only at e
        split at e
        · rename_i hl
          cases e
          obtain ⟨a, xs, rfl, hs, hv⟩ := dp_tup hd
          exact ⟨a, xs, rfl, Same.sqt cutSame hs, by rw [hv.len]; exact hl, setAll_own is hn hl hv R q⟩
        · cases e
      | _ => cases e
/-- a name's own list is not used as such any more: the name is given something else -/
theorem s_new (i : Nat) {x : Str} {px : Pos} {fl : Env → Res (List PyData)} (hN : X.N.Nodup) (h : DN X W e fl) (hi : X.N[i]? = some x := by rfl) (hx : Loc X.env.scope x := by first | exact Or.inl rfl | exact Or.inr rfl) (hiM : i ∉ M := by decide)
    (hs : swapsWith e (some (.Name x px)) pos.line X.env = pure false := by rfl) (hf : X.fn x = true ∨ X.env.scope.names.lookup x = some .local := by first | exact .inl rfl | exact .inr rfl | assumption) : DS X W M (i :: M) Lb (.Assign [.Name x px] e pos) (newS M i fl) := by
  refine psImp (ps_set hN hi hx (pe_frame h) hs hf) fun D σ H hh => new_of hi hiM hh
where
  new_of {X : Cx} {W : WX} {M Lb : List Nat} {i : Nat} {x : Str} {fl : Env → Res (List PyData)} {D : Ends} {σ : St} {H : Hp} (hi : X.N[i]? = some x) (hiM : i ∉ M) (h : tS X.K X.mg W M (i :: M) Lb (newS M i fl) D σ H) : tAsg (tFr (tDN X.K X.mg W fl)) (gName i) D σ H := by
    obtain ⟨G, o, ρ, hm, R, q⟩ := h
    refine ⟨AD o, R.lsts, wipeD ρ M, by rw [← hm]; exact R.erase, ?_⟩
    unfold newS at q
    cases e : fl (wipeD ρ M) with
    | ok ds =>
      rw [e] at q
      intro a vs H' s na hv n
      dsimp only at q
      by_cases hl : i < ρ.length
      rotate_left
      · rw [if_neg hl] at q; exact q.elim
      rw [if_pos hl] at q
      -- the heap behind: the own lists as they were, the new list at a
      have naA : a ∉ AD o := fun z => by
        have := n a z
        rw [upd_same] at this
        cases this
      have n' : ∀ b ∈ AD o, H' b = none := fun b hb => by
        have := n b hb
        rw [upd_ne (fun z => naA (by rw [← z]; exact hb))] at this
        exact this
      obtain ⟨R', ec⟩ := R.glued s n'
      have eg : glue (AD o) H (upd H' a (.lst vs)) = upd (glue (AD o) H H') a (.lst vs) := by
        funext b
        unfold glue upd
        by_cases h1 : b ∈ AD o
        · have : b ≠ a := fun z => naA (by rw [← z]; exact h1)
          simp [h1, this]
        · simp [h1]
      have hga : glue (AD o) H H' a = none := by rw [glue_out naA]; exact na
      rw [eg]
      refine q _ _ ((i, a) :: o) (by show i :: ID o = _; rw [hm]) (own_new R' (by rw [hm]; exact hiM) hl hga naA (by rw [ec]; exact hv))
    | err c =>
      rw [e] at q
      obtain ⟨C, h1, h2⟩ := q
      refine ⟨C, h1, fun d H' s => h2 σ H' d (R.base.trans s) (by rw [← hm]; exact (R.erase).mono s)⟩
    | bad => rw [e] at q; exact q.elim
  own_new {K : PySem.W.Frag} {G H : Hp} {o : Ow} {σ : St} {ρ : Env} {i : Nat} {a : Addr} {vs : List V} {ds : List PyData} (R : SRep K G o H σ ρ) (hi : i ∉ ID o) (hl : i < ρ.length) (ha : H a = none) (naA : a ∉ AD o) (hv : DpAll K (cut (AD o) H) vs ds) :
      SRep K G ((i, a) :: o) (upd H a (.lst vs)) (σ.set i (some (.ref a))) (ρ.set i (some (.list ds))) := by
    have ec : cut (AD ((i, a) :: o)) (upd H a (.lst vs)) = cut (AD o) H := by
      funext b
      unfold cut
      by_cases h1 : b = a
      · subst h1
        have z : b ∈ AD ((i, b) :: o) := List.mem_cons_self
        rw [if_pos z]
        by_cases h2 : b ∈ AD o
        · exact absurd h2 naA
        · rw [if_neg h2]; exact ha.symm
      · by_cases h2 : b ∈ AD o
        · rw [if_pos h2, if_pos (show b ∈ AD ((i, a) :: o) from List.mem_cons_of_mem _ h2)]
        · rw [if_neg h2, if_neg (show b ∉ AD ((i, a) :: o) from fun z => (List.mem_cons.mp z).elim h1 h2), upd_ne h1]
    refine ⟨by rw [List.length_set, List.length_set, R.len], fun j d hj hn => ?_, fun j b hj => ?_, List.nodup_cons.mpr ⟨naA, R.nda⟩, List.nodup_cons.mpr ⟨hi, R.ndi⟩, by rw [ec]; exact R.base⟩
    · have hij : i ≠ j := fun z => hn (by rw [← z]; exact List.mem_cons_self)
      rw [List.getElem?_set_ne hij] at hj
      rw [List.getElem?_set_ne hij, ec]
      exact R.get j d hj fun z => hn (List.mem_cons_of_mem _ z)
    · rw [ec]
      rcases List.mem_cons.mp hj with z | z
      · cases z
        exact ⟨_, List.getElem?_set_self hl, List.getElem?_set_self (by rw [← R.len]; exact hl), .lst upd_same hv⟩
      · obtain ⟨e, h1, h2, h3⟩ := R.own j b z
        have hij : i ≠ j := fun q => hi (by rw [q]; exact List.mem_map.mpr ⟨(j, b), z, rfl⟩)
        have hba : b ≠ a := fun q => naA (by rw [← q]; exact List.mem_map.mpr ⟨(j, b), z, rfl⟩)
        exact ⟨e, by rw [List.getElem?_set_ne hij]; exact h1, by rw [List.getElem?_set_ne hij]; exact h2, h3.mono (upd_ne hba) (Same.refl _)⟩
end
end L2.DL
set_option maxHeartbeats 2000000
namespace L2.DL
open PySem PySem.Spec PyProof.Rows

/-! ### new lists -/
section
variable {K : PySem.W.Frag} {mg : Str → Option Value} {W : WX} {σ : St} {H H' : Hp}
theorem PostN.of {Q : VK} {r : Res (List PyData)} (h : PostN K mg W σ H Q r) (s : Same H H') : PostN K mg W σ H' Q r := by
  cases r with
  | ok d => exact fun a vs H2 s2 n q => h a vs H2 (s.trans s2) n q
  | err c =>
    obtain ⟨C, h1, h2⟩ := h
    exact ⟨C, h1, fun d H2 s2 => h2 d H2 (s.trans s2)⟩
  | bad => exact h
theorem Post.bindN {Q : VK} {r : Res PyData} {k : PyData → Res (List PyData)} (h : PostN K mg W σ H Q (r.bind k)) :
    Post K mg W σ H (fun v H' => ∃ d, r = .ok d ∧ Same H H' ∧ Dp K H' v d ∧ PostN K mg W σ H' Q (k d)) r := by
  cases r with
  | ok d => exact fun v H2 s2 q => ⟨d, rfl, s2, q, PostN.of (r := k d) h s2⟩
  | err c => exact h
  | bad => exact h
theorem PostA.bindN {n : Nat} {Q : VK} {r : Res (List PyData)} {k : List PyData → Res (List PyData)} (h : PostN K mg W σ H Q (r.bind k)) :
    PostA K mg W σ n H (fun vs H' => ∃ ds, r = .ok ds ∧ vs.length = n ∧ Same H H' ∧ DpAll K H' vs ds ∧ PostN K mg W σ H' Q (k ds)) r := by
  cases r with
  | ok d => exact fun v H2 hl s2 q => ⟨d, rfl, hl, s2, q, PostN.of (r := k d) h s2⟩
  | err c => exact h
  | bad => exact h
theorem postC_ofN {it : Itr'} {t : Tgt} {c : Te} {e : Ex} {Q : VK} {ρ : Env} (h : PostN K mg W σ H Q (eCompL it t c e ρ)) : PostC K mg W σ H Q it t c e ρ := by
  unfold PostC
  unfold eCompL at h
  cases ei : it ρ with
  | err q => rw [ei] at h; exact h
  | bad => rw [ei] at h; exact h
  | ok ds =>
    rw [ei] at h
    simp only [Res.bind_ok] at h
    by_cases hlen : ds.length < 16777216
    · rw [if_pos hlen] at h
      cases ec : compD t c e (wipeD ρ t.slots) ds with
      | err q => exact absurd ec compD_noerr
      | bad => rw [ec] at h; exact h.elim
      | ok xs =>
        rw [ec] at h
        refine ⟨hlen, xs, ec, fun D vs H' hD s eD hvs => ?_⟩
        have q := h D vs (cut [D] H') s (cut_in (by simp)) hvs
        have e1 : upd (cut [D] H') D (.lst vs) = H' := by
          funext b
          unfold upd cut
          by_cases hb : b = D
          · subst hb; rw [if_pos rfl]; exact eD.symm
          · rw [if_neg hb, if_neg (by simpa using hb)]
        rw [e1] at q
        exact q
    · rw [if_neg hlen] at h
      exact h.elim
end
def nLst (f : Ar) : Env → Res (List PyData) := fun ρ => (f ρ).bind fun xs => if xs.length ≤ 16777216 then .ok xs else .bad
def nR1 (f : Ex) : Env → Res (List PyData) := fun ρ => (f ρ).bind fun x => (asI x).bind fun n => if inB n then .ok (rangeD 0 n) else .bad
def nList (f : Ex) : Env → Res (List PyData) := fun ρ => (f ρ).bind items
def nCat (f g : Ex) : Env → Res (List PyData) := fun ρ => (f ρ).bind fun x => (g ρ).bind fun y => (asL x).bind fun xs => (asL y).bind fun ys => if xs.length + ys.length ≤ 16777216 then .ok (xs ++ ys) else .bad
section
variable {X : Cx} {W : WX} {a b : Expr} {fa fb : Ex} {es : List Expr} {g : Ar} {p p2 pos pos2 : Pos}
theorem n_lst (h : DA X W es g) : DN X W (.List es pos) (nLst g) := by
  refine peImp (pe_lst h) fun σ H Q ⟨ρ, hρ, h⟩ => ⟨ρ, hρ, (PostA.bindN h).imp fun vs H2 _ ⟨ds, _, hl, s2, r2, h3⟩ => ?_⟩
  by_cases hl : ds.length ≤ 16777216
  · rw [if_pos hl] at h3
    exact ⟨by rw [r2.len, sizeLine_eq]; exact hl, fun p hp => h3 p vs _ (Same.refl _) hp r2⟩
  · rw [if_neg hl] at h3
    exact h3.elim
theorem n_R1 (hc : X.calm = true) (hm : X.mg "list" = none) (hm2 : X.mg "range" = none) (h : DE X W a fa) (hg : Gl X "list" := by rfl) (hg2 : Gl X "range" := by rfl) (na : starEach [a] X.env = (false, eval a X.env) :: starEach [] X.env := by rfl)
    (nb : starEach [.Call (.Name "range" p2) [a] [] pos2] X.env = (false, eval (.Call (.Name "range" p2) [a] [] pos2) X.env) :: starEach [] X.env := by rfl) : DN X W (.Call (.Name "list" p) [.Call (.Name "range" p2) [a] [] pos2] [] pos) (nR1 fa) := by
  refine peImp (pe_listRg hc hg hm (prg_1 hg2 hm2 h na) nb) fun σ H Q ⟨ρ, hρ, h⟩ => ⟨ρ, hρ, (Post.bindN h).imp fun v H1 _ ⟨d, _, s1, rx, h1⟩ => ?_⟩
  cases d with
  | int n =>
    have h1 : PostN X.K X.mg W σ H1 Q (if inB n then .ok (rangeD 0 n) else .bad) := h1
    by_cases hb : inB n
    · rw [if_pos hb] at h1
      unfold inB at hb
      exact ⟨n, dp_int rx, ⟨by omega, by omega, by omega, by omega, by omega⟩, fun q hq => h1 q _ _ (Same.refl _) hq (dp_rg 0 n)⟩
    · rw [if_neg hb] at h1
      exact h1.elim
  | _ => exact h1.elim
theorem n_list (hm : X.mg "list" = none) (ha : DE X W a fa) (hg : Gl X "list" := by rfl) (hs : starEach [a] X.env = (false, eval a X.env) :: starEach [] X.env := by rfl) (hpl : (backTo pos (starEach [] X.env)).any (·.1) = false := by rfl) : DN X W (.Call (.Name "list" p) [a] [] pos) (nList fa) := by
  refine peImp (pe_callTy call_list_of hg hm (by decide +kernel) (pa_cons ha pa_nil hs) (he := hs) (hpl := hpl)) fun σ H Q ⟨ρ, hρ, h⟩ => ⟨ρ, hρ, (Post.bindN h).imp fun v H1 _ ⟨d, _, s1, rx, h1⟩ => ?_⟩
  cases d with
  | list ds =>
    obtain ⟨q, vs, rfl, hs, hv⟩ := dp_lst rx
    exact ⟨q, vs, rfl, .inl hs, fun l hl => h1 l vs _ (Same.refl _) hl hv⟩
  | tuple ds =>
    obtain ⟨q, vs, rfl, hs, hv⟩ := dp_tup rx
    exact ⟨q, vs, rfl, .inr hs, fun l hl => h1 l vs _ (Same.refl _) hl hv⟩
  | _ => exact h1.elim
theorem n_cat (ha : DE X W a fa) (hb : DE X W b fb) : DN X W (.BinOp a .Add b pos) (nCat fa fb) := by
  refine peImp (pe_op op_catQ ha hb) fun σ H Q ⟨ρ, hρ, h⟩ => ⟨ρ, hρ, (Post.bindN h).imp fun v H1 _ ⟨d, _, s1, rx, h1⟩ => ⟨ρ, hρ.mono s1, (Post.bindN h1).imp fun u H2 _ ⟨e, _, s2, ry, h2⟩ => ?_⟩⟩
  cases d with
  | list ds =>
    cases e with
    | list es =>
      obtain ⟨q, vs, rfl, hs, hv⟩ := dp_lst (dpMono s2 rx)
      obtain ⟨q', us, rfl, hs', hv'⟩ := dp_lst ry
      have h2 : PostN X.K X.mg W σ H2 Q (if ds.length + es.length ≤ 16777216 then .ok (ds ++ es) else .bad) := h2
      by_cases hl : ds.length + es.length ≤ 16777216
      · rw [if_pos hl] at h2
        exact ⟨q, q', vs, us, rfl, rfl, hs, hs', by rw [hv.len, hv'.len, sizeLine_eq]; exact hl, fun p hp => h2 p _ _ (Same.refl _) hp (hv.app hv')⟩
      · rw [if_neg hl] at h2
        exact h2.elim
    | _ => exact h2.elim
  | _ => exact h2.elim
end

/-! ### y = [.. for ..] -/
section
variable {X : Cx} {W : WX} {M M' M1 M2 Lb : List Nat} {elt tg iter : Expr} {ifs : List Expr} {scope : Scope} {own : List (Str × Nat)} {pos spos py : Pos} {it : Itr'} {t : Tgt} {c : Te} {e : Ex} {y : Str}
theorem s_setLc (i : Nat) (hc : X.calm = true) (hN : X.N.Nodup) (hi : DI X W tg iter it) (ok : BlkOk X.N X.env.scope scope own) (hsl : own.map (·.2) = t.slots)
    (hg : ∀ (s : Shared) (H : Hp) (C : Addr) (cl : List (Str × Addr)) (fp : List Addr), DG (X.blk s H scope (compEnvC scope cl C X.env) fp) tg t) (ht : ∀ (s : Shared) (H : Hp) (C : Addr) (cl : List (Str × Addr)) (fp : List Addr), DTs (X.blk s H scope (compEnvC scope cl C X.env) fp) W0 ifs c)
    (he : ∀ (s : Shared) (H : Hp) (C : Addr) (cl : List (Str × Addr)) (fp : List Addr), DE (X.blk s H scope (compEnvC scope cl C X.env) fp) W0 elt e)
    (hy : X.N[i]? = some y := by rfl) (hyl : X.env.scope.names.lookup y = some .local := by rfl) (hsw : swapsWith (.ListComp elt [⟨tg, iter, ifs, 0⟩] scope pos) (some (.Name y py)) spos.line X.env = pure true := by exact sw_true rfl rfl rfl (by decide +kernel))
    (hiM : i ∉ M := by decide) (hs : ∀ x, foldedSetIterable iter X.env x = pure x := by intro _; rfl) :
    DS X W M M Lb (.Assign [.Name y py] (.ListComp elt [⟨tg, iter, ifs, 0⟩] scope pos) spos) (setS M i (fun ρ => eComp it t c e (wipeD ρ M))) := by
  refine psImp (ps_frame (ps_setLc (te := tFr (tD X.K X.mg W0 e)) (tt := tDT X.K X.mg W0 c) (g := tgG X.K t) hc hN hy hyl hsw hi ok hg ht (fun s H C cl fp => pe_frame (he s H C cl fp)) hs)) fun D σ H ⟨G, o, ρ, hm, R, q⟩ => ⟨AD o, R.lsts, ?_⟩
  show tLc _ _ _ _ _ σ _ _
  rw [hsl]
  refine tLc_of ⟨wipeD ρ M, by rw [← hm]; exact R.erase, postC_of ?_⟩
  unfold setS at q
  dsimp only at q
  cases e1 : eComp it t c e (wipeD ρ M) with
  | ok d =>
    rw [e1] at q
    intro v H' s r
    show (∀ a ∈ AD o, H' a = none) → D.nx (σ.set i (some v)) (glue (AD o) H H')
    intro n
    obtain ⟨R', ec⟩ := R.glued s n
    exact q _ _ o hm (R'.set (by rw [hm]; exact hiM) (by rw [ec]; exact r))
  | err c =>
    rw [e1] at q
    obtain ⟨C, h1, h2⟩ := q
    exact ⟨C, h1, fun d H' s => h2 σ H' d (R.base.trans s) (by rw [← hm]; exact (R.erase).mono s)⟩
  | bad => rw [e1] at q; exact q.elim
theorem s_newLc (i : Nat) (hc : X.calm = true) (hN : X.N.Nodup) (hi : DI X W tg iter it) (ok : BlkOk X.N X.env.scope scope own) (hsl : own.map (·.2) = t.slots)
    (hg : ∀ (s : Shared) (H : Hp) (C : Addr) (cl : List (Str × Addr)) (fp : List Addr), DG (X.blk s H scope (compEnvC scope cl C X.env) fp) tg t) (ht : ∀ (s : Shared) (H : Hp) (C : Addr) (cl : List (Str × Addr)) (fp : List Addr), DTs (X.blk s H scope (compEnvC scope cl C X.env) fp) W0 ifs c)
    (he : ∀ (s : Shared) (H : Hp) (C : Addr) (cl : List (Str × Addr)) (fp : List Addr), DE (X.blk s H scope (compEnvC scope cl C X.env) fp) W0 elt e)
    (hy : X.N[i]? = some y := by rfl) (hyl : X.env.scope.names.lookup y = some .local := by rfl) (hsw : swapsWith (.ListComp elt [⟨tg, iter, ifs, 0⟩] scope pos) (some (.Name y py)) spos.line X.env = pure true := by exact sw_true rfl rfl rfl (by decide +kernel))
    (hiM : i ∉ M := by decide) (hs : ∀ x, foldedSetIterable iter X.env x = pure x := by intro _; rfl) :
    DS X W M (i :: M) Lb (.Assign [.Name y py] (.ListComp elt [⟨tg, iter, ifs, 0⟩] scope pos) spos) (newS M i (eCompL it t c e)) := by
  refine psImp (ps_frame (ps_setLc (te := tFr (tD X.K X.mg W0 e)) (tt := tDT X.K X.mg W0 c) (g := tgG X.K t) hc hN hy hyl hsw hi ok hg ht (fun s H C cl fp => pe_frame (he s H C cl fp)) hs)) fun D σ H ⟨G, o, ρ, hm, R, q⟩ => ⟨AD o, R.lsts, ?_⟩
  show tLc _ _ _ _ _ σ _ _
  rw [hsl]
  refine tLc_of ⟨wipeD ρ M, by rw [← hm]; exact R.erase, postC_ofN ?_⟩
  unfold newS at q
  cases e1 : eCompL it t c e (wipeD ρ M) with
  | ok ds =>
    rw [e1] at q
    dsimp only at q
    by_cases hl : i < ρ.length
    rotate_left
    · rw [if_neg hl] at q; exact q.elim
    rw [if_pos hl] at q
    intro a vs H' s na hv
    show (∀ b ∈ AD o, upd H' a (.lst vs) b = none) → D.nx (σ.set i (some (.ref a))) (glue (AD o) H (upd H' a (.lst vs)))
    intro n
    have naA : a ∉ AD o := fun z => by
      have := n a z
      rw [upd_same] at this
      cases this
    have n' : ∀ b ∈ AD o, H' b = none := fun b hb => by
      have := n b hb
      rw [upd_ne (fun z => naA (by rw [← z]; exact hb))] at this
      exact this
    obtain ⟨R', ec⟩ := R.glued s n'
    have eg : glue (AD o) H (upd H' a (.lst vs)) = upd (glue (AD o) H H') a (.lst vs) := by
      funext b
      unfold glue upd
      by_cases h1 : b ∈ AD o
      · have : b ≠ a := fun z => naA (by rw [← z]; exact h1)
        simp [h1, this]
      · simp [h1]
    have hga : glue (AD o) H H' a = none := by rw [glue_out naA]; exact na
    rw [eg]
    exact q _ _ ((i, a) :: o) (by show i :: ID o = _; rw [hm]) (s_new.own_new R' (by rw [hm]; exact hiM) hl hga naA (by rw [ec]; exact hv))
  | err c =>
    rw [e1] at q
    obtain ⟨C, h1, h2⟩ := q
    exact ⟨C, h1, fun d H' s => h2 σ H' d (R.base.trans s) (by rw [← hm]; exact (R.erase).mono s)⟩
  | bad => rw [e1] at q; exact q.elim
end

/-! ### an own list changed -/
/-- the list at slot i -/
def ownL (i : Nat) (ρ : Env) : Res (List PyData) := match ρ[i]? with
  | some (some (.list ds)) => .ok ds
  | _ => .bad
/-- asked first: a list is there -/
def fstL (i : Nat) (f : Sf) : Sf := fun ρ => match ownL i ρ with
  | .ok _ => f ρ
  | _ => .bad
def appS (M : List Nat) (i : Nat) (e : Ex) : Sf := fstL i fun ρ => match e ρ with
  | .ok d => (match ownL i ρ with
    | .ok ds => if ds.length < 16777216 then .nx (ρ.set i (some (.list (ds ++ [d])))) else .bad
    | _ => .bad)
  | .err c => .err c (wipeD ρ M)
  | .bad => .bad
/-- x[k] = e -/
def putS (M : List Nat) (i : Nat) (k e : Ex) : Sf := fstL i fun ρ => match e ρ with
  | .ok d => (match k ρ with
    | .ok (.int z) => (match ownL i ρ with
      | .ok ds => (match ixN ds.length z with
        | some j => .nx (ρ.set i (some (.list (ds.set j d))))
        | none => .bad)
      | _ => .bad)
    | .err c => .err c ρ
    | _ => .bad)
  | .err c => .err c (wipeD ρ M)
  | .bad => .bad
section
variable {K : PySem.W.Frag} {mg : Str → Option Value} {W : WX} {G G' H H' : Hp} {o : Ow} {σ : St} {ρ : Env} {M M' Lb : List Nat} {D : Ends}
theorem mem_id {i : Nat} (h : i ∈ ID o) : ∃ a, (i, a) ∈ o := by
  obtain ⟨⟨j, a⟩, hp, rfl⟩ := List.mem_map.mp h
  exact ⟨a, hp⟩
theorem SRep.ownAt {i : Nat} {a : Addr} {ds : List PyData} (R : SRep K G o H σ ρ) (h : (i, a) ∈ o) (e : ownL i ρ = .ok ds) : ∃ vs, ρ[i]? = some (some (.list ds)) ∧ σ[i]? = some (some (.ref a)) ∧ H a = some (.lst vs) ∧ DpAll K (cut (AD o) H) vs ds := by
  obtain ⟨d, h1, h2, h3⟩ := R.own i a h
  unfold ownL at e
  rw [h1] at e
  cases h3 with
  | lst h3 h4 =>
    cases e
    exact ⟨_, h1, h2, h3, h4⟩
  | dic _ _ => cases e
theorem SRep.fstL {i : Nat} {a : Addr} {f : Sf} (R : SRep K G o H σ ρ) (h : (i, a) ∈ o) (q : SPost K mg W G' M' Lb D (fstL i f ρ)) : (∃ ds vs, ρ[i]? = some (some (.list ds)) ∧ σ[i]? = some (some (.ref a)) ∧ H a = some (.lst vs) ∧ DpAll K (cut (AD o) H) vs ds) ∧ SPost K mg W G' M' Lb D (f ρ) := by
  unfold DL.fstL at q
  cases e : ownL i ρ with
  | ok ds =>
    rw [e] at q
    exact ⟨⟨ds, R.ownAt h e⟩, q⟩
  | err c => rw [e] at q; exact q.elim
  | bad => rw [e] at q; exact q.elim
/-- an own thing has got other items -/
theorem SRep.putO {i : Nat} {a : Addr} {u : HO} {dd : PyData} (R : SRep K G o H σ ρ) (h : (i, a) ∈ o) (hv : OwnD K (cut (AD o) H) (upd H a u) a dd) : SRep K G o (upd H a u) σ (ρ.set i (some dd)) := by
  have haA : a ∈ AD o := List.mem_map.mpr ⟨_, h, rfl⟩
  have ec : cut (AD o) (upd H a u) = cut (AD o) H := cut_upd_in haA
  refine ⟨by rw [List.length_set]; exact R.len, fun j d hj hn => ?_, fun j b hj => ?_, R.nda, R.ndi, by rw [ec]; exact R.base⟩
  · have hij : i ≠ j := fun z => hn (by rw [← z]; exact List.mem_map.mpr ⟨_, h, rfl⟩)
    rw [List.getElem?_set_ne hij] at hj
    rw [ec]
    exact R.get j d hj hn
  · rw [ec]
    obtain ⟨e, h1, h2, h3⟩ := R.own j b hj
    by_cases hij : i = j
    · subst hij
      have hab : b = a := by
        obtain ⟨_, _, g2, _⟩ := R.own i a h
        rw [g2] at h2
        cases h2
        rfl
      subst hab
      have hl : i < ρ.length := (List.getElem?_eq_some_iff.mp h1).1
      exact ⟨dd, List.getElem?_set_self hl, h2, hv⟩
    · have hab : b ≠ a := fun z => hij (by
        have q : (i, a) = (j, b) := SRep.freeze.nodup_snd R.nda h hj z.symm
        cases q
        rfl)
      exact ⟨e, by rw [List.getElem?_set_ne hij]; exact h1, h2, h3.mono (upd_ne hab) (Same.refl _)⟩
theorem SRep.put {i : Nat} {a : Addr} {vs : List V} {ds : List PyData} (R : SRep K G o H σ ρ) (h : (i, a) ∈ o) (hv : DpAll K (cut (AD o) H) vs ds) : SRep K G o (upd H a (.lst vs)) σ (ρ.set i (some (.list ds))) :=
  R.putO h (.lst upd_same hv)
end
section
variable {X : Cx} {W : WX} {M M' M1 M2 Lb : List Nat} {e k : Expr} {fe fk : Ex} {pos px pa pc ps : Pos} {x : Str}
theorem s_app (i : Nat) (h : SE X W M e fe) (hi : X.N[i]? = some x := by rfl) (hv : Vis X.env.scope x := by first | exact Or.inl rfl | exact Or.inr (Or.inl rfl) | exact Or.inr (Or.inr rfl)) (hiM : i ∈ M := by decide) (hd : (x == ("__debug__" : Str)) = false := by decide) (hcd : (x == ("__classdict__" : Str)) = false := by decide)
    (hbase : attributeBase (.Name x px) "append" X.env (eval (.Name x px) X.env) = eval (.Name x px) X.env := by rfl)
    (hfew : ((backTo pc (starEach [e] X.env)).all (fun x => !x.1) && (backToKw pc (keywordEach [] X.env)).all (fun x => x.1.isSome)
      && decide (([e] : List Expr).length + ([] : List Keyword).length + (if ([] : List Keyword).isEmpty then 0 else 1) < 30)) = true := by rfl)
    (hline : (pa.endLine == pc.line) = true := by rfl) (hst : starEach [e] X.env = (false, eval e X.env) :: starEach [] X.env := by rfl) (hplain : (backTo pc (starEach [] X.env)).any (·.1) = false := by rfl)
    (hs : swapsWith (.Call (.Attribute (.Name x px) "append" pa) [e] [] pc) none pos.line X.env = pure false := by rfl) : DS X W M M Lb (.Expr (.Call (.Attribute (.Name x px) "append" pa) [e] [] pc) pos) (appS M i fe) := by
  have hb : PE X (.Call (.Attribute (.Name x px) "append" pa) [e] [] pc) (tBM X.K "list" rAppend (tVar i) (tCons (tSE X.K X.mg W M fe) tNil)) := pe_bm PySem.F.plainAttrs_list PySem.F.slot_list_append PySem.F.type_list_append mt_append (pv i hi hv hd hcd) (pa_cons h pa_nil hst) hbase hfew hline hst hplain
  refine psImp (ps_expr hb hs) fun D σ H ⟨G, o, ρ, hm, R, q⟩ => ?_
  obtain ⟨a, ha⟩ := mem_id (by rw [hm]; exact hiM)
  unfold appS at q
  obtain ⟨⟨ds0, vs0, g1, g2, g3, g4⟩, q⟩ := R.fstL ha q
  refine ⟨.ref a, g2, .inl ⟨rfl, _, .inl (.inl g3)⟩, G, o, ρ, hm, R, ?_⟩
  cases e1 : fe ρ with
  | ok d =>
    rw [e1] at q
    intro v H' R' r
    dsimp only at q
    cases e2 : ownL i ρ with
    | ok ds =>
      rw [e2] at q
      dsimp only at q
      obtain ⟨vs, k1, k2, k3, k4⟩ := R'.ownAt ha e2
      by_cases hl : ds.length < 16777216
      · rw [if_pos hl] at q
        refine ⟨a, vs, v, rfl, rfl, k3, by rw [k4.len, sizeLine_eq]; exact hl, q σ _ o hm (R'.put ha (k4.app (.cons r .nil)))⟩
      · rw [if_neg hl] at q
        exact q.elim
    | err c => rw [e2] at q; exact q.elim
    | bad => rw [e2] at q; exact q.elim
  | err c =>
    rw [e1] at q
    obtain ⟨C, h1, h2⟩ := q
    exact ⟨C, h1, fun H' d s r => h2 σ H' d s (by rw [← hm]; exact r)⟩
  | bad => rw [e1] at q; exact q.elim
theorem s_put (i : Nat) (h : SE X W M e fe) (hk : DE X W k fk) (hi : X.N[i]? = some x := by rfl) (hv : Vis X.env.scope x := by first | exact Or.inl rfl | exact Or.inr (Or.inl rfl) | exact Or.inr (Or.inr rfl)) (hiM : i ∈ M := by decide) (hd : (x == ("__debug__" : Str)) = false := by decide) (hcd : (x == ("__classdict__" : Str)) = false := by decide)
    (ha : ∀ v, assign (.Subscript (.Name x px) k ps) X.env v = (do
      let ov ← holding [v] (eval (.Name x px) X.env)
      let iv ← holding [v, ov] (eval k X.env)
      standAt ps
      holding [v, ov, iv] (setItem ov iv v)
      release [v, ov, iv] []) := by intro _; rfl)
    (hs : swapsWithSole [.Subscript (.Name x px) k ps] e pos.line X.env = pure false := by rfl) (hw : swappedStores [.Subscript (.Name x px) k ps] e X.env = pure none := by rfl)
    (h1 : (assignEach [.Subscript (.Name x px) k ps] X.env).map (·.2) = [assign (.Subscript (.Name x px) k ps) X.env] := by rfl) :
    DS X W M M Lb (.Assign [.Subscript (.Name x px) k ps] e pos) (putS M i fk fe) := by
  refine psImp (ps_asg h (pg_sub (pe_var hi hv hd hcd) hk set_list ha) hs hw h1) fun D σ H ⟨G, o, ρ, hm, R, q⟩ => ⟨G, o, ρ, hm, R, ?_⟩
  obtain ⟨a, ha⟩ := mem_id (by rw [hm]; exact hiM)
  unfold putS at q
  obtain ⟨_, q⟩ := R.fstL ha q
  cases e1 : fe ρ with
  | ok d =>
    rw [e1] at q
    intro v H' R' r
    dsimp only at q
    obtain ⟨dd0, g1, g2, g3⟩ := R'.own i a ha
    refine ⟨.ref a, g2, ρ, R'.full, ?_⟩
    cases e2 : fk ρ with
    | ok z =>
      rw [e2] at q
      intro kv H2 s2 rk
      cases z with
      | int z =>
        dsimp only at q
        cases e3 : ownL i ρ with
        | ok ds =>
          rw [e3] at q
          dsimp only at q
          have R2 := R'.mono s2
          obtain ⟨vs, k1, k2, k3, k4⟩ := R2.ownAt ha e3
          cases e4 : ixN ds.length z with
          | some j =>
            rw [e4] at q
            refine ⟨a, vs, z, j, rfl, dp_int rk, k3, by rw [k4.len]; exact e4, q σ _ o hm (R2.put ha (DpAll.set (dpMono (cutMono s2) r) j k4))⟩
          | none => rw [e4] at q; exact q.elim
        | err c => rw [e3] at q; exact q.elim
        | bad => rw [e3] at q; exact q.elim
      | _ => exact q.elim
    | err c =>
      rw [e2] at q
      obtain ⟨C, h1, h2⟩ := q
      exact ⟨C, h1, fun d H2 s => h2 σ H2 d (R'.same.trans s) (R'.full.mono s)⟩
    | bad => rw [e2] at q; exact q.elim
  | err c =>
    rw [e1] at q
    obtain ⟨C, h1, h2⟩ := q
    exact ⟨C, h1, fun H' d s r => h2 σ H' d s (by rw [← hm]; exact r)⟩
  | bad => rw [e1] at q; exact q.elim
end
end L2.DL
set_option maxHeartbeats 2000000
namespace L2.DL
open PySem PySem.Spec PyProof.Rows

/-! ### for -/
def loopS (t : Tgt) (fb : Sf) : List PyData → Env → SRes
  | [], ρ => .nx ρ
  | d :: ds, ρ => match bindT t d ρ with
    | .ok ρ1 => (match fb ρ1 with
      | .nx ρ2 => loopS t fb ds ρ2
      | .cnt ρ2 => loopS t fb ds ρ2
      | .brk ρ2 => .nx ρ2
      | r => r)
    | _ => .bad
def forS (M : List Nat) (it : Itr') (t : Tgt) (fb : Sf) : Sf := fun ρ => match it (wipeD ρ M) with
  | .ok ds => loopS t fb ds ρ
  | .err c => .err c (wipeD ρ M)
  | .bad => .bad
section
variable {X : Cx} {W : WX} {M M' M1 M2 Lb : List Nat} {tg iter c : Expr} {body : List Stmt} {fi : Itr'} {t : Tgt} {fb : Sf} {fc : Te} {pos : Pos}
theorem s_for (hp : PassesOwn (model X.prog X.w) X.A X.env X.xe) (hc : X.calm = true) (hi : DI X W tg iter fi) (hg : DG X tg t) (hb : DSs X W M M M body fb) (hd : ∀ i ∈ t.slots, i ∉ M := by decide) (hs : ∀ x, foldedSetIterable iter X.env x = pure x := by intro _; rfl) :
    DS X W M M Lb (.For tg iter body [] pos) (forS M fi t fb) := by
  refine psImp (ps_for hp hc (pi_frame hi) hg hb hs) fun D σ H ⟨G, o, ρ, hm, R, q⟩ => ⟨AD o, R.lsts, wipeD ρ M, by rw [← hm]; exact R.erase, ?_⟩
  unfold forS at q
  cases ei : fi (wipeD ρ M) with
  | err c =>
    rw [ei] at q
    obtain ⟨C, h1, h2⟩ := q
    exact ⟨C, h1, fun d H' s => h2 σ H' d (R.base.trans s) (by rw [← hm]; exact (R.erase).mono s)⟩
  | bad => rw [ei] at q; exact q.elim
  | ok ds =>
    rw [ei] at q
    dsimp only at q
    obtain ⟨r, hr⟩ : ∃ r, loopS t fb ds ρ = r := ⟨_, rfl⟩
    rw [hr] at q
    intro J B s w n
    obtain ⟨R', ec⟩ := R.glued s n
    have sGB : Same G B := R.base.trans s
    have RB : SRep X.K B o (glue (AD o) H B) σ ρ := R'.grow sGB (by rw [ec]; exact Same.refl _)
    refine for_it w.walk (fun i σ H => ∃ o' ρi, ID o' = M ∧ SRep X.K B o' H σ ρi ∧ loopS t fb (ds.drop i) ρi = r) ⟨o, ρ, hm, RB, hr⟩ (fun i σ H _ ⟨o', ρi, _, Ri, _⟩ => Ri.same) ?_ ?_
    · rintro i x σ2 H2 H3 hi' ⟨o', ρi, hm', Ri, el⟩ ⟨d, hd', y⟩
      have s2 : Same B H2 := Ri.same
      obtain ⟨s3, hx⟩ := dp_yd s2 y
      have R3 := Ri.mono s3
      have hxc : Dp X.K (cut (AD o') H3) x d := by
        rcases y with ⟨rfl, h⟩ | ⟨T, ob, us, es, hdn, hT, rfl, rfl, ha, rfl⟩
        · exact dpMono Ri.base h
        · have nT : T ∉ AD o' := fun z => by
            obtain ⟨o1, e', _⟩ := Ri.lsts T z
            rw [hT] at e'; cases e'
          rw [cut_upd nT]
          have nT2 : cut (AD o') H2 T = none := by rw [cut_out nT]; exact hT
          exact .tup (.inl ⟨ob, upd_same, hdn⟩) (dpAllMono (Ri.base.trans (sameUpd nT2)) ha)
      have hdrop : ds.drop i = d :: ds.drop (i + 1) := by
        obtain ⟨hi2, e'⟩ := List.getElem?_eq_some_iff.mp hd'
        rw [← e', ← List.drop_eq_getElem_cons hi2]
      rw [hdrop] at el
      unfold loopS at el
      cases eb : bindT t d ρi with
      | err c => rw [eb] at el; rw [← el] at q; exact q.elim
      | bad => rw [eb] at el; rw [← el] at q; exact q.elim
      | ok ρ1 =>
        rw [eb] at el
        dsimp only at el
        refine s_asg.bind_own R3 hxc (by rw [hm']; exact hd) eb fun σ' R4 => ⟨B, o', ρ1, hm', R4, ?_⟩
        cases ef : fb ρ1 with
        | nx ρ2 => rw [ef] at el; exact fun σ5 H5 o5 hm5 R5 => ⟨o5, ρ2, hm5, R5, el⟩
        | cnt ρ2 => rw [ef] at el; exact fun σ5 H5 o5 hm5 R5 => ⟨o5, ρ2, hm5, R5, el⟩
        | brk ρ2 =>
          rw [ef] at el
          dsimp only at el
          rw [← el] at q
          exact fun σ5 H5 o5 hm5 R5 => q σ5 H5 o5 hm5 (R5.shrink sGB)
        | ret d =>
          rw [ef] at el
          dsimp only at el
          rw [← el] at q
          exact fun v H5 s5 r5 => q v H5 (sGB.trans s5) r5
        | err c ρ2 =>
          rw [ef] at el
          dsimp only at el
          rw [← el] at q
          obtain ⟨C, h1, h2⟩ := q
          exact ⟨C, h1, fun σ5 H5 d s5 r5 => h2 σ5 H5 d (sGB.trans s5) r5⟩
        | bad => rw [ef] at el; dsimp only at el; rw [← el] at q; exact q.elim
    · rintro σ2 H2 ⟨o', ρi, hm', Ri, el⟩
      rw [List.drop_length] at el
      rw [← el] at q
      exact q σ2 H2 o' hm' (Ri.shrink sGB)
end

/-! ### while -/
def whileN (fc : Te) (fb : Sf) : Nat → Env → SRes
  | 0, _ => .bad
  | n + 1, ρ => match fc ρ with
    | .ok k => if k = true then (match fb ρ with
      | .nx ρ2 => whileN fc fb n ρ2
      | .cnt ρ2 => whileN fc fb n ρ2
      | .brk ρ2 => .nx ρ2
      | r => r) else .nx ρ
    | .err c => .err c ρ
    | .bad => .bad
open Classical in
noncomputable def whileS (fc : Te) (fb : Sf) : Sf := fun ρ => if h : ∃ n, whileN fc fb n ρ ≠ .bad then whileN fc fb (Classical.choose h) ρ else .bad
theorem whileN_more {fc : Te} {fb : Sf} : ∀ {n : Nat} {ρ : Env}, whileN fc fb n ρ ≠ .bad → ∀ m, n ≤ m → whileN fc fb m ρ = whileN fc fb n ρ
  | 0, _, h, _, _ => absurd rfl h
  | n + 1, ρ, h, 0, hm => by omega
  | n + 1, ρ, h, m + 1, hm => by
    unfold whileN at h ⊢
    cases e1 : fc ρ with
    | ok k =>
      rw [e1] at h
      dsimp only at h ⊢
      cases k with
      | false => rfl
      | true =>
        rw [if_pos rfl] at h ⊢
        rw [if_pos rfl]
        cases e2 : fb ρ with
        | nx ρ2 => rw [e2] at h; exact whileN_more h m (by omega)
        | cnt ρ2 => rw [e2] at h; exact whileN_more h m (by omega)
        | brk ρ2 => rfl
        | ret d => rfl
        | err c ρ2 => rfl
        | bad => rfl
    | err c => rfl
    | bad => rfl
theorem whileS_of {fc : Te} {fb : Sf} {n : Nat} {ρ : Env} {r : SRes} (h : whileN fc fb n ρ = r) (hr : r ≠ .bad) : whileS fc fb ρ = r := by
  have hn : whileN fc fb n ρ ≠ .bad := by rw [h]; exact hr
  have ex : ∃ n, whileN fc fb n ρ ≠ .bad := ⟨n, hn⟩
  unfold whileS
  rw [dif_pos ex]
  have hc := Classical.choose_spec ex
  rw [← whileN_more hc (max n (Classical.choose ex)) (Nat.le_max_right _ _), whileN_more hn _ (Nat.le_max_left _ _), h]
theorem whileS_is {fc : Te} {fb : Sf} {ρ : Env} (h : whileS fc fb ρ ≠ .bad) : ∃ n, whileN fc fb n ρ = whileS fc fb ρ := by
  unfold whileS at h ⊢
  split at h
  · rename_i ex
    exact ⟨_, by rw [dif_pos ex]⟩
  · exact absurd rfl h
/-- one turn -/
theorem whileS_step {fc : Te} {fb : Sf} {ρ : Env} : whileS fc fb ρ = match fc ρ with
    | .ok k => if k = true then (match fb ρ with
      | .nx ρ2 => whileS fc fb ρ2
      | .cnt ρ2 => whileS fc fb ρ2
      | .brk ρ2 => .nx ρ2
      | r => r) else .nx ρ
    | .err c => .err c ρ
    | .bad => .bad := by
  have one : ∀ n, whileN fc fb (n + 1) ρ = match fc ρ with
    | .ok k => if k = true then (match fb ρ with
      | .nx ρ2 => whileN fc fb n ρ2
      | .cnt ρ2 => whileN fc fb n ρ2
      | .brk ρ2 => .nx ρ2
      | r => r) else .nx ρ
    | .err c => .err c ρ
    | .bad => .bad := fun n => rfl
  have go : ∀ ρ2, (∀ n, whileN fc fb (n + 1) ρ = whileN fc fb n ρ2) → whileS fc fb ρ = whileS fc fb ρ2 := fun ρ2 hh => by
    by_cases h2 : whileS fc fb ρ2 = .bad
    · rw [h2]
      by_cases h1 : whileS fc fb ρ = .bad
      · exact h1
      · obtain ⟨n, hn⟩ := whileS_is h1
        have hn' : whileN fc fb n ρ ≠ .bad := by rw [hn]; exact h1
        have h3 := whileN_more hn' (n + 1) (by omega)
        rw [hh n] at h3
        have h4 : whileN fc fb n ρ2 ≠ .bad := by rw [h3]; exact hn'
        exact absurd h2 (by rw [whileS_of rfl h4]; exact h4)
    · obtain ⟨n, hn⟩ := whileS_is h2
      exact whileS_of (n := n + 1) (by rw [hh n, hn]) h2
  have fin : ∀ r, (∀ n, whileN fc fb (n + 1) ρ = r) → whileS fc fb ρ = r := fun r hh => by
    by_cases hr : r = .bad
    · subst hr
      by_cases h1 : whileS fc fb ρ = .bad
      · exact h1
      · obtain ⟨n, hn⟩ := whileS_is h1
        have hn' : whileN fc fb n ρ ≠ .bad := by rw [hn]; exact h1
        have h3 := whileN_more hn' (n + 1) (by omega)
        rw [hh n] at h3
        exact absurd h3.symm hn'
    · exact whileS_of (hh 0) hr
  cases e1 : fc ρ with
  | ok k =>
    cases k with
    | false => exact fin _ fun n => by rw [one, e1]; rfl
    | true =>
      dsimp only
      rw [if_pos rfl]
      cases e2 : fb ρ with
      | nx ρ2 => exact go ρ2 fun n => by rw [one, e1, e2]; rfl
      | cnt ρ2 => exact go ρ2 fun n => by rw [one, e1, e2]; rfl
      | brk ρ2 => exact fin _ fun n => by rw [one, e1, e2]; rfl
      | ret d => exact fin _ fun n => by rw [one, e1, e2]; rfl
      | err c ρ2 => exact fin _ fun n => by rw [one, e1, e2]; rfl
      | bad => exact fin _ fun n => by rw [one, e1, e2]; rfl
  | err c => exact fin _ fun n => by rw [one, e1]
  | bad => exact fin _ fun n => by rw [one, e1]
section
variable {X : Cx} {W : WX} {M M' M1 M2 Lb : List Nat} {c : Expr} {body : List Stmt} {fb : Sf} {fc : Te} {pos : Pos}
theorem s_while (hp : PassesOwn (model X.prog X.w) X.A X.env X.xe) (hc : DT X W c fc) (hb : DSs X W M M M body fb) : DS X W M M Lb (.While c body [] pos) (whileS fc fb) := by
  refine psImp (ps_while hp hc hb) fun D σ H ⟨G, o, ρ, hm, R, q⟩ => ?_
  have hne : whileS fc fb ρ ≠ .bad := fun z => by rw [z] at q; exact q
  obtain ⟨n0, hn0⟩ := whileS_is hne
  refine ⟨fun m σ H => ∃ o ρ', ID o = M ∧ SRep X.K G o H σ ρ' ∧ whileN fc fb m ρ' = whileS fc fb ρ, ⟨n0, o, ρ, hm, R, hn0⟩, ?_⟩
  rintro m σ1 H1 ⟨o1, ρ1, hm1, R1, el⟩
  cases m with
  | zero => exact absurd el.symm hne
  | succ m =>
    refine ⟨ρ1, R1.full, ?_⟩
    unfold whileN at el
    cases e1 : fc ρ1 with
    | ok k =>
      rw [e1] at el
      intro H2 s2
      have R2 := R1.mono s2
      cases k with
      | true =>
        dsimp only at el
        rw [if_pos rfl] at el
        refine iteT ⟨fun σ' H' => ∃ o ρ', ID o = M ∧ SRep X.K G o H' σ' ρ' ∧ whileN fc fb m ρ' = whileS fc fb ρ, fun σ' H' h => ⟨m, Nat.lt_succ_self _, h⟩, G, o1, ρ1, hm1, R2, ?_⟩
        cases ef : fb ρ1 with
        | nx ρ2 => rw [ef] at el; exact fun σ5 H5 o5 hm5 R5 => ⟨o5, ρ2, hm5, R5, el⟩
        | cnt ρ2 => rw [ef] at el; exact fun σ5 H5 o5 hm5 R5 => ⟨o5, ρ2, hm5, R5, el⟩
        | brk ρ2 =>
          rw [ef] at el
          dsimp only at el
          rw [← el] at q
          exact fun σ5 H5 o5 hm5 R5 => q σ5 H5 o5 hm5 R5
        | ret d =>
          rw [ef] at el
          dsimp only at el
          rw [← el] at q
          exact q
        | err c ρ2 =>
          rw [ef] at el
          dsimp only at el
          rw [← el] at q
          exact q
        | bad => rw [ef] at el; dsimp only at el; exact absurd el.symm hne
      | false =>
        dsimp only at el
        rw [if_neg Bool.false_ne_true] at el
        rw [← el] at q
        exact iteF (q σ1 H2 o1 hm1 R2)
    | err c =>
      rw [e1] at el
      dsimp only at el
      rw [← el] at q
      obtain ⟨C, h1, h2⟩ := q
      exact ⟨C, h1, fun d H' s => h2 σ1 H' d (R1.same.trans s) (R1.full.mono s)⟩
    | bad => rw [e1] at el; dsimp only at el; exact absurd el.symm hne
end

/-! ### raise -/
/-- an own exception of the text -/
structure ExcT (K : PySem.W.Frag) (mg : Str → Option Value) (c : Str) : Prop where
  ex : ∃ C, mg c = some (.ref C) ∧ PySem.W.excIn K C [.type "ValueError", .type "Exception", .type "BaseException", .type "object"] "ValueError.__new__" = true ∧ PySem.W.keepIn K (.ref C) = true ∧
    PySem.W.subIn K (.ref C) (.type "BaseException") = some true ∧ PySem.W.typeIn K (.ref C) = some (.type "type")
section
variable {X : Cx} {W : WX} {M M' M1 M2 Lb : List Nat} {c m : Str} {j : Nat} {p p2 pos pos2 : Pos}
theorem s_raise (T : ExcT X.K X.mg c) (hc : X.calm = true) (tk : Takes X W) (hg : Gl X c := by rfl) (hdb : (c == ("__debug__" : Str)) = false := by decide) : DS X W M M' Lb (.Raise (some (.Call (.Name c p) [.Constant (.str m) j p2] [] pos)) none pos2) (raiseS c) := by
  obtain ⟨C, gC, q, kC, r1, r2⟩ := T.ex
  refine psImp (ps_raise hc tk (pmk_own PySem.F.excBase_ValueError q gC kC (raises_own r1 r2) hg hdb)) fun D σ H ⟨G, o, ρ, hm, R, q⟩ => ?_
  obtain ⟨C', h1, h2⟩ := q
  rw [gC] at h1
  cases h1
  exact h2 σ H ⟨none, rfl⟩ R.same R.full
theorem s_never {st : Stmt} : DS X W M M' Lb st (fun _ => .bad) := psImp ps_never fun D σ H ⟨G, o, ρ, hm, R, q⟩ => q
end

/-! ### a def -/
def startD (n : Nat) (ds : List PyData) : Env := ds.map some ++ List.replicate (n - ds.length) none
/-- a def of n slots with the body s, on the arguments ds -/
def runD (n : Nat) (s : Sf) (ds : List PyData) : Res PyData := match s (startD n ds) with
  | .nx _ => .ok .none
  | .ret d => .ok d
  | .err c _ => .err c
  | _ => .bad
abbrev WOf (E : XK) : WX := fun cls d _ H => E cls d H
theorem dps_start {K : PySem.W.Frag} {H : Hp} {N : List Str} {vs : List V} {ds : List PyData} (h : DpAll K H vs ds) : SRep K H [] H (L2.start N vs) (startD N.length ds) := by
  have hl := h.len
  refine ⟨by unfold L2.start startD; rw [List.length_append, List.length_append, List.length_map, List.length_map, List.length_replicate, List.length_replicate, hl], fun i d e _ => ?_, fun i a h => (by cases h), .nil, .nil, fun b o q => ?_⟩
  · unfold startD at e
    by_cases hi : i < ds.length
    · rw [List.getElem?_append_left (by rw [List.length_map]; exact hi), List.getElem?_map] at e
      cases e2 : ds[i]? with
      | none => rw [e2] at e; cases e
      | some d' =>
        rw [e2] at e
        cases e
        obtain ⟨v, h1, h2⟩ := h.get e2
        refine ⟨v, ?_, dpMono (fun b o q => by rw [cut_out (by simp)]; exact q) h2⟩
        unfold L2.start
        rw [List.getElem?_append_left (by rw [List.length_map, hl]; exact hi), List.getElem?_map, h1]
        rfl
    · rw [List.getElem?_append_right (by rw [List.length_map]; omega), List.getElem?_replicate] at e
      split at e <;> cases e
  · rw [cut_out (by simp)]; exact q
section
variable {P : Program} {w : World} {K : PySem.W.Frag} {mg : Str → Option Value} {base : Heap}
theorem fn_mk' {x qual : Str} {st : Stmt} {f : Addr} {fd : FuncData} {N ps : List Str} {k n m : Nat} {s : Sf} {M' : List Nat} (F : Fun K x qual st f fd) (S : FnScope N ps (defScope st)) (hn : ps.length = n) (hN : N.length = m)
    (body : ∀ (cdv : Value) (A : Around) (outer : List PySem.Env) (s0 : Shared) (H : Hp) (E : XK), Room k (A.deeper (envOfC qual (defScope st) s0.heap.objs.size f cdv)) →
      Takes (cxOf (L2.CX P w) P w K mg base N qual (defScope st) f cdv A outer s0 H E) (WOf E) →
      PassesOwn (model P w) (A.deeper (envOfC qual (defScope st) s0.heap.objs.size f cdv)) (cxOf (L2.CX P w) P w K mg base N qual (defScope st) f cdv A outer s0 H E).env (cxOf (L2.CX P w) P w K mg base N qual (defScope st) f cdv A outer s0 H E).xe →
      DSs (cxOf (L2.CX P w) P w K mg base N qual (defScope st) f cdv A outer s0 H E) (WOf E) [] M' [] (defBody st) s) : FnOk P w K mg base (L2.CX P w) (k + 1) f fd ps (spD K mg n (runD m s)) := by
  subst hN
  refine F.okX S (fun vs H Q E h => h.1.trans hn.symm) fun cdv A outer s0 H vs Q E hr h => ?_
  refine ⟨_, body cdv A outer s0 H E hr (takes_of rfl rfl rfl rfl) (passes_of rfl), ?_⟩
  obtain ⟨hl, ds, hv, q⟩ := h
  refine ⟨H, [], startD N.length ds, rfl, dps_start hv, ?_⟩
  unfold runD at q
  cases e : s (startD N.length ds) with
  | nx ρ => rw [e] at q; exact fun σ' H' o _ R => q .non H' R.same .non
  | ret d => rw [e] at q; exact q
  | err c ρ =>
    rw [e] at q
    obtain ⟨C, h1, h2⟩ := q
    exact ⟨C, h1, fun σ' H' d s _ => h2 d H' s⟩
  | brk ρ => rw [e] at q; exact q.elim
  | cnt ρ => rw [e] at q; exact q.elim
  | bad => rw [e] at q; exact q.elim
theorem Df.mk' {x qual : Str} {st : Stmt} {f : Addr} {fd : FuncData} {N ps : List Str} {k n m : Nat} {s : Sf} {M' : List Nat} (F : Fun K x qual st f fd) (hm : mg x = some (.ref f)) (b : Binds K fd ps []) (S : FnScope N ps (defScope st)) (hn : ps.length = n) (hN : N.length = m)
    (body : ∀ (cdv : Value) (A : Around) (outer : List PySem.Env) (s0 : Shared) (H : Hp) (E : XK), Room k (A.deeper (envOfC qual (defScope st) s0.heap.objs.size f cdv)) →
      Takes (cxOf (L2.CX P w) P w K mg base N qual (defScope st) f cdv A outer s0 H E) (WOf E) →
      PassesOwn (model P w) (A.deeper (envOfC qual (defScope st) s0.heap.objs.size f cdv)) (cxOf (L2.CX P w) P w K mg base N qual (defScope st) f cdv A outer s0 H E).env (cxOf (L2.CX P w) P w K mg base N qual (defScope st) f cdv A outer s0 H E).xe →
      DSs (cxOf (L2.CX P w) P w K mg base N qual (defScope st) f cdv A outer s0 H E) (WOf E) [] M' [] (defBody st) s) : Df P w K mg base x (k + 1) n (runD m s) := ⟨f, fd, ps, fn_mk' F S hn hN body, hm, F.kp, b⟩
/-- the law's own promise: True of every script of at most 63 whole numbers -/
def spLaw (K : PySem.W.Frag) : Sp := fun vs H Q _ => ∃ (a : Addr) (ns : List Int), vs = [.ref a] ∧ SqL K H a (ns.map V.int) ∧ ns.length ≤ 63 ∧ ∀ H', Q (.bl true) H'
theorem law_fn {f : Addr} {fd : FuncData} {par : Str} {k : Nat} {fn : List PyData → Res PyData} (F : FnOk P w K mg base (L2.CX P w) k f fd [par] (spD K mg 1 fn)) (hlaw : ∀ ns : List Int, ns.length ≤ 63 → fn [.list (ns.map .int)] = .ok (.bool true)) :
    FnOk P w K mg base (L2.CX P w) k f fd [par] (spLaw K) := F.imp fun vs H Q E ⟨a, ns, e, hs, hl, q⟩ => by
  subst e
  refine ⟨rfl, [.list (ns.map .int)], .cons (.lst hs (of_ints ns)) .nil, ?_⟩
  rw [hlaw ns hl]
  intro v H' _ r
  rw [dp_bool r]
  exact q H'
theorem cx_end {H : Hp} {s s' : Shared} {e : Value} (h : L2.CX P w [] H s (fun _ _ _ => False) e s') : False := by
  obtain ⟨_, _, _, _, _, _, _, _, _, _, _, _, z⟩ := h
  exact z
end
end L2.DL
set_option maxHeartbeats 2000000
namespace L2.DL
open PySem PySem.Spec PyProof.Rows

/-! ### t.index(k), k and the items whole numbers -/
def oIndexT (d k : PyData) : Option PyData := match d, k with
  | .tuple xs, .int k => (toInts xs).bind fun ns => if k ∈ ns then some (.int ((ns.idxOf k : Nat) : Int)) else none
  | _, _ => none
theorem flat_ints (ys : List Int) : (ys.map V.int).all flatV = true := by
  rw [List.all_map]
  exact List.all_eq_true.mpr fun _ _ => rfl
theorem idxOf_first : ∀ {ns : List Int} {k : Int}, k ∈ ns → ns[ns.idxOf k]? = some k ∧ ∀ m, m < ns.idxOf k → ns[m]? ≠ some k
  | [], k, h => by cases h
  | a :: r, k, h => by
    by_cases e : a = k
    · subst e
      have z : (a :: r).idxOf a = 0 := by simp
      rw [z]
      exact ⟨rfl, fun m hm => absurd hm (Nat.not_lt_zero m)⟩
    · have hr : k ∈ r := (List.mem_cons.mp h).resolve_left (Ne.symm e)
      obtain ⟨h1, h2⟩ := idxOf_first hr
      have hb : (a == k) = false := by simpa using e
      have z : (a :: r).idxOf k = r.idxOf k + 1 := by simp [List.idxOf_cons, hb]
      rw [z]
      refine ⟨h1, fun m hm => ?_⟩
      cases m with
      | zero => intro z; exact e (Option.some.inj z)
      | succ m => exact h2 m (by omega)
def rTupIx (K : PySem.W.Frag) : V → List V → Hp → VK → Prop := fun x xs H Q => ∃ (p : Addr) (ys : List Int) (k : Int) (j : Nat), x = .ref p ∧ xs = [.int k] ∧ SqT K H p (ys.map V.int) ∧ ys[j]? = some k ∧ (∀ m, m < j → ys[m]? ≠ some k) ∧ Q (.int (j : Nat)) H
theorem mt_tup_indexI {X : Cx} : MtR X "tuple.index" (rTupIx X.K) := by
  intro pins s σ H x xs v us Q I rx rs h
  obtain ⟨p, ys, z, j, rfl, rfl, hq, hy, hno, q⟩ := h
  cases rx
  obtain ⟨u, rfl, t, rfl⟩ := vals1 rs
  obtain ⟨its, r, pl, hz⟩ := I.tuple hq
  obtain ⟨⟨cls, dd, dt, sl⟩, ho, hc, n, hd⟩ := pl
  simp only at hc hd
  subst hc
  subst hd
  have hl : its.toArray.size = ys.length := by rw [List.size_toArray, ← r.length, List.length_map]
  have hj : j < its.toArray.size := by rw [hl]; exact (List.getElem?_eq_some_iff.mp hy).1
  have at' : ∀ (m : Nat) (hm : m < its.toArray.size), ∃ y t', ys[m]? = some y ∧ its.toArray[m] = Value.int y t' := fun m hm => by
    have hm' : m < ys.length := by rw [← hl]; exact hm
    obtain ⟨w, hw, t', hw'⟩ := r.get (i := m) (x := .int ys[m]) (by simp [hm'])
    refine ⟨ys[m], t', List.getElem?_eq_getElem hm', ?_⟩
    have e := (List.getElem?_eq_some_iff.mp hw).2
    rw [← hw', ← e]
    simp
  refine call_meets PySem.F.slot_tuple_index ⟨_, ho, rfl⟩ PySem.F.entry_tuple_index (PySem.F.args_tuple_index_2 _ _) (TI.tuple_indexAt p its.toArray n dd sl (.int z t) (eqU (.int z)) j hj ?_ ?_)
    ⟨ho, fun w hw => mem_eqAt (x := .int z) ⟨t, rfl⟩ rfl r (flat_ints ys) w (by simpa using hw), ⟨.int (j : Nat), H, I.tok _, ⟨_, rfl⟩, q⟩⟩
  · obtain ⟨y, t', h1, h2⟩ := at' j hj
    rw [hy] at h1
    cases h1
    rw [h2]
    show (z == z) = true
    exact beq_self_eq_true z
  · intro m hm hmj
    obtain ⟨y, t', h1, h2⟩ := at' m hm
    rw [h2]
    show (y == z) = false
    exact beq_eq_false_iff_ne.mpr fun e => hno m hmj (e ▸ h1)
section
variable {X : Cx} {W : WX} {a b c : Expr} {fa fb fc : Ex} {p pa pos : Pos} {tg : Expr}
def eTupIx (f g : Ex) : Ex := fun ρ => (f ρ).bind fun x => match x with
  | .tuple _ => (g ρ).bind fun y => Res.of (oIndexT x y)
  | _ => .bad
/-- a method of a tuple whose object has no dict -/
def tBMT (K : PySem.W.Frag) (r : V → List V → Hp → VK → Prop) (to : TE) (t : TA) : TE := fun σ H Q => to σ H fun x H1 => (∃ p xs, x = .ref p ∧ PlT K H1 p xs) ∧ t σ H1 fun xs H2 => r x xs H2 Q
theorem pe_bmT {o e : Expr} {es : List Expr} {to : TE} {t : TA} {name : Str} {apos cpos : Pos} {id : String} {r : V → List V → Hp → VK → Prop} (pa : PlainAttrs "tuple") (slot : Slot "tuple" name id) (hty : typeOf (.builtin id) = pure (.type "method_descriptor")) (hm : MtR X id r) (ho : PE X o to) (ha : PA X (e :: es) t)
    (hbase : attributeBase o name X.env (eval o X.env) = eval o X.env := by rfl)
    (hfew : ((backTo cpos (starEach (e :: es) X.env)).all (fun x => !x.1) && (backToKw cpos (keywordEach [] X.env)).all (fun x => x.1.isSome)
      && decide ((e :: es).length + ([] : List Keyword).length + (if ([] : List Keyword).isEmpty then 0 else 1) < 30)) = true := by rfl)
    (hline : (apos.endLine == cpos.line) = true := by rfl) (hs : starEach (e :: es) X.env = (false, eval e X.env) :: starEach es X.env := by rfl) (hplain : (backTo cpos (starEach es X.env)).any (·.1) = false := by rfl) :
    PE X (.Call (.Attribute o name apos) (e :: es) [] cpos) (tBMT X.K r to t) := by
  refine ⟨fun pins s σ H Q I h => ?_⟩
  refine wpAny_Call_method_late hbase hfew hline rfl (thn (ho.run pins s σ H _ I h) fun v s1 ⟨x, H1, I1, r1, ⟨p, xs, ex, hp⟩, q1⟩ => ?_)
  subst ex
  cases r1
  have ob : s1.TypeIs (.ref p) "tuple" ∧ ∀ a, Value.ref p = .ref a → ∃ ob, s1.heap.get? a = some ob ∧ ob.dict = none := by
    rcases hp with ⟨o, h, d⟩ | ⟨o, its, n, hk, hc, hd, _⟩
    · obtain ⟨e, _, _, _, o', e', c', _⟩ := I1.hok p _ h
      rw [e] at e'
      cases e'
      exact ⟨⟨o, e, c'⟩, fun a z => by cases z; exact ⟨o, e, d⟩⟩
    · exact ⟨⟨o, I1.kIn p o hk, hc⟩, fun a z => by cases z; exact ⟨o, I1.kIn p o hk, hd⟩⟩
  refine ⟨"tuple", id, pa, slot, hty, ob.1, ob.2, ?_⟩
  have hA := ha.run cpos pins s1 σ H1 _ I1 q1
  rw [hs] at hA ⊢
  refine Calls.callWith_builtin (by show (false || (backTo cpos (starEach es X.env)).any (·.1)) = false; rw [hplain] <;> rfl) (Calls.evalArgs_plain ?_)
  exact thn hA fun us s2 ⟨vs, H2, I2, r2, q2⟩ => hm pins s2 σ H2 (.ref p) vs _ us Q I2 rfl r2 q2
theorem d_tupIndex (ha : DE X W a fa) (hb : DE X W b fb) (hbase : attributeBase a "index" X.env (eval a X.env) = eval a X.env := by rfl)
    (hfew : ((backTo pos (starEach [b] X.env)).all (fun x => !x.1) && (backToKw pos (keywordEach [] X.env)).all (fun x => x.1.isSome)
      && decide (([b] : List Expr).length + ([] : List Keyword).length + (if ([] : List Keyword).isEmpty then 0 else 1) < 30)) = true := by rfl)
    (hline : (pa.endLine == pos.line) = true := by rfl) (hs : starEach [b] X.env = (false, eval b X.env) :: starEach [] X.env := by rfl) (hplain : (backTo pos (starEach [] X.env)).any (·.1) = false := by rfl) :
    DE X W (.Call (.Attribute a "index" pa) [b] [] pos) (eTupIx fa fb) := by
  have hbm := pe_bmT PySem.F.plainAttrs_tuple PySem.F.slot_tuple_index PySem.F.type_tuple_index mt_tup_indexI ha (pa_cons hb pa_nil hs) hbase hfew hline hs hplain
  refine peImp hbm fun σ H Q ⟨ρ, hρ, h⟩ => ⟨ρ, hρ, (Post.bind h).imp fun v H1 _ ⟨dx, _, s1, rx, h1⟩ => ?_⟩
  cases dx with
  | tuple ds =>
    obtain ⟨q, vs, rfl, hsP, hv⟩ := dp_tupP rx
    have hs := hsP.sqt
    refine ⟨⟨q, vs, rfl, hsP⟩, ρ, hρ.mono s1, (Post.bind h1).imp fun u H2 _ ⟨dy, _, s2, ry, h2⟩ => ?_⟩
    cases dy with
    | int k =>
      have h2 : Post X.K X.mg W σ H2 Q (Res.of ((toInts ds).bind fun ns => if k ∈ ns then some (.int ((ns.idxOf k : Nat) : Int)) else none)) := h2
      cases e1 : toInts ds with
      | none => rw [e1] at h2; exact h2.elim
      | some ns =>
        rw [e1, Option.bind_some] at h2
        by_cases hk : k ∈ ns
        · rw [if_pos hk] at h2
          have hs2 := Same.sqt s2 hs
          rw [dp_ints hv e1] at hs2
          obtain ⟨g1, g2⟩ := idxOf_first hk
          exact ⟨q, ns, k, ns.idxOf k, rfl, by rw [dp_int ry], hs2, g1, g2, h2 _ H2 (Same.refl _) (.int _)⟩
        · rw [if_neg hk] at h2
          exact h2.elim
    | _ => exact h2.elim
  | _ => exact h1.elim
/-- range(a, b, -1) -/
def downD (hi lo : Int) : List PyData := (List.range (hi - lo).toNat).map fun (i : Nat) => .int (hi - (i : Int))
theorem downD_length (lo hi : Int) : (downD hi lo).length = (hi - lo).toNat := by unfold downD; rw [List.length_map, List.length_range]
theorem downD_get {lo hi : Int} {i : Nat} (h : i < (hi - lo).toNat) : (downD hi lo)[i]? = some (.int (hi - (i : Int))) := by
  unfold downD
  rw [List.getElem?_map, List.getElem?_range h]
  rfl
def itR3 (f g h : Ex) : Itr' := fun ρ => (f ρ).bind fun x => (g ρ).bind fun y => (h ρ).bind fun z => (asI x).bind fun m => (asI y).bind fun n => (asI z).bind fun c => if c = -1 ∧ inB m ∧ inB n then .ok (downD m n) else .bad
theorem i_range3 (hm : X.mg "range" = none) (ha : DE X W a fa) (hb : DE X W b fb) (hc : DE X W c fc) (hg : Gl X "range" := by rfl) (hs : starEach [a, b, c] X.env = (false, eval a X.env) :: starEach [b, c] X.env := by rfl) (hs2 : starEach [b, c] X.env = (false, eval b X.env) :: starEach [c] X.env := by rfl) (hs3 : starEach [c] X.env = (false, eval c X.env) :: starEach [] X.env := by rfl)
    (hpl : (backTo pos (starEach [b, c] X.env)).any (·.1) = false := by rfl) : DI X W tg (.Call (.Name "range" p) [a, b, c] [] pos) (itR3 fa fb fc) := by
  refine piImp (pi_range3 hg hm (pa_cons ha (pa_cons hb (pa_cons hc pa_nil hs3) hs2) hs) hs hpl) fun σ H Q ⟨ρ, hρ, h⟩ => ⟨ρ, hρ, (Post.bindI h).imp fun v H1 _ ⟨d, _, s1, rx, h1⟩ => ⟨ρ, hρ.mono s1, (Post.bindI h1).imp fun u H2 _ ⟨e, _, s2, ry, h2⟩ => ⟨ρ, (hρ.mono s1).mono s2, (Post.bindI h2).imp fun w H3 _ ⟨f, _, s3, rz, h3⟩ => ?_⟩⟩⟩
  cases d with
  | int m =>
    cases e with
    | int n =>
      cases f with
      | int c =>
        have h4 : PostI X.K X.mg W σ H3 Q (if c = -1 ∧ inB m ∧ inB n then .ok (downD m n) else .bad) := h3
        by_cases hb : c = -1 ∧ inB m ∧ inB n
        · rw [if_pos hb] at h4
          obtain ⟨ec, hb⟩ := hb
          unfold inB at hb
          refine ⟨m, n, -1, (m - n).toNat, by rw [dp_int rx, dp_int ry, dp_int rz, ec], RgC.neg (by omega) (by omega) (by omega) (by omega), h4 _ H3 (Same.refl _) ?_⟩
          exact .of walk_rangeC (downD_length n m).symm (fun _ _ => trivial) fun i H1 x H' hi s ⟨e, y⟩ => ⟨_, downD_get hi, .inl ⟨e, by rw [y]; show Dp X.K H3 (V.int (m + (i : Int) * -1)) _; rw [show m + (i : Int) * -1 = m - (i : Int) by omega]; exact .int _⟩⟩
        · rw [if_neg hb] at h4
          exact h4.elim
      | _ => exact h3.elim
    | _ => exact h3.elim
  | _ => exact h3.elim
end

/-! ### x.append(y.pop(e)), x and y lists of the frame's own -/
def popAppS (i j : Nat) (e : Ex) : Sf := fstL i <| fstL j fun ρ => match e ρ with
  | .ok (.int z) => (match ownL j ρ with
    | .ok ds => (match ixN ds.length z with
      | some k => (match ds[k]? with
        | some d => (match ownL i ρ with
          | .ok es => if es.length < 16777216 ∧ inB z then .nx ((ρ.set j (some (.list (ds.eraseIdx k)))).set i (some (.list (es ++ [d])))) else .bad
          | _ => .bad)
        | none => .bad)
      | none => .bad)
    | _ => .bad)
  | .ok _ => .bad
  | .err c => .err c ρ
  | .bad => .bad
section
variable {X : Cx} {W : WX} {M Lb : List Nat} {e : Expr} {fe : Ex} {pos px py pa pb pc pd : Pos} {x y : Str}
theorem s_popApp (i j : Nat) (h : DE X W e fe) (hij : i ≠ j := by decide) (hi : X.N[i]? = some x := by rfl) (hv : Vis X.env.scope x := by first | exact Or.inl rfl | exact Or.inr (Or.inl rfl) | exact Or.inr (Or.inr rfl)) (hiM : i ∈ M := by decide) (hd : (x == ("__debug__" : Str)) = false := by decide) (hcd : (x == ("__classdict__" : Str)) = false := by decide)
    (hj : X.N[j]? = some y := by rfl) (hvj : Vis X.env.scope y := by first | exact Or.inl rfl | exact Or.inr (Or.inl rfl) | exact Or.inr (Or.inr rfl)) (hjM : j ∈ M := by decide) (hdj : (y == ("__debug__" : Str)) = false := by decide) (hcdj : (y == ("__classdict__" : Str)) = false := by decide)
    (hbase : attributeBase (.Name x px) "append" X.env (eval (.Name x px) X.env) = eval (.Name x px) X.env := by rfl)
    (hfew : ((backTo pc (starEach [.Call (.Attribute (.Name y py) "pop" pb) [e] [] pd] X.env)).all (fun x => !x.1) && (backToKw pc (keywordEach [] X.env)).all (fun x => x.1.isSome)
      && decide (([.Call (.Attribute (.Name y py) "pop" pb) [e] [] pd] : List Expr).length + ([] : List Keyword).length + (if ([] : List Keyword).isEmpty then 0 else 1) < 30)) = true := by rfl)
    (hline : (pa.endLine == pc.line) = true := by rfl) (hst : starEach [.Call (.Attribute (.Name y py) "pop" pb) [e] [] pd] X.env = (false, eval (.Call (.Attribute (.Name y py) "pop" pb) [e] [] pd) X.env) :: starEach [] X.env := by rfl) (hplain : (backTo pc (starEach [] X.env)).any (·.1) = false := by rfl)
    (hbase2 : attributeBase (.Name y py) "pop" X.env (eval (.Name y py) X.env) = eval (.Name y py) X.env := by rfl)
    (hfew2 : ((backTo pd (starEach [e] X.env)).all (fun x => !x.1) && (backToKw pd (keywordEach [] X.env)).all (fun x => x.1.isSome)
      && decide (([e] : List Expr).length + ([] : List Keyword).length + (if ([] : List Keyword).isEmpty then 0 else 1) < 30)) = true := by rfl)
    (hline2 : (pb.endLine == pd.line) = true := by rfl) (hst2 : starEach [e] X.env = (false, eval e X.env) :: starEach [] X.env := by rfl) (hplain2 : (backTo pd (starEach [] X.env)).any (·.1) = false := by rfl)
    (hs : swapsWith (.Call (.Attribute (.Name x px) "append" pa) [.Call (.Attribute (.Name y py) "pop" pb) [e] [] pd] [] pc) none pos.line X.env = pure false := by rfl) :
    DS X W M M Lb (.Expr (.Call (.Attribute (.Name x px) "append" pa) [.Call (.Attribute (.Name y py) "pop" pb) [e] [] pd] [] pc) pos) (popAppS i j fe) := by
  have hb : PE X (.Call (.Attribute (.Name x px) "append" pa) [.Call (.Attribute (.Name y py) "pop" pb) [e] [] pd] [] pc) (tBM X.K "list" rAppend (tVar i) (tCons (tBM X.K "list" rPopAt (tVar j) (tCons (tD X.K X.mg W fe) tNil)) tNil)) :=
    pe_bm PySem.F.plainAttrs_list PySem.F.slot_list_append PySem.F.type_list_append mt_append (pv i hi hv hd hcd) (pa_cons (pe_bm PySem.F.plainAttrs_list PySem.F.slot_list_pop PySem.F.type_list_pop mt_popAt (pv j hj hvj hdj hcdj) (pa_cons h pa_nil hst2) hbase2 hfew2 hline2 hst2 hplain2) pa_nil hst) hbase hfew hline hst hplain
  refine psImp (ps_expr hb hs) fun D σ H ⟨G, o, ρ, hm, R, q⟩ => ?_
  obtain ⟨a, ha⟩ := mem_id (by rw [hm]; exact hiM)
  obtain ⟨b, hb⟩ := mem_id (by rw [hm]; exact hjM)
  unfold popAppS at q
  obtain ⟨⟨ds0, vs0, g1, g2, g3, g4⟩, q⟩ := R.fstL ha q
  obtain ⟨⟨es0, us0, k1, k2, k3, k4⟩, q⟩ := R.fstL hb q
  have hab : a ≠ b := fun z => hij (by
    have q : (i, a) = (j, b) := SRep.freeze.nodup_snd R.nda ha hb z
    cases q
    rfl)
  refine ⟨.ref a, g2, .inl ⟨rfl, _, .inl (.inl g3)⟩, .ref b, k2, .inl ⟨rfl, _, .inl (.inl k3)⟩, ρ, R.full, ?_⟩
  cases e1 : fe ρ with
  | ok d =>
    rw [e1] at q
    intro v H' s r
    have R' := R.mono s
    cases d with
    | int z =>
      dsimp only at q
      cases e2 : ownL j ρ with
      | err c => rw [e2] at q; exact q.elim
      | bad => rw [e2] at q; exact q.elim
      | ok ds =>
        rw [e2] at q
        dsimp only at q
        obtain ⟨us, m1, m2, m3, m4⟩ := R'.ownAt hb e2
        cases e3 : ixN ds.length z with
        | none => rw [e3] at q; exact q.elim
        | some k =>
          rw [e3] at q
          dsimp only at q
          cases e4 : ds[k]? with
          | none => rw [e4] at q; exact q.elim
          | some d =>
            rw [e4] at q
            dsimp only at q
            cases e5 : ownL i ρ with
            | err c => rw [e5] at q; exact q.elim
            | bad => rw [e5] at q; exact q.elim
            | ok es =>
              rw [e5] at q
              dsimp only at q
              by_cases hl : es.length < 16777216 ∧ inB z
              · rw [if_pos hl] at q
                obtain ⟨hl, hz⟩ := hl
                unfold inB at hz
                obtain ⟨w, w1, w2⟩ := m4.get e4
                obtain ⟨s1, s2, s3, s4⟩ := ixN_seq e3
                obtain ⟨vs, n1, n2, n3, n4⟩ := R'.ownAt ha e5
                refine ⟨b, us, z, k, w, rfl, by rw [dp_int r], m3, by omega, by omega, by rw [m4.len]; exact s1, w1, ?_⟩
                have R2 := R'.put hb (DpAll.erase k m4)
                have n3' : upd H' b (.lst (us.eraseIdx k)) a = some (.lst vs) := by rw [upd_ne hab]; exact n3
                have ec : cut (AD o) (upd H' b (.lst (us.eraseIdx k))) = cut (AD o) H' := cut_upd_in (List.mem_map.mpr ⟨_, hb, rfl⟩)
                refine ⟨a, vs, w, rfl, rfl, n3', by rw [n4.len, sizeLine_eq]; exact hl, q σ _ o hm (R2.put ha (by rw [ec]; exact n4.app (.cons w2 .nil)))⟩
              · rw [if_neg hl] at q
                exact q.elim
    | _ => exact q.elim
  | err c =>
    rw [e1] at q
    obtain ⟨C, h1, h2⟩ := q
    exact ⟨C, h1, fun d H' s => h2 σ H' d (R.same.trans s) (R.full.mono s)⟩
  | bad => rw [e1] at q; exact q.elim
end
end L2.DL
set_option maxHeartbeats 2000000
namespace PySem.DLx
open PySem.SeqAt PyProof.Rows
open PySem.AutoSeq1 (wpAny_loadPart')
theorem list_extendW (l : Addr) (items : Array Value) (n : Nat) (b : Addr) (items2 : Array Value) (n2 : Nat) (dd : Option Addr) (sl : Array (Option Value)) (hc0 : ¬(!items.isEmpty && Builtin.List.listTooLong (items.size + items2.size)) = true) (hc1 : items.size ≤ sizeLine) (hs2 : items.size + items2.size ≤ sizeLine + 1) :
    Meets (Builtin.«list.extend» ⟨[.ref l, .ref b], []⟩) (fun _ R s => s.heap.get? l = some { cls := .type "list", dict := none, data := .seq items n, slots := #[] } ∧ s.heap.get? b = some { cls := .type "list", dict := dd, data := .seq items2 n2, slots := sl } ∧ R (.ok (.ret Value.none)) { s with heap := s.heap.update l (Obj.mapSeq fun x => x ++ items2), toks := s.toks }) :=
  .of_wp fun prog w A R s h => by
    obtain ⟨hp, g, d, tk, os⟩ := s; obtain ⟨hl, hb, h⟩ := h; have f1 := AutoSeq1.idx_int; have f2 := AutoSeq1.sub_tuple_tuple; have f3 := AutoSeq1.sub_list_list; have f4 := AutoSeq1.sub_tuple_list; have f5 := AutoSeq1.sub_list_tuple;
    have hz' : (items ++ items2).size ≤ sizeLine + 1 := by rw [Array.size_append]; exact hs2
    wp_walk using (wpAny_updateSeq hl rfl (hz := hc1) (_hz' := hz')), wpAny_loadPart' hl, wpAny_loadPart' hb; exact ⟨_, rfl, h⟩
end PySem.DLx
namespace L2.DL
open PySem PySem.Spec PyProof.Rows

/-! ### a ** b -/
def oPow : PyData → PyData → Option PyData
  | .int i, .int j => if 0 ≤ j ∧ j ≤ 1000000 ∧ i.natAbs < 2 ^ 64 then some (.int (i ^ j.toNat)) else none
  | _, _ => none
theorem o2_pow {K : PySem.W.Frag} : Op2 K (rI CPow fun i j => .int (i ^ j.toNat)) oPow := by
  intro x y dx dy d H Q rx ry e q
  cases dx with
  | int i =>
    cases dy with
    | int j =>
      unfold oPow at e
      dsimp only at e
      split at e
      · rename_i hc
        cases e
        exact ⟨i, j, dp_int rx, dp_int ry, hc, q _ H (Same.refl _) (.int _)⟩
      · cases e
    | _ => cases e
  | _ => cases e
theorem d_pow {X : Cx} {W : WX} {a b : Expr} {fa fb : Ex} {pos : Pos} (ha : DE X W a fa) (hb : DE X W b fb) : DE X W (.BinOp a .Pow b pos) (eOp oPow fa fb) := d_op op_pow o2_pow ha hb

/-! ### x.remove(k), x.extend(ys): x a list of the frame's own -/
def remS (i : Nat) (e : Ex) : Sf := fstL i fun ρ => match e ρ with
  | .ok (.int k) => (match ownL i ρ with
    | .ok ds => (match toInts ds with
      | some ns => if k ∈ ns then .nx (ρ.set i (some (.list ((ns.erase k).map .int)))) else .bad
      | none => .bad)
    | _ => .bad)
  | .ok _ => .bad
  | .err c => .err c ρ
  | .bad => .bad
def extS (M : List Nat) (i : Nat) (e : Ex) : Sf := fstL i fun ρ => match e ρ with
  | .ok (.list es) => (match ownL i ρ with
    | .ok ds => if ds.length + es.length ≤ 16777216 then .nx (ρ.set i (some (.list (ds ++ es)))) else .bad
    | _ => .bad)
  | .ok _ => .bad
  | .err c => .err c (wipeD ρ M)
  | .bad => .bad
def rExtQ (K : PySem.W.Frag) : V → List V → Hp → VK → Prop := fun x vs H Q => ∃ l b xs zs, x = .ref l ∧ vs = [.ref b] ∧ H l = some (.lst xs) ∧ SqL K H b zs ∧ xs.length + zs.length ≤ sizeLine ∧ Q .non (upd H l (.lst (xs ++ zs)))
theorem mt_extendQ {X : Cx} : MtM X "list.extend" (rExtQ X.K) := by
  intro pins s σ H x vs v us Q I rx rv h
  obtain ⟨l, b, xs, zs, rfl, rfl, hH, hB, hz, q⟩ := h
  cases rx
  obtain ⟨u, rfl, ru⟩ := rv.one
  cases ru
  obtain ⟨z, its, n, r, hl, e⟩ := I.lstM hH
  obtain ⟨its2, r2, pl2, _⟩ := I.list hB
  have hl2 := r2.length
  obtain ⟨⟨cls2, dd2, data2, sl2⟩, n2, ho2, hc2, _, hd2⟩ := pl2
  simp only at hc2 hd2
  subst hc2 hd2
  have hsz : its.toArray.size + its2.toArray.size ≤ sizeLine := by rw [List.size_toArray, List.size_toArray]; omega
  have hlong : ¬ (!its.toArray.isEmpty && Builtin.List.listTooLong (its.toArray.size + its2.toArray.size)) = true := by
    rw [notLongL hsz, Bool.and_false]
    exact Bool.false_ne_true
  refine call_meets F.slot_list_extend ⟨_, e, rfl⟩ F.entry_list_extend (F.args_list_extend_2 _ _)
    (PySem.DLx.list_extendW l its.toArray n b its2.toArray n2 dd2 sl2 hlong (by rw [List.size_toArray]; omega) (by omega)) ⟨e, ho2, ?_⟩
  refine ⟨.non, _, I.lset (its' := its ++ its2) hH e (by simp) (r.append r2) ?_, rfl, q⟩
  rw [List.length_append]
  omega
section
variable {X : Cx} {W : WX} {M M' M1 M2 Lb : List Nat} {e k : Expr} {fe fk : Ex} {pos px pa pc ps : Pos} {x : Str}
theorem s_rem (i : Nat) (h : DE X W e fe) (hi : X.N[i]? = some x := by rfl) (hv : Vis X.env.scope x := by first | exact Or.inl rfl | exact Or.inr (Or.inl rfl) | exact Or.inr (Or.inr rfl)) (hiM : i ∈ M := by decide) (hd : (x == ("__debug__" : Str)) = false := by decide) (hcd : (x == ("__classdict__" : Str)) = false := by decide)
    (hbase : attributeBase (.Name x px) "remove" X.env (eval (.Name x px) X.env) = eval (.Name x px) X.env := by rfl)
    (hfew : ((backTo pc (starEach [e] X.env)).all (fun x => !x.1) && (backToKw pc (keywordEach [] X.env)).all (fun x => x.1.isSome)
      && decide (([e] : List Expr).length + ([] : List Keyword).length + (if ([] : List Keyword).isEmpty then 0 else 1) < 30)) = true := by rfl)
    (hline : (pa.endLine == pc.line) = true := by rfl) (hst : starEach [e] X.env = (false, eval e X.env) :: starEach [] X.env := by rfl) (hplain : (backTo pc (starEach [] X.env)).any (·.1) = false := by rfl)
    (hs : swapsWith (.Call (.Attribute (.Name x px) "remove" pa) [e] [] pc) none pos.line X.env = pure false := by rfl) : DS X W M M Lb (.Expr (.Call (.Attribute (.Name x px) "remove" pa) [e] [] pc) pos) (remS i fe) := by
  have hb : PE X (.Call (.Attribute (.Name x px) "remove" pa) [e] [] pc) (tBM X.K "list" rRemI (tVar i) (tCons (tD X.K X.mg W fe) tNil)) := pe_bm PySem.F.plainAttrs_list PySem.F.slot_list_remove PySem.F.type_list_remove mt_remove (pv i hi hv hd hcd) (pa_cons h pa_nil hst) hbase hfew hline hst hplain
  refine psImp (ps_expr hb hs) fun D σ H ⟨G, o, ρ, hm, R, q⟩ => ?_
  obtain ⟨a, ha⟩ := mem_id (by rw [hm]; exact hiM)
  unfold remS at q
  obtain ⟨⟨ds0, vs0, g1, g2, g3, g4⟩, q⟩ := R.fstL ha q
  refine ⟨.ref a, g2, .inl ⟨rfl, _, .inl (.inl g3)⟩, ρ, R.full, ?_⟩
  cases e1 : fe ρ with
  | ok d =>
    rw [e1] at q
    intro v H' s r
    have R' := R.mono s
    cases d with
    | int k =>
      dsimp only at q
      cases e2 : ownL i ρ with
      | ok ds =>
        rw [e2] at q
        dsimp only at q
        obtain ⟨vs, k1, k2, k3, k4⟩ := R'.ownAt ha e2
        cases e3 : toInts ds with
        | none => rw [e3] at q; exact q.elim
        | some ns =>
          rw [e3] at q
          dsimp only at q
          by_cases hk : k ∈ ns
          · rw [if_pos hk] at q
            obtain ⟨j, j1, j2, j3, j4⟩ := first_at hk
            rw [dp_ints k4 e3] at k3
            refine ⟨a, ns, k, j, rfl, by rw [dp_int r], k3, j2, j3, ?_⟩
            rw [j4]
            exact q σ _ o hm (R'.put ha (of_ints _))
          · rw [if_neg hk] at q
            exact q.elim
      | err c => rw [e2] at q; exact q.elim
      | bad => rw [e2] at q; exact q.elim
    | _ => exact q.elim
  | err c =>
    rw [e1] at q
    obtain ⟨C, h1, h2⟩ := q
    exact ⟨C, h1, fun d H' s => h2 σ H' d (R.same.trans s) (R.full.mono s)⟩
  | bad => rw [e1] at q; exact q.elim
theorem s_ext (i : Nat) (h : SE X W M e fe) (hi : X.N[i]? = some x := by rfl) (hv : Vis X.env.scope x := by first | exact Or.inl rfl | exact Or.inr (Or.inl rfl) | exact Or.inr (Or.inr rfl)) (hiM : i ∈ M := by decide) (hd : (x == ("__debug__" : Str)) = false := by decide) (hcd : (x == ("__classdict__" : Str)) = false := by decide)
    (hbase : attributeBase (.Name x px) "extend" X.env (eval (.Name x px) X.env) = eval (.Name x px) X.env := by rfl)
    (hfew : ((backTo pc (starEach [e] X.env)).all (fun x => !x.1) && (backToKw pc (keywordEach [] X.env)).all (fun x => x.1.isSome)
      && decide (([e] : List Expr).length + ([] : List Keyword).length + (if ([] : List Keyword).isEmpty then 0 else 1) < 30)) = true := by rfl)
    (hline : (pa.endLine == pc.line) = true := by rfl) (hst : starEach [e] X.env = (false, eval e X.env) :: starEach [] X.env := by rfl) (hplain : (backTo pc (starEach [] X.env)).any (·.1) = false := by rfl)
    (hs : swapsWith (.Call (.Attribute (.Name x px) "extend" pa) [e] [] pc) none pos.line X.env = pure false := by rfl) : DS X W M M Lb (.Expr (.Call (.Attribute (.Name x px) "extend" pa) [e] [] pc) pos) (extS M i fe) := by
  have hb : PE X (.Call (.Attribute (.Name x px) "extend" pa) [e] [] pc) (tBM X.K "list" (rExtQ X.K) (tVar i) (tCons (tSE X.K X.mg W M fe) tNil)) := pe_bm PySem.F.plainAttrs_list PySem.F.slot_list_extend PySem.F.type_list_extend mt_extendQ (pv i hi hv hd hcd) (pa_cons h pa_nil hst) hbase hfew hline hst hplain
  refine psImp (ps_expr hb hs) fun D σ H ⟨G, o, ρ, hm, R, q⟩ => ?_
  obtain ⟨a, ha⟩ := mem_id (by rw [hm]; exact hiM)
  unfold extS at q
  obtain ⟨⟨ds0, vs0, g1, g2, g3, g4⟩, q⟩ := R.fstL ha q
  refine ⟨.ref a, g2, .inl ⟨rfl, _, .inl (.inl g3)⟩, G, o, ρ, hm, R, ?_⟩
  cases e1 : fe ρ with
  | ok d =>
    rw [e1] at q
    intro v H' R' r
    cases d with
    | list es =>
      dsimp only at q
      cases e2 : ownL i ρ with
      | ok ds =>
        rw [e2] at q
        dsimp only at q
        obtain ⟨vs, k1, k2, k3, k4⟩ := R'.ownAt ha e2
        by_cases hl : ds.length + es.length ≤ 16777216
        · rw [if_pos hl] at q
          obtain ⟨b, us, rfl, hs, hv⟩ := dp_lst r
          refine ⟨a, b, vs, us, rfl, rfl, k3, cutSame.seq hs, by rw [k4.len, hv.len, sizeLine_eq]; exact hl, q σ _ o hm (R'.put ha (k4.app hv))⟩
        · rw [if_neg hl] at q
          exact q.elim
      | err c => rw [e2] at q; exact q.elim
      | bad => rw [e2] at q; exact q.elim
    | _ => exact q.elim
  | err c =>
    rw [e1] at q
    obtain ⟨C, h1, h2⟩ := q
    exact ⟨C, h1, fun H' d s r => h2 σ H' d s (by rw [← hm]; exact r)⟩
  | bad => rw [e1] at q; exact q.elim
end
end L2.DL
set_option maxHeartbeats 2000000
namespace L2.DL
open PySem PySem.Spec PyProof.Rows
/-! ### reckoning with mirrors: what simp opens -/
@[simp] theorem eVar_zero (d : PyData) (r : Env) : eVar 0 (some d :: r) = .ok d := rfl
@[simp] theorem eVar_zeroN (r : Env) : eVar 0 (none :: r) = .bad := rfl
@[simp] theorem eVar_succ (i : Nat) (x : Option PyData) (r : Env) : eVar (i + 1) (x :: r) = eVar i r := by simp [eVar]
@[simp] theorem eC_ap (d : PyData) (ρ : Env) : eC d ρ = .ok d := rfl
@[simp] theorem eOp_ap (op : PyData → PyData → Option PyData) (f g : Ex) (ρ : Env) : eOp op f g ρ = (f ρ).bind fun x => (g ρ).bind fun y => Res.of (op x y) := rfl
@[simp] theorem eUn_ap (op : PyData → Option PyData) (f : Ex) (ρ : Env) : eUn op f ρ = (f ρ).bind fun x => Res.of (op x) := rfl
@[simp] theorem eB_ap (f : Ex) (ρ : Env) : eB f ρ = (f ρ).bind asB := rfl
@[simp] theorem bE_ap (f : Te) (ρ : Env) : bE f ρ = (f ρ).bind fun b => .ok (.bool b) := rfl
@[simp] theorem teAnd_ap (f g : Te) (ρ : Env) : teAnd f g ρ = (f ρ).bind fun c => if c = true then g ρ else .ok false := rfl
@[simp] theorem teOr_ap (f g : Te) (ρ : Env) : teOr f g ρ = (f ρ).bind fun c => if c = true then .ok true else g ρ := rfl
@[simp] theorem teNot_ap (f : Te) (ρ : Env) : teNot f ρ = (f ρ).bind fun c => .ok (!c) := rfl
@[simp] theorem teYes_ap (ρ : Env) : teYes ρ = .ok true := rfl
@[simp] theorem eIf_ap (c : Te) (a b : Ex) (ρ : Env) : eIf c a b ρ = (c ρ).bind fun k => if k = true then a ρ else b ρ := rfl
@[simp] theorem eChain_ap (op op' : PyData → PyData → Option PyData) (fa fb fc : Ex) (ρ : Env) : eChain op op' fa fb fc ρ = (fa ρ).bind fun x => (fb ρ).bind fun y => (Res.of (op x y)).bind fun k => (asB k).bind fun k => if k = true then (fc ρ).bind fun z => (Res.of (op' y z)).bind asB else .ok false := rfl
@[simp] theorem eAnd_ap (f g : Ex) (ρ : Env) : eAnd f g ρ = (f ρ).bind fun x => (asB x).bind fun c => if c = true then g ρ else .ok (.bool false) := rfl
@[simp] theorem eOr_ap (f g : Ex) (ρ : Env) : eOr f g ρ = (f ρ).bind fun x => (asB x).bind fun c => if c = true then .ok (.bool true) else g ρ := rfl
@[simp] theorem eNot_ap (f : Ex) (ρ : Env) : eNot f ρ = (f ρ).bind fun x => (asB x).bind fun c => .ok (.bool (!c)) := rfl
@[simp] theorem aNil_ap (ρ : Env) : aNil ρ = .ok [] := rfl
@[simp] theorem aCons_ap (f : Ex) (g : Ar) (ρ : Env) : aCons f g ρ = (f ρ).bind fun x => (g ρ).bind fun xs => .ok (x :: xs) := rfl
@[simp] theorem eTup_ap (f : Ar) (ρ : Env) : eTup f ρ = (f ρ).bind fun xs => if xs.length ≤ 16777216 then .ok (.tuple xs) else .bad := rfl
@[simp] theorem eLst_ap (f : Ar) (ρ : Env) : eLst f ρ = (f ρ).bind fun xs => if xs.length ≤ 16777216 then .ok (.list xs) else .bad := rfl
@[simp] theorem nLst_ap (f : Ar) (ρ : Env) : nLst f ρ = (f ρ).bind fun xs => if xs.length ≤ 16777216 then .ok xs else .bad := rfl
@[simp] theorem eCall_ap (fn : List PyData → Res PyData) (g : Ar) (ρ : Env) : eCall fn g ρ = (g ρ).bind fn := rfl
@[simp] theorem eCall1_ap (op : PyData → Option PyData) (f : Ex) (ρ : Env) : eCall1 op f ρ = (f ρ).bind fun x => Res.of (op x) := rfl
@[simp] theorem eCall2_ap (op : PyData → PyData → Option PyData) (f g : Ex) (ρ : Env) : eCall2 op f g ρ = (f ρ).bind fun x => (g ρ).bind fun y => Res.of (op x y) := rfl
@[simp] theorem ptNo_ap (ρ : Env) : ptNo ρ = .ok none := rfl
@[simp] theorem asI_int (i : Int) : asI (.int i) = .ok i := rfl
@[simp] theorem asL_list (xs : List PyData) : asL (.list xs) = .ok xs := rfl
@[simp] theorem ptSome_ap (f : Ex) (ρ : Env) : ptSome f ρ = (f ρ).bind fun x => (asI x).bind fun i => .ok (some i) := rfl
@[simp] theorem eSlice_ap (f : Ex) (lo hi : Pt) (ρ : Env) : eSlice f lo hi ρ = (f ρ).bind fun x => (lo ρ).bind fun l => (hi ρ).bind fun h => Res.of (oSlice x l h) := rfl
@[simp] theorem oSlice_list (xs : List PyData) (l h : Option Int) : oSlice (.list xs) l h = some (.list (cutD xs l h)) := rfl
@[simp] theorem oSlice_tuple (xs : List PyData) (l h : Option Int) : oSlice (.tuple xs) l h = some (.tuple (cutD xs l h)) := rfl
@[simp] theorem itSq_ap (f : Ex) (ρ : Env) : itSq f ρ = (f ρ).bind items := rfl
@[simp] theorem itEnum_ap (f : Ex) (ρ : Env) : itEnum f ρ = (f ρ).bind fun x => (asL x).bind fun ds => .ok (enumFrom 0 ds) := rfl
@[simp] theorem itZip_ap (f g : Ex) (ρ : Env) : itZip f g ρ = (f ρ).bind fun x => (g ρ).bind fun y => (asL x).bind fun xs => (asL y).bind fun ys => .ok (zipD xs ys) := rfl
@[simp] theorem itR1_ap (f : Ex) (ρ : Env) : itR1 f ρ = (f ρ).bind fun x => (asI x).bind fun n => if inB n then .ok (rangeD 0 n) else .bad := rfl
@[simp] theorem itR2_ap (f g : Ex) (ρ : Env) : itR2 f g ρ = (f ρ).bind fun x => (g ρ).bind fun y => (asI x).bind fun m => (asI y).bind fun n => if inB m ∧ inB n then .ok (rangeD m n) else .bad := rfl
@[simp] theorem itR3_ap (f g h : Ex) (ρ : Env) : itR3 f g h ρ = (f ρ).bind fun x => (g ρ).bind fun y => (h ρ).bind fun z => (asI x).bind fun m => (asI y).bind fun n => (asI z).bind fun c => if c = -1 ∧ inB m ∧ inB n then .ok (downD m n) else .bad := rfl
@[simp] theorem eLstR1_ap (f : Ex) (ρ : Env) : eLstR1 f ρ = (f ρ).bind fun x => (asI x).bind fun n => if inB n then .ok (.list (rangeD 0 n)) else .bad := rfl
@[simp] theorem nR1_ap (f : Ex) (ρ : Env) : nR1 f ρ = (f ρ).bind fun x => (asI x).bind fun n => if inB n then .ok (rangeD 0 n) else .bad := rfl
/-- a tuple, or nothing we tell of -/
def tupO (x : PyData) : Res PyData := match x with
  | .tuple xs => .ok (.tuple xs)
  | _ => .bad
@[simp] theorem tupO_tuple (xs : List PyData) : tupO (.tuple xs) = .ok (.tuple xs) := rfl
@[simp] theorem eTupIx_ap (f g : Ex) (ρ : Env) : eTupIx f g ρ = (f ρ).bind fun x => (tupO x).bind fun x => (g ρ).bind fun y => Res.of (oIndexT x y) := by
  show (f ρ).bind _ = _
  congr 1
  funext x
  cases x <;> rfl
@[simp] theorem eComp_ap (it : Itr') (t : Tgt) (c : Te) (e : Ex) (ρ : Env) : eComp it t c e ρ = (eCompL it t c e ρ).bind fun xs => .ok (.list xs) := rfl
@[simp] theorem eCompL_ap (it : Itr') (t : Tgt) (c : Te) (e : Ex) (ρ : Env) : eCompL it t c e ρ = (it ρ).bind fun ds => if ds.length < 16777216 then compD t c e (wipeD ρ t.slots) ds else .bad := rfl
@[simp] theorem slots_one (i : Nat) : (Tgt.one i).slots = [i] := rfl
@[simp] theorem slots_tup (is : List Nat) : (Tgt.tup is).slots = is := rfl
@[simp] theorem wipeD_nil (ρ : Env) : wipeD ρ [] = ρ := rfl
@[simp] theorem wipeD_cons (ρ : Env) (v : Nat) (vs : List Nat) : wipeD ρ (v :: vs) = (wipeD ρ vs).set v none := rfl
@[simp] theorem bindT_one (i : Nat) (d : PyData) (ρ : Env) : bindT (.one i) d ρ = .ok (ρ.set i (some d)) := rfl
@[simp] theorem bindT_tup (is : List Nat) (ds : List PyData) (ρ : Env) : bindT (.tup is) (.tuple ds) ρ = if ds.length = is.length then .ok (setAll is ds ρ) else .bad := rfl
@[simp] theorem setAll_cons (i : Nat) (is : List Nat) (d : PyData) (ds : List PyData) (ρ : Env) : setAll (i :: is) (d :: ds) ρ = setAll is ds (ρ.set i (some d)) := rfl
@[simp] theorem setAll_nil (ds : List PyData) (ρ : Env) : setAll [] ds ρ = ρ := by cases ds <;> rfl
/-! operators -/
@[simp] theorem oAdd_int (i j : Int) : oAdd (.int i) (.int j) = some (.int (i + j)) := rfl
@[simp] theorem oSub_int (i j : Int) : oSub (.int i) (.int j) = some (.int (i - j)) := rfl
@[simp] theorem oMul_int (i j : Int) : oMul (.int i) (.int j) = if (-(2 ^ 64) < i ∧ i < 2 ^ 64) ∨ (-(2 ^ 64) < j ∧ j < 2 ^ 64) then some (.int (i * j)) else none := rfl
@[simp] theorem oMod_int (i j : Int) : oMod (.int i) (.int j) = if 0 < j then some (.int (i % j)) else none := rfl
@[simp] theorem oDiv_int (i j : Int) : oDiv (.int i) (.int j) = if 0 < j ∧ j < 1073741824 then some (.int (i / j)) else none := rfl
@[simp] theorem oLt_int (i j : Int) : oLt (.int i) (.int j) = some (.bool (decide (i < j))) := rfl
@[simp] theorem oLe_int (i j : Int) : oLe (.int i) (.int j) = some (.bool (decide (i ≤ j))) := rfl
@[simp] theorem oGt_int (i j : Int) : oGt (.int i) (.int j) = some (.bool (decide (j < i))) := rfl
@[simp] theorem oGe_int (i j : Int) : oGe (.int i) (.int j) = some (.bool (decide (j ≤ i))) := rfl
@[simp] theorem oNeg_int (i : Int) : oNeg (.int i) = some (.int (-i)) := rfl
@[simp] theorem oMin_int (i j : Int) : oMin (.int i) (.int j) = some (.int (if j < i then j else i)) := rfl
@[simp] theorem oMax_int (i j : Int) : oMax (.int i) (.int j) = some (.int (if j > i then j else i)) := rfl
@[simp] theorem oLen_list (xs : List PyData) : oLen (.list xs) = some (.int (xs.length : Int)) := rfl
@[simp] theorem oLen_tuple (xs : List PyData) : oLen (.tuple xs) = some (.int (xs.length : Int)) := rfl
@[simp] theorem oInt_int (i : Int) : oInt (.int i) = some (.int i) := rfl
@[simp] theorem oInt_bool (b : Bool) : oInt (.bool b) = some (.int (if b then 1 else 0)) := rfl
@[simp] theorem oTuple_list (xs : List PyData) : oTuple (.list xs) = some (.tuple xs) := rfl
@[simp] theorem oTuple_tuple (xs : List PyData) : oTuple (.tuple xs) = some (.tuple xs) := rfl
@[simp] theorem oList_list (xs : List PyData) : oList (.list xs) = some (.list xs) := rfl
@[simp] theorem oList_tuple (xs : List PyData) : oList (.tuple xs) = some (.list xs) := rfl
@[simp] theorem oIx_list (xs : List PyData) (i : Int) : oIx (.list xs) (.int i) = atI xs i := rfl
@[simp] theorem oIx_tuple (xs : List PyData) (i : Int) : oIx (.tuple xs) (.int i) = atI xs i := rfl
@[simp] theorem isaInt_int (i : Int) : isaInt (.int i) = some (.bool true) := rfl
@[simp] theorem isaInt_bool (b : Bool) : isaInt (.bool b) = some (.bool true) := rfl
@[simp] theorem isaInt_none : isaInt .none = some (.bool false) := rfl
@[simp] theorem isaInt_str (b : Str) : isaInt (.str b) = some (.bool false) := rfl
@[simp] theorem isaInt_list (b : List PyData) : isaInt (.list b) = some (.bool false) := rfl
@[simp] theorem isaInt_tuple (b : List PyData) : isaInt (.tuple b) = some (.bool false) := rfl
@[simp] theorem isaBool_int (i : Int) : isaBool (.int i) = some (.bool false) := rfl
@[simp] theorem isaBool_bool (b : Bool) : isaBool (.bool b) = some (.bool true) := rfl
@[simp] theorem isaTuple_tuple (b : List PyData) : isaTuple (.tuple b) = some (.bool true) := rfl
@[simp] theorem isaTuple_list (b : List PyData) : isaTuple (.list b) = some (.bool false) := rfl
@[simp] theorem isaTuple_int (b : Int) : isaTuple (.int b) = some (.bool false) := rfl
@[simp] theorem isaTuple_bool (b : Bool) : isaTuple (.bool b) = some (.bool false) := rfl
@[simp] theorem isaTuple_str (b : Str) : isaTuple (.str b) = some (.bool false) := rfl
@[simp] theorem isaTuple_none : isaTuple .none = some (.bool false) := rfl
@[simp] theorem isaList_list (b : List PyData) : isaList (.list b) = some (.bool true) := rfl
@[simp] theorem isaList_tuple (b : List PyData) : isaList (.tuple b) = some (.bool false) := rfl
@[simp] theorem isaList_int (b : Int) : isaList (.int b) = some (.bool false) := rfl
@[simp] theorem isaList_none : isaList .none = some (.bool false) := rfl
@[simp] theorem isaList_str (b : Str) : isaList (.str b) = some (.bool false) := rfl
@[simp] theorem isN_none : isN .none = true := rfl
@[simp] theorem isN_int (i : Int) : isN (.int i) = false := rfl
@[simp] theorem isN_bool (i : Bool) : isN (.bool i) = false := rfl
@[simp] theorem isN_str (i : Str) : isN (.str i) = false := rfl
@[simp] theorem isN_list (i : List PyData) : isN (.list i) = false := rfl
@[simp] theorem isN_tuple (i : List PyData) : isN (.tuple i) = false := rfl
@[simp] theorem oIs_non (x : PyData) : oIs x .none = some (.bool (isN x)) := rfl
@[simp] theorem oIsNot_non (x : PyData) : oIsNot x .none = some (.bool (!isN x)) := rfl
@[simp] theorem oCatT_tuple (xs ys : List PyData) : oCatT (.tuple xs) (.tuple ys) = if xs.length + ys.length ≤ 16777216 then some (.tuple (xs ++ ys)) else none := rfl
@[simp] theorem oCatL_list (xs ys : List PyData) : oCatL (.list xs) (.list ys) = if xs.length + ys.length ≤ 16777216 then some (.list (xs ++ ys)) else none := rfl
/-! statements -/
@[simp] theorem nxS_ap (ρ : Env) : nxS ρ = .nx ρ := rfl
/-- what comes behind a statement's end -/
def SRes.andThen (r : SRes) (g : Sf) : SRes := match r with
  | .nx ρ => g ρ
  | r => r
@[simp] theorem andThen_nx (ρ : Env) (g : Sf) : (SRes.nx ρ).andThen g = g ρ := rfl
@[simp] theorem andThen_ret (d : PyData) (g : Sf) : (SRes.ret d).andThen g = .ret d := rfl
@[simp] theorem andThen_err (c : Str) (ρ : Env) (g : Sf) : (SRes.err c ρ).andThen g = .err c ρ := rfl
@[simp] theorem andThen_brk (ρ : Env) (g : Sf) : (SRes.brk ρ).andThen g = .brk ρ := rfl
@[simp] theorem andThen_cnt (ρ : Env) (g : Sf) : (SRes.cnt ρ).andThen g = .cnt ρ := rfl
@[simp] theorem andThen_bad (g : Sf) : (SRes.bad).andThen g = .bad := rfl
@[simp] theorem seqS_ap (f g : Sf) (ρ : Env) : seqS f g ρ = (f ρ).andThen g := rfl
/-- a value for a statement -/
def Res.toS {α : Type} (r : Res α) (ρe : Env) (k : α → SRes) : SRes := match r with
  | .ok a => k a
  | .err c => .err c ρe
  | .bad => .bad
@[simp] theorem toS_ok {α : Type} (a : α) (ρe : Env) (k : α → SRes) : (Res.ok a).toS ρe k = k a := rfl
@[simp] theorem toS_err {α : Type} (c : Str) (ρe : Env) (k : α → SRes) : (Res.err c : Res α).toS ρe k = .err c ρe := rfl
@[simp] theorem toS_bad {α : Type} (ρe : Env) (k : α → SRes) : (Res.bad : Res α).toS ρe k = .bad := rfl
@[simp] theorem ifS_ap (c : Te) (a b : Sf) (ρ : Env) : ifS c a b ρ = (c ρ).toS ρ fun k => if k = true then a ρ else b ρ := by
  unfold ifS Res.toS; cases c ρ <;> rfl
@[simp] theorem retS_ap (e : Ex) (ρ : Env) : retS e ρ = (e ρ).toS ρ fun d => .ret d := by
  unfold retS Res.toS; cases e ρ <;> rfl
@[simp] theorem exprS_ap (e : Ex) (ρ : Env) : exprS e ρ = (e ρ).toS ρ fun _ => .nx ρ := by
  unfold exprS Res.toS; cases e ρ <;> rfl
@[simp] theorem raiseS_ap (c : Str) (ρ : Env) : raiseS c ρ = .err c ρ := rfl
@[simp] theorem setS_ap (M : List Nat) (i : Nat) (e : Ex) (ρ : Env) : setS M i e ρ = (e ρ).toS (wipeD ρ M) fun d => .nx (ρ.set i (some d)) := by
  unfold setS Res.toS; cases e ρ <;> rfl
@[simp] theorem newS_ap (M : List Nat) (i : Nat) (e : Env → Res (List PyData)) (ρ : Env) : newS M i e ρ = (e (wipeD ρ M)).toS (wipeD ρ M) fun ds => if i < ρ.length then .nx (ρ.set i (some (.list ds))) else .bad := by
  unfold newS Res.toS; cases e (wipeD ρ M) <;> rfl
def Res.toS' {α : Type} (r : Res α) (k : α → SRes) : SRes := match r with
  | .ok a => k a
  | _ => .bad
@[simp] theorem toS'_ok {α : Type} (a : α) (k : α → SRes) : (Res.ok a).toS' k = k a := rfl
@[simp] theorem toS'_err {α : Type} (c : Str) (k : α → SRes) : (Res.err c : Res α).toS' k = .bad := rfl
@[simp] theorem toS'_bad {α : Type} (k : α → SRes) : (Res.bad : Res α).toS' k = .bad := rfl
@[simp] theorem asgS_ap (M : List Nat) (t : Tgt) (e : Ex) (ρ : Env) : asgS M t e ρ = (e ρ).toS (wipeD ρ M) fun d => (bindT t d ρ).toS' fun ρ' => .nx ρ' := by
  unfold asgS Res.toS
  cases e ρ with
  | ok d => unfold Res.toS'; dsimp only; cases bindT t d ρ <;> rfl
  | _ => rfl
theorem fstL_ap (i : Nat) (f : Sf) (ρ : Env) : fstL i f ρ = (ownL i ρ).toS' fun _ => f ρ := by
  unfold fstL Res.toS'; cases ownL i ρ <;> rfl
@[simp] theorem ownL_zero (ds : List PyData) (r : Env) : ownL 0 (some (.list ds) :: r) = .ok ds := rfl
@[simp] theorem ownL_succ (i : Nat) (x : Option PyData) (r : Env) : ownL (i + 1) (x :: r) = ownL i r := by simp [ownL]
@[simp] theorem appS_ap (M : List Nat) (i : Nat) (e : Ex) (ρ : Env) : appS M i e ρ = (ownL i ρ).toS' fun _ => (e ρ).toS (wipeD ρ M) fun d => (ownL i ρ).toS' fun ds => if ds.length < 16777216 then .nx (ρ.set i (some (.list (ds ++ [d])))) else .bad := by
  unfold appS
  rw [fstL_ap]
  refine congrArg _ (funext fun _ => ?_)
  unfold Res.toS
  cases e ρ with
  | ok d => unfold Res.toS'; dsimp only; cases ownL i ρ <;> rfl
  | _ => rfl
@[simp] theorem putS_ap (M : List Nat) (i : Nat) (k e : Ex) (ρ : Env) : putS M i k e ρ = (ownL i ρ).toS' fun _ => (e ρ).toS (wipeD ρ M) fun d => (k ρ).toS ρ fun z => (asI z).toS' fun z => (ownL i ρ).toS' fun ds => match ixN ds.length z with
    | some j => .nx (ρ.set i (some (.list (ds.set j d))))
    | none => .bad := by
  unfold putS
  rw [fstL_ap]
  refine congrArg _ (funext fun _ => ?_)
  unfold Res.toS
  cases e ρ with
  | ok d =>
    dsimp only
    cases k ρ with
    | ok z =>
      cases z with
      | int z =>
        simp only [asI_int, toS'_ok]
        cases ownL i ρ <;> rfl
      | _ => rfl
    | _ => rfl
  | _ => rfl
@[simp] theorem popAppS_ap (i j : Nat) (e : Ex) (ρ : Env) : popAppS i j e ρ = (ownL i ρ).toS' fun _ => (ownL j ρ).toS' fun _ => (e ρ).toS ρ fun z => (asI z).toS' fun z => (ownL j ρ).toS' fun ds => match ixN ds.length z with
    | some k => (match ds[k]? with
      | some d => (ownL i ρ).toS' fun es => if es.length < 16777216 ∧ inB z then .nx ((ρ.set j (some (.list (ds.eraseIdx k)))).set i (some (.list (es ++ [d])))) else .bad
      | none => .bad)
    | none => .bad := by
  unfold popAppS
  rw [fstL_ap]
  refine congrArg _ (funext fun _ => ?_)
  rw [fstL_ap]
  refine congrArg _ (funext fun _ => ?_)
  unfold Res.toS
  cases e ρ with
  | ok z =>
    cases z with
    | int z =>
      simp only [asI_int, toS'_ok]
      cases ownL j ρ with
      | ok ds =>
        simp only [toS'_ok]
        cases ixN ds.length z with
        | some k =>
          dsimp only
          cases ds[k]? with
          | some d =>
            dsimp only
            cases ownL i ρ <;> rfl
          | none => rfl
        | none => rfl
      | _ => rfl
    | _ => rfl
  | _ => rfl
@[simp] theorem remS_ap (i : Nat) (e : Ex) (ρ : Env) : remS i e ρ = (ownL i ρ).toS' fun _ => (e ρ).toS ρ fun k => (asI k).toS' fun k => (ownL i ρ).toS' fun ds => (Res.of (toInts ds)).toS' fun ns => if k ∈ ns then .nx (ρ.set i (some (.list ((ns.erase k).map .int)))) else .bad := by
  unfold remS
  rw [fstL_ap]
  refine congrArg _ (funext fun _ => ?_)
  unfold Res.toS
  cases e ρ with
  | ok z =>
    cases z with
    | int z =>
      simp only [asI_int, toS'_ok]
      cases ownL i ρ with
      | ok ds =>
        simp only [toS'_ok]
        cases toInts ds <;> rfl
      | _ => rfl
    | _ => rfl
  | _ => rfl
@[simp] theorem extS_ap (M : List Nat) (i : Nat) (e : Ex) (ρ : Env) : extS M i e ρ = (ownL i ρ).toS' fun _ => (e ρ).toS (wipeD ρ M) fun d => (asL d).toS' fun es => (ownL i ρ).toS' fun ds => if ds.length + es.length ≤ 16777216 then .nx (ρ.set i (some (.list (ds ++ es)))) else .bad := by
  unfold extS
  rw [fstL_ap]
  refine congrArg _ (funext fun _ => ?_)
  unfold Res.toS
  cases e ρ with
  | ok z =>
    cases z with
    | list z =>
      simp only [asL_list, toS'_ok]
      cases ownL i ρ <;> rfl
    | _ => rfl
  | _ => rfl
@[simp] theorem oPow_int (i j : Int) : oPow (.int i) (.int j) = if 0 ≤ j ∧ j ≤ 1000000 ∧ i.natAbs < 2 ^ 64 then some (.int (i ^ j.toNat)) else none := rfl
@[simp] theorem forS_ap (M : List Nat) (it : Itr') (t : Tgt) (fb : Sf) (ρ : Env) : forS M it t fb ρ = (it (wipeD ρ M)).toS (wipeD ρ M) fun ds => loopS t fb ds ρ := by
  unfold forS Res.toS; cases it (wipeD ρ M) <;> rfl
/-- what a def hands back -/
def SRes.toR (r : SRes) : Res PyData := match r with
  | .nx _ => .ok .none
  | .ret d => .ok d
  | .err c _ => .err c
  | _ => .bad
@[simp] theorem toR_nx (ρ : Env) : (SRes.nx ρ).toR = .ok .none := rfl
@[simp] theorem toR_ret (d : PyData) : (SRes.ret d).toR = .ok d := rfl
@[simp] theorem toR_err (c : Str) (ρ : Env) : (SRes.err c ρ).toR = .err c := rfl
@[simp] theorem toR_bad : (SRes.bad).toR = .bad := rfl
theorem runD_ap (n : Nat) (s : Sf) (ds : List PyData) : runD n s ds = (s (startD n ds)).toR := rfl
@[simp] theorem startD_ap (n : Nat) (ds : List PyData) : startD n ds = ds.map some ++ List.replicate (n - ds.length) none := rfl
theorem ite_toR (c : Prop) [Decidable c] (a b : SRes) : (if c then a else b).toR = if c then a.toR else b.toR := by split <;> rfl
theorem ite_andThen (c : Prop) [Decidable c] (a b : SRes) (g : Sf) : (if c then a else b).andThen g = if c then a.andThen g else b.andThen g := by split <;> rfl
theorem ite_bind {α β : Type} (c : Prop) [Decidable c] (a b : Res α) (f : α → Res β) : (if c then a else b).bind f = if c then a.bind f else b.bind f := by split <;> rfl
theorem ite_toS {α : Type} (c : Prop) [Decidable c] (a b : Res α) (ρ : Env) (f : α → SRes) : (if c then a else b).toS ρ f = if c then a.toS ρ f else b.toS ρ f := by split <;> rfl

/-! ### comprehensions and loops over encoded lists -/
theorem compD_enc {α : Type} {t : Tgt} {c : Te} {e : Ex} {ρ : Env} (enc : α → PyData) (p : α → Bool) (f : α → PyData) : ∀ (xs : List α), (∀ a ∈ xs, ∃ ρ1, bindT t (enc a) ρ = .ok ρ1 ∧ c ρ1 = .ok (p a) ∧ (p a = true → e ρ1 = .ok (f a))) →
    compD t c e ρ (xs.map enc) = .ok ((xs.filter p).map f)
  | [], _ => rfl
  | a :: xs, h => by
    obtain ⟨ρ1, h1, h2, h3⟩ := h a List.mem_cons_self
    have ih := compD_enc enc p f xs fun b hb => h b (List.mem_cons_of_mem _ hb)
    rw [List.map_cons]
    unfold compD
    rw [h1, Res.bind_ok, h2, noErr_ok, Res.bind_ok]
    cases hp : p a with
    | true => rw [if_pos rfl, h3 hp, noErr_ok, Res.bind_ok, ih, Res.bind_ok, List.filter_cons_of_pos hp, List.map_cons]
    | false => rw [if_neg Bool.false_ne_true, ih, List.filter_cons_of_neg (by rw [hp]; exact Bool.false_ne_true)]
/-- without a test -/
theorem compD_map {α : Type} {t : Tgt} {e : Ex} {ρ : Env} (enc : α → PyData) (f : α → PyData) (xs : List α) (h : ∀ a ∈ xs, ∃ ρ1, bindT t (enc a) ρ = .ok ρ1 ∧ e ρ1 = .ok (f a)) :
    compD t teYes e ρ (xs.map enc) = .ok (xs.map f) := by
  have z := compD_enc (t := t) (c := teYes) (e := e) (ρ := ρ) enc (fun _ => true) f xs fun a ha => by
    obtain ⟨ρ1, h1, h2⟩ := h a ha
    exact ⟨ρ1, h1, rfl, fun _ => h2⟩
  rw [z, List.filter_eq_self.mpr fun _ _ => rfl]
/-- a loop that goes through: its state by a fold -/
theorem loopS_fold {α β : Type} {t : Tgt} {fb : Sf} (enc : α → PyData) (st : β → Env) (step : β → α → β) : ∀ (xs : List α) (b : β), (∀ b a, a ∈ xs → ∃ ρ1, bindT t (enc a) (st b) = .ok ρ1 ∧ fb ρ1 = .nx (st (step b a))) →
    loopS t fb (xs.map enc) (st b) = .nx (st (xs.foldl step b))
  | [], _, _ => rfl
  | a :: xs, b, h => by
    obtain ⟨ρ1, h1, h2⟩ := h b a List.mem_cons_self
    rw [List.map_cons]
    unfold loopS
    rw [h1]
    dsimp only
    rw [h2]
    exact loopS_fold enc st step xs (step b a) fun b a ha => h b a (List.mem_cons_of_mem _ ha)
/-- the same with an invariant; the loop's own names are forgotten: the state is any env that R tells -/
theorem loopS_inv {α : Type} {t : Tgt} {fb : Sf} (enc : α → PyData) (R : List α → Env → Prop) : ∀ (xs pre : List α) (ρ : Env), R pre ρ → (∀ pre a ρ, a ∈ xs → R pre ρ → ∃ ρ1 ρ2, bindT t (enc a) ρ = .ok ρ1 ∧ fb ρ1 = .nx ρ2 ∧ R (pre ++ [a]) ρ2) →
    ∃ ρ', loopS t fb (xs.map enc) ρ = .nx ρ' ∧ R (pre ++ xs) ρ'
  | [], pre, ρ, r, _ => ⟨ρ, rfl, by simpa using r⟩
  | a :: xs, pre, ρ, r, h => by
    obtain ⟨ρ1, ρ2, h1, h2, h3⟩ := h pre a ρ List.mem_cons_self r
    obtain ⟨ρ', h4, h5⟩ := loopS_inv enc R xs (pre ++ [a]) ρ2 h3 fun pre b ρ hb => h pre b ρ (List.mem_cons_of_mem _ hb)
    refine ⟨ρ', ?_, by simpa using h5⟩
    rw [List.map_cons]
    unfold loopS
    rw [h1]
    dsimp only
    rw [h2]
    exact h4
/-- a loop that may return -/
theorem loopS_find {α : Type} {t : Tgt} {fb : Sf} (enc : α → PyData) (R : Env → Prop) (out : α → Option PyData) : ∀ (xs : List α) (ρ : Env), R ρ → (∀ a ρ, a ∈ xs → R ρ → ∃ ρ1, bindT t (enc a) ρ = .ok ρ1 ∧ (match out a with
      | some d => fb ρ1 = .ret d
      | none => ∃ ρ2, fb ρ1 = .nx ρ2 ∧ R ρ2)) →
    match xs.findSome? out with
    | some d => loopS t fb (xs.map enc) ρ = .ret d
    | none => ∃ ρ', loopS t fb (xs.map enc) ρ = .nx ρ' ∧ R ρ'
  | [], ρ, r, _ => ⟨ρ, rfl, r⟩
  | a :: xs, ρ, r, h => by
    obtain ⟨ρ1, h1, h2⟩ := h a ρ List.mem_cons_self r
    rw [List.findSome?_cons]
    cases ho : out a with
    | some d =>
      rw [ho] at h2
      dsimp only at h2 ⊢
      rw [List.map_cons]
      unfold loopS
      rw [h1]
      dsimp only
      rw [h2]
    | none =>
      rw [ho] at h2
      obtain ⟨ρ2, h3, h4⟩ := h2
      have ih := loopS_find enc R out xs ρ2 h4 fun b ρ hb => h b ρ (List.mem_cons_of_mem _ hb)
      have e : loopS t fb ((a :: xs).map enc) ρ = loopS t fb (xs.map enc) ρ2 := by
        rw [List.map_cons]
        show (match bindT t (enc a) ρ with | .ok ρ1 => _ | _ => _) = _
        rw [h1]
        dsimp only
        rw [h3]
      dsimp only
      rw [e]
      exact ih
theorem rangeD_map (n : Nat) : rangeD 0 (n : Int) = (List.range n).map fun (i : Nat) => PyData.int (i : Int) := by
  unfold rangeD
  rw [Int.sub_zero, Int.toNat_natCast]
  congr 1
  funext i
  rw [Int.zero_add]
theorem atI_ofNat {α : Type} {xs : List α} {i : Int} {j : Nat} {v : α} (e : i = (j : Int)) (h : xs[j]? = some v) : atI xs i = some v := by
  rw [e]; exact atI_nat h
@[simp] theorem atI_zero {α : Type} (x : α) (xs : List α) : atI (x :: xs) 0 = some x := atI_nat (j := 0) rfl
@[simp] theorem atI_one {α : Type} (x y : α) (xs : List α) : atI (x :: y :: xs) 1 = some y := atI_nat (j := 1) rfl
@[simp] theorem atI_two {α : Type} (x y z : α) (xs : List α) : atI (x :: y :: z :: xs) 2 = some z := atI_nat (j := 2) rfl
@[simp] theorem atI_three {α : Type} (x y z u : α) (xs : List α) : atI (x :: y :: z :: u :: xs) 3 = some u := atI_nat (j := 3) rfl
end L2.DL
set_option maxHeartbeats 2000000
namespace L2.DL
open PySem PySem.Spec PyProof.Rows

/-! ### enumerate(list), the pairs known -/
def IteF (K : PySem.W.Frag) (a : Addr) : It :=
  ⟨(Ite K a).go, fun i H v H' => ∃ (T : Addr) (ob : Obj) (x : V), ob.dict = none ∧ v = .ref T ∧ H T = none ∧ H' = upd H T (.frz ob (.tup [.int (i : Nat), x])) ∧ ∀ xs, SqL K H a xs → xs[i]? = some x, (Ite K a).stop⟩
theorem turn_enumF {P : Program} {w : World} {K : PySem.W.Frag} {elts : List Expr} {kk : Nat} {tpos : Pos} (a e it : Addr) :
    Turn P w K (.Tuple elts kk tpos) (IteF K a) [e, it] e (fun i h => (∃ old, IsEnum h e it ((i : Nat) : Int) old) ∧ h.IsListIter it a i ∧ e ≠ it) :=
  let B := turn_enum (P := P) (w := w) (K := K) (elts := elts) (kk := kk) (tpos := tpos) a e it
  { mem := B.mem, obj := B.obj, keep := B.keep, done := B.done, self := B.self,
    item := by
      intro X h1 h2 h3 hc i pins s σ H E J hf st hg
      subst h1 h2 h3
      obtain ⟨⟨o0, e0⟩, t0, ne⟩ := st
      obtain ⟨xs, x, hq, hx⟩ := hg
      obtain ⟨ys, yv, yp, _⟩ := J.list hq
      obtain ⟨u, uy, ux⟩ := yv.get hx
      have le : e < s.heap.objs.size := Heap.lt_size e0
      have lt : it < s.heap.objs.size := by obtain ⟨_, z, _⟩ := t0; exact Heap.lt_size z
      refine wpAny_pyNext_enum_item e0 t0 yp.isList (x := u) (by simpa using uy) ne fun g1 go gi gT _ gk => ⟨_, rfl, wpAny_letOwnedTupleGo_enum (s := { s with heap := g1, toks := s.toks + 1 }) go fun g2 ge gs => ?_⟩
      have new2 : g2.get? s.heap.objs.size = some { cls := .type "tuple", data := .seq #[.int i s.toks, u] } := (gs.2 _ (Nat.ne_of_gt le)).trans gT
      have ok2 : ObjOk X.prog X.w (upd H s.heap.objs.size (.frz { cls := .type "tuple", data := .seq #[.int i s.toks, u] } (.tup [.int (i : Nat), x]))) g2 s.heap.objs.size (.frz { cls := .type "tuple", data := .seq #[.int i s.toks, u] } (.tup [.int (i : Nat), x])) :=
        ⟨new2, by show 2 ≤ sizeLine; decide, [.int i s.toks, u], .cons ⟨_, rfl⟩ (.cons ux .nil), _, new2, rfl, _, rfl⟩
      have J2 := J.turnedNew (t' := s.toks + 1) (ch := [e, it]) (fun b o hb q => (gs.2 b (fun z => hb (by simp [z]))).trans (gk b o (fun z => hb (by simp [z])) (fun z => hb (by simp [z])) q)) hf (Nat.le_refl _) ok2
      refine ⟨.ref s.heap.objs.size, _, J2, rfl, ⟨_, _, x, rfl, rfl, J.hok.fresh (Nat.le_refl _), rfl, fun zs hz => by rw [J.list_inj hz hq]; exact hx⟩, ⟨⟨u, ?_⟩, gi.at fun o q => (gs.2 it (Ne.symm ne)).trans q, ne⟩, fun b hb => ?_⟩
      · rw [show ((i + 1 : Nat) : Int) = (i : Int) + 1 by omega]; exact ge
      · have : b < s.heap.objs.size := by
          rcases (by simpa using hb : b = e ∨ b = it) with z | z <;> rw [z] <;> assumption
        rw [upd_ne (Nat.ne_of_lt this)]
        exact (hf b hb).1 }
def iEnumF (K : PySem.W.Frag) (ta : TA) : TI := fun σ H R => ta σ H fun vs H1 => ∃ a xs, vs = [.ref a] ∧ SqL K H1 a xs ∧ R (IteF K a) H1
theorem pi_enumF {X : Cx} {e : Expr} {ta : TA} {p pos tpos : Pos} {elts : List Expr} {kk : Nat} (hg : Gl X "enumerate") (hm : X.mg "enumerate" = none) (ha : PA X [e] ta) (hs : starEach [e] X.env = [(false, eval e X.env)] := by rfl) :
    PI X (.Tuple elts kk tpos) (.Call (.Name "enumerate" p) [e] [] pos) (iEnumF X.K ta) := by
  constructor
  intro pins s σ H R J h
  refine Call_ (ld_blt J hg hm boot_enumerate (PyProof.Rows.callWith_type1 (thn (ha.run pos pins s σ H _ J h) fun us s1 ⟨vs, H1, J1, r1, a, xs, ex, hq, q⟩ => ?_) hs rfl))
  subst ex
  cases r1 with
  | cons r rr =>
    cases rr
    cases r
    obtain ⟨ys, yv, yp, _⟩ := J1.list hq
    refine call_enumerate_list yp.isList fun g ge gi _ gk => wpAny_pyIter_enum ge ⟨s1.heap.objs.size + 1, [s1.heap.objs.size + 1, s1.heap.objs.size], _, _, H1, rfl, J1.kept (t' := s1.toks) gk, turn_enumF a (s1.heap.objs.size + 1) s1.heap.objs.size, ⟨⟨.none, ge⟩, gi, Nat.succ_ne_self _⟩, fun b hb => ?_, q⟩
    have : s1.heap.objs.size ≤ b := by
      rcases (by simpa using hb : b = s1.heap.objs.size + 1 ∨ b = s1.heap.objs.size) with z | z <;> rw [z] <;> omega
    exact J1.fpOk this (J1.hok.fresh this)
/-- a def of which nothing is told -/
theorem Df.bad {P : Program} {w : World} {K : PySem.W.Frag} {mg : Str → Option Value} {base : Heap} {x qual : Str} {st : Stmt} {f : Addr} {fd : FuncData} {N ps : List Str} {k n : Nat} (F : Fun K x qual st f fd) (hm : mg x = some (.ref f)) (b : Binds K fd ps []) (S : FnScope N ps (defScope st)) (hn : ps.length = n) : Df P w K mg base x (k + 1) n (fun _ => .bad) :=
  ⟨f, fd, ps, F.okX S (fun _ _ _ _ h => h.1.trans hn.symm) fun _ _ _ _ _ _ _ _ _ h => by obtain ⟨_, _, _, q⟩ := h; exact q.elim, hm, F.kp, b⟩
section
variable {X : Cx} {W : WX} {a b : Expr} {fa fb : Ex} {p pos tpos : Pos} {elts : List Expr} {kk : Nat}
theorem i_enum (hm : X.mg "enumerate" = none) (h : DE X W a fa) (hg : Gl X "enumerate" := by rfl) (hs : starEach [a] X.env = [(false, eval a X.env)] := by rfl) (hs' : starEach [a] X.env = (false, eval a X.env) :: starEach [] X.env := by rfl) :
    DI X W (.Tuple elts kk tpos) (.Call (.Name "enumerate" p) [a] [] pos) (itEnum fa) := by
  refine piImp (pi_enumF hg hm (pa_cons h pa_nil hs') hs) fun σ H Q ⟨ρ, hρ, h⟩ => ⟨ρ, hρ, (Post.bindI h).imp fun v H1 _ ⟨d, _, s1, rx, h1⟩ => ?_⟩
  cases d with
  | list ds =>
    obtain ⟨q, vs, rfl, hs, hv⟩ := dp_lst rx
    refine ⟨q, vs, rfl, hs, h1 _ H1 (Same.refl _) ⟨fun i H hi s => ?_, fun H s => ?_, fun i H x H' hi s y => ?_⟩⟩
    · rw [enumFrom_length] at hi
      have hl : i < vs.length := by rw [hv.len]; exact hi
      exact ⟨vs, vs[i], s.seq hs, by simp [hl]⟩
    · refine ⟨vs, s.seq hs, ?_⟩
      rw [enumFrom_length, hv.len]
      exact Nat.le_refl _
    · obtain ⟨T, ob, z, y1, y2, y3, y4, y5⟩ := y
      obtain ⟨d, e1, e2⟩ := hv.getV (y5 vs (s.seq hs))
      refine ⟨_, enumFrom_get (i := 0) e1, .inr ⟨T, ob, _, _, y1, y3, y2, y4, .cons ?_ (.cons e2 .nil), rfl⟩⟩
      rw [Nat.zero_add]
      exact .int _
  | _ => exact h1.elim
end
end L2.DL
set_option maxHeartbeats 2000000
namespace L2.DL
open PySem PySem.Spec PyProof.Rows

/-! ### sorted of rows of whole numbers -/
def encRow (ns : List Int) : PyData := .list (ns.map .int)
def toRows : List PyData → Option (List (List Int))
  | [] => some []
  | .list xs :: r => (toInts xs).bind fun ns => (toRows r).map (ns :: ·)
  | _ :: _ => none
theorem toRows_map : ∀ rs : List (List Int), toRows (rs.map encRow) = some rs
  | [] => rfl
  | ns :: r => by
    show (toInts (ns.map PyData.int)).bind (fun ns => (toRows (r.map encRow)).map (ns :: ·)) = _
    rw [toInts_map, toRows_map r]
    rfl
theorem toRows_enc : ∀ {ds : List PyData} {rs : List (List Int)}, toRows ds = some rs → ds = rs.map encRow
  | [], rs, h => by cases h; rfl
  | d :: r, rs, h => by
    cases d with
    | list xs =>
      unfold toRows at h
      cases e1 : toInts xs with
      | none => rw [e1] at h; cases h
      | some ns =>
        rw [e1, Option.bind_some] at h
        cases e2 : toRows r with
        | none => rw [e2] at h; cases h
        | some rs' =>
          rw [e2] at h
          cases h
          rw [List.map_cons, toRows_enc e2]
          congr 1
          have : ∀ {xs : List PyData} {ns : List Int}, toInts xs = some ns → xs = ns.map .int := by
            intro xs
            induction xs with
            | nil => intro ns h; cases h; rfl
            | cons x xs ih =>
              intro ns h
              cases x with
              | int i =>
                have h : (toInts xs).map (i :: ·) = some ns := h
                cases e : toInts xs with
                | none => rw [e] at h; cases h
                | some q =>
                  rw [e] at h
                  cases h
                  rw [ih e]
                  rfl
              | _ => cases h
          rw [this e1]
          rfl
    | _ => cases h
def sortRows (rs : List (List Int)) : List (List Int) := rs.mergeSort (PySem.W.dataLe false encRow)
def oSortedR : PyData → Option PyData
  | .list xs => (toRows xs).bind fun rs => if rs.length < 64 then some (.list ((sortRows rs).map encRow)) else none
  | _ => none
section
variable {K : PySem.W.Frag} {H : Hp}
/-- a row's list -/
def Rw (K : PySem.W.Frag) (H : Hp) (x : V) (ns : List Int) : Prop := ∃ a, x = .ref a ∧ SqL K H a (ns.map V.int)
theorem rw_of : ∀ {rs : List (List Int)} {xs : List V}, DpAll K H xs (rs.map encRow) → PySem.W.EachIs (Rw K H) xs rs
  | [], xs, h => by
    have h : DpAll K H xs [] := h
    cases h
    exact .nil
  | ns :: rs, xs, h => by
    have h : DpAll K H xs (encRow ns :: rs.map encRow) := h
    cases h with
    | cons h1 h2 =>
      obtain ⟨a, vs, rfl, ha, hv⟩ := dp_lst h1
      rw [dp_ints hv (toInts_map ns)] at ha
      exact .cons ⟨a, rfl, ha⟩ (rw_of h2)
theorem rw_to : ∀ {rs : List (List Int)} {xs : List V}, PySem.W.EachIs (Rw K H) xs rs → DpAll K H xs (rs.map encRow)
  | _, _, .nil => .nil
  | _, _, .cons ⟨a, e, h1⟩ h2 => by
    subst e
    exact .cons (.lst h1 (of_ints _)) (rw_to h2)
def rSortedRw (K : PySem.W.Frag) : List V → Hp → VK → Prop := fun vs H Q => ∃ (a : Addr) (xs : List V) (rs : List (List Int)), vs = [V.ref a] ∧ SqL K H a xs ∧ PySem.W.EachIs (Rw K H) xs rs ∧ rs.length < 64 ∧
  ∀ (ys : List V) (p : Addr), PySem.W.EachIs (Rw K H) ys (sortRows rs) → H p = none → Q (.ref p) (upd H p (.lst ys))
theorem each_vals {its : List Value} {xs : List V} {rs : List (List Int)} (r : Vals xs its) (e : PySem.W.EachIs (Rw K H) xs rs) : PySem.W.EachIs (fun v ns => ∃ x, RelV x v ∧ Rw K H x ns) its rs := by
  induction e generalizing its with
  | nil => cases r; exact .nil
  | cons h1 _ ih =>
    cases r with
    | cons r1 r2 => exact .cons ⟨_, r1, h1⟩ (ih r2)
theorem each_back {out : List Value} {rs : List (List Int)} (e : PySem.W.EachIs (fun v ns => ∃ x, RelV x v ∧ Rw K H x ns) out rs) : ∃ ys : List V, Vals ys out ∧ PySem.W.EachIs (Rw K H) ys rs := by
  induction e with
  | nil => exact ⟨[], .nil, .nil⟩
  | cons h1 _ ih =>
    obtain ⟨x, r, h⟩ := h1
    obtain ⟨ys, q1, q2⟩ := ih
    exact ⟨x :: ys, .cons r q1, .cons h q2⟩
theorem reads_ints {h : Heap} : ∀ {ns : List Int} {its : List Value}, Vals (ns.map V.int) its → ∃ as, ReadsAll h its (ns.map .int) as
  | [], its, r => by cases r; exact ⟨[], .nil⟩
  | n :: ns, its, r => by
    cases r with
    | cons r1 r2 =>
      obtain ⟨t, rfl⟩ := r1
      obtain ⟨as, q⟩ := reads_ints (h := h) r2
      exact ⟨_, .cons (.int n t) q⟩
theorem cr_sortedR {X : Cx} (hu : X.A.units + 65 < cLine) : CallR X (.builtin "sorted") (rSortedRw X.K) := by
  intro pins s σ H vs us Q I r h
  obtain ⟨a, xs, rs, rfl, hs, he, h64, q⟩ := h
  obtain ⟨its, rv, hl, hz⟩ := I.list hs
  rw [Vals.ref1 r]
  have e1 := each_vals rv he
  have e2 : PySem.W.EachIs (fun v ns => ∃ as, Reads s.heap v (encRow ns) as) its rs := e1.mono fun v ns ⟨x, hx, b, eb, hb⟩ => by
    subst eb
    obtain rfl : v = Value.ref b := hx
    obtain ⟨jts, jv, jl, _⟩ := I.list hb
    obtain ⟨o, ho, hc, n, hd⟩ := jl.isList
    obtain ⟨as, hr⟩ := reads_ints (h := s.heap) jv
    exact ⟨_, .list ho hc hd (by rw [List.toList_toArray] <;> exact hr)⟩
  have hdep : ∀ b, b ∈ rs → X.A.units + 2 + (encRow b).depth < cLine := fun b _ => by
    have : (encRow b).depth ≤ 1 := by simp [encRow, PyData.depth, PySem.W.depth_ints]
    omega
  refine PySem.W.sorted_data hl.isList e1 e2 (PySem.W.AllAlike.of fun b b' => by simp [encRow, PySem.W.alike, PySem.W.alike_ints]) (PySem.W.Sortable.others fun b => ⟨by simp [encRow], by simp [encRow]⟩) (small64 h64) hdep fun out ho hout => ?_
  obtain ⟨ys, q1, q2⟩ := each_back hout
  obtain ⟨ep, he'⟩ := PyProof.Rows.sortedAll_at s.heap its (List.toArray out)
  have hlen : ys.length ≤ sizeLine := by rw [q1.length, ho]; exact small64 h64
  exact ⟨.ref _, upd H (s.heap.objs.size + 1) (.lst ys), I.laid (t' := s.toks) (fun _ _ => PyProof.Rows.sortedAll_old) (Nat.le_succ _) ⟨hlen, out, ep, q1, he'⟩, rfl, q ys _ q2 (I.hok.fresh (Nat.le_succ _))⟩
theorem o1_sortedR : Op1 K (rSortedRw K) oSortedR := by
  intro x dx d H Q rx e q
  cases dx with
  | list ds =>
    obtain ⟨a, vs, rfl, ha, hva⟩ := dp_lst rx
    unfold oSortedR at e
    cases e1 : toRows ds with
    | none => simp only [e1] at e; cases e
    | some rs =>
      simp only [e1, Option.bind_some] at e
      split at e
      · rename_i h64
        cases e
        rw [toRows_enc e1] at hva
        refine ⟨a, vs, rs, rfl, ha, rw_of hva, h64, fun ys p he hp => ?_⟩
        exact q _ _ (sameUpd hp) (.lst (.inl (.inl upd_same)) (dpAllMono (sameUpd hp) (rw_to he)))
      · cases e
  | _ => cases e
end
section
variable {X : Cx} {W : WX} {a : Expr} {fa : Ex} {p pos : Pos}
theorem d_sortedR (hu : X.A.units + 65 < cLine) (hm : X.mg "sorted" = none) (ha : DE X W a fa) (hg : Gl X "sorted" := by rfl) (hs : starEach [a] X.env = (false, eval a X.env) :: starEach [] X.env := by rfl) (hpl : (backTo pos (starEach [] X.env)).any (·.1) = false := by rfl) : DE X W (.Call (.Name "sorted" p) [a] [] pos) (eCall1 oSortedR fa) := d_b1 (cr_sortedR hu) o1_sortedR hm ha hg (hs := hs) (hpl := hpl)
end
end L2.DL
set_option maxHeartbeats 2000000
namespace L2.DL
open PySem PySem.Spec PyProof.Rows

/-! ### an except suite that hands back a constant -/
/-- slot i has the exception at a; e is v -/
abbrev HE (X : Cx) (i : Nat) (a : Addr) (e : Expr) (v : V) : Prop := PE X e (fun σ H Q => σ[i]? = some (some (.ref a)) ∧ Q v H)
section
variable {X : Cx} {i : Nat} {a : Addr} {e b : Expr} {rest : List Expr} {v : V} {c : Bool} {pos : Pos}
theorem h_one {o} (h : HE X i a e v) : HE X i a (.BoolOp o [e] pos) v := pe_one h
theorem h_and (ha : HE X i a e (.bl true)) (hb : HE X i a (.BoolOp .And (b :: rest) pos) v) : HE X i a (.BoolOp .And (e :: b :: rest) pos) v :=
  peImp (pe_and ha hb) fun σ H Q ⟨h1, h2⟩ => ⟨h1, true, rfl, ⟨h1, h2⟩⟩
theorem h_not (ha : HE X i a e (.bl false)) : HE X i a (.UnaryOp .Not e pos) (.bl true) := peImp (pe_not ha) fun σ H Q ⟨h1, h2⟩ => ⟨h1, false, rfl, h2⟩
end
/-- a class of the text's own, raised and caught -/
structure ExcI (K : PySem.W.Frag) (mg : Str → Option Value) (x : Str) (C : Addr) : Prop where
  mg : mg x = some (.ref C)
  exm : PySem.W.exmOne K (.ref C) (.ref C) = some true
  cls : ExcC K C
section
variable {X : Cx} {i : Nat} {a C : Addr} {oe : Obj} {pn : List (Addr × Obj)} {x n : Str} {c : Value} {b : Bool} {p p1 p2 pos : Pos}
/-- isinstance(e, T), T a class of the text's own -/
theorem h_isC {D : Addr} (T : ExcC X.K C) (hz : Zc (.ref C) none oe) (hf : ∃ vs, oe.data = .fields vs) (hm : X.mg "isinstance" = none) (hx : X.mg x = some (.ref D)) (hk : PySem.W.kitOne X.K (.ref C) (.ref D) = some b)
    (hi : X.N[i]? = some n := by rfl) (hv : Vis X.env.scope n := by first | exact Or.inl rfl | exact Or.inr (Or.inl rfl) | exact Or.inr (Or.inr rfl)) (hd : (n == ("__debug__" : Str)) = false := by decide) (hcd : (n == ("__classdict__" : Str)) = false := by decide)
    (hg : Gl X "isinstance" := by rfl) (hgx : Gl X x := by rfl) (hdx : (x == ("__debug__" : Str)) = false := by decide)
    (hs : starEach [.Name n p1, .Name x p2] X.env = (false, eval (.Name n p1) X.env) :: starEach [.Name x p2] X.env := by rfl) (hs2 : starEach [.Name x p2] X.env = (false, eval (.Name x p2) X.env) :: starEach [] X.env := by rfl) (hpl : (backTo pos (starEach [.Name x p2] X.env)).any (·.1) = false := by rfl) :
    HE (X.suite a ((a, oe) :: pn)) i a (.Call (.Name "isinstance" p) [.Name n p1, .Name x p2] [] pos) (.bl b) := by
  refine peImp (pe_callB (X := X.suite a ((a, oe) :: pn)) (call_isE T hz hf) hg hm (by decide +kernel) (pa_cons (pv i hi hv hd hcd) (pa_cons (pe_glob (v := .ref D) hgx hx rfl hdx) pa_nil hs2) hs) (he := hs) (hpl := hpl)) fun σ H Q ⟨h1, h2⟩ => ?_
  exact ⟨.ref a, h1, .ref D, .ref D, b, rfl, fun u hu => hu, hk, h2⟩
/-- isinstance(e, T), T built in -/
theorem h_isT {t : String} (T : ExcC X.K C) (hz : Zc (.ref C) none oe) (hf : ∃ vs, oe.data = .fields vs) (hm : X.mg "isinstance" = none) (hx : X.mg x = none) (hbt : bootBuiltins x = some (.type t)) (hk : PySem.W.kitOne X.K (.ref C) (.type t) = some b)
    (hi : X.N[i]? = some n := by rfl) (hv : Vis X.env.scope n := by first | exact Or.inl rfl | exact Or.inr (Or.inl rfl) | exact Or.inr (Or.inr rfl)) (hd : (n == ("__debug__" : Str)) = false := by decide) (hcd : (n == ("__classdict__" : Str)) = false := by decide)
    (hg : Gl X "isinstance" := by rfl) (hgx : Gl X x := by rfl) (hdx : (x == ("__debug__" : Str)) = false := by decide) (hnx : x ≠ "__name__" := by decide)
    (hs : starEach [.Name n p1, .Name x p2] X.env = (false, eval (.Name n p1) X.env) :: starEach [.Name x p2] X.env := by rfl) (hs2 : starEach [.Name x p2] X.env = (false, eval (.Name x p2) X.env) :: starEach [] X.env := by rfl) (hpl : (backTo pos (starEach [.Name x p2] X.env)).any (·.1) = false := by rfl) :
    HE (X.suite a ((a, oe) :: pn)) i a (.Call (.Name "isinstance" p) [.Name n p1, .Name x p2] [] pos) (.bl b) := by
  refine peImp (pe_callB (X := X.suite a ((a, oe) :: pn)) (call_isE T hz hf) hg hm (by decide +kernel) (pa_cons (pv i hi hv hd hcd) (pa_cons (pe_bltn (v := .ty t) hgx hx hbt rfl hnx hdx) pa_nil hs2) hs) (he := hs) (hpl := hpl)) fun σ H Q ⟨h1, h2⟩ => ?_
  exact ⟨.ref a, h1, .ty t, .type t, b, rfl, fun u hu => hu, hk, h2⟩
end
/-- the body; where it raises c: d -/
def tryRetS (c : Str) (i : Nat) (d : PyData) (f : Sf) : Sf := fun ρ => match f ρ with
  | .err c' ρ' => if c' = c ∧ i < ρ'.length then .ret d else .bad
  | r => r
theorem s_tryAs {X : Cx} {W : WX} {M M' Lb : List Nat} {C : Addr} {x n : Str} {i : Nat} {body suite : List Stmt} {b₀ : Stmt} {np pos pos' : Pos} {d : PyData} {v : V} {fb : Sf} (T : ExcI X.K X.mg x C) (hv : ∀ H, Dp X.K H v d)
    (hs : X.stack = X.env :: X.outer) (hf : X.env.frame = some X.env.locals) (hN : X.N.Nodup) (tk : Takes X W)
    (hb : ∀ (W' : WX) (pn : List (Addr × Obj)) (xe : Value → Shared → Prop), Takes (X.tr pn xe) W' → PassesOwn (model X.prog X.w) X.A X.env xe → DSs (X.tr pn xe) W' M M' Lb body fb)
    (hsu : ∀ (a : Addr) (oe : Obj) (pn : List (Addr × Obj)), Zc (.ref C) none oe → (∃ vs, oe.data = .fields vs) → PSs (X.suite a ((a, oe) :: pn)) (b₀ :: suite) (fun D σ H => σ[i]? = some (some (.ref a)) ∧ D.rt v H))
    (hi : X.N[i]? = some n := by rfl) (hln : X.env.kindOf n = some .local := by rfl) (hg : Gl X x := by rfl) (hdb : (x == ("__debug__" : Str)) = false := by decide) :
    DS X W M M' Lb (.Try body [.ExceptHandler (some (.Name x np)) (some n) (b₀ :: suite) pos'] [] [] pos) (tryRetS x i d fb) := by
  refine psImp (ps_try_as (tb := fun W' => tS X.K X.mg W' M M' Lb fb) (ts := fun a cls dd D σ H => (cls = .ref C ∧ dd = none) ∧ σ[i]? = some (some (.ref a)) ∧ D.rt v H) hs hf hN hi hln ⟨hg, hdb, .inl T.mg⟩ tk hb fun a oe cls dd pn hz hvs => ?_) fun D σ H ⟨G, o, ρ, hm, R, q⟩ => ⟨G, o, ρ, hm, R, ?_⟩
  · by_cases h : cls = .ref C ∧ dd = none
    · obtain ⟨rfl, rfl⟩ := h
      exact ⟨fun pins s σ H D I z => (hsu a oe pn hz hvs).run pins s σ H D I z.2⟩
    · exact ⟨fun pins s σ H D I z => absurd z.1 h⟩
  · unfold tryRetS at q
    cases e : fb ρ with
    | err c' ρ' =>
      rw [e] at q
      dsimp only at q
      split at q
      · rename_i hc
        obtain ⟨rfl, hil⟩ := hc
        refine ⟨C, T.mg, fun σ' H' d0 s hρ => ?_⟩
        obtain ⟨d0, rfl⟩ := d0
        refine ⟨true, T.exm, fun _ a' _ => ⟨⟨rfl, rfl⟩, ?_, q v H' s (hv H')⟩, fun z => by cases z⟩
        have : i < σ'.length := by rw [← hρ.len]; exact hil
        simp [this]
      · exact q.elim
    | nx ρ' => rw [e] at q; exact q
    | brk ρ' => rw [e] at q; exact q
    | cnt ρ' => rw [e] at q; exact q
    | ret d' => rw [e] at q; exact q
    | bad => rw [e] at q; exact q.elim
theorem h_ret {X : Cx} {i : Nat} {a : Addr} {e : Expr} {v : V} {pos : Pos} (h : HE X i a e v) : PSs X [.Return (some e) pos] (fun D σ H => σ[i]? = some (some (.ref a)) ∧ D.rt v H) :=
  ⟨fun pins s σ H D I z => (pss_one (ps_ret h)).run pins s σ H D I z⟩
/-! ### text * 1 -/
theorem op_strOnce {X : Cx} : OpR X (binaryOp .Mult) (fun x y H Q => ∃ z, x = .str z ∧ y = .int 1 ∧ Q (.str z) H) := by
  intro pins s σ H x y v u Q I rx ry ⟨z, ex, ey, q⟩
  subst ex ey
  obtain ⟨t, rfl⟩ := rx
  obtain ⟨t2, rfl⟩ := ry
  refine PySem.P.mul_str (by decide) (fun _ h => by simp at h) (fun _ h => by simp at h) ?_
  rw [if_neg (by omega), if_pos (by rfl)]
  exact ⟨.str z, H, I, ⟨t, rfl⟩, q⟩
section
variable {X : Cx} {i : Nat} {a : Addr} {e : Expr} {v : V} {c : Bool} {z : Str} {p p2 pos : Pos}
theorem h_int (hm : X.mg "int" = none) (h : HE X i a e (.bl true)) (hg : Gl X "int" := by rfl) (hs : starEach [e] X.env = (false, eval e X.env) :: starEach [] X.env := by rfl) (hpl : (backTo pos (starEach [] X.env)).any (·.1) = false := by rfl) : HE X i a (.Call (.Name "int" p) [e] [] pos) (.int 1) :=
  peImp (pe_callTy call_int1 hg hm (by decide +kernel) (pa_cons h pa_nil hs) (by decide) (by decide) hs hpl) fun σ H Q ⟨h1, h2⟩ => ⟨h1, .inr ⟨true, rfl, h2⟩⟩
theorem h_once {j : Nat} (h : HE X i a e (.int 1)) : HE X i a (.BinOp (.Constant (.str z) j p2) .Mult e pos) (.str z) :=
  peImp (pe_op op_strOnce pe_str h) fun σ H Q ⟨h1, h2⟩ => by
    exact ⟨h1, z, rfl, rfl, h2⟩
end
/-! ### str of a whole number -/
def oStr : PyData → Option PyData
  | .int i => if i.natAbs.log2 < 1920 then some (.str (toString i)) else none
  | _ => none
theorem o1_str {K : PySem.W.Frag} : Op1 K (fun xs H Q => ∃ i : Int, xs = [.int i] ∧ i.natAbs.log2 < 1920 ∧ Q (.str (toString i)) H) oStr := by
  intro x dx d H Q rx e q
  cases dx with
  | int i =>
    unfold oStr at e
    dsimp only at e
    split at e
    · rename_i hc
      cases e
      rw [dp_int rx]
      exact ⟨i, rfl, hc, q _ H (Same.refl _) (.str _)⟩
    · cases e
  | _ => cases e
section
variable {X : Cx} {W : WX} {a : Expr} {fa : Ex} {p pos : Pos}
theorem d_strc (hm : X.mg "str" = none) (ha : DE X W a fa) (hg : Gl X "str" := by rfl) (hs : starEach [a] X.env = (false, eval a X.env) :: starEach [] X.env := by rfl) (hpl : (backTo pos (starEach [] X.env)).any (·.1) = false := by rfl) : DE X W (.Call (.Name "str" p) [a] [] pos) (eCall1 oStr fa) := d_t1 call_str_int o1_str hm ha hg (hs := hs) (hpl := hpl)
end
end L2.DL
set_option maxHeartbeats 2000000
namespace L2.DL
open PySem PySem.Spec PyProof.Rows

theorem kitCls_own {K : PySem.W.Frag} {C D : Addr} {b : Bool} (h2 : PySem.W.isClsIn K D = true) (h3 : PySem.W.typeIn K (.ref D) = some (.type "type")) (h4 : PySem.W.subIn K (.ref C) (.ref D) = some b) : PySem.W.kitCls K (.ref C) (.ref D) = some b := by
  have e2 : ((PySem.W.clsIn K D).isSome && PySem.W.typeIn K (.ref D) == some (.type "type")) = true := by
    have h2' : (PySem.W.clsIn K D).isSome = true := h2
    rw [h2', h3] <;> rfl
  show (if ((PySem.W.clsIn K D).isSome && PySem.W.typeIn K (.ref D) == some (.type "type")) = true then PySem.W.subIn K (.ref C) (.ref D) else none) = some b
  rw [if_pos e2]
  exact h4
theorem exm_own {K : PySem.W.Frag} {C D : Addr} {b : Bool} (h1 : PySem.W.subIn K (.ref D) (.type "BaseException") = some true) (h2 : PySem.W.isClsIn K D = true) (h3 : PySem.W.typeIn K (.ref D) = some (.type "type")) (h4 : PySem.W.subIn K (.ref C) (.ref D) = some b) : PySem.W.exmOne K (.ref C) (.ref D) = some b := by
  have e1 : (PySem.W.subIn K (.ref D) (.type "BaseException") == some true) = true := by rw [h1] <;> rfl
  show (if (PySem.W.subIn K (.ref D) (.type "BaseException") == some true) = true then PySem.W.kitCls K (.ref C) (.ref D) else none) = some b
  rw [if_pos e1]
  exact kitCls_own h2 h3 h4
theorem kit_own {K : PySem.W.Frag} {C D : Addr} {b : Bool} (h1 : PySem.W.subIn K (.ref C) (.ref C) = some true) (h2 : PySem.W.isClsIn K D = true) (h3 : PySem.W.typeIn K (.ref D) = some (.type "type")) (h4 : PySem.W.subIn K (.ref C) (.ref D) = some b) : PySem.W.kitOne K (.ref C) (.ref D) = some b := by
  unfold PySem.W.kitOne
  by_cases h : C = D
  · subst h
    rw [h1] at h4
    rw [if_pos (by simp), h4]
  · rw [if_neg (by simp; exact h)]
    exact kitCls_own h2 h3 h4
theorem kit_bltn {K : PySem.W.Frag} {C : Addr} {t : String} {b : Bool} (hk : PySem.W.kitMeta t = true) (h4 : PySem.W.subIn K (.ref C) (.type t) = some b) : PySem.W.kitOne K (.ref C) (.type t) = some b := by
  unfold PySem.W.kitOne
  rw [if_neg (by simp)]
  show (if PySem.W.kitMeta t = true then PySem.W.subIn K (.ref C) (.type t) else none) = some b
  rw [if_pos hk]
  exact h4
end L2.DL
set_option maxHeartbeats 2000000
namespace L2.DL
open PySem PySem.Spec PyProof.Rows

/-! ### [..] * k -/
def repD (xs : List PyData) (k : Int) : List PyData := (List.replicate k.toNat xs).flatten
def eRep (f : Env → Res (List PyData)) (g : Ex) : Ex := fun ρ => (f ρ).bind fun xs => (g ρ).bind fun y => (asI y).bind fun k => if (-1000 ≤ k ∧ k ≤ 1000) ∧ xs.length ≤ 1000 then .ok (.list (repD xs k)) else .bad
theorem dp_rep {K : PySem.W.Frag} {H : Hp} {vs : List V} {ds : List PyData} (h : DpAll K H vs ds) : ∀ n : Nat, DpAll K H (List.replicate n vs).flatten (List.replicate n ds).flatten
  | 0 => .nil
  | n + 1 => by
    rw [List.replicate_succ, List.replicate_succ, List.flatten_cons, List.flatten_cons]
    exact h.app (dp_rep h n)
theorem d_rep {X : Cx} {W : WX} {a k : Expr} {fa : Env → Res (List PyData)} {fk : Ex} {pos : Pos} (ha : DN X W a fa) (hk : DE X W k fk) : DE X W (.BinOp a .Mult k pos) (eRep fa fk) := by
  refine peImp (pe_op op_rep ha hk) fun σ H Q ⟨ρ, hρ, h⟩ => ⟨ρ, hρ, ?_⟩
  unfold eRep at h
  cases e : fa ρ with
  | err c => rw [e] at h; exact h
  | bad => rw [e] at h; exact h.elim
  | ok xs =>
    rw [e, Res.bind_ok] at h
    intro p vs H1 s1 n r
    have s2 : Same H (upd H1 p (.lst vs)) := s1.trans (sameUpd n)
    refine ⟨ρ, hρ.mono s2, (Post.bind (h.mono s2)).imp fun v H2 _ ⟨d, _, s3, rx, h1⟩ => ?_⟩
    cases d with
    | int k =>
      rw [dp_int rx]
      have h1 : Post X.K X.mg W σ H2 Q (if (-1000 ≤ k ∧ k ≤ 1000) ∧ xs.length ≤ 1000 then .ok (.list (repD xs k)) else .bad) := h1
      by_cases hc : (-1000 ≤ k ∧ k ≤ 1000) ∧ xs.length ≤ 1000
      · rw [if_pos hc] at h1
        have hp2 : H2 p = some (.lst vs) := s3 p _ upd_same
        have hr : DpAll X.K H2 vs xs := dpAllMono ((sameUpd n).trans s3) r
        have hl : vs.length ≤ 1000 := by rw [hr.len]; exact hc.2
        refine ⟨p, k, vs, rfl, rfl, hp2, by omega, by omega, ?_, fun q hq => h1 _ _ (sameUpd hq) (.lst (.inl (.inl upd_same)) (dpAllMono (sameUpd hq) (dp_rep hr _)))⟩
        rw [sizeLine_eq]
        have : vs.length * k.toNat ≤ 1000 * 1000 := Nat.mul_le_mul hl (by omega)
        omega
      · rw [if_neg hc] at h1
        exact h1.elim
    | _ => exact h1.elim
end L2.DL
set_option maxHeartbeats 2000000
namespace L2.DL
open PySem PySem.Spec PyProof.Rows

/-! ### instances as data: read only -/
/-- the fields of an instance of the class c -/
def insD (c : Str) : PyData → Option (List (PyData × PyData))
  | .dict ((.none, .tuple [.str x, .int _]) :: kvs) => if x = c then some kvs else none
  | _ => none
def fldD (f : Str) : List (PyData × PyData) → Option PyData
  | [] => none
  | (.str x, d) :: r => if x = f then some d else fldD f r
  | _ :: r => fldD f r
theorem insD_tag (c : Str) (a : Addr) (kvs : List (PyData × PyData)) : insD c (.dict (insTag c a :: kvs)) = some kvs := by
  simp [insD, insTag]
theorem insD_of {K : PySem.W.Frag} {H : Hp} {v : V} {d : PyData} {c : Str} {kvs : List (PyData × PyData)} (h : Dp K H v d) (e : insD c d = some kvs) :
    ∃ a dx C fs, v = .ref a ∧ d = .dict (insTag c a :: kvs) ∧ H a = some (.ins C dx fs) ∧ ClsAt K c C ∧ DpF K H fs kvs := by
  cases h with
  | ins h1 h2 h3 =>
    unfold insD insTag at e
    dsimp only at e
    split at e
    · rename_i hc
      cases e
      subst hc
      exact ⟨_, _, _, _, rfl, rfl, h1, h2, h3⟩
    · cases e
  | dic h1 h2 =>
    cases h2 with
    | nil => cases e
    | cons h3 h4 =>
      rename_i k _ _ _ _
      cases k <;> cases e
  | _ => cases e
theorem fldD_of {K : PySem.W.Frag} {H : Hp} {f : Str} : ∀ {fs : List (Str × V)} {kvs : List (PyData × PyData)}, DpF K H fs kvs → ∀ {d : PyData}, fldD f kvs = some d → ∃ v, fs.lookup f = some v ∧ Dp K H v d
  | _, _, .nil, d, e => by cases e
  | _, _, .cons (x := x) h t, d, e => by
    unfold fldD at e
    by_cases hx : x = f
    · rw [if_pos hx] at e
      cases e
      refine ⟨_, ?_, h⟩
      rw [List.lookup_cons, hx]
      simp
    · rw [if_neg hx] at e
      obtain ⟨v, h1, h2⟩ := fldD_of t e
      refine ⟨v, ?_, h2⟩
      rw [List.lookup_cons]
      have : (f == x) = false := by simpa using fun z => hx z.symm
      rw [this]
      exact h1
theorem fldD_none {K : PySem.W.Frag} {H : Hp} {f : Str} : ∀ {fs : List (Str × V)} {kvs : List (PyData × PyData)}, DpF K H fs kvs → fldD f kvs = none → fs.lookup f = none
  | _, _, .nil, e => rfl
  | _, _, .cons (x := x) h t, e => by
    unfold fldD at e
    by_cases hx : x = f
    · rw [if_pos hx] at e
      cases e
    · rw [if_neg hx] at e
      rw [List.lookup_cons]
      have : (f == x) = false := by simpa using fun z => hx z.symm
      rw [this]
      exact fldD_none t e
/-- o.m(..): an exception with the slots as they stand -/
def tMethS' (C : Addr) (m : Str) (sp : Sp) (E : St → XK) (ta : TE) (t : TA) : TE := fun σ H Q => ta σ H fun x H1 => ∃ a dx fs, x = .ref a ∧ H1 a = some (.ins C dx fs) ∧ fs.lookup m = none ∧ t σ H1 fun vs H2 => sp (x :: vs) H2 Q (E σ)
section
variable {X : Cx} {CX : CXT} {k : Nat} {f C : Addr} {fd : FuncData} {ps : List Str} {sp : Sp} {E : St → XK} {x m : Str} {p pos apos : Pos} {e o : Expr} {es : List Expr} {ta : TE} {t : TA}
theorem pe_methS' {pl : Sem Bool} (he : PE X o ta) (c : Cls X.K C) (hm : Meth X.K C m f) (F : FnOk X.prog X.w X.K X.mg X.base CX k f fd ps sp) (hr : Room k X.A) (hb : Binds X.K fd ps []) (hx : ∀ σ, PassesAt CX X σ (E σ)) (ha : PA X (e :: es) t)
    (hst : starEach (e :: es) X.env = (false, eval e X.env) :: starEach es X.env := by rfl) (hpl : (backTo pos (starEach es X.env)).any (·.1) = false := by rfl)
    (ht : eval (.Call (.Attribute o m apos) (e :: es) [] pos) X.env = (do
      let ov ← eval o X.env
      standAt apos.atName
      let (f, first) ← holding [ov] (getMethod ov m pl)
      callWith pos f first (backTo pos (starEach (e :: es) X.env)) (backToKw pos (keywordEach [] X.env))) := by rfl) :
    PE X (.Call (.Attribute o m apos) (e :: es) [] pos) (tMethS' C m sp E ta t) := by
  refine ⟨fun pins s σ H Q I h => ?_⟩
  refine PySem.W.methodCall_KW (pl := pl) (thn (he.run pins s σ H _ I h) fun u s1 ⟨x, H1, I1, rx, a, dx, fs, ex, ea, l, q⟩ => ?_) ht
  subst ex
  obtain rfl : u = Value.ref a := rx
  refine getmeth_ok I1 ea c hm l ?_
  refine PySem.W.callWith_K (first := [.ref a]) (h₀ := X.base) I.ok.mod.kin hm.kp (thn (ha.run pos pins s1 σ H1 _ I1 q) fun us s2 ⟨vs, H2, I2, r, q2⟩ => ⟨I2.kIn, ?_⟩) hst hpl
  exact run_fnS (us := .ref a :: us) (vs := .ref a :: vs) F hr hb (hx σ) I2 (.cons rfl r) q2
theorem pe_methS0' {pl : Sem Bool} (he : PE X o ta) (c : Cls X.K C) (hm : Meth X.K C m f) (F : FnOk X.prog X.w X.K X.mg X.base CX k f fd ps sp) (hr : Room k X.A) (hb : Binds X.K fd ps []) (hx : ∀ σ, PassesAt CX X σ (E σ))
    (ht : eval (.Call (.Attribute o m apos) [] [] pos) X.env = (do
      let ov ← eval o X.env
      standAt apos.atName
      let (f, first) ← holding [ov] (getMethod ov m pl)
      callWith pos f first (backTo pos (starEach [] X.env)) (backToKw pos (keywordEach [] X.env))) := by rfl) :
    PE X (.Call (.Attribute o m apos) [] [] pos) (tMethS' C m sp E ta tNil) := by
  refine ⟨fun pins s σ H Q I h => ?_⟩
  refine PySem.W.methodCall_KW (pl := pl) (thn (he.run pins s σ H _ I h) fun u s1 ⟨x, H1, I1, rx, a, dx, fs, ex, ea, l, q⟩ => ?_) ht
  subst ex
  obtain rfl : u = Value.ref a := rx
  refine getmeth_ok I1 ea c hm l ?_
  exact PySem.W.callWith_K0 (first := [.ref a]) I1.kIn hm.kp (run_fnS (us := [.ref a]) (vs := [.ref a]) F hr hb (hx σ) I1 (.cons rfl .nil) q)
end
/-- what of the text is asked for a field -/
structure FldOk (K : PySem.W.Frag) (c f : Str) : Prop where
  ex : ∃ C, ClsAt K c C ∧ Cls K C ∧ NoAttr K C f
def eFld (c f : Str) (fo : Ex) : Ex := fun ρ => (fo ρ).bind fun x => Res.of ((insD c x).bind (fldD f))
/-- a method that does fn, the instance ahead -/
structure Dm (P : Program) (w : World) (K : PySem.W.Frag) (mg : Str → Option Value) (base : Heap) (c m : Str) (k n : Nat) (fn : List PyData → Res PyData) : Prop where
  ex : ∃ (C f : Addr) (fd : FuncData) (ps : List Str), FnOk P w K mg base (L2.CX P w) k f fd ps (spD K mg n fn) ∧ ClsAt K c C ∧ Cls K C ∧ Meth K C m f ∧ Binds K fd ps []
theorem Dm.mono {P : Program} {w : World} {K : PySem.W.Frag} {mg : Str → Option Value} {base : Heap} {c m : Str} {j k n : Nat} {fn : List PyData → Res PyData} (F : Dm P w K mg base c m j n fn) (h : j ≤ k) : Dm P w K mg base c m k n fn := by
  obtain ⟨C, f, fd, ps, h1, h2⟩ := F.ex
  exact ⟨C, f, fd, ps, h1.mono h, h2⟩
def eMeth (c m : Str) (fn : List PyData → Res PyData) (fo : Ex) (args : Ar) : Ex := fun ρ => (fo ρ).bind fun x => match insD c x with
  | some kvs => if (fldD m kvs).isNone = true then (args ρ).bind fun as => fn (x :: as) else .bad
  | none => .bad
section
variable {X : Cx} {W : WX} {a b e : Expr} {es : List Expr} {fa fb : Ex} {g : Ar} {p pa pos : Pos} {c m f : Str} {k n : Nat} {fn : List PyData → Res PyData}
theorem d_fld (F : FldOk X.K c f) (ha : DE X W a fa) (hb : attributeBase a f X.env (eval a X.env) = eval a X.env := by rfl) : DE X W (.Attribute a f pos) (eFld c f fa) := by
  obtain ⟨C, hC, cl, na⟩ := F.ex
  refine peImp (pe_fld ha hb) fun σ H Q ⟨ρ, hρ, h⟩ => ⟨ρ, hρ, (Post.bind h).imp fun v H1 _ ⟨d, _, s1, rx, h1⟩ => ?_⟩
  cases e1 : insD c d with
  | none => rw [e1] at h1; exact h1.elim
  | some kvs =>
    rw [e1, Option.bind_some] at h1
    obtain ⟨a, dx, C', fs, rfl, rfl, q1, q2, q3⟩ := insD_of rx e1
    have := hC.one q2
    subst this
    cases e2 : fldD f kvs with
    | none => rw [e2] at h1; exact h1.elim
    | some d =>
      rw [e2] at h1
      obtain ⟨v, l, r⟩ := fldD_of q3 e2
      exact ⟨a, C, dx, fs, v, rfl, q1, cl, na, l, h1 v H1 (Same.refl _) r⟩
theorem d_meth {pl : Sem Bool} (F : Dm X.prog X.w X.K X.mg X.base c m k n fn) (hr : Room k X.A) (tk : Takes X W) (ho : DE X W a fa) (ha : DA X W (e :: es) g) (hn : (a :: e :: es).length = n := by rfl)
    (hst : starEach (e :: es) X.env = (false, eval e X.env) :: starEach es X.env := by rfl) (hpl : (backTo pos (starEach es X.env)).any (·.1) = false := by rfl)
    (ht : eval (.Call (.Attribute a m pa) (e :: es) [] pos) X.env = (do
      let ov ← eval a X.env
      standAt pa.atName
      let (f, first) ← holding [ov] (getMethod ov m pl)
      callWith pos f first (backTo pos (starEach (e :: es) X.env)) (backToKw pos (keywordEach [] X.env))) := by rfl) :
    DE X W (.Call (.Attribute a m pa) (e :: es) [] pos) (eMeth c m fn fa g) := by
  obtain ⟨C, f, fd, ps, h1, hC, cl, hm, hb⟩ := F.ex
  have hx : ∀ σ, PassesAt (L2.CX X.prog X.w) X σ (WE W σ) := fun σ => passAt tk σ
  refine peImp (pe_methS' (E := WE W) ho cl hm h1 hr hb hx ha hst hpl ht) fun σ H Q ⟨ρ, hρ, h⟩ => ⟨ρ, hρ, (Post.bind h).imp fun v H1 _ ⟨d, _, s1, rx, h2⟩ => ?_⟩
  cases e1 : insD c d with
  | none => rw [e1] at h2; exact h2.elim
  | some kvs =>
    rw [e1] at h2
    obtain ⟨o, dx, C', fs, rfl, rfl, q1, q2, q3⟩ := insD_of rx e1
    have := hC.one q2
    subst this
    dsimp only at h2
    by_cases hf : (fldD m kvs).isNone = true
    · rw [if_pos hf] at h2
      refine ⟨o, dx, fs, rfl, q1, fldD_none q3 (by simpa using hf), ρ, hρ.mono s1, (PostA.bind h2).imp fun vs H2 _ ⟨ds, _, hl, s2, r2, h3⟩ => ⟨by rw [List.length_cons, hl, ← hn]; rfl, _ :: ds, .cons (dpMono s2 rx) r2, ?_⟩⟩
      revert h3
      cases fn (_ :: ds) <;> exact id
    · rw [if_neg hf] at h2
      exact h2.elim
theorem d_meth0 {pl : Sem Bool} (F : Dm X.prog X.w X.K X.mg X.base c m k n fn) (hr : Room k X.A) (tk : Takes X W) (ho : DE X W a fa) (hn : 1 = n := by rfl)
    (ht : eval (.Call (.Attribute a m pa) [] [] pos) X.env = (do
      let ov ← eval a X.env
      standAt pa.atName
      let (f, first) ← holding [ov] (getMethod ov m pl)
      callWith pos f first (backTo pos (starEach [] X.env)) (backToKw pos (keywordEach [] X.env))) := by rfl) :
    DE X W (.Call (.Attribute a m pa) [] [] pos) (eMeth c m fn fa aNil) := by
  obtain ⟨C, f, fd, ps, h1, hC, cl, hm, hb⟩ := F.ex
  have hx : ∀ σ, PassesAt (L2.CX X.prog X.w) X σ (WE W σ) := fun σ => passAt tk σ
  refine peImp (pe_methS0' (E := WE W) ho cl hm h1 hr hb hx ht) fun σ H Q ⟨ρ, hρ, h⟩ => ⟨ρ, hρ, (Post.bind h).imp fun v H1 _ ⟨d, _, s1, rx, h2⟩ => ?_⟩
  cases e1 : insD c d with
  | none => rw [e1] at h2; exact h2.elim
  | some kvs =>
    rw [e1] at h2
    obtain ⟨o, dx, C', fs, rfl, rfl, q1, q2, q3⟩ := insD_of rx e1
    have := hC.one q2
    subst this
    dsimp only at h2
    by_cases hf : (fldD m kvs).isNone = true
    · rw [if_pos hf] at h2
      refine ⟨o, dx, fs, rfl, q1, fldD_none q3 (by simpa using hf), ?_⟩
      refine ⟨by rw [← hn]; rfl, [_], .cons rx .nil, ?_⟩
      have h3 : Post X.K X.mg W σ H1 Q (fn [.dict (insTag c o :: kvs)]) := h2
      revert h3
      cases fn [.dict (insTag c o :: kvs)] <;> exact id
    · rw [if_neg hf] at h2
      exact h2.elim
end

/-! ### xs == [], xs != [] where the items may be of any kind -/
def oNeNil (x y : PyData) : Option PyData := match x, y with
  | .list xs, .list [] => some (.bool (!xs.isEmpty))
  | _, _ => none
def oEqNil (x y : PyData) : Option PyData := match x, y with
  | .list xs, .list [] => some (.bool xs.isEmpty)
  | _, _ => none
def rNilQ (K : PySem.W.Frag) (f : Bool → Bool) : R2 := fun x y H Q => ∃ l b xs, x = .ref l ∧ y = .ref b ∧ SqL K H l xs ∧ SqL K H b [] ∧ Q (.bl (f xs.isEmpty)) H
theorem op_neNil {X : Cx} (hu : X.A.units < cLine) : OpR X (compareOp .NotEq) (rNilQ X.K not) := by
  intro pins s σ H x y v u Q I rx ry h
  obtain ⟨l, b, xs, rfl, rfl, hl, hb, q⟩ := h
  cases rx
  cases ry
  obtain ⟨its, r, pl, _⟩ := I.list hl
  obtain ⟨its2, r2, pl2, _⟩ := I.list hb
  have e2 : its2 = [] := by
    cases r2
    rfl
  subst e2
  have len := r.length
  cases xs with
  | nil =>
    have e1 : its = [] := by cases r; rfl
    subst e1
    exact PySem.SeqAt.RcNeAt.lists (e := fun _ => true) pl.isList pl2.isList rfl hu (fun j h1 _ => absurd h1 (Nat.not_lt_zero _)) _ _ _ _ ⟨.bl _, H, I, rfl, q⟩
  | cons x xs =>
    have e1 : (its.toArray.size != ([] : List Value).toArray.size) = true := by
      simp only [List.size_toArray, List.length_nil, ← len]
      simp
    exact PySem.SeqAt.RcNeAt.lists_lengths pl.isList pl2.isList e1 hu _ _ _ _ ⟨.bl _, H, I, rfl, q⟩
theorem op_eqNil {X : Cx} (hu : X.A.units < cLine) : OpR X (compareOp .Eq) (rNilQ X.K id) := by
  intro pins s σ H x y v u Q I rx ry h
  obtain ⟨l, b, xs, rfl, rfl, hl, hb, q⟩ := h
  cases rx
  cases ry
  obtain ⟨its, r, pl, _⟩ := I.list hl
  obtain ⟨its2, r2, pl2, _⟩ := I.list hb
  have e2 : its2 = [] := by
    cases r2
    rfl
  subst e2
  have len := r.length
  cases xs with
  | nil =>
    have e1 : its = [] := by cases r; rfl
    subst e1
    exact PySem.SeqAt.RcAt.lists (e := fun _ => true) pl.isList pl2.isList rfl hu (fun j h1 _ => absurd h1 (Nat.not_lt_zero _)) _ _ _ _ ⟨.bl _, H, I, rfl, q⟩
  | cons x xs =>
    have e1 : (its.toArray.size != ([] : List Value).toArray.size) = true := by
      simp only [List.size_toArray, List.length_nil, ← len]
      simp
    exact PySem.SeqAt.RcAt.lists_lengths pl.isList pl2.isList e1 hu _ _ _ _ ⟨.bl _, H, I, rfl, q⟩
theorem isEmpty_dp {K : PySem.W.Frag} {H : Hp} {vs : List V} {ds : List PyData} (h : DpAll K H vs ds) : vs.isEmpty = ds.isEmpty := by cases h <;> rfl
theorem o2_nil {K : PySem.W.Frag} {f : Bool → Bool} {op : PyData → PyData → Option PyData} (hop : ∀ x y d, op x y = some d → ∃ xs, x = .list xs ∧ y = .list [] ∧ d = .bool (f xs.isEmpty)) : Op2 K (rNilQ K f) op := by
  intro x y dx dy d H Q rx ry e q
  obtain ⟨xs, rfl, rfl, rfl⟩ := hop _ _ _ e
  obtain ⟨l, vs, rfl, hl, hv⟩ := dp_lst rx
  obtain ⟨b, us, rfl, hb, hu⟩ := dp_lst ry
  cases hu
  refine ⟨l, b, vs, rfl, rfl, hl, hb, q _ H (Same.refl _) ?_⟩
  rw [isEmpty_dp hv]
  exact .bl _
theorem o2_neNil {K : PySem.W.Frag} : Op2 K (rNilQ K not) oNeNil := o2_nil fun x y d e => by
  cases x <;> cases y <;> try (cases e; done)
  rename_i xs ys
  cases ys with
  | nil => cases e; exact ⟨xs, rfl, rfl, rfl⟩
  | cons _ _ => cases e
theorem o2_eqNil {K : PySem.W.Frag} : Op2 K (rNilQ K id) oEqNil := o2_nil fun x y d e => by
  cases x <;> cases y <;> try (cases e; done)
  rename_i xs ys
  cases ys with
  | nil => cases e; exact ⟨xs, rfl, rfl, rfl⟩
  | cons _ _ => cases e
section
variable {X : Cx} {W : WX} {a b : Expr} {fa fb : Ex} {pos : Pos}
theorem d_neNil (hu : X.A.units + 65 < cLine) (ha : DE X W a fa) (hb : DE X W b fb) : DE X W (.Compare a [.NotEq] [b] pos) (eOp oNeNil fa fb) := d_cmp (op_neNil (by omega)) o2_neNil ha hb (nomark _)
theorem d_eqNil (hu : X.A.units + 65 < cLine) (ha : DE X W a fa) (hb : DE X W b fb) : DE X W (.Compare a [.Eq] [b] pos) (eOp oEqNil fa fb) := d_cmp (op_eqNil (by omega)) o2_eqNil ha hb (nomark _)
theorem t_neNil (hu : X.A.units + 65 < cLine) (ha : DE X W a fa) (hb : DE X W b fb) : DT X W (.Compare a [.NotEq] [b] pos) (eB (eOp oNeNil fa fb)) := dt_cmp (op_neNil (by omega)) o2_neNil ha hb (nomark _)
theorem t_eqNil (hu : X.A.units + 65 < cLine) (ha : DE X W a fa) (hb : DE X W b fb) : DT X W (.Compare a [.Eq] [b] pos) (eB (eOp oEqNil fa fb)) := dt_cmp (op_eqNil (by omega)) o2_eqNil ha hb (nomark _)
end
end L2.DL
set_option maxHeartbeats 2000000
namespace L2.DL
open PySem PySem.Spec PyProof.Rows

/-! ### min of a list of tuples of whole numbers -/
def encTI (ns : List Int) : PyData := .tuple (ns.map .int)
def toTups : List PyData → Option (List (List Int))
  | [] => some []
  | .tuple xs :: r => (toInts xs).bind fun ns => (toTups r).map (ns :: ·)
  | _ :: _ => none
theorem toInts_enc : ∀ {xs : List PyData} {ns : List Int}, toInts xs = some ns → xs = ns.map .int
  | [], ns, h => by cases h; rfl
  | x :: xs, ns, h => by
    cases x with
    | int i =>
      have h : (toInts xs).map (i :: ·) = some ns := h
      cases e : toInts xs with
      | none => rw [e] at h; cases h
      | some q =>
        rw [e] at h
        cases h
        rw [toInts_enc e]
        rfl
    | _ => cases h
theorem toTups_map : ∀ rs : List (List Int), toTups (rs.map encTI) = some rs
  | [] => rfl
  | ns :: r => by
    show (toInts (ns.map PyData.int)).bind (fun ns => (toTups (r.map encTI)).map (ns :: ·)) = _
    rw [toInts_map, toTups_map r]
    rfl
theorem toTups_enc : ∀ {ds : List PyData} {rs : List (List Int)}, toTups ds = some rs → ds = rs.map encTI
  | [], rs, h => by cases h; rfl
  | d :: r, rs, h => by
    cases d with
    | tuple xs =>
      unfold toTups at h
      cases e1 : toInts xs with
      | none => rw [e1] at h; cases h
      | some ns =>
        rw [e1, Option.bind_some] at h
        cases e2 : toTups r with
        | none => rw [e2] at h; cases h
        | some rs' =>
          rw [e2] at h
          cases h
          rw [List.map_cons, toTups_enc e2, toInts_enc e1]
          rfl
    | _ => cases h
/-- the least row, the first of several -/
def minTI (x : List Int) (xs : List (List Int)) : List Int := xs.foldl (fun a y => if PySem.W.dataLt (encTI y) (encTI a) then y else a) x
theorem minD_TI (x : List Int) (xs : List (List Int)) : PySem.W.minD (encTI x) (xs.map encTI) = encTI (minTI x xs) := by
  unfold PySem.W.minD minTI
  induction xs generalizing x with
  | nil => rfl
  | cons y r ih =>
    rw [List.map_cons, List.foldl_cons, List.foldl_cons]
    by_cases h : PySem.W.dataLt (encTI y) (encTI x) = true
    · rw [if_pos h, if_pos h]; exact ih y
    · rw [if_neg h, if_neg h]; exact ih x
def oMinT : PyData → Option PyData
  | .list xs => (toTups xs).bind fun rs => match rs with
    | [] => none
    | r :: rs => some (encTI (minTI r rs))
  | _ => none
def rMinT (K : PySem.W.Frag) : List V → Hp → VK → Prop := fun vs H Q => ∃ (a : Addr) (xs : List V) (r : List Int) (rs : List (List Int)), vs = [V.ref a] ∧ SqL K H a xs ∧ DpAll K H xs ((r :: rs).map encTI) ∧
  ∀ v, Dp K H v (encTI (minTI r rs)) → Q v H
theorem lay_TI (ns : List Int) : (encTI ns).canLay0 = true ∧ (encTI ns).depth ≤ 1 := by
  have : ∀ ns : List Int, PyData.canLayAll0 (ns.map .int) = true ∧ PyData.depthAll (ns.map .int) ≤ 0 := by
    intro ns
    induction ns with
    | nil => exact ⟨rfl, by simp [PyData.depthAll]⟩
    | cons n r ih => simp [PyData.canLayAll0, PyData.depthAll, PyData.canLay0, PyData.depth, ih.1, ih.2]
  refine ⟨by simpa [encTI, PyData.canLay0] using (this ns).1, ?_⟩
  have := (this ns).2
  simp only [encTI, PyData.depth]
  omega
theorem cr_minT {X : Cx} (hc : X.calm = true) (hu : X.A.units + 65 < cLine) : CallR X (.builtin "min") (rMinT X.K) := by
  intro pins s σ H vs us Q I rv h
  obtain ⟨a, xs, r, rs, rfl, hs, hv, q⟩ := h
  obtain ⟨its, r1, pl, hz⟩ := I.list hs
  rw [Vals.ref1 rv]
  have lay : ∀ d ∈ (r :: rs).map encTI, d.canLay0 = true ∧ d.depth ≤ 1 := fun d hd => by
    obtain ⟨ns, _, rfl⟩ := List.mem_map.mp hd
    exact lay_TI ns
  have layA : ∀ {ds : List PyData}, (∀ d ∈ ds, d.canLay0 = true ∧ d.depth ≤ 1) → PyData.canLayAll0 ds = true ∧ PyData.depthAll ds ≤ 1 := by
    intro ds
    induction ds with
    | nil => intro _; exact ⟨rfl, by simp [PyData.depthAll]⟩
    | cons d r ih =>
      intro h
      have h1 := h d List.mem_cons_self
      have h2 := ih fun x hx => h x (List.mem_cons_of_mem _ hx)
      simp only [PyData.canLayAll0, PyData.depthAll, h1.1, h2.1, Bool.and_self, true_and]
      omega
  obtain ⟨l1, l2⟩ := layA lay
  have hold := dpAllOld hv l1
  obtain ⟨as, hr⟩ := L2.Dp.readsAll I _ _ _ hold r1
  have hall : PySem.W.AlikeAll ((r :: rs).map encTI) := by
    refine ⟨fun x hx y hy => ?_, fun x hx => ?_⟩
    · obtain ⟨ns, _, rfl⟩ := List.mem_map.mp hx
      obtain ⟨ms, _, rfl⟩ := List.mem_map.mp hy
      simp [encTI, PySem.W.alike, PySem.W.alike_ints]
    · obtain ⟨ns, _, rfl⟩ := List.mem_map.mp hx
      simp [encTI]
  refine PySem.W.min_list_data (x := encTI r) (xs := rs.map encTI) (I.ok.hd hc) pl.isList (by rw [List.toList_toArray] <;> exact hr) hall (by
    have : PyData.depthAll (encTI r :: rs.map encTI) ≤ 1 := l2
    omega) fun i v h' tk bs hi hR hk => ?_
  rw [minD_TI] at hR
  have I' : Inv X pins σ H { s with heap := h', toks := tk } := I.kept hk
  -- the item's data
  obtain ⟨x, hx, rx⟩ : ∃ x, xs[i]? = some x ∧ RelV x v := by
    have hi' : its[i]? = some v := by simpa using hi
    cases e : xs[i]? with
    | none => rw [r1.none_of e] at hi'; cases hi'
    | some x =>
      obtain ⟨u, hu1, hu2⟩ := r1.get e
      rw [hu1] at hi'
      cases hi'
      exact ⟨x, rfl, hu2⟩
  obtain ⟨d, hd, hdp⟩ := hv.getV hx
  have hl := lay d (List.mem_of_getElem? hd)
  obtain ⟨as2, hr2⟩ := L2.Dp.reads I' d x v (dpOld hdp hl.1) rx
  have := (PySem.Reads.unique hR _ _ hr2).1.symm
  subst this
  exact ⟨x, H, I', rx, q x hdp⟩
theorem o1_minT {K : PySem.W.Frag} : Op1 K (rMinT K) oMinT := by
  intro x dx d H Q rx e q
  cases dx with
  | list ds =>
    obtain ⟨a, vs, rfl, ha, hva⟩ := dp_lst rx
    unfold oMinT at e
    dsimp only at e
    cases e1 : toTups ds with
    | none => rw [e1] at e; cases e
    | some rs =>
      rw [e1, Option.bind_some] at e
      cases rs with
      | nil => cases e
      | cons r rs =>
        cases e
        rw [toTups_enc e1] at hva
        exact ⟨a, vs, r, rs, rfl, ha, hva, fun v hv => q v H (Same.refl _) hv⟩
  | _ => cases e
section
variable {X : Cx} {W : WX} {a : Expr} {fa : Ex} {p pos : Pos}
theorem d_minT (hc : X.calm = true) (hu : X.A.units + 65 < cLine) (hm : X.mg "min" = none) (ha : DE X W a fa) (hg : Gl X "min" := by rfl) (hs : starEach [a] X.env = (false, eval a X.env) :: starEach [] X.env := by rfl) (hpl : (backTo pos (starEach [] X.env)).any (·.1) = false := by rfl) : DE X W (.Call (.Name "min" p) [a] [] pos) (eCall1 oMinT fa) :=
  d_b1 (cr_minT hc hu) o1_minT hm ha hg (hs := hs) (hpl := hpl)
end
end L2.DL
set_option maxHeartbeats 2000000
namespace L2.DL
open PySem PySem.Spec PyProof.Rows
open RZ

/-! ### zip(t, xs), t a tuple, xs a list, the pairs known -/
/-- what stands apart from the zip's own objects stays -/
abbrev ZKeep (z TO p r : Addr) (h h' : Heap) : Prop := ∀ c o, c ≠ z → c ≠ TO → c ≠ p → c ≠ r → h.get? c = some o → h'.get? c = some o
section
variable {prog : Program} {w : World} {A : Around} {E : Value → Shared → Prop} {s : Shared} {z TI TO p r t l : Addr} {k : Nat} {xs ys : Array Value} {a b : Value}
theorem zipTL_item {x y : Value} {Q : Value → Shared → Prop} (D : ZipApart z TI TO p r t l) (hz : IsZip s.heap z TI TO .none) (hI : IsPair s.heap TI (.ref p) (.ref r)) (hO : IsPair s.heap TO a b)
    (hp : s.heap.IsTupleIter p t k) (hr : s.heap.IsListIter r l k) (ht : s.heap.IsTuple t xs) (hl : s.heap.IsList l ys) (hx : xs[k]? = some x) (hy : ys[k]? = some y)
    (hQ : ∀ g, IsZip g z TI TO (rawInt s.heap.objs.size) → IsPair g TO x y → g.IsTupleIter p t (k + 1) → g.IsListIter r l (k + 1) → IsPair g s.heap.objs.size x y → g.objs.size = s.heap.objs.size + 1 → ZKeep z TO p r s.heap g → Q (.ref s.heap.objs.size) { s with heap := g }) :
    wpAny (model prog w) A (Builtin.«zip.__next__» ⟨[.ref z], []⟩) (fun fin s' => ∃ v, fin = .done (.ret v) ∧ Q v s') E s := by
  show wpAny _ _ (field (.ref z) 2 >>= _) _ _ _
  refine wpAny_bind (wpAny_field hz rfl (x := .bool false) rfl ?_)
  show wpAny _ _ (field (.ref z) 3 >>= _) _ _ _
  refine wpAny_bind (wpAny_field hz rfl (x := .ref TI) rfl (wpAny_bind (wpAny_seqItems hI rfl ?_)))
  show wpAny _ _ (Builtin.SmallTypes.ownedTupleIsFree (.ref z) >>= _) _ _ _
  refine wpAny_bind ?_
  unfold Builtin.SmallTypes.ownedTupleIsFree
  refine wpAny_bind (wpAny_field hz rfl (x := .none) rfl (wpAny_pure ?_))
  simp only [if_true]
  refine wpAny_bind (wpAny_rule (wpAny_bind (wpAny_field hz rfl (x := .ref TO) rfl (wpAny_bind (wpAny_setField_rec hz (by simp) fun g1 z1 b1 => ?_)))))
  replace z1 : IsZip g1 z TI TO .ellipsis := z1
  refine wpAny_bind ?_
  simp only [List.zipIdx_cons, List.zipIdx_nil, List.forIn_cons, List.forIn_nil]
  -- the tuple's turn
  refine wpAny_bind (wpAny_bind (wpAny_onRaise ?_))
  show wpAny _ _ (Builtin.SmallTypes.nextOf (.ref p) >>= _) _ _ _
  have e1 := b1.extBut
  refine wpAny_bind (nextOf_tuple_item (hp.extBut e1 D.i1z) (ht.extBut e1 D.l1z) hx fun g2 p2 b2 => wpAny_pure ?_)
  have e2 := b2.extBut
  have O2 : IsPair g2 TO a b := e2 _ _ D.TOi1 (e1 _ _ D.TOz hO)
  refine wpAny_bind (wpAny_seqItems O2 rfl (wpAny_bind (wpAny_updateSeq_pair O2 fun g3 O3 b3 => ?_)))
  replace O3 : IsPair g3 TO x b := O3
  have e3 := b3.extBut
  refine wpAny_bind (wpAny_letGo (wpAny_pure ?_))
  -- the list's turn
  refine wpAny_bind (wpAny_bind (wpAny_onRaise ?_))
  show wpAny _ _ (Builtin.SmallTypes.nextOf (.ref r) >>= _) _ _ _
  have r3 := ((hr.extBut e1 D.i2z).extBut e2 D.i12.symm).extBut e3 D.TOi2.symm
  have l3 := ((hl.extBut e1 D.l2z).extBut e2 D.l2i1).extBut e3 D.l2TO
  refine wpAny_bind (wpAny_nextOf_list_item r3 l3 hy fun g4 r4 b4 => wpAny_pure ?_)
  have e4 := b4.extBut
  have O4 : IsPair g4 TO x b := e4 _ _ D.TOi2 O3
  refine wpAny_bind (wpAny_seqItems O4 rfl (wpAny_bind (wpAny_updateSeq_pair O4 fun g5 O5 b5 => ?_)))
  replace O5 : IsPair g5 TO x y := O5
  have e5 := b5.extBut
  refine wpAny_bind (wpAny_letGo (wpAny_pure (wpAny_pure ?_)))
  refine wpAny_bind (wpAny_seqItems O5 rfl (wpAny_bind (wpAny_newTuple ?_)))
  have size5 : g5.objs.size = s.heap.objs.size := by rw [b5.1, b4.1, b3.1, b2.1, b1.1]
  have z5 : IsZip g5 z TI TO .ellipsis := e5 _ _ D.TOz.symm (e4 _ _ D.i2z.symm (e3 _ _ D.TOz.symm (e2 _ _ D.i1z.symm z1)))
  have k5 : ZKeep z TO p r s.heap g5 := fun c o c1 c2 c3 c4 e => e5 _ _ c2 (e4 _ _ c4 (e3 _ _ c2 (e2 _ _ c3 (e1 _ _ c1 e))))
  have p5 : g5.IsTupleIter p t (k + 1) := ((p2.extBut e3 D.TOi1.symm).extBut e4 D.i12).extBut e5 D.TOi1.symm
  have r5 : g5.IsListIter r l (k + 1) := r4.extBut e5 D.TOi2.symm
  have zlt : z < g5.objs.size := Heap.lt_size z5
  show wpAny _ _ (Builtin.SmallTypes.ownedTupleHandOut (.ref z) (.ref g5.objs.size) >>= _) _ _ _
  refine wpAny_bind ?_
  unfold Builtin.SmallTypes.ownedTupleHandOut
  have z6 : IsZip (g5.push { cls := .type "tuple", data := .seq #[x, y] }) z TI TO .ellipsis := Heap.get?_push_of_some _ z5
  refine wpAny_bind (wpAny_setField_rec z6 (by simp) fun g7 z7 b7 => ?_)
  replace z7 : IsZip g7 z TI TO (rawInt g5.objs.size) := z7
  refine wpAny_setField_rec z7 (by simp) fun g8 z8 b8 => ?_
  replace z8 : IsZip g8 z TI TO (rawInt g5.objs.size) := z8
  have up : ∀ c o, c ≠ z → g5.get? c = some o → g8.get? c = some o := fun c o cz e => b8.extBut _ _ cz (b7.extBut _ _ cz (Heap.get?_push_of_some _ e))
  have new8 : IsPair g8 g5.objs.size x y := b8.extBut _ _ (Nat.ne_of_gt zlt) (b7.extBut _ _ (Nat.ne_of_gt zlt) (Heap.get?_push_size _ rfl))
  have size8 : g8.objs.size = g5.objs.size + 1 := by rw [b8.1, b7.1, Heap.size_push]
  rw [size5] at z8 new8 size8
  refine wpAny_pure ⟨_, rfl, ?_⟩
  show Q (.ref g5.objs.size) _
  rw [size5]
  exact hQ g8 z8 (up _ _ D.TOz O5) (p5.at fun o e => up _ o D.i1z e) (r5.at fun o e => up _ o D.i2z e) new8 size8 fun c o c1 c2 c3 c4 e => up c o c1 (k5 c o c1 c2 c3 c4 e)
theorem zipTL_end {Q : Fin → Shared → Prop} (hh : A.handled = none) (D : ZipApart z TI TO p r t l) (hz : IsZip s.heap z TI TO .none) (hI : IsPair s.heap TI (.ref p) (.ref r)) (hO : IsPair s.heap TO a b)
    (hp : s.heap.IsTupleIter p t k) (hr : s.heap.IsListIter r l k) (ht : s.heap.IsTuple t xs) (hl : s.heap.IsList l ys) (hend : xs[k]? = none ∨ ys[k]? = none)
    (hE : ∀ g e, ZKeep z TO p r s.heap g → (∃ o, g.get? e = some o ∧ o.cls = .type "StopIteration") → E (.ref e) { s with heap := g }) :
    wpAny (model prog w) A (Builtin.«zip.__next__» ⟨[.ref z], []⟩) Q E s := by
  show wpAny _ _ (field (.ref z) 2 >>= _) _ _ _
  refine wpAny_bind (wpAny_field hz rfl (x := .bool false) rfl ?_)
  show wpAny _ _ (field (.ref z) 3 >>= _) _ _ _
  refine wpAny_bind (wpAny_field hz rfl (x := .ref TI) rfl (wpAny_bind (wpAny_seqItems hI rfl ?_)))
  show wpAny _ _ (Builtin.SmallTypes.ownedTupleIsFree (.ref z) >>= _) _ _ _
  refine wpAny_bind ?_
  unfold Builtin.SmallTypes.ownedTupleIsFree
  refine wpAny_bind (wpAny_field hz rfl (x := .none) rfl (wpAny_pure ?_))
  simp only [if_true]
  refine wpAny_bind (wpAny_rule (wpAny_bind (wpAny_field hz rfl (x := .ref TO) rfl (wpAny_bind (wpAny_setField_rec hz (by simp) fun g1 z1 b1 => ?_)))))
  replace z1 : IsZip g1 z TI TO .ellipsis := z1
  refine wpAny_bind ?_
  simp only [List.zipIdx_cons, List.zipIdx_nil, List.forIn_cons, List.forIn_nil]
  refine wpAny_bind (wpAny_bind (wpAny_onRaise ?_))
  show wpAny _ _ (Builtin.SmallTypes.nextOf (.ref p) >>= _) _ _ _
  have e1 := b1.extBut
  cases hx : xs[k]? with
  | none =>
    refine wpAny_bind (nextOf_tuple_end hh (hp.extBut e1 D.i1z) (ht.extBut e1 D.l1z) hx fun g2 e e2 he => ?_)
    obtain ⟨oe, hoe, hce⟩ := he
    have z2 : IsZip g2 z TI TO .ellipsis := e2 _ _ D.i1z.symm z1
    have ne : e ≠ z := fun q => by
      subst q
      rw [z2] at hoe
      cases hoe
      simp at hce
    exact wpAny_setField_rec z2 (by simp) fun g3 _ b3 => hE g3 e (fun c o c1 _ c3 _ q => b3.extBut _ _ c1 (e2 _ _ c3 (e1 _ _ c1 q))) ⟨oe, b3.extBut _ _ ne hoe, hce⟩
  | some x =>
    have hy : ys[k]? = none := by
      rcases hend with h | h
      · rw [hx] at h; cases h
      · exact h
    refine wpAny_bind (nextOf_tuple_item (hp.extBut e1 D.i1z) (ht.extBut e1 D.l1z) hx fun g2 p2 b2 => wpAny_pure ?_)
    have e2 := b2.extBut
    have O2 : IsPair g2 TO a b := e2 _ _ D.TOi1 (e1 _ _ D.TOz hO)
    refine wpAny_bind (wpAny_seqItems O2 rfl (wpAny_bind (wpAny_updateSeq_pair O2 fun g3 O3 b3 => ?_)))
    have e3 := b3.extBut
    refine wpAny_bind (wpAny_letGo (wpAny_pure (wpAny_bind (wpAny_bind (wpAny_onRaise ?_)))))
    show wpAny _ _ (Builtin.SmallTypes.nextOf (.ref r) >>= _) _ _ _
    have r3 := ((hr.extBut e1 D.i2z).extBut e2 D.i12.symm).extBut e3 D.TOi2.symm
    have l3 := ((hl.extBut e1 D.l2z).extBut e2 D.l2i1).extBut e3 D.l2TO
    refine wpAny_bind (wpAny_nextOf_list_end hh r3 l3 hy fun g4 e e4 he => ?_)
    obtain ⟨oe, hoe, hce⟩ := he
    have z4 : IsZip g4 z TI TO .ellipsis := e4 _ _ D.i2z.symm (e3 _ _ D.TOz.symm (e2 _ _ D.i1z.symm z1))
    have ne : e ≠ z := fun q => by
      subst q
      rw [z4] at hoe
      cases hoe
      simp at hce
    exact wpAny_setField_rec z4 (by simp) fun g5 _ b5 => hE g5 e (fun c o c1 c2 c3 c4 q => b5.extBut _ _ c1 (e4 _ _ c4 (e3 _ _ c2 (e2 _ _ c3 (e1 _ _ c1 q))))) ⟨oe, b5.extBut _ _ ne hoe, hce⟩
end
/-- the objects of a new zip -/
def zmH1 (h : Heap) (t : Addr) : Heap := h.push { cls := .type "tuple_iterator", data := .fields #[.ref t, .int 0 0] }
def zmH2 (h : Heap) (t l : Addr) : Heap := (zmH1 h t).push { cls := .type "list_iterator", data := .fields #[.ref l, .int 0 0] }
def zmH3 (h : Heap) (t l : Addr) : Heap := (zmH2 h t l).push { cls := .type "tuple", data := .seq #[.ref h.objs.size, .ref (zmH1 h t).objs.size] }
def zmH4 (h : Heap) (t l : Addr) : Heap := (zmH3 h t l).push { cls := .type "tuple", data := .seq #[.none, .none] }
def zmH5 (h : Heap) (t l : Addr) : Heap := (zmH4 h t l).push { cls := .type "zip", data := .fields #[.none, .bool false, .bool false, .ref (zmH2 h t l).objs.size, .ref (zmH3 h t l).objs.size] }
theorem zipTL_new (t l : Addr) (xs ys : Array Value) :
    Meets (Builtin.«zip.__new__» ⟨[.type "zip", .ref t, .ref l], []⟩) (fun _ R s => s.heap.IsTuple t xs ∧ s.heap.IsList l ys ∧ R (.ok (.ret (.ref (zmH4 s.heap t l).objs.size))) { s with heap := zmH5 s.heap t l }) :=
  .of_wp fun prog w A R s h => by
    obtain ⟨hp, g, d, tk, os⟩ := s
    obtain ⟨h1, h2, h⟩ := h
    have hsub := sub_zip
    have t1 : Heap.IsTuple (Shared.heap ⟨hp, g, d, tk, os⟩) t xs := h1
    have l1 : Heap.IsList (Shared.heap ⟨hp.push { cls := .type "tuple_iterator", data := .fields #[.ref t, .int 0 0] }, g, d, tk, os⟩) l ys := Heap.IsList.push h2 _
    wp_walk using wpAny_pyIter_tuple t1, wpAny_pyIter_list l1
    exact ⟨_, rfl, h⟩
section
variable {prog : Program} {w : World} {A : Around} {E : Value → Shared → Prop} {s : Shared}
theorem zipTL_call {t l : Addr} {xs ys : Array Value} {Q : Value → Shared → Prop} (ht : s.heap.IsTuple t xs) (hl : s.heap.IsList l ys)
    (h : ∀ g n, n = s.heap.objs.size → IsZip g (n + 4) (n + 2) (n + 3) .none → IsPair g (n + 2) (.ref n) (.ref (n + 1)) → IsPair g (n + 3) .none .none → g.IsTupleIter n t 0 → g.IsListIter (n + 1) l 0 →
      (∀ c o, s.heap.get? c = some o → g.get? c = some o) → Q (.ref (n + 4)) { s with heap := g }) :
    wpAny (model prog w) A (call (.type "zip") [.ref t, .ref l]) Q E s := by
  refine callType_new F.called_zip (by decide) (F.typeCall_zip_2 _ _) (F.newCall_zip_2 _ _) (fun obj => F.args_object_init_3 obj _ _) F.entry_zip_new (zipTL_new t l xs ys) ⟨ht, hl, ?_⟩
  have n1 : (zmH1 s.heap t).objs.size = s.heap.objs.size + 1 := Heap.size_push ..
  have n2 : (zmH2 s.heap t l).objs.size = s.heap.objs.size + 2 := by unfold zmH2; rw [Heap.size_push, n1]
  have n3 : (zmH3 s.heap t l).objs.size = s.heap.objs.size + 3 := by unfold zmH3; rw [Heap.size_push, n2]
  have n4 : (zmH4 s.heap t l).objs.size = s.heap.objs.size + 4 := by unfold zmH4; rw [Heap.size_push, n3]
  have q5 : (zmH5 s.heap t l).get? (zmH4 s.heap t l).objs.size = some _ := Heap.get?_push_size _ rfl
  have q4 : (zmH5 s.heap t l).get? (zmH3 s.heap t l).objs.size = some _ := Heap.get?_push_of_some _ (Heap.get?_push_size _ rfl)
  have q3 : (zmH5 s.heap t l).get? (zmH2 s.heap t l).objs.size = some _ := Heap.get?_push_of_some _ (Heap.get?_push_of_some _ (Heap.get?_push_size _ rfl))
  have q2 : (zmH5 s.heap t l).get? (zmH1 s.heap t).objs.size = some _ := Heap.get?_push_of_some _ (Heap.get?_push_of_some _ (Heap.get?_push_of_some _ (Heap.get?_push_size _ rfl)))
  have q1 : (zmH5 s.heap t l).get? s.heap.objs.size = some _ := Heap.get?_push_of_some _ (Heap.get?_push_of_some _ (Heap.get?_push_of_some _ (Heap.get?_push_of_some _ (Heap.get?_push_size _ rfl))))
  have keep : ∀ c o, s.heap.get? c = some o → (zmH5 s.heap t l).get? c = some o := fun c o x =>
    Heap.get?_push_of_some _ (Heap.get?_push_of_some _ (Heap.get?_push_of_some _ (Heap.get?_push_of_some _ (Heap.get?_push_of_some _ x))))
  show _ ∧ _
  rw [n2, n3, n4] at q5
  rw [n1, n2] at q3
  rw [n3] at q4
  rw [n1] at q2
  rw [n4]
  exact ⟨⟨_, q5, rfl⟩, h _ _ rfl q5 q3 q4 ⟨_, q1, rfl, rfl⟩ ⟨_, q2, rfl, rfl⟩ keep⟩
end
/-- the tuple at a, the list at b as they stand at each turn -/
def ItzM (K : PySem.W.Frag) (a b : Addr) : It :=
  ⟨fun i H => ∃ (xs ys : List V) (x y : V), SqT K H a xs ∧ SqL K H b ys ∧ xs[i]? = some x ∧ ys[i]? = some y,
    fun i H v H' => ∃ (T : Addr) (ob : Obj) (x y : V), ob.dict = none ∧ v = .ref T ∧ H T = none ∧ H' = upd H T (.frz ob (.tup [x, y])) ∧ (∀ xs, SqT K H a xs → xs[i]? = some x) ∧ ∀ ys, SqL K H b ys → ys[i]? = some y,
    fun i H => ∃ xs ys : List V, SqT K H a xs ∧ SqL K H b ys ∧ (xs.length ≤ i ∨ ys.length ≤ i)⟩
theorem turn_zipM {P : Program} {w : World} {K : PySem.W.Frag} {elts : List Expr} {kk : Nat} {tpos : Pos} {a b z TI TO i1 i2 : Addr} (D : ZipApart z TI TO i1 i2 a b) :
    Turn P w K (.Tuple elts kk tpos) (ItzM K a b) [z, TI, TO, i1, i2] z (fun i h => IsZip h z TI TO .none ∧ IsPair h TI (.ref i1) (.ref i2) ∧ (∃ x y, IsPair h TO x y) ∧ h.IsTupleIter i1 a i ∧ h.IsListIter i2 b i) where
  mem := by simp
  obj := fun i h st c hc => by
    obtain ⟨q1, q2, ⟨x, y, q3⟩, ⟨o1, g1, _, d1⟩, ⟨o2, g2, _, d2⟩⟩ := st
    simp only [List.mem_cons, List.not_mem_nil, or_false] at hc
    rcases hc with rfl | rfl | rfl | rfl | rfl
    · exact ⟨_, q1, fun v q => nomatch q⟩
    · exact ⟨_, q2, fun v q => nomatch q⟩
    · exact ⟨_, q3, fun v q => nomatch q⟩
    · exact ⟨o1, g1, fun v q => by rw [d1] at q; cases q⟩
    · exact ⟨o2, g2, fun v q => by rw [d2] at q; cases q⟩
  keep := fun i h h' st k => by
    obtain ⟨q1, q2, ⟨x, y, q3⟩, q4, q5⟩ := st
    exact ⟨k z (by simp) _ q1, k TI (by simp) _ q2, ⟨x, y, k TO (by simp) _ q3⟩, q4.at fun o q => k i1 (by simp) o q, q5.at fun o q => k i2 (by simp) o q⟩
  item := by
    intro X hP hw hK hc i pins s σ H E I hf st hg
    subst hP hw hK
    obtain ⟨hz, hTI, ⟨x0, y0, hTO⟩, h1, h2⟩ := st
    obtain ⟨xs, ys, x, y, hqx, hqy, hx, hy⟩ := hg
    obtain ⟨its, rv, p, _⟩ := I.tuple hqx
    obtain ⟨its2, rv2, p2, _⟩ := I.list hqy
    obtain ⟨u, hu, ru⟩ := rv.get hx
    obtain ⟨u2, hu2, ru2⟩ := rv2.get hy
    have zl : z < s.heap.objs.size := Heap.lt_size hz
    have hT : s.TypeIs (.ref z) "zip" := ⟨_, hz, rfl⟩
    unfold pyNext
    refine wpAny_bind (wpAny_attempt (wpAny_callSpecial?_slot (name := Str.ofString "__next__") hT F.slot_zip_next (wpAny_call_entry F.slot_zip_next hT F.entry_zip_next
      (zipTL_item D hz hTI hTO h1 h2 p p2.isList (x := u) (y := u2) (by simpa using hu) (by simpa using hu2) fun g z' TO' h1' h2' hT hsz hk => wpAny_pure ?_) (F.args_zip_next_1 _))))
    refine ⟨_, rfl, wpAny_letOwnedTupleGo_zip (s := { s with heap := g }) z' fun g' z'' sb => ?_⟩
    have hT2 : g'.get? s.heap.objs.size = some { cls := .type "tuple", data := .seq #[u, u2] } := (sb.2 _ (Nat.ne_of_gt zl)).trans hT
    have new : ObjOk X.prog X.w (upd H s.heap.objs.size (.frz { cls := .type "tuple", data := .seq #[u, u2] } (.tup [x, y]))) g' s.heap.objs.size (.frz { cls := .type "tuple", data := .seq #[u, u2] } (.tup [x, y])) :=
      ⟨hT2, by show 2 ≤ sizeLine; decide, [u, u2], .cons ru (.cons ru2 .nil), ⟨_, hT2, rfl, _, rfl⟩⟩
    have nin : ∀ {c : Addr}, c ∉ [z, TI, TO, i1, i2] → c ≠ z ∧ c ≠ TO ∧ c ≠ i1 ∧ c ≠ i2 := fun {c} h => by
      simp only [List.mem_cons, List.not_mem_nil, or_false, not_or] at h
      exact ⟨h.1, h.2.2.1, h.2.2.2.1, h.2.2.2.2⟩
    have I1 := I.turnedNew (t' := s.toks) (ch := [z, TI, TO, i1, i2]) (fun c o hb q => (sb.2 c (nin hb).1).trans (hk c o (nin hb).1 (nin hb).2.1 (nin hb).2.2.1 (nin hb).2.2.2 q)) hf (Nat.le_refl _) new
    refine ⟨.ref s.heap.objs.size, _, I1, rfl, ⟨_, _, x, y, rfl, rfl, I.hok.fresh (Nat.le_refl _), rfl, fun zs hzs => by rw [I.tuple_inj hzs hqx]; exact hx, fun zs hzs => by rw [I.list_inj hzs hqy]; exact hy⟩, ⟨z'', ?_, ⟨u, u2, ?_⟩, ?_, ?_⟩, fun c hcm => ?_⟩
    · exact (sb.2 _ D.TIz).trans (hk _ _ D.TIz D.TITO D.TIi1 D.TIi2 hTI)
    · exact (sb.2 _ D.TOz).trans TO'
    · exact h1'.at fun o q => (sb.2 _ D.i1z).trans q
    · exact h2'.at fun o q => (sb.2 _ D.i2z).trans q
    · have : c < s.heap.objs.size := by
        simp only [List.mem_cons, List.not_mem_nil, or_false] at hcm
        rcases hcm with rfl | rfl | rfl | rfl | rfl
        · exact zl
        · exact Heap.lt_size hTI
        · exact Heap.lt_size hTO
        · obtain ⟨_, q, _⟩ := h1; exact Heap.lt_size q
        · obtain ⟨_, q, _⟩ := h2; exact Heap.lt_size q
      rw [upd_ne (Nat.ne_of_lt this)]
      exact (hf c hcm).1
  done := by
    intro X hP hw hK hc i pins s σ H E I hf st hg
    subst hP hw hK
    obtain ⟨hz, hTI, ⟨x0, y0, hTO⟩, h1, h2⟩ := st
    obtain ⟨xs, ys, hqx, hqy, hend⟩ := hg
    obtain ⟨its, rv, p, _⟩ := I.tuple hqx
    obtain ⟨its2, rv2, p2, _⟩ := I.list hqy
    have n1 := rv.length
    have n2 := rv2.length
    have he : its.toArray[i]? = none ∨ its2.toArray[i]? = none := by
      rcases hend with q | q
      · exact .inl (by simp; omega)
      · exact .inr (by simp; omega)
    have hT : s.TypeIs (.ref z) "zip" := ⟨_, hz, rfl⟩
    unfold pyNext
    refine wpAny_bind (wpAny_attempt (wpAny_callSpecial?_slot (name := Str.ofString "__next__") hT F.slot_zip_next (wpAny_call_entry F.slot_zip_next hT F.entry_zip_next
      (zipTL_end (I.ok.hd hc) D hz hTI hTO h1 h2 p p2.isList he fun g e hk hce => ?_) (F.args_zip_next_1 _))))
    obtain ⟨o, ho, hco⟩ := hce
    refine wpAny_bind (wpAny_isInstance (T := "StopIteration") (b := true) ⟨o, ho, hco⟩ isSubtype_stop (wpAny_pure ⟨rfl, ?_⟩))
    exact I.turnedL (t' := s.toks) (ch := [z, TI, TO, i1, i2]) (fun c o hb q => by
      simp only [List.mem_cons, List.not_mem_nil, or_false, not_or] at hb
      exact hk c o hb.1 hb.2.2.1 hb.2.2.2.1 hb.2.2.2.2 q) hf
  self := fun A i s Q E st h => wpAny_pyIter_zip st.1 h
def iZipM (K : PySem.W.Frag) (ta : TA) : TI := fun σ H R => ta σ H fun vs H1 => ∃ a b xs ys, vs = [.ref a, .ref b] ∧ SqT K H1 a xs ∧ SqL K H1 b ys ∧ R (ItzM K a b) H1
theorem pi_zipM {X : Cx} {e e2 : Expr} {ta : TA} {p pos tpos : Pos} {elts : List Expr} {kk : Nat} (hg : Gl X "zip") (hm : X.mg "zip" = none) (ha : PA X [e, e2] ta)
    (hs : starEach [e, e2] X.env = (false, eval e X.env) :: starEach [e2] X.env := by rfl) (hpl : (backTo pos (starEach [e2] X.env)).any (·.1) = false := by rfl) :
    PI X (.Tuple elts kk tpos) (.Call (.Name "zip" p) [e, e2] [] pos) (iZipM X.K ta) := by
  constructor
  intro pins s σ H R I h
  refine Call_ (ld_blt I hg hm PyProof.Rows.boot_zip (PyProof.Rows.callWith_type1 (thn (ha.run pos pins s σ H _ I h) fun us s1 ⟨vs, H1, I1, r1, a, b, xs, ys, ex, hqx, hqy, q⟩ => ?_) hs hpl))
  subst ex
  cases r1 with
  | cons r rr =>
    cases rr with
    | cons r' rr =>
      cases rr
      cases r
      cases r'
      obtain ⟨its, rv, p1, _⟩ := I1.tuple hqx
      obtain ⟨its2, rv2, p2, _⟩ := I1.list hqy
      obtain ⟨o1, ho1, _⟩ := id p1
      refine zipTL_call p1 p2.isList fun g n hn hz hTI hTO h1 h2 hk => wpAny_pyIter_zip hz ?_
      have I2 : Inv X pins σ H1 { s1 with heap := g } := I1.kept (t' := s1.toks) hk
      have la : a < n := by rw [hn]; exact Heap.lt_size ho1
      have lb : b < n := by rw [hn]; exact p2.lt
      refine ⟨n + 4, [n + 4, n + 2, n + 3, n, n + 1], _, _, H1, rfl, I2, turn_zipM (PySem.W.ktu_apart n a b la lb), ⟨hz, hTI, ⟨_, _, hTO⟩, h1, h2⟩, fun c hcm => ?_, q⟩
      have hle : s1.heap.objs.size ≤ c := by
        rw [← hn]
        simp only [List.mem_cons, List.not_mem_nil, or_false] at hcm
        rcases hcm with rfl | rfl | rfl | rfl | rfl
        · exact Nat.le_add_right _ _
        · exact Nat.le_add_right _ _
        · exact Nat.le_add_right _ _
        · exact Nat.le_refl _
        · exact Nat.le_add_right _ _
      exact I1.fpOk hle (I1.hok.fresh hle)
def asT : PyData → Res (List PyData)
  | .tuple xs => .ok xs
  | _ => .bad
def itZipTL (f g : Ex) : Itr' := fun ρ => (f ρ).bind fun x => (g ρ).bind fun y => (asT x).bind fun xs => (asL y).bind fun ys => .ok (zipD xs ys)
@[simp] theorem itZipTL_ap (f g : Ex) (ρ : Env) : itZipTL f g ρ = (f ρ).bind fun x => (g ρ).bind fun y => (asT x).bind fun xs => (asL y).bind fun ys => .ok (zipD xs ys) := rfl
@[simp] theorem asT_tuple (xs : List PyData) : asT (.tuple xs) = .ok xs := rfl
section
variable {X : Cx} {W : WX} {a b : Expr} {fa fb : Ex} {p pos tpos : Pos} {elts : List Expr} {kk : Nat}
theorem i_zip (hm : X.mg "zip" = none) (ha : DE X W a fa) (hb : DE X W b fb) (hg : Gl X "zip" := by rfl) (hs : starEach [a, b] X.env = (false, eval a X.env) :: starEach [b] X.env := by rfl) (hs2 : starEach [b] X.env = (false, eval b X.env) :: starEach [] X.env := by rfl) (hpl : (backTo pos (starEach [b] X.env)).any (·.1) = false := by rfl) :
    DI X W (.Tuple elts kk tpos) (.Call (.Name "zip" p) [a, b] [] pos) (itZipTL fa fb) := by
  refine piImp (pi_zipM hg hm (pa_cons ha (pa_cons hb pa_nil hs2) hs) hs hpl) fun σ H Q ⟨ρ, hρ, h⟩ => ⟨ρ, hρ, (Post.bindI h).imp fun v H1 _ ⟨d, _, s1, rx, h1⟩ => ⟨ρ, hρ.mono s1, (Post.bindI h1).imp fun u H2 _ ⟨e, _, s2, ry, h2⟩ => ?_⟩⟩
  cases d with
  | tuple xs =>
    cases e with
    | list ys =>
      obtain ⟨q, vs, rfl, hs, hv⟩ := dp_tup (dpMono s2 rx)
      obtain ⟨q', us, rfl, hs', hu⟩ := dp_lst ry
      refine ⟨q, q', vs, us, rfl, hs, hs', h2 _ H2 (Same.refl _) ⟨fun i H3 hi s3 => ?_, fun H3 s3 => ?_, fun i H3 x H4 hi s3 hy => ?_⟩⟩
      · rw [zipD_length] at hi
        have i1 : i < vs.length := by rw [hv.len]; omega
        have i2 : i < us.length := by rw [hu.len]; omega
        exact ⟨vs, us, vs[i], us[i], Same.sqt s3 hs, s3.seq hs', List.getElem?_eq_getElem i1, List.getElem?_eq_getElem i2⟩
      · refine ⟨vs, us, Same.sqt s3 hs, s3.seq hs', ?_⟩
        rw [hv.len, hu.len, zipD_length]
        omega
      · obtain ⟨T, ob, x1, y1, hdn, rfl, hT, rfl, k1, k2⟩ := hy
        have g1 := k1 _ (Same.sqt s3 hs)
        have g2 := k2 _ (s3.seq hs')
        obtain ⟨d1, e1, r1⟩ := hv.getV g1
        obtain ⟨d2, e2, r2⟩ := hu.getV g2
        exact ⟨_, zipD_get e1 e2, .inr ⟨T, ob, [x1, y1], [d1, d2], hdn, hT, rfl, rfl, .cons r1 (.cons r2 .nil), rfl⟩⟩
    | _ => exact h2.elim
  | list xs => cases e <;> exact h2.elim
  | _ => exact h2.elim
end
end L2.DL
set_option maxHeartbeats 2000000
namespace L2.DL
open PySem PySem.Spec PyProof.Rows
noncomputable def m_is_whole : List PyData → Res PyData := runD 1 (retS (eAnd (eCall1 isaInt (eVar 0)) (eNot (eCall1 isaBool (eVar 0)))))
noncomputable def m_between : List PyData → Res PyData := runD 3 (retS (eAnd (eCall m_is_whole (aCons (eVar 0) aNil)) (bE (eChain oLe oLe (eVar 1) (eVar 0) (eVar 2)))))
noncomputable def m_is_part : List PyData → Res PyData := runD 1 (seqS (ifS (teOr (teNot (eB (eCall1 isaTuple (eVar 0)))) (teOr (eB (eOp oNe (eCall1 oLen (eVar 0)) (eC (.int 2)))) (teNot (eB (eCall m_between (aCons (eOp oIx (eVar 0) (eC (.int 0))) (aCons (eC (.int 1)) (aCons (eC (.int 20)) aNil)))))))) (retS (eC (.bool false))) nxS) (retS (eOr (eOp oIs (eOp oIx (eVar 0) (eC (.int 1))) (eC .none)) (eCall m_between (aCons (eOp oIx (eVar 0) (eC (.int 1))) (aCons (eC (.int 0)) (aCons (eOp oSub (eC (.int 4)) (eC (.int 1))) aNil)))))))
noncomputable def m_is_errand : List PyData → Res PyData := runD 2 (seqS (ifS (teOr (teNot (eB (eCall1 isaTuple (eVar 0)))) (teOr (eB (eOp oNe (eCall1 oLen (eVar 0)) (eC (.int 4)))) (teNot (eB (eCall m_between (aCons (eOp oIx (eVar 0) (eC (.int 0))) (aCons (eC (.int 2)) (aCons (eC (.int 60)) aNil)))))))) (retS (eC (.bool false))) nxS) (seqS (ifS (teOr (teNot (eB (eCall m_between (aCons (eOp oIx (eVar 0) (eC (.int 2))) (aCons (eC (.int 0)) (aCons (eCall2 oMin (eC (.int 20)) (eOp oSub (eOp oIx (eVar 0) (eC (.int 0))) (eC (.int 1)))) aNil)))))) (teNot (eB (eCall m_between (aCons (eOp oIx (eVar 0) (eC (.int 1))) (aCons (eC (.int 1)) (aCons (eOp oSub (eOp oIx (eVar 0) (eC (.int 0))) (eOp oIx (eVar 0) (eC (.int 2)))) aNil))))))) (retS (eC (.bool false))) nxS) (seqS (ifS (teOr (teNot (eB (eCall1 isaTuple (eOp oIx (eVar 0) (eC (.int 3)))))) (teNot (eChain oLe oLe (eC (.int 1)) (eCall1 oLen (eOp oIx (eVar 0) (eC (.int 3)))) (eC (.int 4))))) (retS (eC (.bool false))) nxS) (retS (eAnd (eCall1 oAll (eComp (itSq (eOp oIx (eVar 0) (eC (.int 3)))) (.one 1) teYes (eCall m_is_part (aCons (eVar 1) aNil)))) (eOp oIs (eOp oIx (eOp oIx (eOp oIx (eVar 0) (eC (.int 3))) (eUn oNeg (eC (.int 1)))) (eC (.int 1))) (eC .none)))))))
noncomputable def m_are_errands : List PyData → Res PyData := runD 2 (seqS (ifS (teOr (teNot (eB (eCall1 isaTuple (eVar 0)))) (teNot (eChain oLe oLe (eC (.int 1)) (eCall1 oLen (eVar 0)) (eC (.int 6))))) (retS (eC (.bool false))) nxS) (retS (eCall1 oAll (eComp (itSq (eVar 0)) (.one 1) teYes (eCall m_is_errand (aCons (eVar 1) aNil))))))
noncomputable def m_checked : List PyData → Res PyData := runD 1 (seqS (ifS (teNot (eB (eCall m_are_errands (aCons (eVar 0) aNil)))) (raiseS "NoErrands") nxS) (retS (eVar 0)))
noncomputable def m_need_errand : List PyData → Res PyData := runD 2 (ifS (teNot (eB (eCall m_between (aCons (eVar 1) (aCons (eC (.int 0)) (aCons (eOp oSub (eCall1 oLen (eVar 0)) (eC (.int 1))) aNil)))))) (raiseS "NoErrand") nxS)
noncomputable def m_work_of : List PyData → Res PyData := runD 2 (retS (eCall1 oSum (eComp (itSq (eOp oIx (eVar 0) (eC (.int 3)))) (.one 1) teYes (eOp oIx (eVar 1) (eC (.int 0))))))
noncomputable def m_work : List PyData → Res PyData := runD 2 (seqS (exprS (eCall m_checked (aCons (eVar 0) aNil))) (seqS (exprS (eCall m_need_errand (aCons (eVar 0) (aCons (eVar 1) aNil)))) (retS (eCall m_work_of (aCons (eOp oIx (eVar 0) (eVar 1)) aNil)))))
noncomputable def m__law_cell_at : List PyData → Res PyData := runD 2 (seqS (ifS (eB (eOp oLt (eVar 1) (eCall1 oLen (eVar 0)))) (retS (eOp oIx (eVar 0) (eVar 1))) nxS) (seqS (ifS (eB (eOp oEq (eVar 0) (eLst aNil))) (retS (eC (.int 0))) nxS) (retS (eOp oAdd (eOp oMul (eOp oIx (eVar 0) (eOp oMod (eVar 1) (eCall1 oLen (eVar 0)))) (eC (.int 31))) (eVar 1)))))
noncomputable def m__law_mixed : List PyData → Res PyData := runD 4 (seqS (setS [] 3 (eOp oMod (eOp oMul (eOp oAdd (eOp oAdd (eCall m__law_cell_at (aCons (eVar 0) (aCons (eVar 1) aNil))) (eOp oMul (eC (.int 7919)) (eVar 1))) (eC (.int 1))) (eC (.int 48271))) (eC (.int 2147483647)))) (retS (eOp oMod (eOp oMod (eOp oAdd (eOp oAdd (eOp oMul (eVar 3) (eVar 3)) (eOp oMul (eC (.int 7)) (eVar 3))) (eVar 1)) (eC (.int 2147483629))) (eVar 2))))
noncomputable def m__law_errand : List PyData → Res PyData := runD 10 (seqS (setS [] 4 (eOp oAdd (eC (.int 3)) (eCall m__law_mixed (aCons (eVar 0) (aCons (eVar 1) (aCons (eVar 2) aNil)))))) (seqS (setS [] 5 (eOp oMul (eCall m__law_mixed (aCons (eVar 0) (aCons (eOp oAdd (eVar 1) (eC (.int 1))) (aCons (eC (.int 4)) aNil)))) (eCall1 oInt (eOp oEq (eCall m__law_mixed (aCons (eVar 0) (aCons (eOp oAdd (eVar 1) (eC (.int 2))) (aCons (eC (.int 3)) aNil)))) (eC (.int 0)))))) (seqS (setS [] 5 (eCall2 oMin (eVar 5) (eOp oSub (eVar 4) (eC (.int 1))))) (seqS (setS [] 6 (eOp oSub (eVar 4) (eVar 5))) (seqS (ifS (eB (eOp oEq (eCall m__law_mixed (aCons (eVar 0) (aCons (eOp oAdd (eVar 1) (eC (.int 1))) (aCons (eC (.int 3)) aNil)))) (eC (.int 0)))) (setS [] 6 (eOp oSub (eVar 6) (eCall m__law_mixed (aCons (eVar 0) (aCons (eOp oAdd (eVar 1) (eC (.int 2))) (aCons (eVar 6) aNil)))))) nxS) (seqS (newS [] 7 (nLst aNil)) (seqS (forS [7] (itR1 (eCall m__law_mixed (aCons (eVar 0) (aCons (eOp oAdd (eVar 1) (eC (.int 3))) (aCons (eC (.int 3)) aNil))))) (.one 8) (seqS (setS [7] 9 (fun ρ => (eCall m__law_mixed (aCons (eVar 0) (aCons (eOp oAdd (eOp oAdd (eVar 1) (eC (.int 4))) (eVar 8)) (aCons (eC (.int 40)) aNil)))) (wipeD ρ [7]))) (seqS (appS [7] 7 (fun ρ => (eTup (aCons (eOp oAdd (eC (.int 1)) (eOp oMod (eVar 9) (eC (.int 4)))) (aCons (eOp oIx (eLst (aCons (eC (.int 0)) (aCons (eC (.int 1)) (aCons (eC (.int 1)) (aCons (eC (.int 0)) (aCons (eC .none) aNil)))))) (eOp oMod (eOp oDiv (eVar 9) (eC (.int 4))) (eC (.int 5)))) aNil))) (wipeD ρ [7]))) (ifS (teNot (eB (eVar 3))) (putS [7] 7 (eUn oNeg (eC (.int 1))) (fun ρ => ((eTup (aCons (eOp oIx (eOp oIx (eVar 7) (eUn oNeg (eC (.int 1)))) (eC (.int 0))) (aCons (eC .none) aNil))) ρ).bind scal)) nxS)))) (retS (eTup (aCons (eVar 4) (aCons (eVar 6) (aCons (eVar 5) (aCons (eCall1 oTuple (eOp oCatL (eVar 7) (eLst (aCons (eTup (aCons (eOp oAdd (eC (.int 1)) (eCall m__law_mixed (aCons (eVar 0) (aCons (eOp oAdd (eVar 1) (eC (.int 6))) (aCons (eC (.int 3)) aNil))))) (aCons (eC .none) aNil))) aNil)))) aNil)))))))))))))
noncomputable def m__law_errands : List PyData → Res PyData := runD 7 (seqS (setS [] 5 (eOp oAdd (eC (.int 1)) (eCall m__law_mixed (aCons (eVar 0) (aCons (eVar 1) (aCons (eVar 2) aNil)))))) (retS (eCall1 oTuple (eComp (itR1 (eVar 5)) (.one 6) teYes (eCall m__law_errand (aCons (eVar 0) (aCons (eOp oAdd (eOp oAdd (eVar 1) (eC (.int 1))) (eOp oMul (eC (.int 7)) (eVar 6))) (aCons (eVar 3) (aCons (eVar 4) aNil)))))))))
noncomputable def m__law_refused : List PyData → Res PyData := runD 2 (seqS (tryRetS "NoErrands" 1 (.bool true) (exprS (eCall m_checked (aCons (eVar 0) aNil)))) (retS (eC (.bool false))))
noncomputable def m_need_ranks : List PyData → Res PyData := runD 3 (seqS (exprS (eCall m_checked (aCons (eVar 0) aNil))) (seqS (ifS (teOr (teNot (eB (eCall1 isaTuple (eVar 1)))) (teNot (eB (eCall1 oAll (eComp (itSq (eVar 1)) (.one 2) teYes (eCall m_is_whole (aCons (eVar 2) aNil))))))) (raiseS "NoRanks") nxS) (ifS (eB (eOp oNe (eCall1 oSorted (eCall1 oList (eVar 1))) (eLstR1 (eCall1 oLen (eVar 0))))) (raiseS "NoRanks") nxS)))
noncomputable def m_has_tool : List PyData → Res PyData := runD 3 (retS (eOp oIn (eVar 1) (eComp (itSq (eOp oIx (eVar 0) (eC (.int 3)))) (.one 2) teYes (eOp oIx (eVar 2) (eC (.int 1))))))
noncomputable def m_heights_of : List PyData → Res PyData := runD 6 (seqS (newS [] 2 (nLst aNil)) (seqS (forS [2] (itR1 (eC (.int 4))) (.one 3) (seqS (setS [2] 4 (fun ρ => eComp (itR1 (eCall1 oLen (eVar 1))) (.one 5) (eB (eCall m_has_tool (aCons (eOp oIx (eVar 0) (eOp oIx (eVar 1) (eVar 5))) (aCons (eVar 3) aNil)))) (eVar 5) (wipeD ρ [2]))) (appS [2] 2 (fun ρ => (eOp oIx (eOp oCatL (eVar 4) (eLst (aCons (eC .none) aNil))) (eC (.int 0))) (wipeD ρ [2]))))) (retS (eVar 2))))
noncomputable def m_heights : List PyData → Res PyData := runD 2 (seqS (exprS (eCall m_need_ranks (aCons (eVar 0) (aCons (eVar 1) aNil)))) (retS (eCall m_heights_of (aCons (eVar 0) (aCons (eVar 1) aNil)))))
noncomputable def m__law_ranks : List PyData → Res PyData := runD 6 (seqS (newS [] 3 (nR1 (eVar 2))) (seqS (newS [3] 4 (nLst aNil)) (seqS (forS [4, 3] (itR1 (eVar 2)) (.one 5) (popAppS 4 3 (eCall m__law_mixed (aCons (eVar 0) (aCons (eOp oAdd (eVar 1) (eVar 5)) (aCons (eCall1 oLen (eVar 3)) aNil)))))) (retS (eCall1 oTuple (eVar 4))))))
noncomputable def m__law_heights : List PyData → Res PyData := runD 6 (seqS (newS [] 2 (nLst (aCons (eC .none) (aCons (eC .none) (aCons (eC .none) (aCons (eC .none) aNil)))))) (seqS (forS [2] (itR3 (eOp oSub (eCall1 oLen (eVar 1)) (eC (.int 1))) (eUn oNeg (eC (.int 1))) (eUn oNeg (eC (.int 1)))) (.one 3) (forS [2] (itSq (eOp oIx (eOp oIx (eVar 0) (eOp oIx (eVar 1) (eVar 3))) (eC (.int 3)))) (.tup [4, 5]) (ifS (eB (eOp oIsNot (eVar 5) (eC .none))) (putS [2] 2 (eVar 5) (fun ρ => (eVar 3) (wipeD ρ [2]))) nxS))) (retS (eVar 2))))
noncomputable def m__law_told : List PyData → Res PyData := runD 3 (tryRetS "NoRanks" 2 (.str "none") (retS (eCall m_heights (aCons (eVar 0) (aCons (eVar 1) aNil)))))
noncomputable def m_law_k02 : List PyData → Res PyData := runD 4 (seqS (setS [] 1 (eCall m__law_errands (aCons (eVar 0) (aCons (eC (.int 8)) (aCons (eC (.int 4)) (aCons (eC (.int 28)) (aCons (eC (.bool true)) aNil))))))) (seqS (setS [] 2 (eCall m__law_ranks (aCons (eVar 0) (aCons (eC (.int 0)) (aCons (eCall1 oLen (eVar 1)) aNil))))) (seqS (ifS (eB (eOp oNe (eCall m__law_told (aCons (eVar 1) (aCons (eVar 2) aNil))) (eCall m__law_heights (aCons (eVar 1) (aCons (eVar 2) aNil))))) (retS (eC (.bool false))) nxS) (seqS (newS [] 3 (nLst (aCons (eCall1 oList (eVar 2)) (aCons (eOp oCatT (eVar 2) (eSlice (eVar 2) ptNo (ptSome (eC (.int 1))))) (aCons (eSlice (eVar 2) (ptSome (eC (.int 1))) ptNo) (aCons (eOp oCatT (eSlice (eVar 2) ptNo (ptSome (eUn oNeg (eC (.int 1))))) (eTup (aCons (eCall1 oLen (eVar 2)) aNil))) (aCons (eOp oCatT (eSlice (eVar 2) ptNo (ptSome (eUn oNeg (eC (.int 1))))) (eTup (aCons (eUn oNeg (eC (.int 1))) aNil))) (aCons (eC .none) (aCons (eC (.int 0)) aNil))))))))) (seqS (extS [3] 3 (fun ρ => (eLst (aCons (eOp oCatT (eSlice (eVar 2) ptNo (ptSome (eUn oNeg (eC (.int 1))))) (eTup (aCons (eCall1 oStr (eOp oIx (eVar 2) (eUn oNeg (eC (.int 1))))) aNil))) (aCons (eOp oCatT (eTup (aCons (eC (.bool true)) aNil)) (eSlice (eVar 2) (ptSome (eC (.int 1))) ptNo)) (aCons (eOp oCatT (eSlice (eVar 2) ptNo (ptSome (eUn oNeg (eC (.int 1))))) (eTup (aCons (eC .none) aNil))) (aCons (eOp oCatT (eVar 2) (eTup (aCons (eCall1 oLen (eVar 2)) aNil))) aNil))))) (wipeD ρ [3]))) (retS (eOp oEq (eCall m__law_told (aCons (eVar 1) (aCons (eOp oIx (eVar 3) (eCall m__law_mixed (aCons (eVar 0) (aCons (eC (.int 6)) (aCons (eC (.int 11)) aNil))))) aNil))) (eC (.str "none")))))))))
noncomputable def m_are_comings : List PyData → Res PyData := runD 5 (seqS (ifS (teOr (teNot (eB (eCall1 isaList (eVar 1)))) (teOr (eB (eOp oGt (eCall1 oLen (eVar 1)) (eC (.int 60)))) (teNot (eB (eCall1 oAll (eComp (itSq (eVar 1)) (.one 4) teYes (eCall m_between (aCons (eVar 4) (aCons (eC (.int 0)) (aCons (eC (.int 9999)) aNil)))))))))) (retS (eC (.bool false))) nxS) (seqS (setS [] 2 (eUn oNeg (eC (.int 99)))) (seqS (forS [] (itR1 (eCall1 oLen (eVar 1))) (.one 3) (seqS (ifS (teAnd (eB (eOp oGt (eVar 3) (eC (.int 0)))) (eB (eOp oLe (eOp oIx (eVar 1) (eVar 3)) (eOp oIx (eVar 1) (eOp oSub (eVar 3) (eC (.int 1))))))) (retS (eC (.bool false))) nxS) (seqS (setS [] 2 (eCall2 oMax (eOp oAdd (eVar 2) (eOp oIx (eVar 0) (eC (.int 0)))) (eOp oSub (eOp oIx (eVar 1) (eVar 3)) (eOp oIx (eVar 0) (eC (.int 2)))))) (ifS (eB (eOp oGt (eVar 2) (eOp oIx (eVar 1) (eVar 3)))) (retS (eC (.bool false))) nxS)))) (retS (eC (.bool true))))))
noncomputable def m_need_comings : List PyData → Res PyData := runD 4 (seqS (ifS (teOr (teNot (eB (eCall1 isaList (eVar 1)))) (eB (eOp oNe (eCall1 oLen (eVar 1)) (eCall1 oLen (eVar 0))))) (raiseS "NoComings") nxS) (ifS (teNot (eB (eCall1 oAll (eComp (itZipTL (eVar 0) (eVar 1)) (.tup [2, 3]) teYes (eCall m_are_comings (aCons (eVar 2) (aCons (eVar 3) aNil))))))) (raiseS "NoComings") nxS))
noncomputable def m_checked_comings : List PyData → Res PyData := runD 3 (seqS (exprS (eCall m_checked (aCons (eVar 0) aNil))) (seqS (exprS (eCall m_need_comings (aCons (eVar 0) (aCons (eVar 1) aNil)))) (retS (eComp (itSq (eVar 1)) (.one 2) teYes (eCall1 oList (eVar 2))))))
noncomputable def m__law_coming_row : List PyData → Res PyData := runD 10 (seqS (setS [] 4 (eCall m__law_mixed (aCons (eVar 0) (aCons (eVar 1) (aCons (eOp oPow (eC (.int 10)) (eC (.int 9))) aNil))))) (seqS (setS [] 5 (eOp oSub (eOp oMod (eVar 4) (eOp oAdd (eOp oIx (eVar 2) (eC (.int 0))) (eC (.int 2)))) (eOp oIx (eVar 2) (eC (.int 2))))) (seqS (newS [] 6 (nLst aNil)) (seqS (setS [6] 7 (fun ρ => (eC (.int 0)) (wipeD ρ [6]))) (seqS (whileS (teAnd (eB (eOp oLt (eOp oAdd (eVar 5) (eOp oIx (eVar 2) (eC (.int 2)))) (eVar 3))) (eB (eOp oLt (eCall1 oLen (eVar 6)) (eC (.int 60))))) (seqS (setS [6] 8 (fun ρ => (eOp oMod (eOp oMul (eOp oAdd (eOp oAdd (eVar 4) (eOp oMul (eOp oMul (eC (.int 104729)) (eVar 7)) (eVar 7))) (eOp oMul (eC (.int 7919)) (eVar 7))) (eC (.int 48271))) (eC (.int 2147483647))) (wipeD ρ [6]))) (seqS (setS [6] 9 (fun ρ => (eCall2 oMax (eC (.int 0)) (eOp oAdd (eVar 5) (eOp oMod (eOp oDiv (eVar 8) (eC (.int 7))) (eOp oAdd (eOp oIx (eVar 2) (eC (.int 2))) (eC (.int 1)))))) (wipeD ρ [6]))) (seqS (ifS (eB (eOp oNe (eVar 6) (eLst aNil))) (setS [6] 9 (fun ρ => ((eCall2 oMax (eVar 9) (eOp oAdd (eOp oIx (eVar 6) (eUn oNeg (eC (.int 1)))) (eC (.int 1)))) ρ).bind scal)) nxS) (seqS (appS [6] 6 (fun ρ => (eVar 9) (wipeD ρ [6]))) (seqS (setS [6] 5 (fun ρ => (eOp oAdd (eVar 5) (eOp oIx (eVar 2) (eC (.int 0)))) (wipeD ρ [6]))) (seqS (ifS (eB (eOp oEq (eOp oMod (eOp oDiv (eVar 8) (eC (.int 61))) (eC (.int 3))) (eC (.int 0)))) (setS [6] 5 (fun ρ => (eOp oAdd (eVar 5) (eOp oMod (eOp oDiv (eVar 8) (eC (.int 997))) (eOp oIx (eVar 2) (eC (.int 0))))) (wipeD ρ [6]))) nxS) (setS [6] 7 (fun ρ => (eOp oAdd (eVar 7) (eC (.int 1))) (wipeD ρ [6])))))))))) (retS (eVar 6)))))))
noncomputable def m__law_comings : List PyData → Res PyData := runD 5 (retS (eComp (itR1 (eCall1 oLen (eVar 2))) (.one 4) teYes (eCall m__law_coming_row (aCons (eVar 0) (aCons (eOp oAdd (eVar 1) (eVar 4)) (aCons (eOp oIx (eVar 2) (eVar 4)) (aCons (eVar 3) aNil)))))))
noncomputable def m__law_are_comings : List PyData → Res PyData := runD 5 (seqS (setS [] 2 (eUn oNeg (eC (.int 1000)))) (seqS (setS [] 3 (eUn oNeg (eC (.int 1)))) (seqS (forS [] (itSq (eVar 1)) (.one 4) (seqS (ifS (teOr (eB (eCall1 isaBool (eVar 4))) (teOr (teNot (eB (eCall1 isaInt (eVar 4)))) (teOr (eB (eOp oLe (eVar 4) (eVar 3))) (eB (eOp oGt (eVar 4) (eC (.int 9999))))))) (retS (eC (.bool false))) nxS) (seqS (setS [] 2 (eCall2 oMax (eOp oAdd (eVar 2) (eOp oIx (eVar 0) (eC (.int 0)))) (eOp oSub (eVar 4) (eOp oIx (eVar 0) (eC (.int 2)))))) (seqS (ifS (eB (eOp oGt (eVar 2) (eVar 4))) (retS (eC (.bool false))) nxS) (setS [] 3 (eVar 4)))))) (retS (eOp oLe (eCall1 oLen (eVar 1)) (eC (.int 60)))))))
noncomputable def m__law_told_k03 : List PyData → Res PyData := runD 3 (tryRetS "NoComings" 2 (.str "none") (retS (eCall m_checked_comings (aCons (eVar 0) (aCons (eVar 1) aNil)))))
noncomputable def m__law_are_all : List PyData → Res PyData := runD 4 (seqS (ifS (teOr (teNot (eB (eCall1 isaList (eVar 1)))) (eB (eOp oNe (eCall1 oLen (eVar 1)) (eCall1 oLen (eVar 0))))) (retS (eC (.bool false))) nxS) (seqS (forS [] (itZipTL (eVar 0) (eVar 1)) (.tup [2, 3]) (ifS (teOr (teNot (eB (eCall1 isaList (eVar 3)))) (teNot (eB (eCall m__law_are_comings (aCons (eVar 2) (aCons (eVar 3) aNil)))))) (retS (eC (.bool false))) nxS)) (retS (eC (.bool true)))))
noncomputable def m_Job_tool : List PyData → Res PyData := runD 1 (retS (eOp oIx (eOp oIx (eFld "Job" "parts" (eVar 0)) (eFld "Job" "part" (eVar 0))) (eC (.int 1))))
noncomputable def m_Job_holds : List PyData → Res PyData := runD 1 (seqS (ifS (eB (eOp oEq (eFld "Job" "spent" (eVar 0)) (eC (.int 0)))) (retS (eC .none)) nxS) (retS (eMeth "Job" "tool" m_Job_tool (eVar 0) aNil)))
noncomputable def m_Job_is_done : List PyData → Res PyData := runD 1 (retS (eOp oEq (eFld "Job" "part" (eVar 0)) (eCall1 oLen (eFld "Job" "parts" (eVar 0)))))
noncomputable def m_Hand_first_ones : List PyData → Res PyData := runD 3 (retS (eComp (itSq (eFld "Hand" "queues" (eVar 0))) (.one 2) (teAnd (eB (eOp oNeNil (eVar 2) (eLst aNil))) (eB (eOp oLe (eFld "Job" "come" (eOp oIx (eVar 2) (eC (.int 0)))) (eVar 1)))) (eOp oIx (eVar 2) (eC (.int 0)))))
noncomputable def m_Hand_rank : List PyData → Res PyData := runD 2 (retS (eTupIx (eFld "Hand" "ranks" (eVar 0)) (eFld "Job" "errand" (eVar 1))))
noncomputable def m_Hand_waits : List PyData → Res PyData := runD 4 (seqS (ifS (teOr (eB (eOp oEq (eFld "Hand" "lending" (eVar 0)) (eC (.str "high")))) (teOr (eB (eOp oGt (eFld "Job" "spent" (eVar 1)) (eC (.int 0)))) (eB (eOp oIs (eMeth "Job" "tool" m_Job_tool (eVar 1) aNil) (eC .none))))) (retS (eC (.bool false))) nxS) (retS (eOp oIn (eMeth "Job" "tool" m_Job_tool (eVar 1) aNil) (eComp (itSq (eVar 2)) (.one 3) teYes (eMeth "Job" "holds" m_Job_holds (eVar 3) aNil)))))
noncomputable def m_Hand_height : List PyData → Res PyData := runD 5 (seqS (ifS (teOr (eB (eOp oIs (eMeth "Job" "holds" m_Job_holds (eVar 1) aNil) (eC .none))) (eB (eOp oEq (eFld "Hand" "lending" (eVar 0)) (eC (.str "none"))))) (retS (eMeth "Hand" "rank" m_Hand_rank (eVar 0) (aCons (eVar 1) aNil))) nxS) (seqS (ifS (eB (eOp oEq (eFld "Hand" "lending" (eVar 0)) (eC (.str "high")))) (retS (eCall2 oMin (eMeth "Hand" "rank" m_Hand_rank (eVar 0) (aCons (eVar 1) aNil)) (eOp oIx (eFld "Hand" "heights" (eVar 0)) (eMeth "Job" "holds" m_Job_holds (eVar 1) aNil)))) nxS) (seqS (setS [] 3 (fun ρ => eComp (itSq (eVar 2)) (.one 4) (teAnd (eB (eMeth "Hand" "waits" m_Hand_waits (eVar 0) (aCons (eVar 4) (aCons (eVar 2) aNil)))) (eB (eOp oEq (eMeth "Job" "tool" m_Job_tool (eVar 4) aNil) (eMeth "Job" "holds" m_Job_holds (eVar 1) aNil)))) (eVar 4) (wipeD ρ []))) (retS (eCall1 oMinL (eComp (itSq (eOp oCatL (eLst (aCons (eVar 1) aNil)) (eVar 3))) (.one 4) teYes (eMeth "Hand" "rank" m_Hand_rank (eVar 0) (aCons (eVar 4) aNil))))))))
noncomputable def m_Hand_choose : List PyData → Res PyData := runD 5 (seqS (setS [] 2 (eMeth "Hand" "first_ones" m_Hand_first_ones (eVar 0) (aCons (eVar 1) aNil))) (seqS (newS [] 3 (nLst aNil)) (seqS (forS [3] (itR1 (eCall1 oLen (eVar 2))) (.one 4) (ifS (teNot (eB (eMeth "Hand" "waits" m_Hand_waits (eVar 0) (aCons (eOp oIx (eVar 2) (eVar 4)) (aCons (eVar 2) aNil))))) (appS [3] 3 (fun ρ => (eTup (aCons (eMeth "Hand" "height" m_Hand_height (eVar 0) (aCons (eOp oIx (eVar 2) (eVar 4)) (aCons (eVar 2) aNil))) (aCons (eCall1 oInt (eOp oIs (eMeth "Job" "holds" m_Job_holds (eOp oIx (eVar 2) (eVar 4)) aNil) (eC .none))) (aCons (eVar 4) aNil)))) (wipeD ρ [3]))) nxS)) (seqS (ifS (eB (eOp oEqNil (eVar 3) (eLst aNil))) (retS (eC .none)) nxS) (retS (eOp oIx (eVar 2) (eOp oIx (eCall1 oMinT (eVar 3)) (eC (.int 2)))))))))
noncomputable def m_Hand_is_left : List PyData → Res PyData := runD 2 (retS (eCall1 oAny (eComp (itSq (eFld "Hand" "queues" (eVar 0))) (.one 1) teYes (eOp oNeNil (eVar 1) (eLst aNil)))))
noncomputable def m__law_at : List PyData → Res PyData := runD 4 (seqS (forS [] (itEnum (eOp oIx (eVar 0) (eC (.int 3)))) (.tup [2, 3]) (seqS (ifS (eB (eOp oLt (eVar 1) (eOp oIx (eVar 3) (eC (.int 0))))) (retS (eTup (aCons (eVar 2) (aCons (eOp oIx (eVar 3) (eC (.int 1))) (aCons (eVar 1) aNil))))) nxS) (setS [] 1 (eOp oSub (eVar 1) (eOp oIx (eVar 3) (eC (.int 0))))))) (retS (eTup (aCons (eCall1 oLen (eOp oIx (eVar 0) (eC (.int 3)))) (aCons (eC .none) (aCons (eC (.int 0)) aNil))))))
noncomputable def m_hold_of : List PyData → Res PyData := runD 9 (seqS (setS [] 3 (eTupIx (eVar 1) (eVar 2))) (seqS (setS [] 4 (eCall m_heights_of (aCons (eVar 0) (aCons (eVar 1) aNil)))) (seqS (newS [] 5 (nLst (aCons (eC (.int 0)) aNil))) (seqS (forS [5] (itSq (eSlice (eVar 1) (ptSome (eOp oAdd (eVar 3) (eC (.int 1)))) ptNo)) (.one 6) (forS [5] (itSq (eOp oIx (eOp oIx (eVar 0) (eVar 6)) (eC (.int 3)))) (.tup [7, 8]) (ifS (teAnd (eB (eOp oIsNot (eVar 8) (eC .none))) (eB (eOp oLe (eOp oIx (eVar 4) (eVar 8)) (eVar 3)))) (appS [5] 5 (fun ρ => (eOp oSub (eVar 7) (eC (.int 1))) (wipeD ρ [5]))) nxS))) (retS (eCall1 oMaxL (eVar 5)))))))
noncomputable def m_hold : List PyData → Res PyData := runD 3 (seqS (exprS (eCall m_need_ranks (aCons (eVar 0) (aCons (eVar 1) aNil)))) (seqS (exprS (eCall m_need_errand (aCons (eVar 0) (aCons (eVar 2) aNil)))) (retS (eCall m_hold_of (aCons (eVar 0) (aCons (eVar 1) (aCons (eVar 2) aNil)))))))
noncomputable def m__law_is_once : List PyData → Res PyData := runD 7 (seqS (setS [] 5 (eComp (itSq (eSlice (eVar 0) (ptSome (eVar 2)) (ptSome (eVar 3)))) (.one 6) (teAnd (eB (eOp oIsNot (eVar 6) (eC .none))) (eB (eOp oIn (eOp oIx (eVar 6) (eC (.int 0))) (eVar 1)))) (eVar 6))) (seqS (ifS (eB (eOp oEq (eVar 5) (eLst aNil))) (retS (eC (.bool true))) nxS) (seqS (ifS (teOr (eB (eOp oGt (eCall1 oLen (eVar 5)) (eVar 4))) (teOr (eB (eOp oNe (eComp (itSq (eVar 5)) (.one 6) (eB (eOp oNe (eVar 6) (eOp oIx (eVar 5) (eC (.int 0))))) (eVar 6)) (eLst aNil))) (eB (eOp oIs (eOp oIx (eOp oIx (eVar 5) (eC (.int 0))) (eC (.int 3))) (eC .none))))) (retS (eC (.bool false))) nxS) (retS (eOp oIn (eOp oIx (eVar 5) (eC (.int 0))) (eSlice (eVar 0) ptNo (ptSome (eVar 2))))))))
noncomputable def m__law_hold : List PyData → Res PyData := runD 9 (seqS (setS [] 3 (eTupIx (eVar 1) (eVar 2))) (seqS (setS [] 4 (eCall m__law_heights (aCons (eVar 0) (aCons (eVar 1) aNil)))) (seqS (setS [] 5 (eC (.int 0))) (seqS (forS [] (itSq (eSlice (eVar 1) (ptSome (eOp oAdd (eVar 3) (eC (.int 1)))) ptNo)) (.one 6) (forS [] (itSq (eOp oIx (eOp oIx (eVar 0) (eVar 6)) (eC (.int 3)))) (.tup [7, 8]) (ifS (teAnd (eB (eOp oIsNot (eVar 8) (eC .none))) (eB (eOp oLe (eOp oIx (eVar 4) (eVar 8)) (eVar 3)))) (setS [] 5 (eCall2 oMax (eVar 5) (eOp oSub (eVar 7) (eC (.int 1))))) nxS))) (retS (eVar 5))))))
noncomputable def m__law_work : List PyData → Res PyData := runD 2 (retS (eCall1 oSum (eComp (itSq (eOp oIx (eVar 0) (eC (.int 3)))) (.one 1) teYes (eOp oIx (eVar 1) (eC (.int 0))))))
noncomputable def m__law_need : List PyData → Res PyData := runD 11 (seqS (setS [] 4 (eOp oAdd (eCall m__law_hold (aCons (eVar 0) (aCons (eVar 1) (aCons (eVar 2) aNil)))) (eCall m__law_work (aCons (eOp oIx (eVar 0) (eVar 2)) aNil)))) (seqS (forS [] (itSq (eSlice (eVar 1) ptNo (ptSome (eTupIx (eVar 1) (eVar 2))))) (.one 5) (seqS (asgS [] (.tup [7, 8, 9, 10]) (eOp oIx (eVar 0) (eVar 5))) (seqS (setS [] 6 (eOp oAdd (eOp oDiv (eOp oAdd (eVar 3) (eVar 9)) (eVar 7)) (eCall1 oInt (eOp oGt (eOp oMod (eOp oAdd (eVar 3) (eVar 9)) (eVar 7)) (eC (.int 0)))))) (setS [] 4 (eOp oAdd (eVar 4) (eOp oMul (eVar 6) (eCall m__law_work (aCons (eOp oIx (eVar 0) (eVar 5)) aNil)))))))) (retS (eVar 4))))
noncomputable def m__law_longest : List PyData → Res PyData := runD 4 (seqS (forS [] (itR2 (eC (.int 1)) (eOp oAdd (eOp oSub (eOp oIx (eOp oIx (eVar 0) (eVar 2)) (eC (.int 0))) (eOp oIx (eOp oIx (eVar 0) (eVar 2)) (eC (.int 2)))) (eC (.int 1)))) (.one 3) (ifS (eB (eOp oLe (eCall m__law_need (aCons (eVar 0) (aCons (eVar 1) (aCons (eVar 2) (aCons (eVar 3) aNil))))) (eVar 3))) (retS (eVar 3)) nxS)) (retS (eC .none)))
noncomputable def m__law_in_time : List PyData → Res PyData := runD 4 (seqS (setS [] 3 (eCall m__law_longest (aCons (eVar 0) (aCons (eVar 1) (aCons (eVar 2) aNil))))) (retS (eAnd (eOp oIsNot (eVar 3) (eC .none)) (eOp oLe (eVar 3) (eOp oIx (eOp oIx (eVar 0) (eVar 2)) (eC (.int 1)))))))
noncomputable def m_law_k09 : List PyData → Res PyData := runD 5 (seqS (setS [] 1 (eCall m__law_errands (aCons (eVar 0) (aCons (eC (.int 8)) (aCons (eC (.int 4)) (aCons (eC (.int 28)) (aCons (eC (.bool true)) aNil))))))) (seqS (setS [] 2 (eCall m__law_ranks (aCons (eVar 0) (aCons (eC (.int 0)) (aCons (eCall1 oLen (eVar 1)) aNil))))) (seqS (forS [] (itR1 (eCall1 oLen (eVar 1))) (.one 3) (seqS (setS [] 4 (eCall m_hold (aCons (eVar 1) (aCons (eVar 2) (aCons (eVar 3) aNil))))) (ifS (teOr (eB (eCall1 isaBool (eVar 4))) (eB (eOp oNe (eVar 4) (eCall m__law_hold (aCons (eVar 1) (aCons (eVar 2) (aCons (eVar 3) aNil))))))) (retS (eC (.bool false))) nxS))) (retS (eC (.bool true))))))
noncomputable def m_often : List PyData → Res PyData := runD 2 (retS (eOp oDiv (eOp oSub (eOp oAdd (eOp oAdd (eVar 1) (eOp oIx (eVar 0) (eC (.int 2)))) (eOp oIx (eVar 0) (eC (.int 0)))) (eC (.int 1))) (eOp oIx (eVar 0) (eC (.int 0)))))
noncomputable def m_need_with : List PyData → Res PyData := runD 8 (seqS (setS [] 5 (eSlice (eVar 1) ptNo (ptSome (eTupIx (eVar 1) (eVar 2))))) (seqS (setS [] 6 (eOp oAdd (eVar 3) (eCall m_work_of (aCons (eOp oIx (eVar 0) (eVar 2)) aNil)))) (retS (eOp oAdd (eVar 6) (eCall1 oSum (eComp (itSq (eVar 5)) (.one 7) teYes (eOp oMul (eCall m_often (aCons (eOp oIx (eVar 0) (eVar 7)) (aCons (eVar 4) aNil))) (eCall m_work_of (aCons (eOp oIx (eVar 0) (eVar 7)) aNil)))))))))
noncomputable def m_levels_with : List PyData → Res PyData := runD 7 (seqS (setS [] 4 (eOp oSub (eOp oIx (eOp oIx (eVar 0) (eVar 2)) (eC (.int 0))) (eOp oIx (eOp oIx (eVar 0) (eVar 2)) (eC (.int 2))))) (seqS (newS [] 5 (nLst (aCons (eCall m_need_with (aCons (eVar 0) (aCons (eVar 1) (aCons (eVar 2) (aCons (eVar 3) (aCons (eC (.int 1)) aNil)))))) aNil))) (seqS (whileS (eB (eOp oLe (eOp oIx (eVar 5) (eUn oNeg (eC (.int 1)))) (eVar 4))) (seqS (setS [5] 6 (fun ρ => ((eCall m_need_with (aCons (eVar 0) (aCons (eVar 1) (aCons (eVar 2) (aCons (eVar 3) (aCons (eOp oIx (eVar 5) (eUn oNeg (eC (.int 1)))) aNil)))))) ρ).bind scal)) (seqS (ifS (eB (eOp oEq (eVar 6) (eOp oIx (eVar 5) (eUn oNeg (eC (.int 1)))))) (retS (eVar 5)) nxS) (appS [5] 5 (fun ρ => (eVar 6) (wipeD ρ [5])))))) (retS (eC .none)))))
noncomputable def m_levels_of : List PyData → Res PyData := runD 3 (retS (eCall m_levels_with (aCons (eVar 0) (aCons (eVar 1) (aCons (eVar 2) (aCons (eCall m_hold_of (aCons (eVar 0) (aCons (eVar 1) (aCons (eVar 2) aNil)))) aNil))))))
noncomputable def m_last_of : List PyData → Res PyData := runD 1 (seqS (ifS (eB (eOp oIs (eVar 0) (eC .none))) (retS (eC .none)) nxS) (retS (eOp oIx (eVar 0) (eUn oNeg (eC (.int 1))))))
noncomputable def m_longest_of : List PyData → Res PyData := runD 3 (retS (eCall m_last_of (aCons (eCall m_levels_of (aCons (eVar 0) (aCons (eVar 1) (aCons (eVar 2) aNil)))) aNil)))
noncomputable def m_longest : List PyData → Res PyData := runD 3 (seqS (exprS (eCall m_need_ranks (aCons (eVar 0) (aCons (eVar 1) aNil)))) (seqS (exprS (eCall m_need_errand (aCons (eVar 0) (aCons (eVar 2) aNil)))) (retS (eCall m_longest_of (aCons (eVar 0) (aCons (eVar 1) (aCons (eVar 2) aNil)))))))
noncomputable def m_is_in_time : List PyData → Res PyData := runD 4 (seqS (setS [] 3 (eCall m_longest_of (aCons (eVar 0) (aCons (eVar 1) (aCons (eVar 2) aNil))))) (retS (eAnd (eOp oIsNot (eVar 3) (eC .none)) (eOp oLe (eVar 3) (eOp oIx (eOp oIx (eVar 0) (eVar 2)) (eC (.int 1)))))))
noncomputable def m_in_time : List PyData → Res PyData := runD 3 (seqS (exprS (eCall m_need_ranks (aCons (eVar 0) (aCons (eVar 1) aNil)))) (retS (eComp (itR1 (eCall1 oLen (eVar 0))) (.one 2) (eB (eCall m_is_in_time (aCons (eVar 0) (aCons (eVar 1) (aCons (eVar 2) aNil))))) (eVar 2))))
noncomputable def m_law_k10 : List PyData → Res PyData := runD 6 (seqS (setS [] 1 (eCall m__law_errands (aCons (eVar 0) (aCons (eC (.int 8)) (aCons (eC (.int 4)) (aCons (eC (.int 28)) (aCons (eC (.bool true)) aNil))))))) (seqS (setS [] 2 (eCall m__law_ranks (aCons (eVar 0) (aCons (eC (.int 0)) (aCons (eCall1 oLen (eVar 1)) aNil))))) (seqS (forS [] (itR1 (eCall1 oLen (eVar 1))) (.one 3) (ifS (eB (eOp oNe (eCall m_longest (aCons (eVar 1) (aCons (eVar 2) (aCons (eVar 3) aNil)))) (eCall m__law_longest (aCons (eVar 1) (aCons (eVar 2) (aCons (eVar 3) aNil)))))) (retS (eC (.bool false))) nxS)) (seqS (setS [] 4 (eCall m_in_time (aCons (eVar 1) (aCons (eVar 2) aNil)))) (seqS (setS [] 5 (fun ρ => eComp (itR1 (eCall1 oLen (eVar 1))) (.one 3) (eB (eCall m__law_in_time (aCons (eVar 1) (aCons (eVar 2) (aCons (eVar 3) aNil))))) (eVar 3) (wipeD ρ []))) (retS (eAnd (eCall1 isaList (eVar 4)) (eOp oEq (eVar 4) (eVar 5)))))))))
noncomputable def m_levels : List PyData → Res PyData := runD 3 (seqS (exprS (eCall m_need_ranks (aCons (eVar 0) (aCons (eVar 1) aNil)))) (seqS (exprS (eCall m_need_errand (aCons (eVar 0) (aCons (eVar 2) aNil)))) (retS (eCall m_levels_of (aCons (eVar 0) (aCons (eVar 1) (aCons (eVar 2) aNil)))))))
noncomputable def m_law_k11 : List PyData → Res PyData := runD 10 (seqS (setS [] 1 (eCall m__law_errands (aCons (eVar 0) (aCons (eC (.int 8)) (aCons (eC (.int 4)) (aCons (eC (.int 28)) (aCons (eC (.bool true)) aNil))))))) (seqS (setS [] 2 (eCall m__law_ranks (aCons (eVar 0) (aCons (eC (.int 0)) (aCons (eCall1 oLen (eVar 1)) aNil))))) (seqS (forS [] (itR1 (eCall1 oLen (eVar 1))) (.one 3) (seqS (setS [] 4 (eCall m_levels (aCons (eVar 1) (aCons (eVar 2) (aCons (eVar 3) aNil))))) (seqS (setS [] 5 (eCall m_longest (aCons (eVar 1) (aCons (eVar 2) (aCons (eVar 3) aNil))))) (ifS (eB (eOp oIs (eVar 5) (eC .none))) (ifS (eB (eOp oIsNot (eVar 4) (eC .none))) (retS (eC (.bool false))) nxS) (seqS (ifS (teOr (teNot (eB (eCall1 isaList (eVar 4)))) (teOr (eB (eOp oEq (eVar 4) (eLst aNil))) (eB (eOp oNe (eOp oIx (eVar 4) (eUn oNeg (eC (.int 1)))) (eVar 5))))) (retS (eC (.bool false))) nxS) (seqS (setS [] 6 (eC (.int 1))) (seqS (forS [] (itEnum (eVar 4)) (.tup [7, 8]) (seqS (ifS (teOr (eB (eOp oNe (eVar 8) (eCall m__law_need (aCons (eVar 1) (aCons (eVar 2) (aCons (eVar 3) (aCons (eVar 6) aNil))))))) (teAnd (eB (eOp oGt (eVar 7) (eC (.int 0)))) (eB (eOp oLe (eVar 8) (eVar 6))))) (retS (eC (.bool false))) nxS) (setS [] 6 (eVar 8)))) (seqS (ifS (eB (eOp oNe (eCall m__law_need (aCons (eVar 1) (aCons (eVar 2) (aCons (eVar 3) (aCons (eVar 5) aNil))))) (eVar 5))) (retS (eC (.bool false))) nxS) (ifS (eB (eOp oNe (eComp (itR2 (eC (.int 1)) (eVar 5)) (.one 9) (eB (eOp oLe (eCall m__law_need (aCons (eVar 1) (aCons (eVar 2) (aCons (eVar 3) (aCons (eVar 9) aNil))))) (eVar 9))) (eVar 9)) (eLst aNil))) (retS (eC (.bool false))) nxS))))))))) (retS (eC (.bool true))))))
noncomputable def m_holder : List PyData → Res PyData := runD 9 (seqS (setS [] 3 (eCall m_hold_of (aCons (eVar 0) (aCons (eVar 1) (aCons (eVar 2) aNil))))) (seqS (setS [] 4 (eTupIx (eVar 1) (eVar 2))) (seqS (setS [] 5 (eCall m_heights_of (aCons (eVar 0) (aCons (eVar 1) aNil)))) (seqS (ifS (eB (eOp oEq (eVar 3) (eC (.int 0)))) (retS (eC .none)) nxS) (forS [] (itSq (eSlice (eVar 1) (ptSome (eOp oAdd (eVar 4) (eC (.int 1)))) ptNo)) (.one 6) (forS [] (itEnum (eOp oIx (eOp oIx (eVar 0) (eVar 6)) (eC (.int 3)))) (.tup [7, 8]) (ifS (teAnd (eB (eOp oIsNot (eOp oIx (eVar 8) (eC (.int 1))) (eC .none))) (teAnd (eB (eOp oLe (eOp oIx (eVar 5) (eOp oIx (eVar 8) (eC (.int 1)))) (eVar 4))) (eB (eOp oEq (eOp oIx (eVar 8) (eC (.int 0))) (eOp oAdd (eVar 3) (eC (.int 1))))))) (retS (eTup (aCons (eVar 6) (aCons (eVar 7) aNil)))) nxS)))))))
noncomputable def m_soonest : List PyData → Res PyData := runD 4 (seqS (newS [] 3 (nLst (aCons (eVar 1) aNil))) (seqS (whileS (eB (eOp oLe (eOp oIx (eVar 3) (eUn oNeg (eC (.int 1)))) (eVar 2))) (appS [3] 3 (fun ρ => ((eOp oAdd (eOp oSub (eVar 1) (eOp oIx (eVar 0) (eC (.int 2)))) (eOp oMul (eOp oIx (eVar 0) (eC (.int 0))) (eCall1 oLen (eVar 3)))) ρ).bind scal))) (retS (eVar 3))))
noncomputable def m_worst_run : List PyData → Res PyData := runD 10 (seqS (exprS (eCall m_need_ranks (aCons (eVar 0) (aCons (eVar 1) aNil)))) (seqS (exprS (eCall m_need_errand (aCons (eVar 0) (aCons (eVar 2) aNil)))) (seqS (newS [] 3 (eCompL (itSq (eVar 0)) (.one 8) teYes (eLst aNil))) (seqS (setS [3] 4 (fun ρ => (eC (.int 0)) (wipeD ρ [3]))) (seqS (setS [3] 5 (fun ρ => (eCall m_holder (aCons (eVar 0) (aCons (eVar 1) (aCons (eVar 2) aNil)))) (wipeD ρ [3]))) (seqS (ifS (eB (eOp oIsNot (eVar 5) (eC .none))) (seqS (putS [3] 3 (eOp oIx (eVar 5) (eC (.int 0))) (fun ρ => (eLst (aCons (eC (.int 0)) aNil)) (wipeD ρ [3]))) (setS [3] 4 (fun ρ => (eOp oAdd (eC (.int 1)) (eCall1 oSum (eComp (itSq (eSlice (eOp oIx (eOp oIx (eVar 0) (eOp oIx (eVar 5) (eC (.int 0)))) (eC (.int 3))) ptNo (ptSome (eOp oIx (eVar 5) (eC (.int 1)))))) (.one 9) teYes (eOp oIx (eVar 9) (eC (.int 0)))))) (wipeD ρ [3])))) nxS) (seqS (setS [3] 6 (fun ρ => (eCall m_longest_of (aCons (eVar 0) (aCons (eVar 1) (aCons (eVar 2) aNil)))) (wipeD ρ [3]))) (seqS (ifS (eB (eOp oIs (eVar 6) (eC .none))) (setS [3] 6 (fun ρ => (eOp oIx (eOp oIx (eVar 0) (eVar 2)) (eC (.int 0))) (wipeD ρ [3]))) nxS) (seqS (forS [3] (itSq (eSlice (eVar 1) ptNo (ptSome (eTupIx (eVar 1) (eVar 2))))) (.one 7) (putS [3] 3 (eVar 7) (fun ρ => (eSlice (eCall m_soonest (aCons (eOp oIx (eVar 0) (eVar 7)) (aCons (eVar 4) (aCons (eOp oAdd (eVar 4) (eVar 6)) aNil)))) ptNo (ptSome (eC (.int 60)))) (wipeD ρ [3])))) (seqS (putS [3] 3 (eVar 2) (fun ρ => (eLst (aCons (eVar 4) aNil)) (wipeD ρ [3]))) (retS (eTup (aCons (eVar 3) (aCons (eTup (aCons (eVar 2) (aCons (eC (.int 0)) aNil))) aNil))))))))))))))
noncomputable def m_lowest_for : List PyData → Res PyData := runD 6 (seqS (forS [] (itSq (eVar 1)) (.one 3) (seqS (setS [] 4 (eOp oCatT (eOp oCatT (eCall1 oTuple (eComp (itSq (eVar 1)) (.one 5) (eB (eOp oNe (eVar 5) (eVar 3))) (eVar 5))) (eTup (aCons (eVar 3) aNil))) (eVar 2))) (ifS (eB (eCall m_is_in_time (aCons (eVar 0) (aCons (eVar 4) (aCons (eVar 3) aNil))))) (retS (eVar 3)) nxS))) (retS (eC .none)))
noncomputable def m_sorted_out : List PyData → Res PyData := runD 4 (seqS (newS [] 1 (nR1 (eCall1 oLen (eVar 0)))) (seqS (setS [1] 2 (fun ρ => (eTup aNil) (wipeD ρ [1]))) (seqS (whileS (eB (eOp oNe (eVar 1) (eLst aNil))) (seqS (setS [1] 3 (fun ρ => ((eCall m_lowest_for (aCons (eVar 0) (aCons (eVar 1) (aCons (eVar 2) aNil)))) ρ).bind scal)) (seqS (ifS (eB (eOp oIs (eVar 3) (eC .none))) (retS (eTup (aCons (eVar 1) (aCons (eVar 2) aNil)))) nxS) (seqS (remS 1 (eVar 3)) (setS [1] 2 (fun ρ => (eOp oCatT (eTup (aCons (eVar 3) aNil)) (eVar 2)) (wipeD ρ [1]))))))) (retS (eTup (aCons (eVar 1) (aCons (eVar 2) aNil)))))))
noncomputable def m_fitting_of : List PyData → Res PyData := runD 3 (seqS (asgS [] (.tup [1, 2]) (eCall m_sorted_out (aCons (eVar 0) aNil))) (seqS (ifS (eB (eOp oNe (eVar 1) (eLst aNil))) (retS (eC .none)) nxS) (retS (eVar 2))))
noncomputable def m_fitting : List PyData → Res PyData := runD 1 (retS (eCall m_fitting_of (aCons (eCall m_checked (aCons (eVar 0) aNil)) aNil)))
noncomputable def m__law_orders : Nat → List PyData → Res PyData
  | 0 => fun _ => .bad
  | k + 1 => runD 5 (seqS (ifS (eB (eOp oEq (eVar 0) (eLst aNil))) (retS (eLst (aCons (eTup aNil) aNil))) nxS) (seqS (newS [] 1 (nLst aNil)) (seqS (forS [1] (itSq (eVar 0)) (.one 2) (extS [1] 1 (fun ρ => (eComp (itSq (eCall (m__law_orders k) (aCons (eComp (itSq (eVar 0)) (.one 4) (eB (eOp oNe (eVar 4) (eVar 2))) (eVar 4)) aNil))) (.one 3) teYes (eOp oCatT (eTup (aCons (eVar 2) aNil)) (eVar 3))) (wipeD ρ [1])))) (retS (eVar 1)))))
noncomputable def m__law_all_in_time : List PyData → Res PyData := runD 3 (retS (eOp oEq (eComp (itSq (eVar 1)) (.one 2) (teNot (eB (eCall m__law_in_time (aCons (eVar 0) (aCons (eVar 1) (aCons (eVar 2) aNil)))))) (eVar 2)) (eLst aNil)))
noncomputable def m_law_k14 : List PyData → Res PyData := runD 4 (seqS (setS [] 1 (eCall m__law_errands (aCons (eVar 0) (aCons (eC (.int 0)) (aCons (eC (.int 4)) (aCons (eC (.int 18)) (aCons (eC (.bool true)) aNil))))))) (seqS (setS [] 2 (eCall m_fitting (aCons (eVar 1) aNil))) (seqS (ifS (eB (eOp oIs (eVar 2) (eC .none))) (retS (eOp oEq (eComp (itSq (eCall (m__law_orders 8) (aCons (eLstR1 (eCall1 oLen (eVar 1))) aNil))) (.one 3) (eB (eCall m__law_all_in_time (aCons (eVar 1) (aCons (eVar 3) aNil)))) (eVar 3)) (eLst aNil))) nxS) (seqS (ifS (teOr (teNot (eB (eCall1 isaTuple (eVar 2)))) (eB (eOp oNe (eCall1 oSorted (eVar 2)) (eLstR1 (eCall1 oLen (eVar 1)))))) (retS (eC (.bool false))) nxS) (retS (eCall m__law_all_in_time (aCons (eVar 1) (aCons (eVar 2) aNil))))))))
noncomputable def m_never : List PyData → Res PyData := runD 2 (seqS (setS [] 1 (eOp oIx (eCall m_sorted_out (aCons (eCall m_checked (aCons (eVar 0) aNil)) aNil)) (eC (.int 0)))) (seqS (ifS (eB (eOp oEq (eVar 1) (eLst aNil))) (retS (eC .none)) nxS) (retS (eVar 1))))
noncomputable def m_law_k15 : List PyData → Res PyData := runD 7 (seqS (setS [] 1 (eCall m__law_errands (aCons (eVar 0) (aCons (eC (.int 0)) (aCons (eC (.int 4)) (aCons (eC (.int 18)) (aCons (eC (.bool true)) aNil))))))) (seqS (setS [] 2 (eCall m_never (aCons (eVar 1) aNil))) (seqS (ifS (eB (eOp oIsNot (eCall m_fitting (aCons (eVar 1) aNil)) (eC .none))) (retS (eOp oIs (eVar 2) (eC .none))) nxS) (seqS (setS [] 3 (eLstR1 (eCall1 oLen (eVar 1)))) (seqS (ifS (teOr (teNot (eB (eCall1 isaList (eVar 2)))) (teOr (eB (eOp oEq (eVar 2) (eLst aNil))) (eB (eOp oNe (eVar 2) (eComp (itSq (eVar 3)) (.one 6) (eB (eOp oIn (eVar 6) (eVar 2))) (eVar 6)))))) (retS (eC (.bool false))) nxS) (seqS (forS [] (itSq (eCall (m__law_orders 8) (aCons (eVar 3) aNil))) (.one 4) (seqS (setS [] 5 (eOp oIx (eComp (itSq (eVar 4)) (.one 6) (eB (eOp oIn (eVar 6) (eVar 2))) (eVar 6)) (eUn oNeg (eC (.int 1))))) (ifS (eB (eCall m__law_in_time (aCons (eVar 1) (aCons (eVar 4) (aCons (eVar 5) aNil))))) (retS (eC (.bool false))) nxS))) (retS (eC (.bool true)))))))))
noncomputable def m_why_never : List PyData → Res PyData := runD 7 (seqS (asgS [] (.tup [1, 2]) (eCall m_sorted_out (aCons (eCall m_checked (aCons (eVar 0) aNil)) aNil))) (seqS (ifS (eB (eOp oEq (eVar 1) (eLst aNil))) (retS (eC .none)) nxS) (seqS (newS [] 3 (nLst aNil)) (seqS (forS [3] (itSq (eVar 1)) (.one 4) (seqS (setS [3] 5 (fun ρ => (eOp oCatT (eOp oCatT (eCall1 oTuple (eComp (itSq (eVar 1)) (.one 6) (eB (eOp oNe (eVar 6) (eVar 4))) (eVar 6))) (eTup (aCons (eVar 4) aNil))) (eVar 2)) (wipeD ρ [3]))) (appS [3] 3 (fun ρ => (eTup (aCons (eVar 4) (aCons (eVar 5) (aCons (eCall m_longest_of (aCons (eVar 0) (aCons (eVar 5) (aCons (eVar 4) aNil)))) aNil)))) (wipeD ρ [3]))))) (retS (eVar 3))))))
noncomputable def m_law_k16 : List PyData → Res PyData := runD 10 (seqS (setS [] 1 (eCall m__law_errands (aCons (eVar 0) (aCons (eC (.int 0)) (aCons (eC (.int 4)) (aCons (eC (.int 18)) (aCons (eC (.bool true)) aNil))))))) (seqS (setS [] 2 (eCall m_never (aCons (eVar 1) aNil))) (seqS (setS [] 3 (eCall m_why_never (aCons (eVar 1) aNil))) (seqS (ifS (eB (eOp oIs (eVar 2) (eC .none))) (retS (eOp oIs (eVar 3) (eC .none))) nxS) (seqS (ifS (teOr (teNot (eB (eCall1 isaList (eVar 3)))) (eB (eOp oNe (eComp (itSq (eVar 3)) (.one 8) teYes (eOp oIx (eVar 8) (eC (.int 0)))) (eVar 2)))) (retS (eC (.bool false))) nxS) (seqS (forS [] (itSq (eVar 3)) (.tup [4, 5, 6]) (seqS (ifS (teOr (teNot (eB (eCall1 isaTuple (eVar 5)))) (eB (eOp oNe (eCall1 oSorted (eVar 5)) (eLstR1 (eCall1 oLen (eVar 1)))))) (retS (eC (.bool false))) nxS) (seqS (setS [] 7 (eSlice (eVar 5) ptNo (ptSome (eTupIx (eVar 5) (eVar 4))))) (seqS (ifS (eB (eOp oNe (eCall1 oSorted (eVar 7)) (eComp (itSq (eVar 2)) (.one 9) (eB (eOp oNe (eVar 9) (eVar 4))) (eVar 9)))) (retS (eC (.bool false))) nxS) (ifS (teOr (eB (eOp oNe (eVar 6) (eCall m__law_longest (aCons (eVar 1) (aCons (eVar 5) (aCons (eVar 4) aNil)))))) (teAnd (eB (eOp oIsNot (eVar 6) (eC .none))) (eB (eOp oLe (eVar 6) (eOp oIx (eOp oIx (eVar 1) (eVar 4)) (eC (.int 1))))))) (retS (eC (.bool false))) nxS))))) (retS (eC (.bool true)))))))))
noncomputable def m_grown : List PyData → Res PyData := runD 8 (seqS (asgS [] (.tup [3, 4, 5, 6]) (eOp oIx (eVar 0) (eVar 1))) (seqS (setS [] 7 (eTup (aCons (eOp oAdd (eOp oIx (eOp oIx (eVar 6) (eUn oNeg (eC (.int 1)))) (eC (.int 0))) (eVar 2)) (aCons (eC .none) aNil)))) (retS (eOp oCatT (eOp oCatT (eSlice (eVar 0) ptNo (ptSome (eVar 1))) (eTup (aCons (eTup (aCons (eVar 3) (aCons (eVar 4) (aCons (eVar 5) (aCons (eOp oCatT (eSlice (eVar 6) ptNo (ptSome (eUn oNeg (eC (.int 1))))) (eTup (aCons (eVar 7) aNil))) aNil))))) aNil))) (eSlice (eVar 0) (ptSome (eOp oAdd (eVar 1) (eC (.int 1)))) ptNo)))))
noncomputable def m_all_in_time : List PyData → Res PyData := runD 3 (retS (eCall1 oAll (eComp (itR1 (eCall1 oLen (eVar 0))) (.one 2) teYes (eCall m_is_in_time (aCons (eVar 0) (aCons (eVar 1) (aCons (eVar 2) aNil)))))))
noncomputable def m_spare : List PyData → Res PyData := runD 4 (seqS (exprS (eCall m_need_ranks (aCons (eVar 0) (aCons (eVar 1) aNil)))) (seqS (exprS (eCall m_need_errand (aCons (eVar 0) (aCons (eVar 2) aNil)))) (seqS (ifS (teNot (eB (eCall m_all_in_time (aCons (eVar 0) (aCons (eVar 1) aNil))))) (retS (eC .none)) nxS) (seqS (setS [] 3 (eC (.int 0))) (seqS (whileS (eB (eCall m_all_in_time (aCons (eCall m_grown (aCons (eVar 0) (aCons (eVar 2) (aCons (eOp oAdd (eVar 3) (eC (.int 1))) aNil)))) (aCons (eVar 1) aNil)))) (setS [] 3 (eOp oAdd (eVar 3) (eC (.int 1))))) (retS (eVar 3)))))))
noncomputable def m__law_grown : List PyData → Res PyData := runD 8 (seqS (asgS [] (.tup [3, 4, 5, 6]) (eOp oIx (eVar 0) (eVar 1))) (seqS (setS [] 7 (eTup (aCons (eVar 3) (aCons (eVar 4) (aCons (eVar 5) (aCons (eOp oCatT (eSlice (eVar 6) ptNo (ptSome (eUn oNeg (eC (.int 1))))) (eTup (aCons (eTup (aCons (eOp oAdd (eOp oIx (eOp oIx (eVar 6) (eUn oNeg (eC (.int 1)))) (eC (.int 0))) (eVar 2)) (aCons (eC .none) aNil))) aNil))) aNil)))))) (retS (eOp oCatT (eOp oCatT (eSlice (eVar 0) ptNo (ptSome (eVar 1))) (eTup (aCons (eVar 7) aNil))) (eSlice (eVar 0) (ptSome (eOp oAdd (eVar 1) (eC (.int 1)))) ptNo)))))
noncomputable def m_law_k17 : List PyData → Res PyData := runD 5 (seqS (setS [] 1 (eCall m__law_errands (aCons (eVar 0) (aCons (eC (.int 8)) (aCons (eC (.int 4)) (aCons (eC (.int 18)) (aCons (eC (.bool true)) aNil))))))) (seqS (setS [] 2 (eCall m__law_ranks (aCons (eVar 0) (aCons (eC (.int 0)) (aCons (eCall1 oLen (eVar 1)) aNil))))) (seqS (ifS (teAnd (eB (eOp oGt (eCall m__law_mixed (aCons (eVar 0) (aCons (eC (.int 6)) (aCons (eC (.int 4)) aNil)))) (eC (.int 0)))) (eB (eOp oIsNot (eCall m_fitting (aCons (eVar 1) aNil)) (eC .none)))) (setS [] 2 (eCall m_fitting (aCons (eVar 1) aNil))) nxS) (seqS (forS [] (itR1 (eCall1 oLen (eVar 1))) (.one 3) (seqS (setS [] 4 (eCall m_spare (aCons (eVar 1) (aCons (eVar 2) (aCons (eVar 3) aNil))))) (ifS (teNot (eB (eCall m__law_all_in_time (aCons (eVar 1) (aCons (eVar 2) aNil))))) (ifS (eB (eOp oIsNot (eVar 4) (eC .none))) (retS (eC (.bool false))) nxS) (seqS (ifS (teOr (eB (eCall1 isaBool (eVar 4))) (teOr (teNot (eB (eCall1 isaInt (eVar 4)))) (eB (eOp oLt (eVar 4) (eC (.int 0)))))) (retS (eC (.bool false))) nxS) (seqS (ifS (teNot (eB (eCall m__law_all_in_time (aCons (eCall m__law_grown (aCons (eVar 1) (aCons (eVar 3) (aCons (eVar 4) aNil)))) (aCons (eVar 2) aNil))))) (retS (eC (.bool false))) nxS) (ifS (eB (eCall m__law_all_in_time (aCons (eCall m__law_grown (aCons (eVar 1) (aCons (eVar 3) (aCons (eOp oAdd (eVar 4) (eC (.int 1))) aNil)))) (aCons (eVar 2) aNil)))) (retS (eC (.bool false))) nxS)))))) (retS (eC (.bool true)))))))
noncomputable def m_bundles : List PyData → Res PyData := runD 7 (seqS (setS [] 1 (fun ρ => eComp (itR1 (eCall1 oLen (eVar 0))) (.one 6) teYes (eLst (aCons (eVar 6) aNil)) (wipeD ρ []))) (seqS (forS [] (itR1 (eC (.int 4))) (.one 2) (seqS (setS [] 3 (eComp (itSq (eVar 1)) (.one 5) (eB (eCall1 oAny (eComp (itSq (eVar 5)) (.one 6) teYes (eCall m_has_tool (aCons (eOp oIx (eVar 0) (eVar 6)) (aCons (eVar 2) aNil)))))) (eVar 5))) (ifS (eB (eOp oGt (eCall1 oLen (eVar 3)) (eC (.int 1)))) (seqS (newS [] 4 (nLst aNil)) (seqS (forS [4] (itSq (eVar 3)) (.one 5) (extS [4] 4 (fun ρ => (eVar 5) (wipeD ρ [4])))) (setS [] 1 (eCall1 oSortedR (eOp oCatL (eComp (itSq (eVar 1)) (.one 5) (eB (eOp oNotIn (eVar 5) (eVar 3))) (eVar 5)) (eLst (aCons (eCall1 oSorted (eVar 4)) aNil))))))) nxS))) (retS (eVar 1))))
noncomputable def m_fits : List PyData → Res PyData := runD 3 (retS (eOr (eOp oEq (eVar 1) (eLst aNil)) (eOp oIsNot (eCall m_fitting_of (aCons (eCall1 oTuple (eComp (itSq (eVar 1)) (.one 2) teYes (eOp oIx (eVar 0) (eVar 2)))) aNil)) (eC .none))))
noncomputable def m_dealt_on : Nat → List PyData → Res PyData
  | 0 => fun _ => .bad
  | k + 1 => runD 6 (seqS (ifS (eB (eOp oEq (eVar 1) (eLst aNil))) (retS (eVar 2)) nxS) (seqS (forS [] (itR1 (eCall1 oLen (eVar 2))) (.one 3) (seqS (setS [] 4 (eCall1 oSorted (eOp oCatL (eOp oIx (eVar 2) (eVar 3)) (eOp oIx (eVar 1) (eC (.int 0)))))) (ifS (teAnd (eB (eOp oNotIn (eOp oIx (eVar 2) (eVar 3)) (eSlice (eVar 2) ptNo (ptSome (eVar 3))))) (eB (eCall m_fits (aCons (eVar 0) (aCons (eVar 4) aNil))))) (seqS (setS [] 5 (eCall (m_dealt_on k) (aCons (eVar 0) (aCons (eSlice (eVar 1) (ptSome (eC (.int 1))) ptNo) (aCons (eOp oCatL (eOp oCatL (eSlice (eVar 2) ptNo (ptSome (eVar 3))) (eLst (aCons (eVar 4) aNil))) (eSlice (eVar 2) (ptSome (eOp oAdd (eVar 3) (eC (.int 1)))) ptNo)) aNil))))) (ifS (eB (eOp oIsNot (eVar 5) (eC .none))) (retS (eVar 5)) nxS)) nxS))) (retS (eC .none))))
noncomputable def m_dealing_of : List PyData → Res PyData := runD 3 (retS (eCall (m_dealt_on 8) (aCons (eVar 0) (aCons (eCall m_bundles (aCons (eVar 0) aNil)) (aCons (eComp (itR1 (eVar 1)) (.one 2) teYes (eLst aNil)) aNil)))))
noncomputable def m_dealt : List PyData → Res PyData := runD 2 (seqS (exprS (eCall m_checked (aCons (eVar 0) aNil))) (seqS (ifS (teNot (eB (eCall m_between (aCons (eVar 1) (aCons (eC (.int 1)) (aCons (eC (.int 4)) aNil)))))) (raiseS "NoNumber") nxS) (retS (eCall m_dealing_of (aCons (eVar 0) (aCons (eVar 1) aNil))))))
noncomputable def m__law_is_dealing : List PyData → Res PyData := runD 8 (seqS (forS [] (itSq (eVar 1)) (.one 2) (seqS (ifS (teAnd (eB (eOp oNe (eVar 2) (eLst aNil))) (eB (eOp oIs (eCall m_fitting (aCons (eCall1 oTuple (eComp (itSq (eVar 2)) (.one 4) teYes (eOp oIx (eVar 0) (eVar 4)))) aNil)) (eC .none)))) (retS (eC (.bool false))) nxS) (forS [] (itR1 (eCall1 oLen (eVar 0))) (.one 3) (ifS (eB (eOp oNotIn (eVar 3) (eVar 2))) (forS [] (itSq (eVar 2)) (.one 4) (seqS (setS [] 5 (eComp (itSq (eOp oIx (eOp oIx (eVar 0) (eVar 4)) (eC (.int 3)))) (.tup [6, 7]) (eB (eOp oIsNot (eVar 7) (eC .none))) (eVar 7))) (ifS (eB (eOp oNe (eComp (itSq (eOp oIx (eOp oIx (eVar 0) (eVar 3)) (eC (.int 3)))) (.tup [6, 7]) (eB (eOp oIn (eVar 7) (eVar 5))) (eVar 7)) (eLst aNil))) (retS (eC (.bool false))) nxS))) nxS)))) (retS (eC (.bool true))))
noncomputable def m__law_dealings : List PyData → Res PyData := runD 9 (seqS (setS [] 2 (eLst (aCons (eComp (itR1 (eVar 1)) (.one 6) teYes (eLst aNil)) aNil))) (seqS (forS [] (itR1 (eVar 0)) (.one 3) (seqS (newS [] 4 (nLst aNil)) (seqS (forS [4] (itSq (eVar 2)) (.one 5) (forS [4] (itR1 (eVar 1)) (.one 6) (appS [4] 4 (fun ρ => (eComp (itEnum (eVar 5)) (.tup [7, 8]) teYes (eOp oCatL (eVar 8) (eRep (nLst (aCons (eVar 3) aNil)) (eCall1 oInt (eOp oEq (eVar 7) (eVar 6)))))) (wipeD ρ [4]))))) (setS [] 2 (eVar 4))))) (retS (eVar 2))))
noncomputable def m_law_k18 : List PyData → Res PyData := runD 7 (seqS (setS [] 1 (eCall m__law_errands (aCons (eVar 0) (aCons (eC (.int 2)) (aCons (eC (.int 4)) (aCons (eC (.int 18)) (aCons (eC (.bool true)) aNil))))))) (seqS (setS [] 2 (eOp oAdd (eC (.int 1)) (eCall m__law_mixed (aCons (eVar 0) (aCons (eC (.int 0)) (aCons (eC (.int 3)) aNil)))))) (seqS (setS [] 3 (eCall m_dealt (aCons (eVar 1) (aCons (eVar 2) aNil)))) (seqS (ifS (eB (eOp oIs (eVar 3) (eC .none))) (retS (eOp oEq (eComp (itSq (eCall m__law_dealings (aCons (eCall1 oLen (eVar 1)) (aCons (eVar 2) aNil)))) (.one 6) (eB (eCall m__law_is_dealing (aCons (eVar 1) (aCons (eVar 6) aNil)))) (eVar 6)) (eLst aNil))) nxS) (seqS (ifS (teOr (teNot (eB (eCall1 isaList (eVar 3)))) (eB (eOp oNe (eCall1 oLen (eVar 3)) (eVar 2)))) (retS (eC (.bool false))) nxS) (seqS (forS [] (itSq (eVar 3)) (.one 4) (ifS (teOr (teNot (eB (eCall1 isaList (eVar 4)))) (eB (eOp oNe (eVar 4) (eCall1 oSorted (eVar 4))))) (retS (eC (.bool false))) nxS)) (seqS (newS [] 5 (nLst aNil)) (seqS (forS [5] (itSq (eVar 3)) (.one 4) (extS [5] 5 (fun ρ => (eVar 4) (wipeD ρ [5])))) (retS (eAnd (eOp oEq (eCall1 oSorted (eVar 5)) (eLstR1 (eCall1 oLen (eVar 1)))) (eCall m__law_is_dealing (aCons (eVar 1) (aCons (eVar 3) aNil)))))))))))))
noncomputable def m_fewest_hands : List PyData → Res PyData := runD 2 (seqS (exprS (eCall m_checked (aCons (eVar 0) aNil))) (seqS (forS [] (itR2 (eC (.int 1)) (eOp oAdd (eC (.int 4)) (eC (.int 1)))) (.one 1) (ifS (eB (eOp oIsNot (eCall m_dealing_of (aCons (eVar 0) (aCons (eVar 1) aNil))) (eC .none))) (retS (eVar 1)) nxS)) (retS (eC .none))))
noncomputable def m__law_refused_k19 : List PyData → Res PyData := runD 3 (seqS (tryRetS "NoNumber" 2 (.bool true) (exprS (eCall m_dealt (aCons (eVar 0) (aCons (eVar 1) aNil))))) (retS (eC (.bool false))))
noncomputable def m_law_k19 : List PyData → Res PyData := runD 4 (seqS (setS [] 1 (eCall m__law_errands (aCons (eVar 0) (aCons (eC (.int 2)) (aCons (eC (.int 4)) (aCons (eC (.int 18)) (aCons (eC (.bool true)) aNil))))))) (seqS (setS [] 2 (fun ρ => eComp (itR2 (eC (.int 1)) (eC (.int 5))) (.one 3) (eB (eOp oIsNot (eCall m_dealt (aCons (eVar 1) (aCons (eVar 3) aNil))) (eC .none))) (eVar 3) (wipeD ρ []))) (seqS (ifS (eB (eOp oNe (eCall m_fewest_hands (aCons (eVar 1) aNil)) (eOp oIx (eOp oCatL (eVar 2) (eLst (aCons (eC .none) aNil))) (eC (.int 0))))) (retS (eC (.bool false))) nxS) (seqS (ifS (teAnd (eB (eOp oNe (eVar 2) (eLst aNil))) (eB (eOp oNe (eVar 2) (eLstR2 (eOp oIx (eVar 2) (eC (.int 0))) (eC (.int 5)))))) (retS (eC (.bool false))) nxS) (retS (eCall m__law_refused_k19 (aCons (eVar 1) (aCons (eOp oIx (eLst (aCons (eC (.int 0)) (aCons (eC (.int 5)) (aCons (eC (.bool true)) (aCons (eC .none) (aCons (eC (.str "2")) (aCons (eUn oNeg (eC (.int 1))) aNil))))))) (eCall m__law_mixed (aCons (eVar 0) (aCons (eC (.int 0)) (aCons (eC (.int 6)) aNil))))) aNil))))))))
noncomputable def m__law_no_longer : List PyData → Res PyData := runD 2 (retS (eOr (eOp oIs (eVar 1) (eC .none)) (eAnd (eOp oIsNot (eVar 0) (eC .none)) (eOp oLe (eVar 0) (eVar 1)))))
noncomputable def m_law_k20 : List PyData → Res PyData := runD 6 (seqS (setS [] 1 (eCall m__law_errands (aCons (eVar 0) (aCons (eC (.int 10)) (aCons (eC (.int 4)) (aCons (eC (.int 28)) (aCons (eC (.bool true)) aNil))))))) (seqS (setS [] 2 (eCall m__law_ranks (aCons (eVar 0) (aCons (eC (.int 0)) (aCons (eCall1 oLen (eVar 1)) aNil))))) (seqS (ifS (eB (eOp oEq (eCall1 oLen (eVar 2)) (eC (.int 1)))) (retS (eC (.bool true))) nxS) (seqS (setS [] 3 (eCall m__law_mixed (aCons (eVar 0) (aCons (eC (.int 6)) (aCons (eOp oSub (eCall1 oLen (eVar 2)) (eC (.int 1))) aNil))))) (seqS (setS [] 4 (eOp oCatT (eOp oCatT (eSlice (eVar 2) ptNo (ptSome (eVar 3))) (eTup (aCons (eOp oIx (eVar 2) (eOp oAdd (eVar 3) (eC (.int 1)))) (aCons (eOp oIx (eVar 2) (eVar 3)) aNil)))) (eSlice (eVar 2) (ptSome (eOp oAdd (eVar 3) (eC (.int 2)))) ptNo))) (seqS (ifS (teNot (eB (eCall m__law_no_longer (aCons (eCall m_longest (aCons (eVar 1) (aCons (eVar 4) (aCons (eOp oIx (eVar 2) (eOp oAdd (eVar 3) (eC (.int 1)))) aNil)))) (aCons (eCall m_longest (aCons (eVar 1) (aCons (eVar 2) (aCons (eOp oIx (eVar 2) (eOp oAdd (eVar 3) (eC (.int 1)))) aNil)))) aNil))))) (retS (eC (.bool false))) nxS) (seqS (ifS (teNot (eB (eCall m__law_no_longer (aCons (eCall m_longest (aCons (eVar 1) (aCons (eVar 2) (aCons (eOp oIx (eVar 2) (eVar 3)) aNil)))) (aCons (eCall m_longest (aCons (eVar 1) (aCons (eVar 4) (aCons (eOp oIx (eVar 2) (eVar 3)) aNil)))) aNil))))) (retS (eC (.bool false))) nxS) (seqS (forS [] (itSq (eOp oCatT (eSlice (eVar 2) ptNo (ptSome (eVar 3))) (eSlice (eVar 2) (ptSome (eOp oAdd (eVar 3) (eC (.int 2)))) ptNo))) (.one 5) (seqS (ifS (eB (eOp oNe (eCall m_longest (aCons (eVar 1) (aCons (eVar 4) (aCons (eVar 5) aNil)))) (eCall m_longest (aCons (eVar 1) (aCons (eVar 2) (aCons (eVar 5) aNil)))))) (retS (eC (.bool false))) nxS) (ifS (eB (eOp oNe (eCall m_hold (aCons (eVar 1) (aCons (eVar 4) (aCons (eVar 5) aNil)))) (eCall m_hold (aCons (eVar 1) (aCons (eVar 2) (aCons (eVar 5) aNil)))))) (retS (eC (.bool false))) nxS))) (retS (eC (.bool true)))))))))))
noncomputable def m__law_with : List PyData → Res PyData := runD 3 (retS (eOp oCatT (eOp oCatT (eSlice (eVar 0) ptNo (ptSome (eVar 1))) (eTup (aCons (eVar 2) aNil))) (eSlice (eVar 0) (ptSome (eOp oAdd (eVar 1) (eC (.int 1)))) ptNo)))
noncomputable def m_law_k21 : List PyData → Res PyData := runD 14 (seqS (setS [] 1 (eCall m__law_errands (aCons (eVar 0) (aCons (eC (.int 12)) (aCons (eC (.int 4)) (aCons (eC (.int 28)) (aCons (eC (.bool true)) aNil))))))) (seqS (setS [] 2 (eCall m__law_ranks (aCons (eVar 0) (aCons (eC (.int 0)) (aCons (eCall1 oLen (eVar 1)) aNil))))) (seqS (setS [] 3 (eCall m__law_mixed (aCons (eVar 0) (aCons (eC (.int 6)) (aCons (eCall1 oLen (eVar 1)) aNil))))) (seqS (asgS [] (.tup [4, 5, 6, 7]) (eOp oIx (eVar 1) (eVar 3))) (seqS (setS [] 8 (eCall m__law_with (aCons (eVar 1) (aCons (eVar 3) (aCons (eTup (aCons (eOp oAdd (eOp oAdd (eVar 4) (eC (.int 1))) (eCall m__law_mixed (aCons (eVar 0) (aCons (eC (.int 7)) (aCons (eC (.int 9)) aNil))))) (aCons (eVar 5) (aCons (eVar 6) (aCons (eVar 7) aNil))))) aNil))))) (seqS (setS [] 9 (eCall m__law_mixed (aCons (eVar 0) (aCons (eC (.int 8)) (aCons (eCall1 oLen (eVar 7)) aNil))))) (seqS (setS [] 10 (eTup (aCons (eCall2 oMax (eC (.int 1)) (eOp oSub (eOp oIx (eOp oIx (eVar 7) (eVar 9)) (eC (.int 0))) (eC (.int 1)))) (aCons (eOp oIx (eOp oIx (eVar 7) (eVar 9)) (eC (.int 1))) aNil)))) (seqS (setS [] 11 (eCall m__law_with (aCons (eVar 1) (aCons (eVar 3) (aCons (eTup (aCons (eVar 4) (aCons (eVar 5) (aCons (eVar 6) (aCons (eOp oCatT (eOp oCatT (eSlice (eVar 7) ptNo (ptSome (eVar 9))) (eTup (aCons (eVar 10) aNil))) (eSlice (eVar 7) (ptSome (eOp oAdd (eVar 9) (eC (.int 1)))) ptNo)) aNil))))) aNil))))) (seqS (forS [] (itR1 (eCall1 oLen (eVar 1))) (.one 12) (seqS (setS [] 13 (eCall m_longest (aCons (eVar 1) (aCons (eVar 2) (aCons (eVar 12) aNil))))) (seqS (ifS (teNot (eB (eCall m__law_no_longer (aCons (eCall m_longest (aCons (eVar 8) (aCons (eVar 2) (aCons (eVar 12) aNil)))) (aCons (eVar 13) aNil))))) (retS (eC (.bool false))) nxS) (ifS (teNot (eB (eCall m__law_no_longer (aCons (eCall m_longest (aCons (eVar 11) (aCons (eVar 2) (aCons (eVar 12) aNil)))) (aCons (eVar 13) aNil))))) (retS (eC (.bool false))) nxS)))) (retS (eC (.bool true))))))))))))
noncomputable def m__law_taken : List PyData → Res PyData := runD 8 (seqS (newS [] 2 (nLst aNil)) (seqS (forS [2] (itSq (eVar 0)) (.tup [3, 4, 5, 6]) (appS [2] 2 (fun ρ => (eTup (aCons (eOp oMul (eVar 3) (eVar 1)) (aCons (eOp oMul (eVar 4) (eVar 1)) (aCons (eOp oMul (eVar 5) (eVar 1)) (aCons (eCall1 oTuple (eComp (itSq (eVar 6)) (.one 7) teYes (eTup (aCons (eOp oMul (eOp oIx (eVar 7) (eC (.int 0))) (eVar 1)) (aCons (eC .none) aNil))))) aNil))))) (wipeD ρ [2])))) (retS (eCall1 oTuple (eVar 2)))))
noncomputable def m_law_k23 : List PyData → Res PyData := runD 9 (seqS (setS [] 1 (eCall m__law_errands (aCons (eVar 0) (aCons (eC (.int 12)) (aCons (eC (.int 4)) (aCons (eC (.int 18)) (aCons (eC (.bool true)) aNil))))))) (seqS (setS [] 2 (eCall1 oLen (eVar 1))) (seqS (setS [] 3 (eCall m__law_ranks (aCons (eVar 0) (aCons (eC (.int 0)) (aCons (eVar 2) aNil))))) (seqS (setS [] 4 (eCall m__law_ranks (aCons (eVar 0) (aCons (eC (.int 6)) (aCons (eVar 2) aNil))))) (seqS (setS [] 5 (eCall1 oTuple (eComp (itSq (eVar 4)) (.one 7) teYes (eOp oIx (eVar 1) (eVar 7))))) (seqS (setS [] 6 (eCall1 oTuple (eComp (itSq (eVar 3)) (.one 7) teYes (eTupIx (eVar 4) (eVar 7))))) (seqS (forS [] (itR1 (eVar 2)) (.one 7) (seqS (setS [] 8 (eTupIx (eVar 4) (eVar 7))) (seqS (ifS (eB (eOp oNe (eCall m_longest (aCons (eVar 5) (aCons (eVar 6) (aCons (eVar 8) aNil)))) (eCall m_longest (aCons (eVar 1) (aCons (eVar 3) (aCons (eVar 7) aNil)))))) (retS (eC (.bool false))) nxS) (seqS (ifS (eB (eOp oNe (eCall m_hold (aCons (eVar 5) (aCons (eVar 6) (aCons (eVar 8) aNil)))) (eCall m_hold (aCons (eVar 1) (aCons (eVar 3) (aCons (eVar 7) aNil)))))) (retS (eC (.bool false))) nxS) (ifS (eB (eOp oNe (eCall m_spare (aCons (eVar 5) (aCons (eVar 6) (aCons (eVar 8) aNil)))) (eCall m_spare (aCons (eVar 1) (aCons (eVar 3) (aCons (eVar 7) aNil)))))) (retS (eC (.bool false))) nxS))))) (seqS (ifS (eB (eOp oNe (eOp oIs (eCall m_fitting (aCons (eVar 5) aNil)) (eC .none)) (eOp oIs (eCall m_fitting (aCons (eVar 1) aNil)) (eC .none)))) (retS (eC (.bool false))) nxS) (retS (eOp oEq (eCall m_fewest_hands (aCons (eVar 5) aNil)) (eCall m_fewest_hands (aCons (eVar 1) aNil))))))))))))
noncomputable def m_part_text : List PyData → Res PyData := runD 1 (seqS (ifS (eB (eOp oIs (eOp oIx (eVar 0) (eC (.int 1))) (eC .none))) (retS (eCall1 oStr (eOp oIx (eVar 0) (eC (.int 0))))) nxS) (retS (eOp oCatS (eOp oCatS (eCall1 oStr (eOp oIx (eVar 0) (eC (.int 0)))) (eC (.str "*"))) (eCall1 oStr (eOp oIx (eVar 0) (eC (.int 1)))))))
noncomputable def m_number_of : List PyData → Res PyData := runD 2 (seqS (ifS (teOr (teNot (eChain oLe oLe (eC (.int 1)) (eCall1 oLen (eVar 0)) (eC (.int 2)))) (teNot (eB (eCall1 oAll (eComp (itSq (eVar 0)) (.one 1) teYes (eOp oIn (eVar 1) (eC (.str "0123456789")))))))) (raiseS "NoText") nxS) (retS (eCall1 oInt (eVar 0))))
noncomputable def m__law_spoilt_text : List PyData → Res PyData := runD 6 (seqS (setS [] 3 (eOp oMod (eVar 1) (eOp oAdd (eCall1 oLen (eVar 0)) (eC (.int 1))))) (seqS (setS [] 4 (eOp oIx (eC (.str " *\n0123456789-+.aN 1*0")) (eOp oMod (eOp oDiv (eVar 1) (eC (.int 1000))) (eC (.int 22))))) (seqS (setS [] 5 (eOp oMod (eOp oDiv (eVar 1) (eC (.int 40000))) (eC (.int 6)))) (seqS (ifS (eB (eOp oEq (eVar 5) (eC (.int 0)))) (retS (eOp oAdd (eOp oAdd (eSlice (eVar 0) ptNo (ptSome (eVar 3))) (eVar 4)) (eSlice (eVar 0) (ptSome (eVar 3)) ptNo))) nxS) (seqS (ifS (eB (eOp oEq (eVar 5) (eC (.int 1)))) (retS (eOp oAdd (eSlice (eVar 0) ptNo (ptSome (eVar 3))) (eSlice (eVar 0) (ptSome (eOp oAdd (eVar 3) (eC (.int 1)))) ptNo))) nxS) (seqS (ifS (eB (eOp oEq (eVar 5) (eC (.int 2)))) (retS (eOp oAdd (eOp oAdd (eSlice (eVar 0) ptNo (ptSome (eVar 3))) (eVar 4)) (eSlice (eVar 0) (ptSome (eOp oAdd (eVar 3) (eC (.int 1)))) ptNo))) nxS) (seqS (ifS (eB (eOp oEq (eVar 5) (eC (.int 3)))) (retS (eOp oAdd (eSlice (eVar 0) ptNo (ptSome (eVar 3))) (eSlice (eVar 0) (ptSome (eOp oAdd (eVar 3) (eOp oMod (eOp oDiv (eVar 1) (eC (.int 7))) (eC (.int 9))))) ptNo))) nxS) (seqS (ifS (eB (eOp oEq (eVar 5) (eC (.int 4)))) (retS (eOp oIx (eLst (aCons (eOp oAdd (eVar 0) (eVar 0)) (aCons (eOp oAdd (eSlice (eVar 0) (ptSome (eVar 3)) ptNo) (eSlice (eVar 0) ptNo (ptSome (eVar 3)))) (aCons (eOp oCatS (eC (.str " ")) (eVar 0)) (aCons (eOp oCatS (eVar 0) (eC (.str " "))) aNil))))) (eOp oMod (eVar 1) (eC (.int 4))))) nxS) (retS (eOp oIx (eOp oCatL (eVar 2) (eLst (aCons (eC .none) (aCons (eC (.int 5)) (aCons (eLst (aCons (eVar 0) aNil)) (aCons (eC (.str "")) aNil)))))) (eOp oMod (eVar 1) (eOp oAdd (eCall1 oLen (eVar 2)) (eC (.int 4))))))))))))))
noncomputable def m__law_number : List PyData → Res PyData := runD 2 (seqS (ifS (eB (eOp oNotIn (eVar 0) (eComp (itR1 (eC (.int 100))) (.one 1) teYes (eCall1 oStr (eVar 1))))) (retS (eUn oNeg (eC (.int 1)))) nxS) (retS (eCall1 oInt (eVar 0))))
noncomputable def m_stretch : List PyData → Res PyData := runD 4 (seqS (exprS (eCall m_checked (aCons (eVar 0) aNil))) (seqS (setS [] 1 (eC (.int 1))) (seqS (whileS (eB (eOp oLe (eVar 1) (eC (.int 9999)))) (seqS (setS [] 2 (eCall1 oSum (eComp (itSq (eVar 0)) (.one 3) teYes (eOp oMul (eCall m_often (aCons (eVar 3) (aCons (eOp oAdd (eVar 1) (eC (.int 1))) aNil))) (eCall m_work_of (aCons (eVar 3) aNil)))))) (seqS (ifS (eB (eOp oEq (eVar 2) (eVar 1))) (retS (eVar 1)) nxS) (setS [] 1 (eVar 2))))) (retS (eC .none)))))
noncomputable def m_divisor : List PyData → Res PyData := runD 3 (seqS (whileS (eB (eOp oGt (eVar 1) (eC (.int 0)))) (seqS (setS [] 2 (eOp oMod (eVar 0) (eVar 1))) (seqS (setS [] 0 (eVar 1)) (setS [] 1 (eVar 2))))) (retS (eVar 0)))
noncomputable def m_whole_round : List PyData → Res PyData := runD 3 (seqS (setS [] 1 (eC (.int 1))) (seqS (forS [] (itSq (eVar 0)) (.one 2) (setS [] 1 (eOp oDiv (eOp oMul (eVar 1) (eOp oIx (eVar 2) (eC (.int 0)))) (eCall m_divisor (aCons (eVar 1) (aCons (eOp oIx (eVar 2) (eC (.int 0))) aNil)))))) (seqS (ifS (eB (eOp oGt (eVar 1) (eC (.int 2000)))) (raiseS "TooLong") nxS) (retS (eVar 1)))))
noncomputable def m_round_of : List PyData → Res PyData := runD 1 (retS (eCall m_whole_round (aCons (eCall m_checked (aCons (eVar 0) aNil)) aNil)))
noncomputable def m_need_calendar : List PyData → Res PyData := runD 3 (seqS (ifS (teOr (teNot (eB (eCall1 isaTuple (eVar 1)))) (eB (eOp oNe (eCall1 oLen (eVar 1)) (eCall1 oLen (eVar 0))))) (raiseS "NoComings") nxS) (ifS (teNot (eB (eCall1 oAll (eComp (itSq (eVar 1)) (.one 2) teYes (eCall m_between (aCons (eVar 2) (aCons (eC (.int 0)) (aCons (eC (.int 999)) aNil)))))))) (raiseS "NoComings") nxS))
noncomputable def m_Diary_key : List PyData → Res PyData := runD 5 (seqS (newS [] 2 (nLst aNil)) (seqS (forS [2] (itSq (eFld "Hand" "queues" (eFld "Diary" "hand" (eVar 0)))) (.one 3) (appS [2] 2 (fun ρ => (eCall1 oTuple (eComp (itSq (eVar 3)) (.one 4) teYes (eTup (aCons (eOp oSub (eVar 1) (eFld "Job" "come" (eVar 4))) (aCons (eFld "Job" "part" (eVar 4)) (aCons (eFld "Job" "spent" (eVar 4)) aNil)))))) (wipeD ρ [2])))) (retS (eCall1 oTuple (eVar 2)))))
noncomputable def m_faster : List PyData → Res PyData := runD 7 (seqS (asgS [] (.tup [3, 4, 5, 6]) (eOp oIx (eVar 0) (eVar 1))) (retS (eOp oCatT (eOp oCatT (eSlice (eVar 0) ptNo (ptSome (eVar 1))) (eTup (aCons (eTup (aCons (eOp oSub (eVar 3) (eVar 2)) (aCons (eVar 4) (aCons (eVar 5) (aCons (eVar 6) aNil))))) aNil))) (eSlice (eVar 0) (ptSome (eOp oAdd (eVar 1) (eC (.int 1)))) ptNo))))
noncomputable def m_rush : List PyData → Res PyData := runD 5 (seqS (exprS (eCall m_need_ranks (aCons (eVar 0) (aCons (eVar 1) aNil)))) (seqS (exprS (eCall m_need_errand (aCons (eVar 0) (aCons (eVar 2) aNil)))) (seqS (ifS (teNot (eB (eCall m_all_in_time (aCons (eVar 0) (aCons (eVar 1) aNil))))) (retS (eC .none)) nxS) (seqS (setS [] 3 (eOp oSub (eOp oIx (eOp oIx (eVar 0) (eVar 2)) (eC (.int 0))) (eCall2 oMax (eC (.int 2)) (eOp oAdd (eOp oIx (eOp oIx (eVar 0) (eVar 2)) (eC (.int 1))) (eOp oIx (eOp oIx (eVar 0) (eVar 2)) (eC (.int 2))))))) (seqS (setS [] 4 (eC (.int 0))) (seqS (whileS (teAnd (eB (eOp oLt (eVar 4) (eVar 3))) (eB (eCall m_all_in_time (aCons (eCall m_faster (aCons (eVar 0) (aCons (eVar 2) (aCons (eOp oAdd (eVar 4) (eC (.int 1))) aNil)))) (aCons (eVar 1) aNil))))) (setS [] 4 (eOp oAdd (eVar 4) (eC (.int 1))))) (retS (eVar 4))))))))
noncomputable def m_sooner : List PyData → Res PyData := runD 7 (seqS (ifS (eB (eCall1 oAny (eComp (itSq (eVar 0)) (.one 2) teYes (eOp oLt (eOp oSub (eOp oIx (eVar 2) (eC (.int 1))) (eVar 1)) (eC (.int 1)))))) (retS (eC .none)) nxS) (retS (eCall1 oTuple (eComp (itSq (eVar 0)) (.tup [3, 4, 5, 6]) teYes (eTup (aCons (eVar 3) (aCons (eOp oSub (eVar 4) (eVar 1)) (aCons (eVar 5) (aCons (eVar 6) aNil)))))))))
noncomputable def m_roomiest : List PyData → Res PyData := runD 3 (seqS (setS [] 1 (eCall m_fitting_of (aCons (eCall m_checked (aCons (eVar 0) aNil)) aNil))) (seqS (ifS (eB (eOp oIs (eVar 1) (eC .none))) (retS (eC .none)) nxS) (seqS (setS [] 2 (eC (.int 0))) (seqS (whileS (teAnd (eB (eOp oIsNot (eCall m_sooner (aCons (eVar 0) (aCons (eOp oAdd (eVar 2) (eC (.int 1))) aNil))) (eC .none))) (eB (eOp oIsNot (eCall m_fitting_of (aCons (eCall m_sooner (aCons (eVar 0) (aCons (eOp oAdd (eVar 2) (eC (.int 1))) aNil))) aNil)) (eC .none)))) (seqS (setS [] 2 (eOp oAdd (eVar 2) (eC (.int 1)))) (setS [] 1 (eCall m_fitting_of (aCons (eCall m_sooner (aCons (eVar 0) (aCons (eVar 2) aNil))) aNil))))) (retS (eTup (aCons (eVar 2) (aCons (eVar 1) aNil))))))))
noncomputable def m_is_bound : List PyData → Res PyData := runD 4 (seqS (exprS (eCall m_need_ranks (aCons (eVar 0) (aCons (eVar 1) aNil)))) (seqS (exprS (eCall m_need_errand (aCons (eVar 0) (aCons (eVar 2) aNil)))) (seqS (ifS (teNot (eB (eCall m_between (aCons (eVar 3) (aCons (eC (.int 1)) (aCons (eOp oSub (eOp oIx (eOp oIx (eVar 0) (eVar 2)) (eC (.int 0))) (eOp oIx (eOp oIx (eVar 0) (eVar 2)) (eC (.int 2)))) aNil)))))) (retS (eC (.bool false))) nxS) (retS (eOp oLe (eCall m_need_with (aCons (eVar 0) (aCons (eVar 1) (aCons (eVar 2) (aCons (eCall m_hold_of (aCons (eVar 0) (aCons (eVar 1) (aCons (eVar 2) aNil)))) (aCons (eVar 3) aNil)))))) (eVar 3))))))
noncomputable def m__law_hold_asked : List PyData → Res PyData := runD 11 (seqS (setS [] 3 (eTupIx (eVar 1) (eVar 2))) (seqS (setS [] 4 (eCall m__law_heights (aCons (eVar 0) (aCons (eVar 1) aNil)))) (seqS (setS [] 5 (eC (.int 0))) (seqS (forS [] (itSq (eSlice (eVar 1) (ptSome (eOp oAdd (eVar 3) (eC (.int 1)))) ptNo)) (.one 6) (seqS (newS [] 7 (eCompL (itSq (eOp oIx (eOp oIx (eVar 0) (eVar 6)) (eC (.int 3)))) (.one 10) (teAnd (eB (eOp oIsNot (eOp oIx (eVar 10) (eC (.int 1))) (eC .none))) (eB (eOp oLe (eOp oIx (eVar 4) (eOp oIx (eVar 10) (eC (.int 1)))) (eVar 3)))) (eOp oSub (eOp oIx (eVar 10) (eC (.int 0))) (eC (.int 1))))) (seqS (setS [7] 5 (fun ρ => ((eOp oAdd (eVar 5) (eCall1 oMaxL (eOp oCatL (eLst (aCons (eC (.int 0)) aNil)) (eVar 7)))) ρ).bind scal)) nxS))) (seqS (setS [] 8 (eC (.int 0))) (seqS (forS [] (itR1 (eC (.int 4))) (.one 9) (ifS (teAnd (eB (eOp oIsNot (eOp oIx (eVar 4) (eVar 9)) (eC .none))) (eB (eOp oLe (eOp oIx (eVar 4) (eVar 9)) (eVar 3)))) (seqS (newS [] 7 (nLst (aCons (eC (.int 0)) aNil))) (seqS (forS [7] (itSq (eSlice (eVar 1) (ptSome (eOp oAdd (eVar 3) (eC (.int 1)))) ptNo)) (.one 6) (extS [7] 7 (fun ρ => (eComp (itSq (eOp oIx (eOp oIx (eVar 0) (eVar 6)) (eC (.int 3)))) (.one 10) (eB (eOp oEq (eOp oIx (eVar 10) (eC (.int 1))) (eVar 9))) (eOp oSub (eOp oIx (eVar 10) (eC (.int 0))) (eC (.int 1)))) (wipeD ρ [7])))) (seqS (setS [7] 8 (fun ρ => ((eOp oAdd (eVar 8) (eCall1 oMaxL (eVar 7))) ρ).bind scal)) nxS))) nxS)) (retS (eCall2 oMin (eVar 5) (eVar 8)))))))))
noncomputable def m__law_is_once_k26 : List PyData → Res PyData := runD 8 (seqS (setS [] 5 (fun ρ => eComp (itSq (eSlice (eVar 0) (ptSome (eVar 2)) (ptSome (eVar 3)))) (.one 6) (teAnd (eB (eOp oIsNot (eVar 6) (eC .none))) (eB (eOp oIn (eOp oIx (eVar 6) (eC (.int 0))) (eVar 1)))) (eVar 6) (wipeD ρ []))) (seqS (ifS (eB (eOp oGt (eCall1 oLen (eVar 5)) (eVar 4))) (retS (eC (.bool false))) nxS) (seqS (forS [] (itSq (eVar 5)) (.one 6) (seqS (ifS (teOr (eB (eOp oIs (eOp oIx (eVar 6) (eC (.int 3))) (eC .none))) (eB (eOp oNotIn (eVar 6) (eSlice (eVar 0) ptNo (ptSome (eVar 2)))))) (retS (eC (.bool false))) nxS) (forS [] (itSq (eVar 5)) (.one 7) (ifS (teAnd (teOr (eB (eOp oEq (eOp oIx (eVar 7) (eC (.int 0))) (eOp oIx (eVar 6) (eC (.int 0))))) (eB (eOp oEq (eOp oIx (eVar 7) (eC (.int 3))) (eOp oIx (eVar 6) (eC (.int 3)))))) (eB (eOp oNe (eVar 7) (eVar 6)))) (retS (eC (.bool false))) nxS)))) (retS (eC (.bool true))))))
noncomputable def m__law_all_works : List PyData → Res PyData := runD 9 (seqS (setS [] 2 (eC (.int 0))) (seqS (forS [] (itSq (eVar 0)) (.tup [3, 4, 5, 6]) (seqS (setS [] 7 (eOp oAdd (eOp oDiv (eOp oAdd (eVar 1) (eVar 5)) (eVar 3)) (eC (.int 1)))) (setS [] 2 (eOp oAdd (eVar 2) (eOp oMul (eVar 7) (eCall1 oSum (eComp (itSq (eVar 6)) (.one 8) teYes (eOp oIx (eVar 8) (eC (.int 0)))))))))) (retS (eVar 2))))
noncomputable def m__law_soonest : List PyData → Res PyData := runD 7 (seqS (asgS [] (.tup [2, 3, 4, 5]) (eVar 0)) (retS (eOp oCatL (eLst (aCons (eC (.int 0)) aNil)) (eComp (itR3 (eOp oSub (eVar 2) (eVar 4)) (eOp oAdd (eVar 1) (eC (.int 1))) (eVar 2)) (.one 6) teYes (eVar 6)))))
noncomputable def m__wall : List PyData → Res PyData := runD 1 (whileS (eB (eC (.bool true))) nxS)
noncomputable def m_Hand_is_left_k29 : List PyData → Res PyData := runD 1 (exprS (eCall m__wall (aCons (eC (.int 0)) aNil)))
noncomputable def m__law_strict : List PyData → Res PyData := runD 6 (seqS (newS [] 1 (nLst aNil)) (seqS (forS [1] (itSq (eVar 0)) (.tup [2, 3, 4, 5]) (appS [1] 1 (fun ρ => (eTup (aCons (eOp oIx (eLst (aCons (eC (.int 3)) (aCons (eC (.int 4)) (aCons (eC (.int 6)) (aCons (eC (.int 8)) (aCons (eC (.int 12)) aNil)))))) (eOp oMod (eVar 2) (eC (.int 5)))) (aCons (eC (.int 1)) (aCons (eC (.int 0)) (aCons (eVar 5) aNil))))) (wipeD ρ [1])))) (retS (eCall1 oTuple (eVar 1)))))
noncomputable def m_law_k31 : List PyData → Res PyData := runD 12 (seqS (setS [] 1 (eCall m__law_errands (aCons (eVar 0) (aCons (eC (.int 8)) (aCons (eC (.int 4)) (aCons (eC (.int 18)) (aCons (eC (.bool true)) aNil))))))) (seqS (setS [] 2 (eCall m__law_ranks (aCons (eVar 0) (aCons (eC (.int 0)) (aCons (eCall1 oLen (eVar 1)) aNil))))) (seqS (ifS (teAnd (eB (eOp oGt (eCall m__law_mixed (aCons (eVar 0) (aCons (eC (.int 6)) (aCons (eC (.int 4)) aNil)))) (eC (.int 0)))) (eB (eOp oIsNot (eCall m_fitting (aCons (eVar 1) aNil)) (eC .none)))) (setS [] 2 (eCall m_fitting (aCons (eVar 1) aNil))) nxS) (seqS (forS [] (itR1 (eCall1 oLen (eVar 1))) (.one 3) (seqS (asgS [] (.tup [6, 7, 8, 9]) (eOp oIx (eVar 1) (eVar 3))) (seqS (setS [] 4 (eC .none)) (seqS (forS [] (itR1 (eVar 6)) (.one 5) (seqS (setS [] 10 (eTup (aCons (eOp oSub (eVar 6) (eVar 5)) (aCons (eVar 7) (aCons (eVar 8) (aCons (eVar 9) aNil)))))) (seqS (setS [] 11 (eOp oCatT (eOp oCatT (eSlice (eVar 1) ptNo (ptSome (eVar 3))) (eTup (aCons (eVar 10) aNil))) (eSlice (eVar 1) (ptSome (eOp oAdd (eVar 3) (eC (.int 1)))) ptNo))) (ifS (teAnd (eB (eOp oGe (eOp oSub (eVar 6) (eVar 5)) (eCall2 oMax (eC (.int 2)) (eOp oAdd (eVar 7) (eVar 8))))) (eB (eCall m__law_all_in_time (aCons (eVar 11) (aCons (eVar 2) aNil))))) (ifS (teOr (teAnd (eB (eOp oIs (eVar 4) (eC .none))) (eB (eOp oEq (eVar 5) (eC (.int 0))))) (eB (eOp oEq (eVar 4) (eOp oSub (eVar 5) (eC (.int 1)))))) (setS [] 4 (eVar 5)) nxS) nxS)))) (ifS (eB (eOp oNe (eCall m_rush (aCons (eVar 1) (aCons (eVar 2) (aCons (eVar 3) aNil)))) (eVar 4))) (retS (eC (.bool false))) nxS))))) (retS (eC (.bool true)))))))
noncomputable def m__law_room : List PyData → Res PyData := runD 5 (seqS (newS [] 2 (nLst aNil)) (seqS (forS [2] (itSq (eVar 1)) (.one 3) (seqS (setS [2] 4 (fun ρ => (eCall m__law_longest (aCons (eVar 0) (aCons (eVar 1) (aCons (eVar 3) aNil)))) (wipeD ρ [2]))) (seqS (ifS (eB (eOp oIs (eVar 4) (eC .none))) (retS (eUn oNeg (eC (.int 1)))) nxS) (appS [2] 2 (fun ρ => (eOp oSub (eOp oIx (eOp oIx (eVar 0) (eVar 3)) (eC (.int 1))) (eVar 4)) (wipeD ρ [2])))))) (retS (eCall2 oMax (eUn oNeg (eC (.int 1))) (eCall1 oMinL (eVar 2))))))
noncomputable def m_law_k32 : List PyData → Res PyData := runD 5 (seqS (setS [] 1 (eCall m__law_errands (aCons (eVar 0) (aCons (eC (.int 0)) (aCons (eC (.int 4)) (aCons (eC (.int 18)) (aCons (eC (.bool true)) aNil))))))) (seqS (setS [] 2 (eCall m_roomiest (aCons (eVar 1) aNil))) (seqS (setS [] 3 (eCall1 oMaxL (eComp (itSq (eCall (m__law_orders 8) (aCons (eLstR1 (eCall1 oLen (eVar 1))) aNil))) (.one 4) teYes (eCall m__law_room (aCons (eVar 1) (aCons (eVar 4) aNil)))))) (seqS (ifS (eB (eOp oLt (eVar 3) (eC (.int 0)))) (retS (eOp oIs (eVar 2) (eC .none))) nxS) (seqS (ifS (teOr (teNot (eB (eCall1 isaTuple (eVar 2)))) (teOr (eB (eOp oNe (eCall1 oLen (eVar 2)) (eC (.int 2)))) (teOr (eB (eOp oNe (eOp oIx (eVar 2) (eC (.int 0))) (eVar 3))) (eB (eCall1 isaBool (eOp oIx (eVar 2) (eC (.int 0)))))))) (retS (eC (.bool false))) nxS) (seqS (ifS (teOr (teNot (eB (eCall1 isaTuple (eOp oIx (eVar 2) (eC (.int 1)))))) (eB (eOp oNe (eCall1 oSorted (eOp oIx (eVar 2) (eC (.int 1)))) (eLstR1 (eCall1 oLen (eVar 1)))))) (retS (eC (.bool false))) nxS) (retS (eOp oEq (eCall m__law_room (aCons (eVar 1) (aCons (eOp oIx (eVar 2) (eC (.int 1))) aNil))) (eVar 3)))))))))
noncomputable def m__law_spoilt : List PyData → Res PyData := runD 7 (seqS (setS [] 4 (fun ρ => eComp (itSq (eVar 1)) (.one 6) teYes (eCall1 oList (eVar 6)) (wipeD ρ []))) (seqS (newS [] 5 (nLst (aCons (eTup (aCons (eVar 4) (aCons (eVar 2) aNil))) (aCons (eTup (aCons (eVar 4) (aCons (eVar 2) aNil))) (aCons (eTup (aCons (eVar 4) (aCons (eVar 2) aNil))) (aCons (eTup (aCons (eVar 4) (aCons (eTup (aCons (eOp oIx (eVar 2) (eC (.int 0))) (aCons (eOp oAdd (eOp oIx (eVar 2) (eC (.int 1))) (eC (.int 1))) aNil))) aNil))) (aCons (eTup (aCons (eVar 4) (aCons (eCall1 oList (eVar 2)) aNil))) (aCons (eTup (aCons (eCall1 oTuple (eVar 4)) (aCons (eVar 2) aNil))) aNil)))))))) (seqS (extS [5] 5 (fun ρ => (eLst (aCons (eVar 4) (aCons (eTup (aCons (eSlice (eVar 4) (ptSome (eC (.int 1))) ptNo) (aCons (eVar 2) aNil))) (aCons (eTup (aCons (eVar 4) (aCons (eTup (aCons (eOp oIx (eVar 2) (eC (.int 0))) (aCons (eUn oNeg (eC (.int 1))) aNil))) aNil))) (aCons (eTup (aCons (eVar 4) (aCons (eTup (aCons (eOp oMod (eOp oAdd (eOp oIx (eVar 2) (eC (.int 0))) (eC (.int 1))) (eCall1 oLen (eVar 0))) (aCons (eC (.int 0)) aNil))) aNil))) (aCons (eC .none) aNil)))))) (wipeD ρ [5]))) (seqS (extS [5] 5 (fun ρ => (eLst (aCons (eTup (aCons (eOp oCatL (eSlice (eVar 4) ptNo (ptSome (eUn oNeg (eC (.int 1))))) (eLst (aCons (eLst (aCons (eC (.int 3)) (aCons (eC (.int 3)) aNil))) aNil))) (aCons (eVar 2) aNil))) (aCons (eTup (aCons (eVar 4) (aCons (eTup (aCons (eOp oIx (eVar 2) (eC (.int 0))) (aCons (eC (.bool true)) aNil))) aNil))) (aCons (eTup (aCons (eVar 4) (aCons (eVar 2) (aCons (eC (.int 1)) aNil)))) (aCons (eTup (aCons (eVar 4) (aCons (eSlice (eVar 2) ptNo (ptSome (eC (.int 1)))) aNil))) (aCons (eTup (aCons (eVar 4) (aCons (eC .none) aNil))) aNil)))))) (wipeD ρ [5]))) (retS (eOp oIx (eVar 5) (eOp oMod (eVar 3) (eC (.int 16)))))))))
end L2.DL
set_option maxHeartbeats 2000000
namespace L2.DL
open PySem PySem.Spec PyProof.Rows

/-! ### errands as plain data -/
structure Er where
  every : Int
  due : Int
  late : Int
  parts : List (Int × Option Int)
  deriving DecidableEq
instance : Inhabited Er := ⟨⟨2, 1, 0, [(1, none)]⟩⟩
def encO : Option Int → PyData
  | none => .none
  | some t => .int t
def encP (p : Int × Option Int) : PyData := .tuple [.int p.1, encO p.2]
def encE (e : Er) : PyData := .tuple [.int e.every, .int e.due, .int e.late, .tuple (e.parts.map encP)]
def encEs (es : List Er) : PyData := .tuple (es.map encE)
def encN (n : Nat) : PyData := .int (n : Int)
def encR (rs : List Nat) : PyData := .tuple (rs.map encN)
structure OkP (p : Int × Option Int) : Prop where
  len : 1 ≤ p.1 ∧ p.1 ≤ 20
  tool : ∀ t, p.2 = some t → 0 ≤ t ∧ t ≤ 3
structure OkE (e : Er) : Prop where
  every : 2 ≤ e.every ∧ e.every ≤ 60
  late : 0 ≤ e.late ∧ e.late ≤ 20 ∧ e.late ≤ e.every - 1
  due : 1 ≤ e.due ∧ e.due ≤ e.every - e.late
  parts : 1 ≤ e.parts.length ∧ e.parts.length ≤ 4
  part : ∀ p ∈ e.parts, OkP p
  last : ∃ l, e.parts.getLast? = some (l, none)
structure OkEs (es : List Er) : Prop where
  len : 1 ≤ es.length ∧ es.length ≤ 6
  all : ∀ e ∈ es, OkE e
/-- the errand of a number -/
def E (es : List Er) (n : Nat) : Er := es.getD n default
theorem okDefault : OkE default := ⟨⟨by decide, by decide⟩, ⟨by decide, by decide, by decide⟩, ⟨by decide, by decide⟩, ⟨by decide, by decide⟩, fun p hp => by
  have e : p = (1, none) := by simpa [default] using hp
  subst e
  exact ⟨by decide, fun t h => by cases h⟩, ⟨1, rfl⟩⟩
theorem OkEs.at {es : List Er} (h : OkEs es) (n : Nat) : OkE (E es n) := by
  unfold E
  rw [List.getD_eq_getElem?_getD]
  cases e : es[n]? with
  | none => exact okDefault
  | some x => exact h.all x (List.mem_of_getElem? e)
theorem E_enc {es : List Er} {n : Nat} (h : n < es.length) : (es.map encE)[n]? = some (encE (E es n)) := by
  rw [List.getElem?_map, List.getElem?_eq_getElem h]
  simp [E, List.getD_eq_getElem?_getD, h]
@[simp] theorem isaTuple_encE (e : Er) : isaTuple (encE e) = some (.bool true) := rfl
@[simp] theorem isaTuple_encP (p : Int × Option Int) : isaTuple (encP p) = some (.bool true) := rfl
@[simp] theorem oLen_encE (e : Er) : oLen (encE e) = some (.int 4) := rfl
@[simp] theorem oLen_encP (p : Int × Option Int) : oLen (encP p) = some (.int 2) := rfl
@[simp] theorem oIx_encE0 (e : Er) : oIx (encE e) (.int 0) = some (.int e.every) := rfl
@[simp] theorem oIx_encE1 (e : Er) : oIx (encE e) (.int 1) = some (.int e.due) := rfl
@[simp] theorem oIx_encE2 (e : Er) : oIx (encE e) (.int 2) = some (.int e.late) := rfl
@[simp] theorem oIx_encE3 (e : Er) : oIx (encE e) (.int 3) = some (.tuple (e.parts.map encP)) := rfl
@[simp] theorem oIx_encP0 (p : Int × Option Int) : oIx (encP p) (.int 0) = some (.int p.1) := rfl
@[simp] theorem oIx_encP1 (p : Int × Option Int) : oIx (encP p) (.int 1) = some (encO p.2) := rfl
theorem oIx_encEs {es : List Er} {n : Nat} (h : n < es.length) : oIx (encEs es) (.int (n : Int)) = some (encE (E es n)) := atI_nat (E_enc h)
@[simp] theorem oLen_encEs (es : List Er) : oLen (encEs es) = some (.int (es.length : Int)) := by simp [encEs]
@[simp] theorem oLen_encR (rs : List Nat) : oLen (encR rs) = some (.int (rs.length : Int)) := by simp [encR]
theorem oIx_encR {rs : List Nat} {n r : Nat} (h : rs[n]? = some r) : oIx (encR rs) (.int (n : Int)) = some (encN r) := atI_nat (by rw [List.getElem?_map, h]; rfl)

/-! ### shapes -/
theorem depth_le {d : PyData} (n : Nat) : (h : d.depth ≤ n) → n ≤ 64 → d.canLay0 = true → SeqAt.shaped d = true := fun h hn c => by
  unfold SeqAt.shaped
  rw [c]
  simp
  omega
@[simp] theorem shaped_int (i : Int) : SeqAt.shaped (.int i) = true := by simp [SeqAt.shaped, PyData.canLay0, PyData.depth]
@[simp] theorem shaped_none : SeqAt.shaped .none = true := by simp [SeqAt.shaped, PyData.canLay0, PyData.depth]
@[simp] theorem shaped_bool (i : Bool) : SeqAt.shaped (.bool i) = true := by simp [SeqAt.shaped, PyData.canLay0, PyData.depth]
/-- data of at most n levels without a dict, texts of usual signs -/
def Lay (n : Nat) (d : PyData) : Prop := d.canLay0 = true ∧ d.depth ≤ n
theorem Lay.shaped {n : Nat} {d : PyData} (h : Lay n d) (hn : n ≤ 64 := by decide) : SeqAt.shaped d = true := depth_le n h.2 hn h.1
theorem Lay.int (n : Nat) (i : Int) : Lay n (.int i) := ⟨rfl, by simp [PyData.depth]⟩
theorem Lay.bool (n : Nat) (i : Bool) : Lay n (.bool i) := ⟨rfl, by simp [PyData.depth]⟩
theorem Lay.non (n : Nat) : Lay n .none := ⟨rfl, by simp [PyData.depth]⟩
theorem layAll {n : Nat} : ∀ {ds : List PyData}, (∀ d ∈ ds, Lay n d) → PyData.canLayAll0 ds = true ∧ PyData.depthAll ds ≤ n
  | [], _ => ⟨rfl, by simp [PyData.depthAll]⟩
  | d :: ds, h => by
    obtain ⟨h1, h2⟩ := h d List.mem_cons_self
    obtain ⟨h3, h4⟩ := layAll fun x hx => h x (List.mem_cons_of_mem _ hx)
    refine ⟨by simp [PyData.canLayAll0, h1, h3], ?_⟩
    simp only [PyData.depthAll]
    omega
theorem Lay.list {n : Nat} {ds : List PyData} (h : ∀ d ∈ ds, Lay n d) : Lay (n + 1) (.list ds) := by
  obtain ⟨h1, h2⟩ := layAll h
  exact ⟨by simpa [PyData.canLay0] using h1, by simp only [PyData.depth]; omega⟩
theorem Lay.tuple {n : Nat} {ds : List PyData} (h : ∀ d ∈ ds, Lay n d) : Lay (n + 1) (.tuple ds) := by
  obtain ⟨h1, h2⟩ := layAll h
  exact ⟨by simpa [PyData.canLay0] using h1, by simp only [PyData.depth]; omega⟩
theorem Lay.mono {m n : Nat} {d : PyData} (h : Lay m d) (hm : m ≤ n) : Lay n d := ⟨h.1, Nat.le_trans h.2 hm⟩
theorem lay_encO (n : Nat) (o : Option Int) : Lay n (encO o) := by cases o with
  | none => exact Lay.non n
  | some t => exact Lay.int n t
theorem lay_ints (n : Nat) (ns : List Int) : Lay (n + 1) (.list (ns.map .int)) := Lay.list fun d hd => by
  obtain ⟨i, _, rfl⟩ := List.mem_map.mp hd
  exact Lay.int n i
@[simp] theorem eqv_int (i j : Int) : PyData.eqv (.int i) (.int j) = (i == j) := rfl
@[simp] theorem eqv_non_int (j : Int) : PyData.eqv .none (.int j) = false := rfl
@[simp] theorem eqv_int_non (j : Int) : PyData.eqv (.int j) .none = false := rfl
@[simp] theorem eqv_bool (i j : Bool) : PyData.eqv (.bool i) (.bool j) = (i == j) := rfl
@[simp] theorem oEq_int (i j : Int) : oEq (.int i) (.int j) = some (.bool (i == j)) := by simp [oEq]
@[simp] theorem oNe_int (i j : Int) : oNe (.int i) (.int j) = some (.bool (!(i == j))) := by simp [oNe]
mutual
theorem eqv_self : ∀ (d : PyData), d.canLay0 = true → PyData.eqv d d = true
  | .none, _ => rfl
  | .bool b, _ => by simp [PyData.eqv]
  | .int i, _ => by simp [PyData.eqv]
  | .str s, _ => by simp [PyData.eqv]
  | .list xs, h => by simp only [PyData.eqv]; exact eqvAll_self xs (by simpa [PyData.canLay0] using h)
  | .tuple xs, h => by simp only [PyData.eqv]; exact eqvAll_self xs (by simpa [PyData.canLay0] using h)
  | .dict _, h => by simp [PyData.canLay0] at h
theorem eqvAll_self : ∀ (ds : List PyData), PyData.canLayAll0 ds = true → PyData.eqvAll ds ds = true
  | [], _ => rfl
  | d :: ds, h => by
    simp only [PyData.canLayAll0, Bool.and_eq_true] at h
    simp only [PyData.eqvAll, eqv_self d h.1, eqvAll_self ds h.2, Bool.and_self]
end
theorem oEq_self {n : Nat} {d : PyData} (h : Lay n d) (hn : n ≤ 64 := by decide) : oEq d d = some (.bool true) := by
  unfold oEq
  rw [if_pos ⟨h.shaped hn, h.shaped hn⟩, eqv_self d h.1]
theorem oNe_self {n : Nat} {d : PyData} (h : Lay n d) (hn : n ≤ 64 := by decide) : oNe d d = some (.bool false) := by
  unfold oNe
  rw [if_pos ⟨h.shaped hn, h.shaped hn⟩, eqv_self d h.1]
  rfl
theorem oIn_of {x : PyData} {ys : List PyData} {n : Nat} (h : Lay n x) (hy : Lay n (.list ys)) (hn : n ≤ 64 := by decide) : oIn x (.list ys) = some (.bool (ys.any fun z => PyData.eqv z x)) := by
  show (if _ then _ else _) = _
  rw [if_pos ⟨h.shaped hn, hy.shaped hn⟩]
theorem oNotIn_of {x : PyData} {ys : List PyData} {n : Nat} (h : Lay n x) (hy : Lay n (.list ys)) (hn : n ≤ 64 := by decide) : oNotIn x (.list ys) = some (.bool (!ys.any fun z => PyData.eqv z x)) := by
  show (if _ then _ else _) = _
  rw [if_pos ⟨h.shaped hn, hy.shaped hn⟩]

/-! ### the first defs -/
theorem is_whole_int (i : Int) : m_is_whole [.int i] = .ok (.bool true) := rfl
theorem between_int (i lo hi : Int) : m_between [.int i, .int lo, .int hi] = .ok (.bool (decide (lo ≤ i ∧ i ≤ hi))) := by
  simp [m_between, runD_ap, is_whole_int]
  by_cases h : lo ≤ i <;> simp [h]
theorem is_part_ok {p : Int × Option Int} (h : OkP p) : m_is_part [encP p] = .ok (.bool true) := by
  obtain ⟨h1, h2⟩ := h
  have b1 : decide (1 ≤ p.1 ∧ p.1 ≤ 20) = true := by simpa using h1
  simp [m_is_part, runD_ap, between_int, b1]
  cases e : p.2 with
  | none => simp [encO]
  | some t =>
    have := h2 t e
    simp [encO, between_int]
    omega
theorem toBools_true {α : Type} : ∀ (xs : List α), toBools (xs.map fun _ => PyData.bool true) = some (xs.map fun _ => true)
  | [] => rfl
  | _ :: r => by
    show (toBools (r.map fun _ => PyData.bool true)).map (true :: ·) = _
    rw [toBools_true r]
    rfl
theorem oAll_true {α : Type} (xs : List α) : oAll (.list (xs.map fun _ => PyData.bool true)) = some (.bool true) := by
  simp [oAll, toBools_true]
/-- all([p(x) for x in xs]) where all hold -/
theorem is_errand_ok {e : Er} (h : OkE e) : m_is_errand [encE e] = .ok (.bool true) := by
  obtain ⟨h1, h2, h3, h4, h5, l, h6⟩ := h
  have hc : compD (.one 1) teYes (eCall m_is_part (aCons (eVar 1) aNil)) [some (encE e), none] (e.parts.map encP) = .ok (e.parts.map fun _ => PyData.bool true) :=
    compD_map encP (fun _ => PyData.bool true) e.parts fun p hp => ⟨_, rfl, by simp [is_part_ok (h5 p hp)]⟩
  have hl : e.parts.length < 16777216 := by omega
  have hlast : atI (e.parts.map encP) (-1) = some (encP (l, none)) := by
    obtain ⟨r, hr⟩ : ∃ r, e.parts = r ++ [(l, none)] := List.getLast?_eq_some_iff.mp h6
    rw [hr, List.map_append, List.map_singleton]
    exact atI_last _ _
  have hmin : (if e.every - 1 < 20 then e.every - 1 else 20) ≤ 20 := by split <;> omega
  have b2 : decide (0 ≤ e.late ∧ e.late ≤ if e.every - 1 < 20 then e.every - 1 else 20) = true := by
    simp
    split <;> omega
  have c1 : decide (2 ≤ e.every ∧ e.every ≤ 60) = true := by simp; omega
  have c3 : decide (1 ≤ e.due ∧ e.due ≤ e.every - e.late) = true := by simp; omega
  have c4 : decide ((1 : Int) ≤ (e.parts.length : Int)) = true := by simp; omega
  have c5 : decide ((e.parts.length : Int) ≤ 4) = true := by simp; omega
  simp only [m_is_errand, runD_ap, startD_ap, seqS_ap, ifS_ap, teOr_ap, teNot_ap, eB_ap, eCall1_ap, eCall2_ap, eCall_ap, aCons_ap, aNil_ap, eOp_ap, eC_ap, eChain_ap, List.map_cons, List.map_nil, List.cons_append, List.nil_append, List.length_cons, List.length_nil, List.replicate, eVar_zero, eVar_succ, Res.bind_ok, Res.of_some, oIx_encE0, oIx_encE1, oIx_encE2, oIx_encE3,
    isaTuple_encE, oLen_encE, oNe_int, asB_bool, between_int, oSub_int, oMin_int, c1, b2, c3, isaTuple_tuple, oLen_tuple, oLe_int, List.length_map, c4, c5, Bool.not_true, Bool.not_false, if_true, if_false, toS_ok, andThen_nx, nxS_ap, retS_ap, eAnd_ap, eComp_ap, eCompL_ap, itSq_ap, items_tuple, slots_one, wipeD_cons, wipeD_nil]
  simp [hl, hc, oAll_true, hlast, encO, between_int, b2, c1, c3, c4, c5]
theorem are_errands_ok {es : List Er} (h : OkEs es) : m_are_errands [encEs es] = .ok (.bool true) := by
  obtain ⟨h1, h2⟩ := h
  have hc : compD (.one 1) teYes (eCall m_is_errand (aCons (eVar 1) aNil)) [some (encEs es), none] (es.map encE) = .ok (es.map fun _ => PyData.bool true) :=
    compD_map encE (fun _ => PyData.bool true) es fun e he => ⟨_, rfl, by simp [is_errand_ok (h2 e he)]⟩
  have hl : es.length < 16777216 := by omega
  have c1 : (1 : Int) ≤ (es.length : Int) := by omega
  have c2 : (es.length : Int) ≤ 6 := by omega
  have ht : isaTuple (encEs es) = some (.bool true) := rfl
  have hi : items (encEs es) = .ok (es.map encE) := rfl
  simp [m_are_errands, runD_ap, ht, c1, c2, hi, hl, hc, oAll_true]
theorem checked_ok {es : List Er} (h : OkEs es) : m_checked [encEs es] = .ok (encEs es) := by
  simp [m_checked, runD_ap, are_errands_ok h]
/-- ranks: an order of all errands' numbers -/
abbrev OkR (n : Nat) (rs : List Nat) : Prop := rs.Perm (List.range n)
theorem encR_ints (rs : List Nat) : rs.map encN = (rs.map fun (r : Nat) => (r : Int)).map PyData.int := by
  rw [List.map_map]; rfl
theorem toInts_encN (rs : List Nat) : toInts (rs.map encN) = some (rs.map fun (r : Nat) => (r : Int)) := by
  rw [encR_ints, toInts_map]
theorem range_rise (n : Nat) : ((List.range n).map fun (r : Nat) => (r : Int)).Pairwise (· ≤ ·) := by
  rw [List.pairwise_map]
  exact (List.pairwise_lt_range (n := n)).imp fun h => by omega
theorem sort_ranks {n : Nat} {rs : List Nat} (h : OkR n rs) : sortI (rs.map fun (r : Nat) => (r : Int)) = (List.range n).map fun (r : Nat) => (r : Int) :=
  rise_one ((sortI_perm _).trans (h.map _)) (sortI_rise _) (range_rise n)
theorem rangeD_encN (n : Nat) : rangeD 0 (n : Int) = (List.range n).map encN := rangeD_map n
theorem inB_nat {n : Nat} (h : n ≤ 1000000) : inB (n : Int) := ⟨by omega, by omega⟩
theorem need_ranks_ok {es : List Er} {rs : List Nat} (h : OkEs es) (hr : OkR es.length rs) : m_need_ranks [encEs es, encR rs] = .ok .none := by
  have hl := h.len
  have hrl : rs.length = es.length := by rw [hr.length_eq, List.length_range]
  have hc : compD (.one 2) teYes (eCall m_is_whole (aCons (eVar 2) aNil)) [some (encEs es), some (encR rs), none] (rs.map encN) = .ok (rs.map fun _ => PyData.bool true) :=
    compD_map encN (fun _ => PyData.bool true) rs fun r _ => ⟨_, rfl, by simp [encN, is_whole_int]⟩
  have ht : isaTuple (encR rs) = some (.bool true) := rfl
  have hi : items (encR rs) = .ok (rs.map encN) := rfl
  have hL : oList (encR rs) = some (.list (rs.map encN)) := rfl
  have hs : oSorted (.list (rs.map encN)) = some (.list ((List.range es.length).map encN)) := by
    unfold oSorted
    dsimp only
    rw [toInts_encN, Option.bind_some, List.length_map, if_pos (by omega), sort_ranks hr, ← encR_ints]
  have hb : inB (es.length : Int) := inB_nat (by omega)
  have hne : oNe (.list ((List.range es.length).map encN)) (.list ((List.range es.length).map encN)) = some (.bool false) := oNe_self (n := 1) (by rw [encR_ints]; exact lay_ints 0 _)
  simp [m_need_ranks, runD_ap, checked_ok h, ht, hi, show rs.length < 16777216 by omega, hc, oAll_true, hL, hs, hb, rangeD_encN, hne]
theorem need_errand_ok {es : List Er} {n : Nat} (h : n < es.length) : m_need_errand [encEs es, encN n] = .ok .none := by
  have b : decide ((0 : Int) ≤ (n : Int) ∧ (n : Int) ≤ (es.length : Int) - 1) = true := by simp; omega
  simp only [m_need_errand, runD_ap, encN]
  simp [between_int]
  rw [if_neg (by omega)]
  rfl
/-- the work of an errand -/
def work (e : Er) : Int := (e.parts.map (·.1)).sum
theorem work_of_ok {e : Er} (h : e.parts.length ≤ 4) : m_work_of [encE e] = .ok (.int (work e)) := by
  have hc : compD (.one 1) teYes (eOp oIx (eVar 1) (eC (.int 0))) [some (encE e), none] (e.parts.map encP) = .ok (e.parts.map fun p => PyData.int p.1) :=
    compD_map encP (fun p => PyData.int p.1) e.parts fun p hp => ⟨_, rfl, by simp⟩
  have hs : oSum (.list (e.parts.map fun p => PyData.int p.1)) = some (.int (work e)) := by
    unfold oSum
    have z : (e.parts.map fun p => PyData.int p.1) = (e.parts.map (·.1)).map PyData.int := by rw [List.map_map]; rfl
    rw [z]
    dsimp only
    rw [toInts_map]
    rfl
  simp [m_work_of, runD_ap, show e.parts.length < 16777216 by omega, hc, hs]
def hasTool (e : Er) (t : Int) : Bool := e.parts.any fun p => p.2 == some t
theorem has_tool_ok {e : Er} (h : e.parts.length ≤ 4) (t : Int) : m_has_tool [encE e, .int t] = .ok (.bool (hasTool e t)) := by
  have hc : compD (.one 2) teYes (eOp oIx (eVar 2) (eC (.int 1))) [some (encE e), some (.int t), none] (e.parts.map encP) = .ok (e.parts.map fun p => encO p.2) :=
    compD_map encP (fun p => encO p.2) e.parts fun p hp => ⟨_, rfl, by simp⟩
  have hs : oIn (.int t) (.list (e.parts.map fun p => encO p.2)) = some (.bool (hasTool e t)) := by
    rw [oIn_of (n := 1) (Lay.int 1 t) (Lay.list fun d hd => by
      obtain ⟨p, _, rfl⟩ := List.mem_map.mp hd
      exact lay_encO 0 _)]
    congr 2
    unfold hasTool
    rw [List.any_map]
    congr 1
    funext p
    show PyData.eqv (encO p.2) (.int t) = _
    cases p.2 with
    | none => rfl
    | some u => simp [encO]
  simp [m_has_tool, runD_ap, show e.parts.length < 16777216 by omega, hc, hs]
end L2.DL
set_option maxHeartbeats 2000000
namespace L2.DL
open PySem PySem.Spec PyProof.Rows

/-! ### loops by goals -/
/-- goes on, with an env that Q tells -/
def Nx (r : SRes) (Q : Env → Prop) : Prop := ∃ ρ, r = .nx ρ ∧ Q ρ
theorem Nx.of {Q : Env → Prop} {ρ : Env} (h : Q ρ) : Nx (.nx ρ) Q := ⟨ρ, rfl, h⟩
theorem loopS_pre {α : Type} {t : Tgt} {fb : Sf} (enc : α → PyData) (R : List α → Env → Prop) : ∀ (xs pre : List α) (ρ : Env), R pre ρ → (∀ p a q ρ, pre ++ xs = p ++ a :: q → R p ρ → ∃ ρ1 ρ2, bindT t (enc a) ρ = .ok ρ1 ∧ fb ρ1 = .nx ρ2 ∧ R (p ++ [a]) ρ2) →
    ∃ ρ', loopS t fb (xs.map enc) ρ = .nx ρ' ∧ R (pre ++ xs) ρ'
  | [], pre, ρ, r, _ => ⟨ρ, rfl, by simpa using r⟩
  | a :: xs, pre, ρ, r, h => by
    obtain ⟨ρ1, ρ2, h1, h2, h3⟩ := h pre a xs ρ rfl r
    obtain ⟨ρ', h4, h5⟩ := loopS_pre enc R xs (pre ++ [a]) ρ2 h3 fun p b q ρ hb => h p b q ρ (by rw [← hb]; simp)
    refine ⟨ρ', ?_, by simpa using h5⟩
    rw [List.map_cons]
    unfold loopS
    rw [h1]
    dsimp only
    rw [h2]
    exact h4
theorem for_nx {α : Type} {M : List Nat} {it : Itr'} {t : Tgt} {fb : Sf} {ρ : Env} (enc : α → PyData) (R : List α → Env → Prop) (xs : List α) (hit : it (wipeD ρ M) = .ok (xs.map enc)) (h0 : R [] ρ)
    (hs : ∀ pre a post ρ, xs = pre ++ a :: post → R pre ρ → ∃ ρ1, bindT t (enc a) ρ = .ok ρ1 ∧ Nx (fb ρ1) (R (pre ++ [a]))) : Nx (forS M it t fb ρ) (R xs) := by
  obtain ⟨ρ', h1, h2⟩ := loopS_pre (t := t) (fb := fb) enc R xs [] ρ h0 fun pre a post ρ ha hr => by
    obtain ⟨ρ1, h1, ρ2, h2, h3⟩ := hs pre a post ρ ha hr
    exact ⟨ρ1, ρ2, h1, h2, h3⟩
  refine ⟨ρ', ?_, h2⟩
  rw [forS_ap, hit]
  exact h1
theorem nx_then {r : SRes} {g : Sf} {Q Q' : Env → Prop} (h : Nx r Q) (k : ∀ ρ, Q ρ → Nx (g ρ) Q') : Nx (r.andThen g) Q' := by
  obtain ⟨ρ, rfl, q⟩ := h
  exact k ρ q
theorem nx_toR {r : SRes} {g : Sf} {Q : Env → Prop} {v : Res PyData} (h : Nx r Q) (k : ∀ ρ, Q ρ → (g ρ).toR = v) : (r.andThen g).toR = v := by
  obtain ⟨ρ, rfl, q⟩ := h
  exact k ρ q
theorem nx_mono {r : SRes} {Q Q' : Env → Prop} (h : Nx r Q) (k : ∀ ρ, Q ρ → Q' ρ) : Nx r Q' := by
  obtain ⟨ρ, rfl, q⟩ := h
  exact ⟨ρ, rfl, k ρ q⟩
/-- a loop that may return -/
theorem for_find {α : Type} {M : List Nat} {it : Itr'} {t : Tgt} {fb g : Sf} {ρ : Env} {v : Res PyData} (enc : α → PyData) (R : Env → Prop) (out : α → Option PyData) (xs : List α) (hit : it (wipeD ρ M) = .ok (xs.map enc)) (h0 : R ρ)
    (hs : ∀ a ρ, a ∈ xs → R ρ → ∃ ρ1, bindT t (enc a) ρ = .ok ρ1 ∧ (match out a with
      | some d => fb ρ1 = .ret d
      | none => Nx (fb ρ1) R))
    (hk : match xs.findSome? out with
      | some d => v = .ok d
      | none => ∀ ρ', R ρ' → (g ρ').toR = v) : ((forS M it t fb ρ).andThen g).toR = v := by
  have z := loopS_find (t := t) (fb := fb) enc R out xs ρ h0 hs
  rw [forS_ap, hit, toS_ok]
  cases e : xs.findSome? out with
  | some d =>
    rw [e] at z hk
    dsimp only at z hk
    rw [z, hk]
    rfl
  | none =>
    rw [e] at z hk
    dsimp only at z hk
    obtain ⟨ρ', h1, h2⟩ := z
    rw [h1]
    exact hk ρ' h2
/-! ### slices, index -/
theorem cut_to {ds : List PyData} {n : Nat} (h : n ≤ ds.length) : cutD ds none (some (n : Int)) = ds.take n := by
  unfold cutD
  rw [HT.sIx_none, HT.sIx_nat, List.drop_zero, Nat.sub_zero, Nat.min_eq_left h]
theorem cut_from {ds : List PyData} {n : Nat} (h : n ≤ ds.length) : cutD ds (some (n : Int)) none = ds.drop n := by
  unfold cutD
  rw [HT.sIx_none, HT.sIx_nat, Nat.min_eq_left h]
  exact List.take_of_length_le (by rw [List.length_drop]; exact Nat.le_refl _)
theorem idxOf_cast {rs : List Nat} {n : Nat} : (rs.map fun (r : Nat) => (r : Int)).idxOf (n : Int) = rs.idxOf n := by
  induction rs with
  | nil => rfl
  | cons a r ih =>
    rw [List.map_cons, List.idxOf_cons, List.idxOf_cons, ih]
    by_cases e : a = n
    · subst e; simp
    · have e2 : ((a : Int) == (n : Int)) = false := by simp; omega
      have e3 : (a == n) = false := by simp [e]
      rw [e2, e3]
theorem index_ok {rs : List Nat} {n : Nat} (h : n ∈ rs) : oIndexT (encR rs) (.int (n : Int)) = some (.int ((rs.idxOf n : Nat) : Int)) := by
  show (toInts (rs.map encN)).bind _ = _
  rw [toInts_encN, Option.bind_some, if_pos (List.mem_map.mpr ⟨n, h, rfl⟩), idxOf_cast]
@[simp] theorem tupO_encR (rs : List Nat) : tupO (encR rs) = .ok (encR rs) := rfl
theorem slice_from {rs : List Nat} {n : Nat} (h : n ≤ rs.length) : oSlice (encR rs) (some (n : Int)) none = some (encR (rs.drop n)) := by
  show some (PyData.tuple (cutD (rs.map encN) _ _)) = _
  rw [cut_from (by rw [List.length_map]; exact h), ← List.map_drop]
  rfl
theorem slice_to {rs : List Nat} {n : Nat} (h : n ≤ rs.length) : oSlice (encR rs) none (some (n : Int)) = some (encR (rs.take n)) := by
  show some (PyData.tuple (cutD (rs.map encN) _ _)) = _
  rw [cut_to (by rw [List.length_map]; exact h), ← List.map_take]
  rfl
@[simp] theorem items_encR (rs : List Nat) : items (encR rs) = .ok (rs.map encN) := rfl

/-! ### errands of usual size -/
structure FineE (e : Er) : Prop where
  every : 1 ≤ e.every ∧ e.every ≤ 1000
  late : 0 ≤ e.late ∧ e.late ≤ 1000
  parts : 1 ≤ e.parts.length ∧ e.parts.length ≤ 4
  part : ∀ p ∈ e.parts, 1 ≤ p.1 ∧ p.1 ≤ 1000 ∧ ∀ t, p.2 = some t → 0 ≤ t ∧ t ≤ 3
theorem OkE.fine {e : Er} (h : OkE e) : FineE e :=
  ⟨⟨by have := h.every; omega, by have := h.every; omega⟩, ⟨h.late.1, by have := h.late; omega⟩, h.parts, fun p hp => ⟨(h.part p hp).len.1, by have := (h.part p hp).len; omega, (h.part p hp).tool⟩⟩
structure FineEs (es : List Er) : Prop where
  len : es.length ≤ 6
  all : ∀ e ∈ es, FineE e
theorem OkEs.fine {es : List Er} (h : OkEs es) : FineEs es := ⟨h.len.2, fun e he => (h.all e he).fine⟩
theorem FineEs.at {es : List Er} (h : FineEs es) (n : Nat) : FineE (E es n) := by
  unfold E
  rw [List.getD_eq_getElem?_getD]
  cases e : es[n]? with
  | none => exact okDefault.fine
  | some x => exact h.all x (List.mem_of_getElem? e)
/-- an order of some of the errands -/
structure Rk (es : List Er) (rs : List Nat) : Prop where
  len : rs.length ≤ 6
  lt : ∀ r ∈ rs, r < es.length
theorem OkR.rk {es : List Er} {rs : List Nat} (h : OkR es.length rs) (hl : es.length ≤ 6) : Rk es rs :=
  ⟨by rw [h.length_eq, List.length_range]; exact hl, fun r hr => List.mem_range.mp (h.mem_iff.mp hr)⟩
theorem OkR.mem {es : List Er} {rs : List Nat} (h : OkR es.length rs) {n : Nat} (hn : n < es.length) : n ∈ rs := h.mem_iff.mpr (List.mem_range.mpr hn)
/-- the errand of a place -/
def rkAt (rs : List Nat) (k : Nat) : Nat := rs.getD k 0
theorem Rk.atlt {es : List Er} {rs : List Nat} (h : Rk es rs) {k : Nat} (hk : k < rs.length) : rkAt rs k < es.length := by
  unfold rkAt
  rw [List.getD_eq_getElem?_getD, List.getElem?_eq_getElem hk]
  exact h.lt _ (List.getElem_mem hk)
theorem ix_ranks {rs : List Nat} {k : Nat} (hk : k < rs.length) : oIx (encR rs) (.int (k : Int)) = some (.int ((rkAt rs k : Nat) : Int)) := by
  refine oIx_encR ?_
  unfold rkAt
  rw [List.getD_eq_getElem?_getD, List.getElem?_eq_getElem hk]
  rfl

/-! ### heights -/
def hgt (es : List Er) (rs : List Nat) (t : Int) : Option Nat := (List.range rs.length).find? fun k => hasTool (E es (rkAt rs k)) t
def encH (o : Option Nat) : PyData := encO (o.map fun (k : Nat) => (k : Int))
def encHs (es : List Er) (rs : List Nat) : List PyData := (List.range 4).map fun (t : Nat) => encH (hgt es rs (t : Int))
theorem tool_at (e : Er) (he : FineE e) (t : Int) : m_has_tool [encE e, .int t] = .ok (.bool (hasTool e t)) := has_tool_ok he.parts.2 t
theorem heights_of_ok {es : List Er} {rs : List Nat} (he : FineEs es) (hr : Rk es rs) : m_heights_of [encEs es, encR rs] = .ok (.list (encHs es rs)) := by
  have hl := hr.len
  simp only [m_heights_of, runD_ap]
  simp [-forS_ap]
  refine nx_toR (for_nx encN (fun pre ρ => ∃ a b, ρ = [some (encEs es), some (encR rs), some (.list (pre.map fun (t : Nat) => encH (hgt es rs (t : Int)))), a, b, none]) (List.range 4) (by simp [inB]; exact rangeD_map 4) ⟨_, _, rfl⟩ fun pre a post ρ ha ⟨x, y, hρ⟩ => ?_) fun ρ ⟨a, b, hρ⟩ => by subst hρ; simp [encHs]
  subst hρ
  refine ⟨_, rfl, ?_⟩
  have hc : compD (.one 5) (eB (eCall m_has_tool (aCons (eOp oIx (eVar 0) (eOp oIx (eVar 1) (eVar 5))) (aCons (eVar 3) aNil)))) (eVar 5) [some (encEs es), some (encR rs), none, some (encN a), y, none] ((List.range rs.length).map encN) = .ok (((List.range rs.length).filter fun k => hasTool (E es (rkAt rs k)) (a : Int)).map encN) :=
    compD_enc encN _ encN _ fun k hk => by
      have hk := List.mem_range.mp hk
      refine ⟨_, rfl, ?_, fun _ => ?_⟩
      · have := tool_at (E es (rkAt rs k)) (he.at _) (a : Int)
        simp only [encN, eB_ap, eCall_ap, aCons_ap, eOp_ap, List.set_cons_succ, List.set_cons_zero, eVar_succ, eVar_zero, Res.bind_ok, ix_ranks hk, Res.of_some, oIx_encEs (hr.atlt hk), aNil_ap, this]
        rfl
      · simp [encN]
  have hfl : ((List.range rs.length).filter fun k => hasTool (E es (rkAt rs k)) (a : Int)).length ≤ 6 := Nat.le_trans (List.length_filter_le _ _) (by rw [List.length_range]; exact hl)
  have hpl : pre.length < 16777216 := by
    have := congrArg List.length ha
    simp at this
    omega
  have hb : inB (rs.length : Int) := inB_nat (by omega)
  have hx : atI (((List.range rs.length).filter fun k => hasTool (E es (rkAt rs k)) (a : Int)).map encN ++ [PyData.none]) 0 = some (encH (hgt es rs (a : Int))) := by
    unfold hgt
    rw [← List.head?_filter]
    cases (List.range rs.length).filter fun k => hasTool (E es (rkAt rs k)) (a : Int) with
    | nil => rfl
    | cons x r => simp [encN, encH, encO]
  have hl1 : rs.length < 16777216 := by omega
  generalize ((List.range rs.length).filter fun k => hasTool (E es (rkAt rs k)) (a : Int)) = F at hc hfl hx
  have hl2 : F.length ≤ 16777215 := by omega
  simp [hb, rangeD_encN, hc, hl1, hl2, hx, hpl]
  exact Nx.of ⟨_, _, rfl⟩
end L2.DL
set_option maxHeartbeats 2000000
namespace L2.DL
open PySem PySem.Spec PyProof.Rows

theorem compD_filterMap {α β : Type} {t : Tgt} {c : Te} {e : Ex} {ρ : Env} (enc : α → PyData) (f : α → Option β) (encb : β → PyData) : ∀ (xs : List α), (∀ a ∈ xs, ∃ ρ1, bindT t (enc a) ρ = .ok ρ1 ∧ c ρ1 = .ok (f a).isSome ∧ ∀ b, f a = some b → e ρ1 = .ok (encb b)) → compD t c e ρ (xs.map enc) = .ok ((xs.filterMap f).map encb)
  | [], _ => rfl
  | a :: xs, h => by
    obtain ⟨ρ1, h1, h2, h3⟩ := h a List.mem_cons_self
    have ih := compD_filterMap (t := t) (c := c) (e := e) (ρ := ρ) enc f encb xs fun b hb => h b (List.mem_cons_of_mem _ hb)
    rw [List.map_cons]
    unfold compD
    rw [h1, Res.bind_ok, h2, noErr_ok, Res.bind_ok, ih]
    cases hf : f a with
    | none => simp [List.filterMap_cons, hf]
    | some b =>
      rw [h3 b hf]
      simp [List.filterMap_cons, hf]
theorem enumFrom_map {α : Type} (f : α → PyData) : ∀ (xs : List α) (i : Nat), enumFrom i (xs.map f) = (xs.zipIdx i).map fun p => PyData.tuple [.int (p.2 : Int), f p.1]
  | [], _ => rfl
  | x :: xs, i => by
    rw [List.map_cons, List.zipIdx_cons, List.map_cons, ← enumFrom_map f xs (i + 1)]
    rfl
theorem isN_encO (o : Option Int) : isN (encO o) = o.isNone := by cases o <;> rfl
end L2.DL
set_option maxHeartbeats 2000000
namespace L2.DL
open PySem PySem.Spec PyProof.Rows

theorem encHs_at (es : List Er) (rs : List Nat) {t : Int} (h0 : 0 ≤ t) (h1 : t ≤ 3) : atI (encHs es rs) t = some (encH (hgt es rs t)) := by
  obtain h | h | h | h : t = 0 ∨ t = 1 ∨ t = 2 ∨ t = 3 := by omega
  all_goals
    subst h
    simp [encHs, List.range_succ]
theorem hgt_some {es : List Er} {rs : List Nat} {l : Nat} {p : Int × Option Int} {t : Int} (hl : l ∈ rs) (hp : p ∈ (E es l).parts) (ht : p.2 = some t) : ∃ h, hgt es rs t = some h := by
  obtain ⟨k, hk, e⟩ := List.getElem_of_mem hl
  have : ((List.range rs.length).find? fun k => hasTool (E es (rkAt rs k)) t).isSome := by
    rw [List.find?_isSome]
    refine ⟨k, List.mem_range.mpr hk, ?_⟩
    have e2 : rkAt rs k = l := by
      unfold rkAt
      rw [List.getD_eq_getElem?_getD, List.getElem?_eq_getElem hk]
      exact e
    rw [e2]
    unfold hasTool
    exact List.any_eq_true.mpr ⟨p, hp, by rw [ht]; simp⟩
  exact Option.isSome_iff_exists.mp this
/-- a part by which an errand at place k or higher can be held -/
def holdP (es : List Er) (rs : List Nat) (k : Nat) (p : Int × Option Int) : Bool := match p.2 with
  | none => false
  | some t => match hgt es rs t with
    | some h => decide (h ≤ k)
    | none => false
theorem hold_test {es : List Er} {rs : List Nat} (he : FineEs es) {k l : Nat} {p : Int × Option Int} (hl : l ∈ rs) (hp : p ∈ (E es l).parts) {x0 x1 x2 x5 x6 x7 : Option PyData} :
    teAnd (eB (eOp oIsNot (eVar 8) (eC .none))) (eB (eOp oLe (eOp oIx (eVar 4) (eVar 8)) (eVar 3))) [x0, x1, x2, some (.int (k : Int)), some (.list (encHs es rs)), x5, x6, x7, some (encO p.2)] = .ok (holdP es rs k p) := by
  unfold holdP
  cases e : p.2 with
  | none => simp [encO, asB]
  | some t =>
    obtain ⟨h, eh⟩ := hgt_some hl hp e
    have := ((he.at l).part p hp).2.2 t e
    simp [encO, asB, encHs_at es rs this.1 this.2, eh, encH]
def lm1 (p : Int × Option Int) : Int := p.1 - 1
def hp (es : List Er) (rs : List Nat) (k l : Nat) : List Int := ((E es l).parts.filter (holdP es rs k)).map lm1
def hold (es : List Er) (rs : List Nat) (n : Nat) : Int := ((rs.drop (rs.idxOf n + 1)).flatMap (hp es rs (rs.idxOf n))).foldl max 0
theorem hp_len {es : List Er} (he : FineEs es) (rs : List Nat) (k l : Nat) : (hp es rs k l).length ≤ 4 := by
  unfold hp
  rw [List.length_map]
  exact Nat.le_trans (List.length_filter_le _ _) (he.at l).parts.2
theorem hps_len {es : List Er} (he : FineEs es) (rs : List Nat) (k : Nat) : ∀ ls : List Nat, (ls.flatMap (hp es rs k)).length ≤ 4 * ls.length
  | [] => by simp
  | l :: ls => by
    have := hps_len he rs k ls
    have := hp_len he rs k l
    simp only [List.flatMap_cons, List.length_append, List.length_cons]
    omega
@[simp] theorem items_parts (e : Er) : items (.tuple (e.parts.map encP)) = .ok (e.parts.map encP) := rfl
theorem hold_of_ok {es : List Er} {rs : List Nat} (he : FineEs es) (hr : Rk es rs) {n : Nat} (hn : n ∈ rs) : m_hold_of [encEs es, encR rs, encN n] = .ok (.int (hold es rs n)) := by
  have hl := hr.len
  have hk : rs.idxOf n < rs.length := List.idxOf_lt_length_of_mem hn
  have hidx := index_ok hn
  have hsl : oSlice (encR rs) (some ((rs.idxOf n : Nat) + 1 : Int)) none = some (encR (rs.drop (rs.idxOf n + 1))) := slice_from (n := rs.idxOf n + 1) (by omega)
  simp only [m_hold_of, runD_ap, encN]
  generalize hK : rs.idxOf n = k at *
  have hh := heights_of_ok he hr
  simp [-forS_ap, hidx, hh, hsl]
  refine nx_toR (for_nx encN (fun pre ρ => ∃ a b c, ρ = [some (encEs es), some (encR rs), some (.int (n : Int)), some (.int (k : Int)), some (.list (encHs es rs)), some (.list ((0 :: pre.flatMap (hp es rs k)).map .int)), a, b, c]) (rs.drop (k + 1)) ?_ ⟨_, _, _, rfl⟩ fun pre a post ρ ha ⟨x, y, z, hρ⟩ => ?_) fun ρ ⟨a, b, c, hρ⟩ => ?_
  · simp [hsl]
  · subst hρ
    have hm : a ∈ rs := List.mem_of_mem_drop (i := k + 1) (by rw [ha]; simp)
    have hpre : pre.length ≤ 6 := by
      have := congrArg List.length ha
      simp at this
      omega
    refine ⟨_, rfl, ?_⟩
    refine nx_mono (for_nx encP (fun qs ρ => ∃ b c, ρ = [some (encEs es), some (encR rs), some (.int (n : Int)), some (.int (k : Int)), some (.list (encHs es rs)), some (.list (((0 :: pre.flatMap (hp es rs k)) ++ (qs.filter (holdP es rs k)).map lm1).map .int)), some (encN a), b, c]) (E es a).parts ?_ ⟨y, z, by simp⟩ fun qs p q ρ hq ⟨b, c, hρ⟩ => ?_) fun ρ ⟨b, c, hρ⟩ => ⟨some (encN a), b, c, ?_⟩
    · simp [encN, oIx_encEs (hr.lt a hm)]
    · subst hρ
      have hmp : p ∈ (E es a).parts := by rw [hq]; simp
      refine ⟨[some (encEs es), some (encR rs), some (.int (n : Int)), some (.int (k : Int)), some (.list (encHs es rs)), some (.list (((0 :: pre.flatMap (hp es rs k)) ++ (qs.filter (holdP es rs k)).map lm1).map .int)), some (encN a), some (.int p.1), some (encO p.2)], by simp [encP], ?_⟩
      rw [ifS_ap, hold_test he hm hmp, toS_ok]
      have hql : qs.length ≤ 4 := by
        have h4 := (he.at a).parts.2
        rw [hq] at h4
        simp at h4
        omega
      have h1 := hps_len he rs k pre
      have h2 : (qs.filter (holdP es rs k)).length ≤ 4 := Nat.le_trans (List.length_filter_le _ _) hql
      have h3 : (pre.flatMap (hp es rs k)).length + (qs.filter (holdP es rs k)).length + 1 < 16777216 := by omega
      cases hb : holdP es rs k p with
      | false =>
        refine Nx.of ⟨some (.int p.1), some (encO p.2), ?_⟩
        rw [List.filter_append, List.filter_cons_of_neg (by simp [hb])]
        simp
      | true =>
        rw [List.filter_append, List.filter_cons_of_pos hb]
        generalize pre.flatMap (hp es rs k) = A at *
        generalize qs.filter (holdP es rs k) = B at *
        simp
        rw [if_pos (by omega)]
        exact Nx.of ⟨_, _, rfl⟩
    · subst hρ
      rw [List.flatMap_append, List.flatMap_singleton]
      rfl
  · subst hρ
    have : oMaxL (.list ((0 :: (rs.drop (k + 1)).flatMap (hp es rs k)).map .int)) = some (.int (hold es rs n)) := by
      unfold oMaxL
      dsimp only
      rw [toInts_map]
      unfold hold
      rw [hK]
      rfl
    simp at this
    simp [this]
end L2.DL
set_option maxHeartbeats 2000000
namespace L2.DL
open PySem PySem.Spec PyProof.Rows

/-! ### heights by the law -/
/-- four things -/
def four (f : Int → Option Nat) : List PyData := [encH (f 0), encH (f 1), encH (f 2), encH (f 3)]
theorem four_encHs (es : List Er) (rs : List Nat) : encHs es rs = four (hgt es rs) := by
  simp [encHs, four, List.range_succ]
theorem four_set (f : Int → Option Nat) {t : Int} (h0 : 0 ≤ t) (h1 : t ≤ 3) (k : Nat) : (four f).set t.toNat (.int (k : Int)) = four fun u => if u = t then some k else f u := by
  obtain h | h | h | h : t = 0 ∨ t = 1 ∨ t = 2 ∨ t = 3 := by omega
  all_goals
    subst h
    simp [four, encH, encO]
theorem downD_rev : ∀ n : Nat, downD ((n : Int) - 1) (-1) = (List.range n).reverse.map encN
  | 0 => rfl
  | n + 1 => by
    have ih := downD_rev n
    unfold downD at ih ⊢
    have e1 : (((n + 1 : Nat) : Int) - 1 - -1).toNat = n + 1 := by omega
    have e2 : ((n : Int) - 1 - -1).toNat = n := by omega
    rw [e2] at ih
    rw [e1, List.range_succ, List.reverse_append, List.reverse_singleton, List.singleton_append, List.map_cons, ← ih, ← List.range_succ, List.range_succ_eq_map, List.map_cons, List.map_map]
    congr 1
    · show PyData.int _ = PyData.int _
      congr 1
      omega
    · apply List.map_congr_left
      intro i _
      show PyData.int _ = PyData.int _
      congr 1
      simp
      omega
theorem law_heights_ok {es : List Er} {rs : List Nat} (he : FineEs es) (hr : Rk es rs) : m__law_heights [encEs es, encR rs] = .ok (.list (encHs es rs)) := by
  have hl := hr.len
  rw [four_encHs]
  simp only [m__law_heights, runD_ap]
  simp [-forS_ap]
  refine nx_toR (for_nx encN (fun pre ρ => ∃ a b c, ρ = [some (encEs es), some (encR rs), some (.list (four fun t => pre.reverse.find? fun k => hasTool (E es (rkAt rs k)) t)), a, b, c]) (List.range rs.length).reverse ?_ ⟨none, none, none, rfl⟩ fun pre a post ρ ha ⟨x, y, z, hρ⟩ => ?_) fun ρ ⟨a, b, c, hρ⟩ => ?_
  · have h1 : inB ((rs.length : Int) - 1) := ⟨by omega, by omega⟩
    have h2 : inB (-1) := ⟨by omega, by omega⟩
    simp [h1, h2, downD_rev]
  · subst hρ
    have hk : a < rs.length := by
      have : a ∈ (List.range rs.length).reverse := by rw [ha]; simp
      simpa using this
    generalize hf : (fun t : Int => pre.reverse.find? fun k => hasTool (E es (rkAt rs k)) t) = f
    have ht : ∀ t : Int, ((pre ++ [a]).reverse.find? fun k => hasTool (E es (rkAt rs k)) t) = if hasTool (E es (rkAt rs a)) t = true then some a else f t := by
      intro t
      rw [List.reverse_append, List.reverse_singleton, List.singleton_append, List.find?_cons, ← hf]
      cases hasTool (E es (rkAt rs a)) t <;> rfl
    simp only [ht]
    refine ⟨_, rfl, ?_⟩
    refine nx_mono (for_nx encP (fun qs ρ => ∃ b c, ρ = [some (encEs es), some (encR rs), some (.list (four fun t => if (qs.any fun p => p.2 == some t) = true then some a else f t)), some (encN a), b, c]) (E es (rkAt rs a)).parts ?_ ⟨y, z, by simp⟩ fun qs p q ρ hq ⟨b, c, hρ⟩ => ?_) fun ρ ⟨b, c, hρ⟩ => ⟨some (encN a), b, c, ?_⟩
    · simp [encN, ix_ranks hk, oIx_encEs (hr.atlt hk)]
    · subst hρ
      have hmp : p ∈ (E es (rkAt rs a)).parts := by rw [hq]; simp
      refine ⟨[some (encEs es), some (encR rs), some (.list (four fun t => if (qs.any fun p => p.2 == some t) = true then some a else f t)), some (encN a), some (.int p.1), some (encO p.2)], by simp [encP], ?_⟩
      cases e : p.2 with
      | none =>
        have : (fun t => if ((qs ++ [p]).any fun p => p.2 == some t) = true then some a else f t) = fun t => if (qs.any fun p => p.2 == some t) = true then some a else f t := by
          funext u
          rw [List.any_append]
          simp only [List.any_cons, List.any_nil, e, Bool.or_false]
          rw [show ((none : Option Int) == some u) = false from rfl, Bool.or_false]
        rw [this]
        simp [encO, asB]
        exact Nx.of ⟨some (.int p.1), some .none, rfl⟩
      | some t =>
        have h3 := ((he.at _).part p hmp).2.2 t e
        have hix : ixN 4 t = some t.toNat := by
          obtain ⟨m, rfl⟩ : ∃ m : Nat, t = (m : Int) := ⟨t.toNat, by omega⟩
          unfold ixN
          simp
          omega
        generalize hg : (fun u => if (qs.any fun p => p.2 == some u) = true then some a else f u) = g
        have hlen : (four g).length = 4 := rfl
        simp [encO, asB, encN, hlen, hix, four_set g h3.1 h3.2]
        refine Nx.of ⟨some (.int p.1), some (encO (some t)), ?_⟩
        have : (fun u => if u = t then some a else g u) = fun u => if ((qs ++ [p]).any fun p => p.2 == some u) = true then some a else f u := by
          funext u
          rw [List.any_append, ← hg]
          simp only [List.any_cons, List.any_nil, e, Bool.or_false]
          by_cases hu : u = t
          · subst hu; simp
          · have : ((some t : Option Int) == some u) = false := by simp; omega
            rw [if_neg hu, this, Bool.or_false]
        rw [this]
        rfl
    · subst hρ
      rfl
  · subst hρ
    simp
    rfl
theorem law_hold_ok {es : List Er} {rs : List Nat} (he : FineEs es) (hr : Rk es rs) {n : Nat} (hn : n ∈ rs) : m__law_hold [encEs es, encR rs, encN n] = .ok (.int (hold es rs n)) := by
  have hl := hr.len
  have hk : rs.idxOf n < rs.length := List.idxOf_lt_length_of_mem hn
  have hidx := index_ok hn
  have hsl : oSlice (encR rs) (some ((rs.idxOf n : Nat) + 1 : Int)) none = some (encR (rs.drop (rs.idxOf n + 1))) := slice_from (n := rs.idxOf n + 1) (by omega)
  simp only [m__law_hold, runD_ap, encN]
  unfold hold
  generalize hK : rs.idxOf n = k at *
  have hh := law_heights_ok he hr
  simp [-forS_ap, hidx, hh, hsl]
  refine nx_toR (for_nx encN (fun pre ρ => ∃ a b c, ρ = [some (encEs es), some (encR rs), some (.int (n : Int)), some (.int (k : Int)), some (.list (encHs es rs)), some (.int ((pre.flatMap (hp es rs k)).foldl max 0)), a, b, c]) (rs.drop (k + 1)) ?_ ⟨_, _, _, rfl⟩ fun pre a post ρ ha ⟨x, y, z, hρ⟩ => ?_) fun ρ ⟨a, b, c, hρ⟩ => by subst hρ; simp
  · simp [hsl]
  · subst hρ
    have hm : a ∈ rs := List.mem_of_mem_drop (i := k + 1) (by rw [ha]; simp)
    refine ⟨_, rfl, ?_⟩
    refine nx_mono (for_nx encP (fun qs ρ => ∃ b c, ρ = [some (encEs es), some (encR rs), some (.int (n : Int)), some (.int (k : Int)), some (.list (encHs es rs)), some (.int ((pre.flatMap (hp es rs k) ++ (qs.filter (holdP es rs k)).map lm1).foldl max 0)), some (encN a), b, c]) (E es a).parts ?_ ⟨y, z, by simp⟩ fun qs p q ρ hq ⟨b, c, hρ⟩ => ?_) fun ρ ⟨b, c, hρ⟩ => ⟨some (encN a), b, c, ?_⟩
    · simp [encN, oIx_encEs (hr.lt a hm)]
    · subst hρ
      have hmp : p ∈ (E es a).parts := by rw [hq]; simp
      refine ⟨[some (encEs es), some (encR rs), some (.int (n : Int)), some (.int (k : Int)), some (.list (encHs es rs)), some (.int ((pre.flatMap (hp es rs k) ++ (qs.filter (holdP es rs k)).map lm1).foldl max 0)), some (encN a), some (.int p.1), some (encO p.2)], by simp [encP], ?_⟩
      rw [ifS_ap, hold_test he hm hmp, toS_ok]
      cases hb : holdP es rs k p with
      | false =>
        refine Nx.of ⟨some (.int p.1), some (encO p.2), ?_⟩
        rw [List.filter_append, List.filter_cons_of_neg (by simp [hb])]
        simp
      | true =>
        rw [List.filter_append, List.filter_cons_of_pos hb, List.filter_nil, List.map_append, ← List.append_assoc, List.foldl_append (l := _ ++ _)]
        generalize (pre.flatMap (hp es rs k) ++ (qs.filter (holdP es rs k)).map lm1).foldl max 0 = A
        simp
        refine Nx.of ⟨some (.int p.1), some (encO p.2), ?_⟩
        have : (if A < p.1 - 1 then p.1 - 1 else A) = max A (p.1 - 1) := by omega
        rw [this]
        rfl
    · subst hρ
      rw [List.flatMap_append, List.flatMap_singleton]
      rfl
/-! ### the need -/
theorem law_work_ok {e : Er} (h : FineE e) : m__law_work [encE e] = .ok (.int (work e)) := work_of_ok h.parts.2
def often (e : Er) (t : Int) : Int := (t + e.late + e.every - 1) / e.every
def needs (es : List Er) (rs : List Nat) (n : Nat) (t : Int) : List Int := (rs.take (rs.idxOf n)).map fun o => often (E es o) t * work (E es o)
def need (es : List Er) (rs : List Nat) (n : Nat) (h t : Int) : Int := h + work (E es n) + (needs es rs n t).sum
theorem sum_bounds : ∀ {ps : List (Int × Option Int)}, (∀ p ∈ ps, 1 ≤ p.1 ∧ p.1 ≤ 1000) → (ps.length : Int) ≤ (ps.map (·.1)).sum ∧ (ps.map (·.1)).sum ≤ 1000 * ps.length
  | [], _ => by simp
  | p :: ps, h => by
    have h1 := h p List.mem_cons_self
    have h2 := sum_bounds fun q hq => h q (List.mem_cons_of_mem _ hq)
    simp only [List.map_cons, List.sum_cons, List.length_cons]
    omega
theorem work_bounds {e : Er} (h : FineE e) : 1 ≤ work e ∧ work e ≤ 4000 := by
  have := sum_bounds fun p hp => ⟨(h.part p hp).1, (h.part p hp).2.1⟩
  have := h.parts
  unfold work
  omega
theorem often_ok {e : Er} (h : FineE e) (t : Int) : m_often [encE e, .int t] = .ok (.int (often e t)) := by
  have h1 := h.every
  simp [m_often, runD_ap, often]
  rw [if_pos (by omega)]
  rfl
theorem oSum_ints (ns : List Int) : oSum (.list (ns.map .int)) = some (.int ns.sum) := by
  unfold oSum
  dsimp only
  rw [toInts_map]
  rfl
theorem need_with_ok {es : List Er} {rs : List Nat} (he : FineEs es) (hr : Rk es rs) {n : Nat} (hn : n ∈ rs) (h t : Int) : m_need_with [encEs es, encR rs, encN n, .int h, .int t] = .ok (.int (need es rs n h t)) := by
  have hl := hr.len
  have hk : rs.idxOf n < rs.length := List.idxOf_lt_length_of_mem hn
  have hidx := index_ok hn
  have hsl := slice_to (rs := rs) (n := rs.idxOf n) (by omega)
  have hw := work_of_ok (he.at n).parts.2
  have hc : compD (.one 7) teYes (eOp oMul (eCall m_often (aCons (eOp oIx (eVar 0) (eVar 7)) (aCons (eVar 4) aNil))) (eCall m_work_of (aCons (eOp oIx (eVar 0) (eVar 7)) aNil))) [some (encEs es), some (encR rs), some (.int (n : Int)), some (.int h), some (.int t), some (encR (rs.take (rs.idxOf n))), some (.int (h + work (E es n))), none] ((rs.take (rs.idxOf n)).map encN) = .ok ((rs.take (rs.idxOf n)).map fun o => PyData.int (often (E es o) t * work (E es o))) :=
    compD_map encN _ _ fun o ho => by
      have hm : o ∈ rs := List.mem_of_mem_take ho
      have hw := work_of_ok (he.at o).parts.2
      have hb := work_bounds (he.at o)
      refine ⟨_, rfl, ?_⟩
      simp [encN, oIx_encEs (hr.lt o hm), often_ok (he.at o), hw]
      rw [if_pos (Or.inr ⟨by omega, by omega⟩)]
      rfl
  have hs : (rs.take (rs.idxOf n)).map (fun o => PyData.int (often (E es o) t * work (E es o))) = (needs es rs n t).map .int := by
    unfold needs
    rw [List.map_map]
    rfl
  rw [hs] at hc
  have hlen : (rs.take (rs.idxOf n)).length < 16777216 := by rw [List.length_take]; omega
  generalize rs.take (rs.idxOf n) = T at *
  simp [m_need_with, runD_ap, encN, hidx, hsl, oIx_encEs (hr.lt n hn), hw, hc, oSum_ints, hlen]
  rfl
end L2.DL
set_option maxHeartbeats 2000000
namespace L2.DL
open PySem PySem.Spec PyProof.Rows

theorem often_alt {a e : Int} (h : 0 < e) : (a + e - 1) / e = a / e + if 0 < a % e then 1 else 0 := by
  have h1 := Int.mul_ediv_add_emod a e
  have h2 := Int.emod_nonneg a (by omega : e ≠ 0)
  have h3 := Int.emod_lt_of_pos a h
  generalize a / e = q at *
  generalize a % e = r at *
  split
  · rename_i hr
    have : a + e - 1 = (r - 1) + e * (q + 1) := by rw [Int.mul_add]; omega
    rw [this, Int.add_mul_ediv_left _ _ (by omega), Int.ediv_eq_zero_of_lt (by omega) (by omega)]
    omega
  · rename_i hr
    have : a + e - 1 = (e - 1) + e * q := by omega
    rw [this, Int.add_mul_ediv_left _ _ (by omega), Int.ediv_eq_zero_of_lt (by omega) (by omega)]
    omega
theorem law_need_ok {es : List Er} {rs : List Nat} (he : FineEs es) (hr : Rk es rs) {n : Nat} (hn : n ∈ rs) (t : Int) : m__law_need [encEs es, encR rs, encN n, .int t] = .ok (.int (need es rs n (hold es rs n) t)) := by
  have hl := hr.len
  have hk : rs.idxOf n < rs.length := List.idxOf_lt_length_of_mem hn
  have hidx := index_ok hn
  have hsl := slice_to (rs := rs) (n := rs.idxOf n) (by omega)
  have hw := law_work_ok (he.at n)
  have hh := law_hold_ok he hr hn
  simp only [m__law_need, runD_ap]
  unfold encN at *
  simp [-forS_ap, hh, hw, oIx_encEs (hr.lt n hn)]
  refine nx_toR (for_nx encN (fun pre ρ => ∃ a b c d e g, ρ = [some (encEs es), some (encR rs), some (.int (n : Int)), some (.int t), some (.int (hold es rs n + work (E es n) + (pre.map fun o => often (E es o) t * work (E es o)).sum)), a, b, c, d, e, g]) (rs.take (rs.idxOf n)) ?_ ⟨none, none, none, none, none, none, by simp⟩ fun pre a post ρ ha ⟨b, c, d, e, g, i, hρ⟩ => ?_) fun ρ ⟨b, c, d, e, g, i, hρ⟩ => by subst hρ; simp [need, needs]
  · simp [hidx, hsl]
  · subst hρ
    have hm : a ∈ rs := List.mem_of_mem_take (i := rs.idxOf n) (by rw [ha]; simp)
    refine ⟨_, rfl, ?_⟩
    have hf := he.at a
    have hlt := hr.lt a hm
    have hix := oIx_encEs hlt
    have hwa := law_work_ok hf
    have hwb := work_bounds hf
    have hev := hf.every
    have he2 : encE (E es a) = .tuple [.int (E es a).every, .int (E es a).due, .int (E es a).late, .tuple ((E es a).parts.map encP)] := rfl
    have hof : (t + (E es a).late) / (E es a).every + (if 0 < (t + (E es a).late) % (E es a).every then 1 else 0) = often (E es a) t := by
      unfold often
      rw [← often_alt (by omega)]
    simp only [seqS_ap, asgS_ap, eOp_ap, eVar_succ, eVar_zero, List.set_cons_succ, List.set_cons_zero, wipeD_nil, Res.bind_ok, encN, hix, Res.of_some, toS_ok, he2, bindT_tup, List.length_cons, List.length_nil, if_true, setAll_cons, setAll_nil, toS'_ok, andThen_nx, setS_ap, oAdd_int]
    simp only [oDiv_int, oMod_int, if_pos (show 0 < (E es a).every ∧ (E es a).every < 1073741824 by omega), if_pos (show 0 < (E es a).every by omega), Res.of_some, Res.bind_ok, eC_ap, eCall1_ap, oGt_int, oInt_bool, decide_eq_true_eq, oAdd_int, hof, toS_ok, andThen_nx, List.set_cons_succ, List.set_cons_zero, eVar_succ, eVar_zero, eCall_ap, aCons_ap, aNil_ap, eOp_ap, hwa, hix, oMul_int]
    simp only [setS_ap, wipeD_nil, eOp_ap, eVar_succ, eVar_zero, eCall_ap, aCons_ap, aNil_ap, hwa, hix, oMul_int, Res.of_some, Res.bind_ok]
    rw [if_pos (Or.inr ⟨by omega, by omega⟩)]
    simp only [Res.of_some, Res.bind_ok, oAdd_int, toS_ok]
    refine Nx.of ⟨some (.int (a : Int)), some (.int (often (E es a) t)), some (.int (E es a).every), some (.int (E es a).due), some (.int (E es a).late), some (.tuple ((E es a).parts.map encP)), ?_⟩
    rw [List.map_append, List.sum_append, List.map_singleton, List.sum_singleton, ← Int.add_assoc]
    rfl
/-! ### the longest answer -/
/-- the least time from 1 to every less late that is no less than its need -/
def lngH (es : List Er) (rs : List Nat) (n : Nat) (h : Int) : Option Int := ((List.range ((E es n).every - (E es n).late).toNat).find? fun (i : Nat) => decide (need es rs n h (1 + (i : Int)) ≤ 1 + (i : Int))).map fun (i : Nat) => 1 + (i : Int)
abbrev lng (es : List Er) (rs : List Nat) (n : Nat) : Option Int := lngH es rs n (hold es rs n)
theorem findSome_if {α β : Type} (p : α → Bool) (g : α → β) : ∀ xs : List α, (xs.findSome? fun a => if p a = true then some (g a) else none) = (xs.find? p).map g
  | [] => rfl
  | a :: xs => by
    rw [List.findSome?_cons, List.find?_cons]
    cases h : p a with
    | true => rfl
    | false =>
      rw [if_neg (by simp)]
      exact findSome_if p g xs
theorem rangeD_one (m : Int) : rangeD 1 (m + 1) = (List.range m.toNat).map fun (i : Nat) => PyData.int (1 + (i : Int)) := by
  unfold rangeD
  have : (m + 1 - 1).toNat = m.toNat := by omega
  rw [this]
theorem law_longest_ok {es : List Er} {rs : List Nat} (he : FineEs es) (hr : Rk es rs) {n : Nat} (hn : n ∈ rs) : m__law_longest [encEs es, encR rs, encN n] = .ok (encO (lng es rs n)) := by
  have hix := oIx_encEs (hr.lt n hn)
  have hf := he.at n
  simp only [m__law_longest, runD_ap]
  simp [-forS_ap]
  refine for_find (fun (i : Nat) => PyData.int (1 + (i : Int))) (fun ρ => ∃ x, ρ = [some (encEs es), some (encR rs), some (encN n), x]) (fun i => if (decide (need es rs n (hold es rs n) (1 + (i : Int)) ≤ 1 + (i : Int))) = true then some (PyData.int (1 + (i : Int))) else none) (List.range ((E es n).every - (E es n).late).toNat) ?_ ⟨_, rfl⟩ (fun i ρ hi ⟨x, hρ⟩ => ?_) ?_
  · have h1 := hf.every
    have h2 := hf.late
    have hb : inB 1 ∧ inB ((E es n).every - (E es n).late + 1) := ⟨⟨by omega, by omega⟩, ⟨by omega, by omega⟩⟩
    unfold encN
    simp [hix, hb, rangeD_one]
  · subst hρ
    refine ⟨_, rfl, ?_⟩
    have hnd := law_need_ok he hr hn (1 + (i : Int))
    by_cases hd : need es rs n (hold es rs n) (1 + (i : Int)) ≤ 1 + (i : Int)
    · rw [if_pos (by simpa using hd)]
      simp [hnd, asB, hd]
    · rw [if_neg (by simpa using hd)]
      simp [hnd, asB, hd]
      exact Nx.of ⟨_, rfl⟩
  · rw [findSome_if]
    unfold lng lngH
    cases (List.range ((E es n).every - (E es n).late).toNat).find? fun (i : Nat) => decide (need es rs n (hold es rs n) (1 + (i : Int)) ≤ 1 + (i : Int)) with
    | some i => rfl
    | none =>
      rintro ρ ⟨x, rfl⟩
      rfl
/-! ### the climb -/
inductive Lv (f : Int → Int) : List Int → Int → Prop
  | one : Lv f [f 1] (f 1)
  | more {l : List Int} {a : Int} : Lv f l a → a < f a → Lv f (l ++ [f a]) (f a)
theorem Lv.last {f : Int → Int} {l : List Int} {a : Int} (h : Lv f l a) : ∃ r, l = r ++ [a] := by
  cases h with
  | one => exact ⟨[], rfl⟩
  | more h _ => exact ⟨_, rfl⟩
theorem Lv.len {f : Int → Int} {l : List Int} {a : Int} (h : Lv f l a) (h1 : 1 ≤ f 1) : (l.length : Int) ≤ a := by
  induction h with
  | one => simpa using h1
  | more h hlt ih => rw [List.length_append]; simp only [List.length_singleton]; omega
theorem Lv.under {f : Int → Int} {l : List Int} {a : Int} (h : Lv f l a) (hm : ∀ s t, s ≤ t → f s ≤ f t) : ∀ t, 1 ≤ t → t < a → t < f t := by
  induction h with
  | one =>
    intro t h1 h2
    have := hm 1 t h1
    omega
  | more h hlt ih =>
    rename_i l a
    intro t h1 h2
    by_cases hta : t < a
    · exact ih t h1 hta
    · have := hm a t (by omega)
      omega
theorem Lv.pos {f : Int → Int} {l : List Int} {a : Int} (h : Lv f l a) (h1 : 1 ≤ f 1) : 1 ≤ a := by
  have h2 := h.len h1
  obtain ⟨r, rfl⟩ := h.last
  rw [List.length_append] at h2
  simp only [List.length_singleton] at h2
  omega
/-- a told row of levels, or none -/
def LvR (f : Int → Int) (most : Int) : Option (List Int) → Prop
  | none => ∀ t, 1 ≤ t → t ≤ most → t < f t
  | some l => ∃ a, Lv f l a ∧ f a = a ∧ a ≤ most
def encL : Option (List Int) → PyData
  | none => .none
  | some l => .list (l.map .int)
theorem levels_with_ok {es : List Er} {rs : List Nat} (he : FineEs es) (hr : Rk es rs) {n : Nat} (hn : n ∈ rs) (h : Int) (h1 : 1 ≤ need es rs n h 1) (hm : ∀ s t, s ≤ t → need es rs n h s ≤ need es rs n h t) :
    ∃ r, m_levels_with [encEs es, encR rs, encN n, .int h] = .ok (encL r) ∧ LvR (need es rs n h) ((E es n).every - (E es n).late) r := by
  have hix := oIx_encEs (hr.lt n hn)
  have hf := he.at n
  have hnd := need_with_ok he hr hn h
  simp only [m_levels_with, runD_ap]
  simp only [encN] at hnd ⊢
  simp [hnd, hix]
  generalize hM : (E es n).every - (E es n).late = most
  have hmost : most ≤ 1000 := by
    have h1 := hf.every
    have h2 := hf.late
    omega
  generalize hF : need es rs n h = f at *
  generalize hC : (eB (eOp oLe (eOp oIx (eVar 5) (eUn oNeg (eC (.int 1)))) (eVar 4))) = C
  generalize hB : (seqS (setS [5] 6 _) _) = B
  have key : ∀ (d : Nat) (l : List Int) (a : Int) (x : Option PyData), Lv f l a → most - a < d → ∃ r, ((whileS C B [some (encEs es), some (encR rs), some (.int (n : Int)), some (.int h), some (.int most), some (.list (l.map .int)), x]).andThen (retS (eC .none))).toR = .ok (encL r) ∧ LvR f most r := by
    intro d
    induction d with
    | zero =>
      intro l a x hv hd
      have hlast : atI (l.map PyData.int) (-1) = some (.int a) := by
        obtain ⟨r, rfl⟩ := hv.last
        rw [List.map_append, List.map_singleton]
        exact atI_last _ _
      refine ⟨none, ?_, fun t h1 h2 => hv.under hm t h1 (by omega)⟩
      rw [whileS_step, ← hC]
      simp [hlast, asB, show ¬ a ≤ most by omega]
      rfl
    | succ d ih =>
      intro l a x hv hd
      have hlast : atI (l.map PyData.int) (-1) = some (.int a) := by
        obtain ⟨r, rfl⟩ := hv.last
        rw [List.map_append, List.map_singleton]
        exact atI_last _ _
      by_cases ham : a ≤ most
      · by_cases hfa : f a = a
        · refine ⟨some l, ?_, a, hv, hfa, ham⟩
          rw [whileS_step, ← hC, ← hB]
          simp [hlast, asB, ham, hnd, hfa]
          rfl
        · have hge : a < f a := by
            have : a ≤ f a := by
              cases hv with
              | one => exact hm 1 _ h1
              | more hv' hlt => exact hm _ _ (Int.le_of_lt hlt)
            omega
          have hlen := hv.len h1
          obtain ⟨r, h3, h4⟩ := ih (l ++ [f a]) (f a) (some (.int (f a))) (hv.more hge) (by omega)
          refine ⟨r, ?_, h4⟩
          rw [whileS_step]
          rw [← h3]
          have hc : C [some (encEs es), some (encR rs), some (.int (n : Int)), some (.int h), some (.int most), some (.list (l.map .int)), x] = .ok true := by
            rw [← hC]
            simp [hlast, asB, ham]
          have hb : B [some (encEs es), some (encR rs), some (.int (n : Int)), some (.int h), some (.int most), some (.list (l.map .int)), x] = .nx [some (encEs es), some (encR rs), some (.int (n : Int)), some (.int h), some (.int most), some (.list ((l ++ [f a]).map .int)), some (.int (f a))] := by
            rw [← hB]
            simp [hlast, asB, hnd, hfa]
            omega
          rw [hc, hb]
          rfl
      · refine ⟨none, ?_, fun t h1 h2 => hv.under hm t h1 (by omega)⟩
        rw [whileS_step, ← hC]
        simp [hlast, asB, ham]
        rfl
  exact key (most - f 1 + 1).toNat [f 1] (f 1) none .one (by omega)
end L2.DL
set_option maxHeartbeats 2000000
namespace L2.DL
open PySem PySem.Spec PyProof.Rows

theorem often_mono {e : Er} (he : FineE e) {s t : Int} (h : s ≤ t) : often e s ≤ often e t := by
  unfold often
  exact Int.ediv_le_ediv (by have := he.every; omega) (by omega)
theorem often_nonneg {e : Er} (he : FineE e) {t : Int} (h : 0 ≤ t) : 0 ≤ often e t := by
  unfold often
  have := he.every
  have := he.late
  exact Int.ediv_nonneg (by omega) (by omega)
theorem sum_mono {α : Type} {f g : α → Int} : ∀ {xs : List α}, (∀ x ∈ xs, f x ≤ g x) → (xs.map f).sum ≤ (xs.map g).sum
  | [], _ => Int.le_refl _
  | x :: xs, h => by
    simp only [List.map_cons, List.sum_cons]
    have h1 := h x List.mem_cons_self
    have h2 := sum_mono fun y hy => h y (List.mem_cons_of_mem _ hy)
    omega
theorem sum_nonneg {α : Type} {f : α → Int} {xs : List α} (h : ∀ x ∈ xs, 0 ≤ f x) : 0 ≤ (xs.map f).sum := by
  have z := sum_mono (f := fun _ => 0) (g := f) h
  have : ∀ xs : List α, (xs.map fun _ => (0 : Int)).sum = 0 := by
    intro xs
    induction xs with
    | nil => rfl
    | cons a r ih => simp only [List.map_cons, List.sum_cons, ih]; rfl
  rw [this] at z
  exact z
theorem need_mono {es : List Er} (he : FineEs es) (rs : List Nat) (n : Nat) (h : Int) {s t : Int} (hst : s ≤ t) : need es rs n h s ≤ need es rs n h t := by
  unfold need needs
  have := sum_mono (f := fun o => often (E es o) s * work (E es o)) (g := fun o => often (E es o) t * work (E es o)) (xs := rs.take (rs.idxOf n)) fun o _ =>
    Int.mul_le_mul_of_nonneg_right (often_mono (he.at o) hst) (by have := work_bounds (he.at o); omega)
  omega
theorem needs_nonneg {es : List Er} (he : FineEs es) (rs : List Nat) (n : Nat) {t : Int} (h : 0 ≤ t) : 0 ≤ (needs es rs n t).sum :=
  sum_nonneg fun o _ => Int.mul_nonneg (often_nonneg (he.at o) h) (by have := work_bounds (he.at o); omega)
theorem hold_nonneg (es : List Er) (rs : List Nat) (n : Nat) : 0 ≤ hold es rs n := (foldl_max_le _ 0).1
theorem need_pos {es : List Er} (he : FineEs es) (rs : List Nat) (n : Nat) {h : Int} (h0 : 0 ≤ h) : 1 ≤ need es rs n h 1 := by
  have h1 := needs_nonneg he rs n (t := 1) (by omega)
  have h2 := work_bounds (he.at n)
  unfold need
  omega
/-- the told row's last one is the least time that fits -/
theorem lngH_of {es : List Er} {rs : List Nat} {n : Nat} {h : Int} (he : FineEs es) (h0 : 0 ≤ h) {r : Option (List Int)} (hr : LvR (need es rs n h) ((E es n).every - (E es n).late) r) :
    r.bind List.getLast? = lngH es rs n h := by
  have hp := need_pos he rs n h0
  have hm := fun s t => need_mono he rs n h (s := s) (t := t)
  unfold lngH
  generalize hM : (E es n).every - (E es n).late = most at *
  cases r with
  | none =>
    have : (List.range most.toNat).find? (fun (i : Nat) => decide (need es rs n h (1 + (i : Int)) ≤ 1 + (i : Int))) = none := by
      rw [List.find?_eq_none]
      intro i hi
      have hi := List.mem_range.mp hi
      have := hr (1 + (i : Int)) (by omega) (by omega)
      simp
      omega
    rw [this]
    rfl
  | some l =>
    obtain ⟨a, hv, hfa, ham⟩ := hr
    have ha := hv.pos hp
    have : (List.range most.toNat).find? (fun (i : Nat) => decide (need es rs n h (1 + (i : Int)) ≤ 1 + (i : Int))) = some (a - 1).toNat := by
      rw [List.find?_eq_some_iff_getElem]
      refine ⟨?_, (a - 1).toNat, by rw [List.length_range]; omega, by simp, ?_⟩
      · have : 1 + (((a - 1).toNat : Nat) : Int) = a := by omega
        rw [this, hfa]
        simp
      · intro j hj
        have := hv.under hm (1 + (j : Int)) (by omega) (by omega)
        simp
        omega
    rw [this]
    obtain ⟨p, rfl⟩ := hv.last
    show (p ++ [a]).getLast? = some (1 + (((a - 1).toNat : Nat) : Int))
    have : 1 + (((a - 1).toNat : Nat) : Int) = a := by omega
    rw [this, List.getLast?_append]
    rfl
theorem levels_of_ok {es : List Er} {rs : List Nat} (he : FineEs es) (hr : Rk es rs) {n : Nat} (hn : n ∈ rs) :
    ∃ r, m_levels_of [encEs es, encR rs, encN n] = .ok (encL r) ∧ LvR (need es rs n (hold es rs n)) ((E es n).every - (E es n).late) r := by
  have h0 := hold_nonneg es rs n
  have hh := hold_of_ok he hr hn
  obtain ⟨r, h1, h2⟩ := levels_with_ok he hr hn (hold es rs n) (need_pos he rs n h0) fun s t => need_mono he rs n _
  refine ⟨r, ?_, h2⟩
  simp [m_levels_of, runD_ap, hh, h1]
theorem longest_of_ok {es : List Er} {rs : List Nat} (he : FineEs es) (hr : Rk es rs) {n : Nat} (hn : n ∈ rs) : m_longest_of [encEs es, encR rs, encN n] = .ok (encO (lng es rs n)) := by
  obtain ⟨r, h1, h2⟩ := levels_of_ok he hr hn
  have h3 := lngH_of he (hold_nonneg es rs n) h2
  have hl : m_last_of [encL r] = .ok (encO (lng es rs n)) := by
    cases r with
    | none =>
      have h3 : none = lng es rs n := h3
      rw [← h3]
      simp [m_last_of, runD_ap, encL, asB, encO]
    | some l =>
      obtain ⟨a, hv, _, _⟩ := h2
      obtain ⟨p, rfl⟩ := hv.last
      have h3 : (p ++ [a]).getLast? = lng es rs n := h3
      have hla : atI (p.map PyData.int ++ [PyData.int a]) (-1) = some (.int a) := atI_last _ _
      rw [List.getLast?_append] at h3
      rw [← h3]
      simp [m_last_of, runD_ap, encL, asB, encO, hla]
  simp [m_longest_of, runD_ap, h1, hl]
theorem longest_ok {es : List Er} {rs : List Nat} (he : OkEs es) (hr : OkR es.length rs) {n : Nat} (hn : n < es.length) : m_longest [encEs es, encR rs, encN n] = .ok (encO (lng es rs n)) := by
  simp [m_longest, runD_ap, need_ranks_ok he hr, need_errand_ok hn, longest_of_ok he.fine (hr.rk he.len.2) (hr.mem hn)]
theorem hold_ok {es : List Er} {rs : List Nat} (he : OkEs es) (hr : OkR es.length rs) {n : Nat} (hn : n < es.length) : m_hold [encEs es, encR rs, encN n] = .ok (.int (hold es rs n)) := by
  simp [m_hold, runD_ap, need_ranks_ok he hr, need_errand_ok hn, hold_of_ok he.fine (hr.rk he.len.2) (hr.mem hn)]
theorem levels_ok {es : List Er} {rs : List Nat} (he : OkEs es) (hr : OkR es.length rs) {n : Nat} (hn : n < es.length) :
    ∃ r, m_levels [encEs es, encR rs, encN n] = .ok (encL r) ∧ LvR (need es rs n (hold es rs n)) ((E es n).every - (E es n).late) r := by
  obtain ⟨r, h1, h2⟩ := levels_of_ok he.fine (hr.rk he.len.2) (hr.mem hn)
  refine ⟨r, ?_, h2⟩
  simp [m_levels, runD_ap, need_ranks_ok he hr, need_errand_ok hn, h1]
/-- in time -/
def inT (es : List Er) (rs : List Nat) (n : Nat) : Bool := match lng es rs n with
  | none => false
  | some t => decide (t ≤ (E es n).due)
theorem is_in_time_ok {es : List Er} {rs : List Nat} (he : FineEs es) (hr : Rk es rs) {n : Nat} (hn : n ∈ rs) : m_is_in_time [encEs es, encR rs, encN n] = .ok (.bool (inT es rs n)) := by
  have hix := oIx_encEs (hr.lt n hn)
  have h1 := longest_of_ok he hr hn
  unfold inT
  simp only [encN] at h1 hix ⊢
  cases e : lng es rs n <;> simp [m_is_in_time, runD_ap, h1, e, encO, asB, hix]
theorem law_in_time_ok {es : List Er} {rs : List Nat} (he : FineEs es) (hr : Rk es rs) {n : Nat} (hn : n ∈ rs) : m__law_in_time [encEs es, encR rs, encN n] = .ok (.bool (inT es rs n)) := by
  have hix := oIx_encEs (hr.lt n hn)
  have h1 := law_longest_ok he hr hn
  unfold inT
  simp only [encN] at h1 hix ⊢
  cases e : lng es rs n <;> simp [m__law_in_time, runD_ap, h1, e, encO, asB, hix]
theorem in_time_ok {es : List Er} {rs : List Nat} (he : OkEs es) (hr : OkR es.length rs) : m_in_time [encEs es, encR rs] = .ok (.list (((List.range es.length).filter (inT es rs)).map encN)) := by
  have hl := he.len
  have hb : inB (es.length : Int) := inB_nat (by omega)
  have hc : compD (.one 2) (eB (eCall m_is_in_time (aCons (eVar 0) (aCons (eVar 1) (aCons (eVar 2) aNil))))) (eVar 2) [some (encEs es), some (encR rs), none] ((List.range es.length).map encN) = .ok (((List.range es.length).filter (inT es rs)).map encN) :=
    compD_enc encN _ encN _ fun k hk => by
      have hk := List.mem_range.mp hk
      refine ⟨_, rfl, ?_, fun _ => rfl⟩
      simp [is_in_time_ok he.fine (hr.rk hl.2) (hr.mem hk), asB]
  simp [m_in_time, runD_ap, need_ranks_ok he hr, hb, rangeD_encN, show es.length < 16777216 by omega, hc]
end L2.DL
set_option maxHeartbeats 2000000
namespace L2.DL
open PySem PySem.Spec PyProof.Rows

/-! ### drawing -/
abbrev encS (ns : List Int) : PyData := .list (ns.map .int)
def cellAt (ns : List Int) (k : Int) : Int := if k < (ns.length : Int) then ns.getD k.toNat 0 else if ns = [] then 0 else ns.getD (k % (ns.length : Int)).toNat 0 * 31 + k
theorem atI_ints {ns : List Int} {k : Int} (h0 : 0 ≤ k) (h : k < ns.length) : atI (ns.map PyData.int) k = some (.int (ns.getD k.toNat 0)) := by
  obtain ⟨m, rfl⟩ : ∃ m : Nat, k = (m : Int) := ⟨k.toNat, by omega⟩
  refine atI_nat ?_
  rw [Int.toNat_natCast, List.getElem?_map, List.getD_eq_getElem?_getD]
  have : m < ns.length := by omega
  rw [List.getElem?_eq_getElem this]
  rfl
theorem cell_at_ok (ns : List Int) {k : Int} (h0 : 0 ≤ k) : m__law_cell_at [encS ns, .int k] = .ok (.int (cellAt ns k)) := by
  unfold cellAt
  by_cases h1 : k < (ns.length : Int)
  · have h2 := atI_ints h0 h1
    simp [m__law_cell_at, runD_ap, encS, h1, h2, asB]
  · have heq : oEq (.list (ns.map PyData.int)) (.list []) = some (.bool (decide (ns = []))) := by
      unfold oEq
      have l1 : SeqAt.shaped (.list (ns.map PyData.int)) = true := (lay_ints 0 ns).shaped
      have l2 : SeqAt.shaped (.list []) = true := (lay_ints 0 []).shaped
      rw [if_pos ⟨l1, l2⟩]
      cases ns <;> rfl
    by_cases h2 : ns = []
    · subst h2
      simp at heq h1
      simp [m__law_cell_at, runD_ap, encS, heq, asB, show ¬ k < 0 by omega]
    · have hpos : 0 < (ns.length : Int) := by
        cases ns with
        | nil => exact absurd rfl h2
        | cons a r => simp
      have hposN : 0 < ns.length := by omega
      have h3 := atI_ints (ns := ns) (k := k % (ns.length : Int)) (Int.emod_nonneg _ (by omega)) (Int.emod_lt_of_pos _ hpos)
      generalize ns.getD (k % (ns.length : Int)).toNat 0 = v at h3 ⊢
      simp [m__law_cell_at, runD_ap, encS, heq, asB, h1, h2, hposN, h3]
def mix (ns : List Int) (k many : Int) : Int := (((cellAt ns k + 7919 * k + 1) * 48271 % 2147483647) * ((cellAt ns k + 7919 * k + 1) * 48271 % 2147483647) + 7 * ((cellAt ns k + 7919 * k + 1) * 48271 % 2147483647) + k) % 2147483629 % many
theorem mixed_ok (ns : List Int) {k many : Int} (h0 : 0 ≤ k) (h1 : 0 < many) : m__law_mixed [encS ns, .int k, .int many] = .ok (.int (mix ns k many)) := by
  have hc := cell_at_ok ns h0
  unfold mix
  simp only [m__law_mixed, runD_ap]
  simp [hc]
  generalize hd : (cellAt ns k + 7919 * k + 1) * 48271 % 2147483647 = d
  have h2 : 0 ≤ d := hd ▸ Int.emod_nonneg _ (by omega)
  have h3 : d < 2147483647 := hd ▸ Int.emod_lt_of_pos _ (by omega)
  simp [hd, h1, show -18446744073709551616 < d by omega, show d < 18446744073709551616 by omega]
theorem mix_nonneg (ns : List Int) (k : Int) {many : Int} (h : 0 < many) : 0 ≤ mix ns k many := Int.emod_nonneg _ (by omega)
theorem mix_lt (ns : List Int) (k : Int) {many : Int} (h : 0 < many) : mix ns k many < many := Int.emod_lt_of_pos _ h
end L2.DL
set_option maxHeartbeats 2000000
namespace L2.DL
open PySem PySem.Spec PyProof.Rows

structure DrawnE (top : Int) (e : Er) : Prop where
  every : 3 ≤ e.every ∧ e.every ≤ top + 2
  late : 0 ≤ e.late ∧ e.late ≤ 3 ∧ e.late ≤ e.every - 1
  due : 1 ≤ e.due ∧ e.due ≤ e.every - e.late
  parts : 1 ≤ e.parts.length ∧ e.parts.length ≤ 3
  part : ∀ p ∈ e.parts, 1 ≤ p.1 ∧ p.1 ≤ 4 ∧ ∀ t, p.2 = some t → t = 0 ∨ t = 1
  last : ∃ l, e.parts.getLast? = some (l, none)
theorem DrawnE.ok {top : Int} {e : Er} (h : DrawnE top e) (ht : top ≤ 58) : OkE e where
  every := by have := h.every; omega
  late := by have := h.late; omega
  due := h.due
  parts := by have := h.parts; omega
  part p hp := ⟨by have := h.part p hp; omega, fun t ht => by have := (h.part p hp).2.2 t ht; omega⟩
  last := h.last
theorem nx_toP {P : Res PyData → Prop} {r : SRes} {g : Sf} {Q : Env → Prop} (h : Nx r Q) (k : ∀ ρ, Q ρ → P (g ρ).toR) : P (r.andThen g).toR := by
  obtain ⟨ρ, rfl, q⟩ := h
  exact k ρ q
theorem tool_pick {j : Int} (h0 : 0 ≤ j) (h1 : j < 5) : ∃ o, atI [PyData.int 0, .int 1, .int 1, .int 0, .none] j = some (encO o) ∧ ∀ t, o = some t → t = 0 ∨ t = 1 := by
  obtain h | h | h | h | h : j = 0 ∨ j = 1 ∨ j = 2 ∨ j = 3 ∨ j = 4 := by omega
  · subst h; exact ⟨some 0, rfl, fun t e => Or.inl (Option.some.inj e).symm⟩
  · subst h; exact ⟨some 1, rfl, fun t e => Or.inr (Option.some.inj e).symm⟩
  · subst h; exact ⟨some 1, rfl, fun t e => Or.inr (Option.some.inj e).symm⟩
  · subst h; exact ⟨some 0, rfl, fun t e => Or.inl (Option.some.inj e).symm⟩
  · subst h; exact ⟨none, rfl, fun t e => nomatch e⟩
theorem law_errand_ok (ns : List Int) {a top : Int} (ha : 0 ≤ a) (ht : 0 < top) : ∃ e, DrawnE top e ∧ m__law_errand [encS ns, .int a, .int top, .bool true] = .ok (encE e) := by
  have m1 := mixed_ok ns (k := a) (many := top) ha ht
  have m2 := mixed_ok ns (k := a + 1) (many := 4) (by omega) (by omega)
  have m3 := mixed_ok ns (k := a + 2) (many := 3) (by omega) (by omega)
  have m4 := mixed_ok ns (k := a + 1) (many := 3) (by omega) (by omega)
  have m5 := fun many => mixed_ok ns (k := a + 2) (many := many) (by omega)
  have m6 := mixed_ok ns (k := a + 3) (many := 3) (by omega) (by omega)
  have m7 := mixed_ok ns (k := a + 6) (many := 3) (by omega) (by omega)
  have v1 := mix_nonneg ns a ht
  have w1 := mix_lt ns a ht
  have v2 := mix_nonneg ns (a + 1) (show 0 < 4 by omega)
  have w2 := mix_lt ns (a + 1) (show 0 < 4 by omega)
  have v6 := mix_nonneg ns (a + 3) (show 0 < 3 by omega)
  have w6 := mix_lt ns (a + 3) (show 0 < 3 by omega)
  have v7 := mix_nonneg ns (a + 6) (show 0 < 3 by omega)
  have w7 := mix_lt ns (a + 6) (show 0 < 3 by omega)
  have n5 := fun many h => mix_nonneg ns (a + 2) (many := many) h
  have l5 := fun many h => mix_lt ns (a + 2) (many := many) h
  generalize mix ns a top = x1 at *
  generalize mix ns (a + 1) 4 = x2 at *
  generalize mix ns (a + 2) 3 = x3 at *
  generalize mix ns (a + 1) 3 = x4 at *
  generalize mix ns (a + 3) 3 = x6 at *
  generalize mix ns (a + 6) 3 = x7 at *
  obtain ⟨late, hlate, hlt⟩ : ∃ late : Int, (0 ≤ late ∧ late ≤ 3 ∧ late ≤ 3 + x1 - 1) ∧ (if 3 + x1 - 1 < x2 * (if (x3 == 0) = true then 1 else 0) then 3 + x1 - 1 else x2 * (if (x3 == 0) = true then 1 else 0)) = late := by
    refine ⟨_, ?_, rfl⟩
    by_cases h : (x3 == 0) = true
    · rw [if_pos h]; split <;> omega
    · rw [if_neg h]; split <;> omega
  obtain ⟨late0, hl0⟩ : ∃ l, l = x2 * (if (x3 == 0) = true then 1 else 0) := ⟨_, rfl⟩
  rw [← hl0] at hlt
  obtain ⟨due, hdue, hd0⟩ : ∃ due : Int, (1 ≤ due ∧ due ≤ 3 + x1 - late) ∧ due = (if (x4 == 0) = true then 3 + x1 - late - mix ns (a + 2) (3 + x1 - late) else 3 + x1 - late) := by
    refine ⟨_, ?_, rfl⟩
    have := n5 (3 + x1 - late) (by omega)
    have := l5 (3 + x1 - late) (by omega)
    split <;> omega
  have hm5 := m5 (3 + x1 - late) (by omega)
  simp only [m__law_errand, runD_ap, seqS_ap, setS_ap, startD_ap, List.map_cons, List.map_nil, List.length_cons, List.length_nil, List.cons_append, List.nil_append, List.replicate, wipeD_nil, eOp_ap, eC_ap, eCall_ap, aCons_ap, aNil_ap, eVar_succ, eVar_zero, Res.bind_ok, m1, m2, m3, m4, m6, m7, Res.of_some, oAdd_int, oSub_int, toS_ok, andThen_nx, List.set_cons_succ, List.set_cons_zero, eCall1_ap, eCall2_ap, oEq_int, oInt_bool, oMul_int,
    if_pos (show (-(2 ^ 64) < x2 ∧ x2 < 2 ^ 64) ∨ (-(2 ^ 64) < (if (x3 == 0) = true then (1 : Int) else 0) ∧ (if (x3 == 0) = true then (1 : Int) else 0) < 2 ^ 64) from Or.inl ⟨by omega, by omega⟩), ← hl0, oMin_int, hlt, ifS_ap, eB_ap, asB, hm5]
  have hif : (if (x4 == 0) = true then SRes.nx [some (encS ns), some (.int a), some (.int top), some (.bool true), some (.int (3 + x1)), some (.int late), some (.int (3 + x1 - late - mix ns (a + 2) (3 + x1 - late))), none, none, none] else nxS [some (encS ns), some (.int a), some (.int top), some (.bool true), some (.int (3 + x1)), some (.int late), some (.int (3 + x1 - late)), none, none, none]) = .nx [some (encS ns), some (.int a), some (.int top), some (.bool true), some (.int (3 + x1)), some (.int late), some (.int due), none, none, none] := by
    rw [hd0]; split <;> rfl
  rw [hif, andThen_nx]
  simp [-forS_ap]
  refine nx_toP (P := fun v => ∃ e, DrawnE top e ∧ v = .ok (encE e)) (for_nx encN (fun pre ρ => ∃ (ps : List (Int × Option Int)) (y z : Option PyData), ρ = [some (encS ns), some (.int a), some (.int top), some (.bool true), some (.int (3 + x1)), some (.int late), some (.int due), some (.list (ps.map encP)), y, z] ∧ ps.length = pre.length ∧ ∀ p ∈ ps, 1 ≤ p.1 ∧ p.1 ≤ 4 ∧ ∀ t, p.2 = some t → t = 0 ∨ t = 1) (List.range x6.toNat) ?_ ⟨[], none, none, rfl, rfl, by simp⟩ fun pre i post ρ hi ⟨ps, y, z, hρ, hps, hgood⟩ => ?_) fun ρ ⟨ps, y, z, hρ, hps, hgood⟩ => ?_
  · have hb : inB x6 := ⟨by omega, by omega⟩
    obtain ⟨m, rfl⟩ : ∃ m : Nat, x6 = (m : Int) := ⟨x6.toNat, by omega⟩
    simp [m6, hb, rangeD_encN]
  · subst hρ
    have hlen : pre.length < 3 := by
      have := congrArg List.length hi
      simp at this
      omega
    have hc := mixed_ok ns (k := a + 4 + (i : Int)) (many := 40) (by omega) (by omega)
    have hc0 := mix_nonneg ns (a + 4 + (i : Int)) (show 0 < 40 by omega)
    have hc1 := mix_lt ns (a + 4 + (i : Int)) (show 0 < 40 by omega)
    generalize mix ns (a + 4 + (i : Int)) 40 = cell at *
    obtain ⟨o, ho, ho2⟩ := tool_pick (j := cell / 4 % 5) (Int.emod_nonneg _ (by omega)) (Int.emod_lt_of_pos _ (by omega))
    have hp0 := Int.emod_nonneg cell (show (4 : Int) ≠ 0 by omega)
    have hp1 := Int.emod_lt_of_pos cell (show (0 : Int) < 4 by omega)
    refine ⟨_, rfl, ?_⟩
    have hl2 : ps.length < 16777216 := by omega
    simp only [encN] at hc ⊢
    refine ⟨[some (encS ns), some (.int a), some (.int top), some (.bool true), some (.int (3 + x1)), some (.int late), some (.int due), some (.list ((ps ++ [(1 + cell % 4, o)]).map encP)), some (.int (i : Int)), some (.int cell)], by simp [hc, ho, asB, hl2, encP], ps ++ [(1 + cell % 4, o)], some (.int (i : Int)), some (.int cell), rfl, by simp [hps], fun p hp => ?_⟩
    rcases List.mem_append.mp hp with hp | hp
    · exact hgood p hp
    · rw [List.mem_singleton] at hp
      subst hp
      exact ⟨by show 1 ≤ 1 + cell % 4; omega, by show 1 + cell % 4 ≤ 4; omega, ho2⟩
  · subst hρ
    rw [List.length_range] at hps
    have hl2 : ps.length ≤ 16777215 := by omega
    refine ⟨⟨3 + x1, due, late, ps ++ [(1 + x7, none)]⟩, ⟨⟨by show 3 ≤ 3 + x1; omega, by show 3 + x1 ≤ top + 2; omega⟩, hlate, hdue, ⟨by simp, by simp; omega⟩, fun p hp => ?_, ⟨1 + x7, by simp⟩⟩, ?_⟩
    · rcases List.mem_append.mp hp with hp | hp
      · exact hgood p hp
      · rw [List.mem_singleton] at hp
        subst hp
        exact ⟨by show 1 ≤ 1 + x7; omega, by show 1 + x7 ≤ 4; omega, fun t h => nomatch h⟩
    · simp [m7, hl2, encE, encP, encO]
theorem law_errands_ok (ns : List Int) {a most top : Int} (ha : 0 ≤ a) (hm : 0 < most) (hm2 : most ≤ 6) (ht : 0 < top) : ∃ es, (1 ≤ es.length ∧ (es.length : Int) ≤ most) ∧ (∀ e ∈ es, DrawnE top e) ∧ m__law_errands [encS ns, .int a, .int most, .int top, .bool true] = .ok (encEs es) := by
  have m1 := mixed_ok ns (k := a) (many := most) ha hm
  have v1 := mix_nonneg ns a hm
  have w1 := mix_lt ns a hm
  generalize mix ns a most = x at *
  obtain ⟨m, rfl⟩ : ∃ m : Nat, x = (m : Int) := ⟨x.toNat, by omega⟩
  obtain ⟨f, hf⟩ := Classical.axiomOfChoice fun k : Nat => law_errand_ok ns (a := a + 1 + 7 * (k : Int)) (top := top) (by omega) ht
  have hb : inB (1 + (m : Int)) := ⟨by omega, by omega⟩
  have hr : rangeD 0 (1 + (m : Int)) = (List.range (1 + m)).map encN := by
    rw [← rangeD_encN]
    congr 1
  have hc : compD (.one 6) teYes (eCall m__law_errand (aCons (eVar 0) (aCons (eOp oAdd (eOp oAdd (eVar 1) (eC (.int 1))) (eOp oMul (eC (.int 7)) (eVar 6))) (aCons (eVar 3) (aCons (eVar 4) aNil))))) [some (encS ns), some (.int a), some (.int most), some (.int top), some (.bool true), some (.int (1 + (m : Int))), none] ((List.range (1 + m)).map encN) = .ok ((List.range (1 + m)).map fun k => encE (f k)) :=
    compD_map encN _ _ fun k hk => by
      refine ⟨_, rfl, ?_⟩
      have := (hf k).2
      simp [encN, this]
  refine ⟨(List.range (1 + m)).map f, ⟨by rw [List.length_map, List.length_range]; omega, by rw [List.length_map, List.length_range]; omega⟩, fun e he => ?_, ?_⟩
  · obtain ⟨k, _, rfl⟩ := List.mem_map.mp he
    exact (hf k).1
  · simp [m__law_errands, runD_ap, m1, hb, hr, show 1 + m < 16777216 by omega, hc, encEs]
theorem erase_map {α β : Type} (f : α → β) : ∀ (xs : List α) (j : Nat), (xs.map f).eraseIdx j = (xs.eraseIdx j).map f
  | [], _ => by simp
  | x :: xs, 0 => rfl
  | x :: xs, j + 1 => by
    simp only [List.map_cons, List.eraseIdx_cons_succ, erase_map f xs j]
theorem erase_perm {α : Type} : ∀ (xs : List α) (j : Nat) (h : j < xs.length), (xs[j] :: xs.eraseIdx j).Perm xs
  | x :: xs, 0, _ => List.Perm.refl _
  | x :: xs, j + 1, h => by
    have ih := erase_perm xs j (by simpa using h)
    rw [List.eraseIdx_cons_succ, List.getElem_cons_succ]
    exact (List.Perm.swap _ _ _).trans (ih.cons x)
theorem law_ranks_ok (ns : List Int) {a : Int} (ha : 0 ≤ a) {n : Nat} (hn : n ≤ 6) : ∃ rs, OkR n rs ∧ m__law_ranks [encS ns, .int a, .int (n : Int)] = .ok (encR rs) := by
  have hb : inB (n : Int) := inB_nat (by omega)
  simp only [m__law_ranks, runD_ap]
  simp [-forS_ap, hb, rangeD_encN]
  refine nx_toP (P := fun v => ∃ rs, OkR n rs ∧ v = .ok (encR rs)) (for_nx encN (fun pre ρ => ∃ (left made : List Nat) (y : Option PyData), ρ = [some (encS ns), some (.int a), some (.int (n : Int)), some (.list (left.map encN)), some (.list (made.map encN)), y] ∧ (made ++ left).Perm (List.range n) ∧ left.length + pre.length = n) (List.range n) ?_ ⟨List.range n, [], none, rfl, by simp, by simp⟩ fun pre i post ρ hi ⟨left, made, y, hρ, hp, hl⟩ => ?_) fun ρ ⟨left, made, y, hρ, hp, hl⟩ => ?_
  · simp [hb, rangeD_encN]
  · subst hρ
    have hlen : pre.length < n := by
      have := congrArg List.length hi
      simp at this
      omega
    have hpos : 0 < (left.length : Int) := by omega
    have hc := mixed_ok ns (k := a + (i : Int)) (many := (left.length : Int)) (by omega) hpos
    have hc0 := mix_nonneg ns (a + (i : Int)) hpos
    have hc1 := mix_lt ns (a + (i : Int)) hpos
    generalize mix ns (a + (i : Int)) (left.length : Int) = c at *
    obtain ⟨j, rfl⟩ : ∃ j : Nat, c = (j : Int) := ⟨c.toNat, by omega⟩
    have hj : j < left.length := by omega
    refine ⟨_, rfl, ?_⟩
    have hml : made.length < 16777216 := by
      have := hp.length_eq
      rw [List.length_append, List.length_range] at this
      omega
    have hbj : inB (j : Int) := inB_nat (by omega)
    have hix : ixN left.length (j : Int) = some j := by
      unfold ixN
      rw [if_pos (by omega), if_pos (by omega), Int.toNat_natCast]
    have hget : (left.map encN)[j]? = some (encN left[j]) := by rw [List.getElem?_map, List.getElem?_eq_getElem hj]; rfl
    have hml2 : made.length < 16777216 ∧ inB (j : Int) := ⟨hml, hbj⟩
    simp only [encN] at hc ⊢
    refine ⟨[some (encS ns), some (.int a), some (.int (n : Int)), some (.list ((left.eraseIdx j).map encN)), some (.list ((made ++ [left[j]]).map encN)), some (.int (i : Int))], ?_, left.eraseIdx j, made ++ [left[j]], some (.int (i : Int)), rfl, ?_, ?_⟩
    · simp [hc, hix, hj, hml, hbj, erase_map, encN]
    · refine List.Perm.trans ?_ hp
      rw [List.append_assoc]
      refine List.Perm.append_left _ ?_
      rw [List.singleton_append]
      exact erase_perm left j hj
    · rw [List.length_eraseIdx_of_lt hj, List.length_append, List.length_singleton]
      omega
  · subst hρ
    rw [List.length_range] at hl
    have : left = [] := List.eq_nil_of_length_eq_zero (by omega)
    subst this
    rw [List.append_nil] at hp
    exact ⟨made, hp, by simp [encR]⟩
end L2.DL
set_option maxHeartbeats 2000000
namespace L2.DL
open PySem PySem.Spec PyProof.Rows

/-! ### the least time -/
def least (f : Int → Int) (m : Int) : Option Int := ((List.range m.toNat).find? fun (i : Nat) => decide (f (1 + (i : Int)) ≤ 1 + (i : Int))).map fun (i : Nat) => 1 + (i : Int)
theorem lngH_least (es : List Er) (rs : List Nat) (n : Nat) (h : Int) : lngH es rs n h = least (need es rs n h) ((E es n).every - (E es n).late) := rfl
theorem least_none {f : Int → Int} {m : Int} : least f m = none ↔ ∀ t, 1 ≤ t → t ≤ m → t < f t := by
  unfold least
  rw [Option.map_eq_none_iff, List.find?_eq_none]
  constructor
  · intro h t h1 h2
    have := h (t - 1).toNat (List.mem_range.mpr (by omega))
    rw [show 1 + (((t - 1).toNat : Nat) : Int) = t by omega] at this
    simp at this
    omega
  · intro h i hi
    have hi := List.mem_range.mp hi
    have := h (1 + (i : Int)) (by omega) (by omega)
    simp
    omega
theorem least_some {f : Int → Int} {m t : Int} : least f m = some t ↔ (1 ≤ t ∧ t ≤ m ∧ f t ≤ t) ∧ ∀ s, 1 ≤ s → s < t → s < f s := by
  unfold least
  rw [Option.map_eq_some_iff]
  constructor
  · rintro ⟨i, hi, rfl⟩
    rw [List.find?_eq_some_iff_getElem] at hi
    obtain ⟨h1, j, hj, e, h2⟩ := hi
    rw [List.length_range] at hj
    rw [List.getElem_range] at e
    subst e
    simp at h1
    refine ⟨⟨by omega, by omega, h1⟩, fun s h3 h4 => ?_⟩
    have := h2 (s - 1).toNat (by omega)
    rw [List.getElem_range, show 1 + (((s - 1).toNat : Nat) : Int) = s by omega] at this
    simp at this
    omega
  · rintro ⟨⟨h1, h2, h3⟩, h4⟩
    refine ⟨(t - 1).toNat, ?_, by omega⟩
    rw [List.find?_eq_some_iff_getElem]
    refine ⟨?_, (t - 1).toNat, by rw [List.length_range]; omega, by simp, ?_⟩
    · rw [show 1 + (((t - 1).toNat : Nat) : Int) = t by omega]
      simpa using h3
    · intro j hj
      have := h4 (1 + (j : Int)) (by omega) (by omega)
      simp
      omega
theorem least_le {f f' : Int → Int} {m m' t : Int} (h : ∀ t, 1 ≤ t → t ≤ m → f' t ≤ f t) (hm : m ≤ m') (e : least f m = some t) : ∃ t', least f' m' = some t' ∧ t' ≤ t := by
  obtain ⟨⟨h1, h2, h3⟩, h4⟩ := least_some.mp e
  cases e' : least f' m' with
  | none =>
    have := least_none.mp e' t h1 (by omega)
    have := h t h1 h2
    omega
  | some t' =>
    obtain ⟨⟨g1, g2, g3⟩, g4⟩ := least_some.mp e'
    refine ⟨t', rfl, ?_⟩
    by_cases hlt : t < t'
    · have := g4 t h1 hlt
      have := h t h1 h2
      omega
    · omega
theorem least_congr {f f' : Int → Int} {m : Int} (h : ∀ t, 1 ≤ t → f' t = f t) : least f' m = least f m := by
  unfold least
  congr 1
  congr 1
  funext i
  rw [h _ (by omega)]

/-! ### the hold by sets -/
def toolIn (es : List Er) (A : List Nat) (t : Int) : Bool := A.any fun u => hasTool (E es u) t
def hbP (es : List Er) (A : List Nat) (p : Int × Option Int) : Bool := match p.2 with
  | none => false
  | some t => toolIn es A t
def hb (es : List Er) (A lo : List Nat) : Int := (lo.flatMap fun l => ((E es l).parts.filter (hbP es A)).map lm1).foldl max 0
theorem hb_le {es : List Er} {A lo : List Nat} {c : Int} : hb es A lo ≤ c ↔ 0 ≤ c ∧ ∀ l ∈ lo, ∀ p ∈ (E es l).parts, hbP es A p = true → p.1 - 1 ≤ c := by
  unfold hb
  obtain ⟨h1, h2, h3⟩ := foldl_max_le (lo.flatMap fun l => ((E es l).parts.filter (hbP es A)).map lm1) 0
  constructor
  · intro h
    refine ⟨by omega, fun l hl p hp hq => ?_⟩
    have := h2 (p.1 - 1) (List.mem_flatMap.mpr ⟨l, hl, List.mem_map.mpr ⟨p, List.mem_filter.mpr ⟨hp, hq⟩, rfl⟩⟩)
    omega
  · rintro ⟨h0, h⟩
    rcases h3 with h3 | h3
    · omega
    · obtain ⟨l, hl, h4⟩ := List.mem_flatMap.mp h3
      obtain ⟨p, hp, h5⟩ := List.mem_map.mp h4
      obtain ⟨h6, h7⟩ := List.mem_filter.mp hp
      rw [← h5]
      exact h l hl p h6 h7
theorem hb_nonneg (es : List Er) (A lo : List Nat) : 0 ≤ hb es A lo := (foldl_max_le _ 0).1
theorem toolIn_mono {es : List Er} {A B : List Nat} (h : ∀ x ∈ A, x ∈ B) {t : Int} (e : toolIn es A t = true) : toolIn es B t = true := by
  obtain ⟨u, hu, q⟩ := List.any_eq_true.mp e
  exact List.any_eq_true.mpr ⟨u, h u hu, q⟩
theorem hbP_mono {es : List Er} {A B : List Nat} (h : ∀ x ∈ A, x ∈ B) {p : Int × Option Int} (e : hbP es A p = true) : hbP es B p = true := by
  unfold hbP at e ⊢
  cases hp : p.2 with
  | none => rw [hp] at e; exact e
  | some t => rw [hp] at e; exact toolIn_mono h e
theorem hb_mono {es : List Er} {A B lo lo' : List Nat} (h : ∀ x ∈ A, x ∈ B) (hl : ∀ x ∈ lo, x ∈ lo') : hb es A lo ≤ hb es B lo' := by
  rw [hb_le]
  refine ⟨hb_nonneg _ _ _, fun l hm p hp q => ?_⟩
  exact (hb_le.mp (Int.le_refl (hb es B lo'))).2 l (hl l hm) p hp (hbP_mono h q)
theorem hb_same {es : List Er} {A B lo lo' : List Nat} (h : ∀ x, x ∈ A ↔ x ∈ B) (hl : ∀ x, x ∈ lo ↔ x ∈ lo') : hb es A lo = hb es B lo' :=
  Int.le_antisymm (hb_mono (fun x => (h x).mp) fun x => (hl x).mp) (hb_mono (fun x => (h x).mpr) fun x => (hl x).mpr)
theorem rkAt_get {rs : List Nat} {j : Nat} (h : j < rs.length) : rkAt rs j = rs[j] := by
  unfold rkAt
  rw [List.getD_eq_getElem?_getD, List.getElem?_eq_getElem h]
  rfl
theorem hgt_le {es : List Er} {rs : List Nat} {t : Int} {k : Nat} : (match hgt es rs t with | some h => decide (h ≤ k) | none => false) = toolIn es (rs.take (k + 1)) t := by
  rw [Bool.eq_iff_iff]
  unfold toolIn
  rw [List.any_eq_true]
  constructor
  · intro h
    cases e : hgt es rs t with
    | none => rw [e] at h; cases h
    | some j =>
      rw [e] at h
      have hjk : j ≤ k := by simpa using h
      unfold hgt at e
      rw [List.find?_eq_some_iff_getElem] at e
      obtain ⟨h1, i, hi, h2, _⟩ := e
      rw [List.length_range] at hi
      rw [List.getElem_range] at h2
      subst h2
      refine ⟨rkAt rs i, ?_, h1⟩
      rw [rkAt_get hi]
      exact List.mem_take_iff_getElem.mpr ⟨i, by omega, rfl⟩
  · rintro ⟨u, hu, hq⟩
    obtain ⟨i, hi, rfl⟩ := List.mem_take_iff_getElem.mp hu
    have hil : i < rs.length := by omega
    cases e : hgt es rs t with
    | none =>
      unfold hgt at e
      rw [List.find?_eq_none] at e
      have := e i (List.mem_range.mpr hil)
      rw [rkAt_get hil] at this
      exact absurd hq this
    | some j =>
      unfold hgt at e
      rw [List.find?_eq_some_iff_getElem] at e
      obtain ⟨h1, j', hj, h2, h3⟩ := e
      rw [List.length_range] at hj
      rw [List.getElem_range] at h2
      subst h2
      by_cases hij : i < j'
      · have := h3 i hij
        rw [List.getElem_range, rkAt_get hil, hq] at this
        cases this
      · simp
        omega
theorem holdP_hbP (es : List Er) (rs : List Nat) (k : Nat) (p : Int × Option Int) : holdP es rs k p = hbP es (rs.take (k + 1)) p := by
  unfold holdP hbP
  cases p.2 with
  | none => rfl
  | some t => exact hgt_le
theorem idx_split {hi lo : List Nat} {n : Nat} (h : n ∉ hi) : (hi ++ n :: lo).idxOf n = hi.length := by
  induction hi with
  | nil => simp
  | cons a r ih =>
    rw [List.cons_append, List.idxOf_cons, ih fun z => h (List.mem_cons_of_mem _ z)]
    have : (a == n) = false := by
      simp
      rintro rfl
      exact h List.mem_cons_self
    rw [this]
    rfl
theorem hold_split {es : List Er} {hi lo : List Nat} {n : Nat} (h : n ∉ hi) : hold es (hi ++ n :: lo) n = hb es (hi ++ [n]) lo := by
  unfold hold hb
  rw [idx_split h]
  have e1 : (hi ++ n :: lo).drop (hi.length + 1) = lo := by
    rw [← List.drop_drop, List.drop_left, List.drop_one]; rfl
  have e2 : (hi ++ n :: lo).take (hi.length + 1) = hi ++ [n] := by
    rw [show hi ++ n :: lo = (hi ++ [n]) ++ lo by simp, List.take_left' (by simp)]
  have e3 : hp es (hi ++ n :: lo) hi.length = fun l => ((E es l).parts.filter (hbP es (hi ++ [n]))).map lm1 := by
    funext l
    unfold hp
    congr 1
    congr 1
    funext p
    rw [holdP_hbP, e2]
  rw [e1, e3]
/-- the need of n, those of hi being higher, those of lo lower -/
def nd (es : List Er) (hi : List Nat) (n : Nat) (lo : List Nat) (t : Int) : Int := hb es (hi ++ [n]) lo + work (E es n) + (hi.map fun o => often (E es o) t * work (E es o)).sum
def lngS (es : List Er) (hi : List Nat) (n : Nat) (lo : List Nat) : Option Int := least (nd es hi n lo) ((E es n).every - (E es n).late)
theorem lng_split {es : List Er} {hi lo : List Nat} {n : Nat} (h : n ∉ hi) : lng es (hi ++ n :: lo) n = lngS es hi n lo := by
  unfold lng lngS
  rw [lngH_least]
  congr 1
  funext t
  unfold need nd needs
  rw [hold_split h, idx_split h, List.take_left]
theorem sum_perm {xs ys : List Int} (h : xs.Perm ys) : xs.sum = ys.sum := by
  induction h with
  | nil => rfl
  | cons x _ ih => simp only [List.sum_cons, ih]
  | swap x y l => simp only [List.sum_cons]; omega
  | trans _ _ h1 h2 => exact h1.trans h2
theorem nd_same {es : List Er} {hi hi' lo lo' : List Nat} (h : hi.Perm hi') (hl : lo.Perm lo') (n : Nat) (t : Int) : nd es hi n lo t = nd es hi' n lo' t := by
  unfold nd
  rw [hb_same (A := hi ++ [n]) (B := hi' ++ [n]) (lo := lo) (lo' := lo') (fun x => (h.append_right [n]).mem_iff) (fun x => hl.mem_iff), sum_perm (h.map _)]
theorem lngS_same {es : List Er} {hi hi' lo lo' : List Nat} (h : hi.Perm hi') (hl : lo.Perm lo') (n : Nat) : lngS es hi n lo = lngS es hi' n lo' := by
  unfold lngS
  exact least_congr fun t _ => nd_same h hl n t
theorem often_pos {e : Er} (he : FineE e) {t : Int} (h : 1 ≤ t) : 1 ≤ often e t := by
  unfold often
  have := he.every
  have := he.late
  rw [Int.le_ediv_iff_mul_le (by omega)]
  omega
theorem part_le_sum : ∀ {ps : List (Int × Option Int)} {p : Int × Option Int}, (∀ q ∈ ps, 1 ≤ q.1) → p ∈ ps → p.1 ≤ (ps.map (·.1)).sum
  | q :: ps, p, h, hp => by
    have h0 : 0 ≤ (ps.map (·.1)).sum := sum_nonneg fun x hx => by have := h x (List.mem_cons_of_mem _ hx); omega
    have h1 := h q List.mem_cons_self
    simp only [List.map_cons, List.sum_cons]
    rcases List.mem_cons.mp hp with rfl | hp
    · omega
    · have := part_le_sum (fun x hx => h x (List.mem_cons_of_mem _ hx)) hp
      omega
theorem part_le_work {e : Er} (he : FineE e) {p : Int × Option Int} (hp : p ∈ e.parts) : p.1 ≤ work e := part_le_sum (fun q hq => (he.part q hq).1) hp
/-- one that was higher made lower: the need is no greater -/
theorem nd_raise {es : List Er} (he : FineEs es) {hi lo : List Nat} {n x : Nat} {t : Int} (ht : 1 ≤ t) : nd es hi n (x :: lo) t ≤ nd es (x :: hi) n lo t := by
  have h1 : hb es (hi ++ [n]) (x :: lo) ≤ hb es (x :: hi ++ [n]) lo + (work (E es x) - 1) := by
    have h0 := hb_nonneg es (x :: hi ++ [n]) lo
    have hw := work_bounds (he.at x)
    rw [hb_le]
    refine ⟨by omega, fun l hl p hp hq => ?_⟩
    rcases List.mem_cons.mp hl with rfl | hl
    · have := part_le_work (he.at l) hp
      omega
    · have := (hb_le.mp (Int.le_refl (hb es (x :: hi ++ [n]) lo))).2 l hl p hp (hbP_mono (fun y hy => List.mem_cons_of_mem _ hy) hq)
      omega
  unfold nd
  rw [List.map_cons, List.sum_cons]
  have hw := work_bounds (he.at x)
  have : work (E es x) ≤ often (E es x) t * work (E es x) := by
    have := Int.mul_le_mul_of_nonneg_right (often_pos (he.at x) ht) (show 0 ≤ work (E es x) by omega)
    omega
  omega
/-- what of longest answers is no longer -/
def noLonger (a b : Option Int) : Bool := match b, a with
  | none, _ => true
  | some _, none => false
  | some y, some x => decide (x ≤ y)
theorem noLonger_of {f f' : Int → Int} {m m' : Int} (h : ∀ t, 1 ≤ t → f' t ≤ f t) (hm : m ≤ m') : noLonger (least f' m') (least f m) = true := by
  cases e : least f m with
  | none => rfl
  | some t =>
    obtain ⟨t', e', hle⟩ := least_le (fun t h1 _ => h t h1) hm e
    rw [e']
    simpa [noLonger] using hle
end L2.DL
set_option maxHeartbeats 2000000
namespace L2.DL
open PySem PySem.Spec PyProof.Rows

theorem no_longer_ok (a b : Option Int) : m__law_no_longer [encO a, encO b] = .ok (.bool (noLonger a b)) := by
  cases a <;> cases b <;> simp [m__law_no_longer, runD_ap, encO, noLonger, asB]
theorem same_place {es : List Er} {hi hi' lo lo' : List Nat} {n : Nat} (h : hi.Perm hi') (hl : lo.Perm lo') (hn : n ∉ hi) : lng es (hi' ++ n :: lo') n = lng es (hi ++ n :: lo) n ∧ hold es (hi' ++ n :: lo') n = hold es (hi ++ n :: lo) n := by
  have hn' : n ∉ hi' := fun z => hn (h.mem_iff.mpr z)
  rw [lng_split hn, lng_split hn', hold_split hn, hold_split hn']
  exact ⟨lngS_same h.symm hl.symm n, hb_same (fun x => (h.symm.append_right [n]).mem_iff) fun x => hl.symm.mem_iff⟩
theorem OkR.nodup {n : Nat} {rs : List Nat} (h : OkR n rs) : rs.Nodup := h.nodup_iff.mpr List.nodup_range
theorem lng_raise {es : List Er} (he : FineEs es) {hi lo : List Nat} {a b : Nat} (h : (hi ++ a :: b :: lo).Nodup) : noLonger (lng es (hi ++ b :: a :: lo) b) (lng es (hi ++ a :: b :: lo) b) = true := by
  have hb : b ∉ hi := fun z => by
    rw [List.nodup_append] at h
    exact h.2.2 b z b (by simp) rfl
  have hb2 : b ∉ hi ++ [a] := fun z => by
    rcases List.mem_append.mp z with z | z
    · exact hb z
    · rw [List.nodup_append] at h
      have : b = a := by simpa using z
      subst this
      exact (List.nodup_cons.mp h.2.1).1 List.mem_cons_self
  rw [lng_split hb, show hi ++ a :: b :: lo = (hi ++ [a]) ++ b :: lo by simp, lng_split hb2]
  unfold lngS
  refine noLonger_of (fun t ht => ?_) (Int.le_refl _)
  rw [nd_same (hi := hi ++ [a]) (hi' := a :: hi) List.perm_append_comm (List.Perm.refl lo)]
  exact nd_raise he ht
theorem law20_true (ns : List Int) : m_law_k20 [encS ns] = .ok (.bool true) := by
  obtain ⟨es, hl, hes, he⟩ := law_errands_ok ns (a := 10) (most := 4) (top := 28) (by omega) (by omega) (by omega) (by omega)
  have hok : OkEs es := ⟨by omega, fun e h => (hes e h).ok (by omega)⟩
  obtain ⟨rs, hr, hre⟩ := law_ranks_ok ns (a := 0) (by omega) (n := es.length) (by omega)
  have hrl : rs.length = es.length := by rw [hr.length_eq, List.length_range]
  by_cases h1 : rs.length = 1
  · simp [m_law_k20, runD_ap, he, hre, h1, asB]
  have hpos : 0 < (rs.length : Int) - 1 := by omega
  have m6 := mixed_ok ns (k := 6) (many := (rs.length : Int) - 1) (by omega) hpos
  have v0 := mix_nonneg ns 6 hpos
  have v1 := mix_lt ns 6 hpos
  generalize mix ns 6 ((rs.length : Int) - 1) = m at *
  obtain ⟨k, rfl⟩ : ∃ k : Nat, m = (k : Int) := ⟨m.toNat, by omega⟩
  obtain ⟨hi, a, b, lo, rfl, rfl⟩ : ∃ hi a b lo, rs = hi ++ a :: b :: lo ∧ hi.length = k := by
    refine ⟨rs.take k, rs[k], rs[k + 1], rs.drop (k + 2), ?_, by rw [List.length_take]; omega⟩
    rw [← List.drop_eq_getElem_cons, ← List.drop_eq_getElem_cons, List.take_append_drop]
  have hnd := hr.nodup
  have hp : (hi ++ b :: a :: lo).Perm (hi ++ a :: b :: lo) := List.Perm.append_left _ (List.Perm.swap _ _ _)
  have hr' : OkR es.length (hi ++ b :: a :: lo) := hp.trans hr
  have hmem : ∀ x, x ∈ hi ++ a :: b :: lo → x < es.length := fun x hx => List.mem_range.mp (hr.mem_iff.mp hx)
  have ha := hmem a (by simp)
  have hb := hmem b (by simp)
  have i0 : oIx (encR (hi ++ a :: b :: lo)) (.int (hi.length : Int)) = some (encN a) := oIx_encR (by simp)
  have i1 : oIx (encR (hi ++ a :: b :: lo)) (.int ((hi.length : Int) + 1)) = some (encN b) := oIx_encR (n := hi.length + 1) (by simp)
  have s0 : oSlice (encR (hi ++ a :: b :: lo)) none (some (hi.length : Int)) = some (encR hi) := by rw [slice_to (by simp), List.take_left]
  have s1 : oSlice (encR (hi ++ a :: b :: lo)) (some ((hi.length : Int) + 2)) none = some (encR lo) := by
    rw [show (hi.length : Int) + 2 = ((hi.length + 2 : Nat) : Int) by omega, slice_from (by simp), ← List.drop_drop, List.drop_left]
    rfl
  have hlen : hi.length + lo.length + 2 ≤ 6 := by
    rw [List.length_append] at hrl
    simp only [List.length_cons] at hrl
    omega
  have hother : (hi.map encN ++ [encN b, encN a]) ++ lo.map encN = (hi ++ b :: a :: lo).map encN := by simp
  have c0 : oCatT (encR hi) (.tuple [encN b, encN a]) = some (.tuple (hi.map encN ++ [encN b, encN a])) := by
    unfold encR
    rw [oCatT_tuple, if_pos (by simp; omega)]
  have c1 : oCatT (.tuple (hi.map encN ++ [encN b, encN a])) (encR lo) = some (encR (hi ++ b :: a :: lo)) := by
    unfold encR
    rw [oCatT_tuple, if_pos (by simp; omega), hother]
  have c2 : oCatT (encR hi) (encR lo) = some (encR (hi ++ lo)) := by
    unfold encR
    rw [oCatT_tuple, if_pos (by simp; omega), List.map_append]
  have g1 := longest_ok hok hr hb
  have g2 := longest_ok hok hr' hb
  have g3 := longest_ok hok hr ha
  have g4 := longest_ok hok hr' ha
  have n1 := lng_raise hok.fine hnd
  have n2 := lng_raise hok.fine (hi := hi) (a := b) (b := a) (lo := lo) (hp.nodup_iff.mpr hnd)
  have l1 : ((hi ++ a :: b :: lo).length : Int) ≠ 1 := by omega
  simp only [m_law_k20, runD_ap, seqS_ap, setS_ap, startD_ap, List.map_cons, List.map_nil, List.length_cons, List.length_nil, List.cons_append, List.nil_append, List.replicate, wipeD_nil, eC_ap, eCall_ap, aCons_ap, aNil_ap, eVar_succ, eVar_zero, Res.bind_ok, he, toS_ok, andThen_nx, List.set_cons_succ, List.set_cons_zero, eCall1_ap, oLen_encEs, Res.of_some, hre]
  simp only [oLen_encR, ifS_ap, eB_ap, eOp_ap, eCall1_ap, eVar_succ, eVar_zero, Res.bind_ok, Res.of_some, eC_ap, oEq_int, asB, toS_ok]
  rw [if_neg (by simpa using l1)]
  simp only [seqS_ap, setS_ap, wipeD_nil, eCall_ap, aCons_ap, aNil_ap, eCall1_ap, oLen_encR, nxS_ap, andThen_nx, oSub_int, Res.of_some, Res.bind_ok, m6, toS_ok, List.set_cons_succ, List.set_cons_zero, eOp_ap, eSlice_ap, ptNo_ap, ptSome_ap, eVar_succ, eVar_zero, asI_int, s0, s1, eTup_ap, aCons_ap, aNil_ap, eC_ap, oAdd_int, i0, i1, List.length_cons, List.length_nil, c0, c1, if_pos (show 0 + 1 + 1 ≤ 16777216 by omega)]
  simp only [seqS_ap, ifS_ap, teNot_ap, eB_ap, eCall_ap, aCons_ap, aNil_ap, eOp_ap, eVar_succ, eVar_zero, eC_ap, oAdd_int, Res.of_some, Res.bind_ok, i0, i1, g1, g2, g3, g4, no_longer_ok, n1, n2, asB, Bool.not_true, toS_ok, nxS_ap, andThen_nx, Bool.false_eq_true, if_false]
  refine nx_toR (for_nx encN (fun pre ρ => ∃ x, ρ = [some (encS ns), some (encEs es), some (encR (hi ++ a :: b :: lo)), some (.int (hi.length : Int)), some (encR (hi ++ b :: a :: lo)), x]) (hi ++ lo) ?_ ⟨none, rfl⟩ fun pre n post ρ hq ⟨x, hρ⟩ => ?_) fun ρ ⟨x, hρ⟩ => by subst hρ; simp
  · simp [s0, s1, c2]
  · subst hρ
    have hm : n ∈ hi ++ lo := by rw [hq]; simp
    have hn : n < es.length := hmem n (by
      rcases List.mem_append.mp hm with z | z
      · exact List.mem_append_left _ z
      · simp [z])
    have hsame : lng es (hi ++ b :: a :: lo) n = lng es (hi ++ a :: b :: lo) n ∧ hold es (hi ++ b :: a :: lo) n = hold es (hi ++ a :: b :: lo) n := by
      rcases List.mem_append.mp hm with z | z
      · obtain ⟨p, q, rfl⟩ := List.append_of_mem z
        have hnp : n ∉ p := fun z => by
          rw [List.append_assoc, List.nodup_append] at hnd
          exact hnd.2.2 n z n (by simp) rfl
        have := same_place (es := es) (hi := p) (hi' := p) (lo := q ++ a :: b :: lo) (lo' := q ++ b :: a :: lo) (n := n) (List.Perm.refl _) (List.Perm.append_left _ (List.Perm.swap _ _ _)) hnp
        simpa using this
      · obtain ⟨p, q, rfl⟩ := List.append_of_mem z
        have hnp : n ∉ hi ++ a :: b :: p := fun z => by
          rw [show hi ++ a :: b :: (p ++ n :: q) = (hi ++ a :: b :: p) ++ n :: q by simp, List.nodup_append] at hnd
          exact hnd.2.2 n z n (by simp) rfl
        have := same_place (es := es) (hi := hi ++ a :: b :: p) (hi' := hi ++ b :: a :: p) (lo := q) (lo' := q) (n := n) (List.Perm.append_left _ (List.Perm.swap _ _ _)) (List.Perm.refl _) hnp
        simpa using this
    have q1 := longest_ok hok hr hn
    have q2 := longest_ok hok hr' hn
    have q3 := hold_ok hok hr hn
    have q4 := hold_ok hok hr' hn
    rw [hsame.1] at q2
    rw [hsame.2] at q4
    have q5 := oNe_self (lay_encO 0 (lng es (hi ++ a :: b :: lo) n))
    refine ⟨_, rfl, [some (encS ns), some (encEs es), some (encR (hi ++ a :: b :: lo)), some (.int (hi.length : Int)), some (encR (hi ++ b :: a :: lo)), some (encN n)], ?_, _, rfl⟩
    simp [q1, q2, q3, q4, q5, asB]
end L2.DL
set_option maxHeartbeats 2000000
namespace L2.DL
open PySem PySem.Spec PyProof.Rows

/-- the same tools, each length no greater -/
inductive Eas : List (Int × Option Int) → List (Int × Option Int) → Prop
  | nil : Eas [] []
  | cons {p' p : Int × Option Int} {r' r : List (Int × Option Int)} : p'.1 ≤ p.1 → p'.2 = p.2 → Eas r' r → Eas (p' :: r') (p :: r)
theorem Eas.refl : ∀ ps, Eas ps ps
  | [] => .nil
  | _ :: r => .cons (Int.le_refl _) rfl (Eas.refl r)
theorem Eas.sum {r' r : List (Int × Option Int)} (h : Eas r' r) : (r'.map (·.1)).sum ≤ (r.map (·.1)).sum := by
  induction h with
  | nil => exact Int.le_refl _
  | cons h1 _ _ ih => simp only [List.map_cons, List.sum_cons]; omega
theorem Eas.any {r' r : List (Int × Option Int)} (h : Eas r' r) (f : Option Int → Bool) : (r'.any fun p => f p.2) = r.any fun p => f p.2 := by
  induction h with
  | nil => rfl
  | cons _ h2 _ ih => simp only [List.any_cons, h2, ih]
theorem Eas.mem {r' r : List (Int × Option Int)} (h : Eas r' r) : ∀ p' ∈ r', ∃ p ∈ r, p'.1 ≤ p.1 ∧ p'.2 = p.2 := by
  induction h with
  | nil => intro p hp; cases hp
  | cons h1 h2 _ ih =>
    intro q hq
    rcases List.mem_cons.mp hq with rfl | hq
    · exact ⟨_, List.mem_cons_self, h1, h2⟩
    · obtain ⟨p, hp, z⟩ := ih q hq
      exact ⟨p, List.mem_cons_of_mem _ hp, z⟩
theorem Eas.length {r' r : List (Int × Option Int)} (h : Eas r' r) : r'.length = r.length := by
  induction h with
  | nil => rfl
  | cons _ _ _ ih => simp only [List.length_cons, ih]
theorem Eas.set {p' : Int × Option Int} : ∀ {ps : List (Int × Option Int)} {k : Nat} (h : k < ps.length), p'.1 ≤ ps[k].1 → p'.2 = ps[k].2 → Eas (ps.set k p') ps
  | p :: r, 0, _, h1, h2 => .cons h1 h2 (.refl r)
  | p :: r, k + 1, h, h1, h2 => .cons (Int.le_refl _) rfl (Eas.set (by simpa using h) h1 h2)
structure Easier (e' e : Er) : Prop where
  every : e.every ≤ e'.every
  late : e'.late = e.late
  parts : Eas e'.parts e.parts
theorem Easier.refl (e : Er) : Easier e e := ⟨Int.le_refl _, rfl, .refl _⟩
theorem often_rarer {e e' : Er} (h : Easier e' e) (he : FineE e) {t : Int} (ht : 1 ≤ t) : often e' t ≤ often e t := by
  have q0 := often_nonneg he (t := t) (by omega)
  unfold often at q0 ⊢
  have h1 := h.every
  have h2 := he.every
  rw [h.late]
  have h3 := Int.lt_ediv_add_one_mul_self (t + e.late + e.every - 1) (show 0 < e.every by omega)
  generalize (t + e.late + e.every - 1) / e.every = q at *
  have h4 : q * e.every ≤ q * e'.every := Int.mul_le_mul_of_nonneg_left h1 q0
  rw [Int.add_mul, Int.one_mul] at h3
  have h5 : (t + e.late + e'.every - 1) / e'.every < q + 1 := Int.ediv_lt_of_lt_mul (by omega) (by rw [Int.add_mul, Int.one_mul]; omega)
  omega
theorem hasTool_easier {e e' : Er} (h : Easier e' e) (t : Int) : hasTool e' t = hasTool e t := h.parts.any fun o => o == some t
theorem nd_easier {es es' : List Er} (he : FineEs es) (he' : FineEs es') (h : ∀ x, Easier (E es' x) (E es x)) {hi lo : List Nat} {n : Nat} {t : Int} (ht : 1 ≤ t) : nd es' hi n lo t ≤ nd es hi n lo t := by
  have hti : ∀ A u, toolIn es' A u = toolIn es A u := fun A u => by
    unfold toolIn
    congr 1
    funext x
    exact hasTool_easier (h x) u
  have hbp : ∀ A p, hbP es' A p = hbP es A p := fun A p => by
    unfold hbP
    cases p.2 with
    | none => rfl
    | some u => exact hti A u
  have h1 : hb es' (hi ++ [n]) lo ≤ hb es (hi ++ [n]) lo := by
    rw [hb_le]
    refine ⟨hb_nonneg _ _ _, fun l hl p hp hq => ?_⟩
    obtain ⟨p0, hp0, z1, z2⟩ := (h l).parts.mem p hp
    have : hbP es (hi ++ [n]) p0 = true := by
      rw [hbp] at hq
      unfold hbP at hq ⊢
      rw [← z2]
      exact hq
    have := (hb_le.mp (Int.le_refl (hb es (hi ++ [n]) lo))).2 l hl p0 hp0 this
    omega
  have h2 : work (E es' n) ≤ work (E es n) := (h n).parts.sum
  have h3 := sum_mono (f := fun o => often (E es' o) t * work (E es' o)) (g := fun o => often (E es o) t * work (E es o)) (xs := hi) fun o _ => by
    have a1 := often_rarer (h o) (he.at o) ht
    have a2 : work (E es' o) ≤ work (E es o) := (h o).parts.sum
    have a3 := often_nonneg (he.at o) (t := t) (by omega)
    have a4 := work_bounds (he'.at o)
    exact Int.le_trans (Int.mul_le_mul_of_nonneg_right a1 (by omega)) (Int.mul_le_mul_of_nonneg_left a2 a3)
  unfold nd
  omega
theorem split_at {rs : List Nat} (hn : rs.Nodup) {n : Nat} (h : n ∈ rs) : ∃ hi lo, rs = hi ++ n :: lo ∧ n ∉ hi := by
  obtain ⟨p, q, rfl⟩ := List.append_of_mem h
  refine ⟨p, q, rfl, fun z => ?_⟩
  rw [List.nodup_append] at hn
  exact hn.2.2 n z n (by simp) rfl
theorem lng_easier {es es' : List Er} (he : FineEs es) (he' : FineEs es') (h : ∀ x, Easier (E es' x) (E es x)) {rs : List Nat} (hn : rs.Nodup) {n : Nat} (hm : n ∈ rs) : noLonger (lng es' rs n) (lng es rs n) = true := by
  obtain ⟨hi, lo, rfl, hx⟩ := split_at hn hm
  rw [lng_split hx, lng_split hx]
  exact noLonger_of (fun t ht => nd_easier he he' h ht) (by have := (h n).every; have := (h n).late; omega)
theorem E_set {es : List Er} {k : Nat} (hk : k < es.length) (e' : Er) (n : Nat) : E (es.set k e') n = if n = k then e' else E es n := by
  unfold E
  rw [List.getD_eq_getElem?_getD, List.getD_eq_getElem?_getD, List.getElem?_set]
  by_cases h : k = n
  · subst h; simp [hk]
  · rw [if_neg h, if_neg (Ne.symm h)]
theorem set_easier {es : List Er} {k : Nat} (hk : k < es.length) {e' : Er} (h : Easier e' (E es k)) (x : Nat) : Easier (E (es.set k e') x) (E es x) := by
  rw [E_set hk]
  split
  · rename_i h2; subst h2; exact h
  · exact .refl _
theorem set_ok {es : List Er} (h : OkEs es) (k : Nat) {e' : Er} (he : OkE e') : OkEs (es.set k e') :=
  ⟨by rw [List.length_set]; exact h.len, fun e hm => by
    rcases List.mem_or_eq_of_mem_set hm with z | z
    · exact h.all e z
    · rw [z]; exact he⟩
theorem with_ok {es : List Er} (hl : es.length ≤ 6) {k : Nat} (hk : k < es.length) (e' : Er) : m__law_with [encEs es, .int (k : Int), encE e'] = .ok (encEs (es.set k e')) := by
  have s0 : oSlice (encEs es) none (some (k : Int)) = some (encEs (es.take k)) := by
    show some (PyData.tuple (cutD (es.map encE) _ _)) = _
    rw [cut_to (by rw [List.length_map]; omega), ← List.map_take]
    rfl
  have s1 : oSlice (encEs es) (some ((k : Int) + 1)) none = some (encEs (es.drop (k + 1))) := by
    show some (PyData.tuple (cutD (es.map encE) _ _)) = _
    rw [show (k : Int) + 1 = ((k + 1 : Nat) : Int) by omega, cut_from (by rw [List.length_map]; omega), ← List.map_drop]
    rfl
  have c0 : oCatT (encEs (es.take k)) (.tuple [encE e']) = some (encEs (es.take k ++ [e'])) := by
    unfold encEs
    rw [oCatT_tuple, if_pos (by simp; omega), List.map_append]
    rfl
  have c1 : oCatT (encEs (es.take k ++ [e'])) (encEs (es.drop (k + 1))) = some (encEs (es.set k e')) := by
    unfold encEs
    rw [oCatT_tuple, if_pos (by simp; omega), ← List.map_append, List.set_eq_take_append_cons_drop, if_pos hk]
    simp
  simp [m__law_with, runD_ap, s0, s1, c0, c1]
theorem law21_true (ns : List Int) : m_law_k21 [encS ns] = .ok (.bool true) := by
  obtain ⟨es, hl, hes, he⟩ := law_errands_ok ns (a := 12) (most := 4) (top := 28) (by omega) (by omega) (by omega) (by omega)
  have hok : OkEs es := ⟨by omega, fun e h => (hes e h).ok (by omega)⟩
  obtain ⟨rs, hr, hre⟩ := law_ranks_ok ns (a := 0) (by omega) (n := es.length) (by omega)
  have hpos : 0 < (es.length : Int) := by omega
  have m6 := mixed_ok ns (k := 6) (many := (es.length : Int)) (by omega) hpos
  have v0 := mix_nonneg ns 6 hpos
  have v1 := mix_lt ns 6 hpos
  have m7 := mixed_ok ns (k := 7) (many := 9) (by omega) (by omega)
  have v2 := mix_nonneg ns 7 (show 0 < 9 by omega)
  have v3 := mix_lt ns 7 (show 0 < 9 by omega)
  generalize mix ns 6 (es.length : Int) = m at *
  generalize mix ns 7 9 = d at *
  obtain ⟨k, rfl⟩ : ∃ k : Nat, m = (k : Int) := ⟨m.toNat, by omega⟩
  have hk : k < es.length := by omega
  have hix := oIx_encEs hk
  have hdr : DrawnE 28 (E es k) := hes _ (by
    unfold E
    rw [List.getD_eq_getElem?_getD, List.getElem?_eq_getElem hk]
    exact List.getElem_mem hk)
  have hdo := hdr.ok (by omega)
  have hp0 := hdr.parts
  have hpp : 0 < ((E es k).parts.length : Int) := by omega
  have m8 := mixed_ok ns (k := 8) (many := ((E es k).parts.length : Int)) (by omega) hpp
  have v4 := mix_nonneg ns 8 hpp
  have v5 := mix_lt ns 8 hpp
  generalize mix ns 8 ((E es k).parts.length : Int) = m at *
  obtain ⟨j, rfl⟩ : ∃ j : Nat, m = (j : Int) := ⟨m.toNat, by omega⟩
  have hj : j < (E es k).parts.length := by omega
  generalize hE : E es k = e at *
  have hpj : atI (e.parts.map encP) (j : Int) = some (encP e.parts[j]) := atI_nat (by rw [List.getElem?_map, List.getElem?_eq_getElem hj]; rfl)
  have hpl := hdo.part e.parts[j] (List.getElem_mem hj)
  -- the two changed errands
  obtain ⟨e1, he1⟩ : ∃ e1 : Er, e1 = ⟨e.every + 1 + d, e.due, e.late, e.parts⟩ := ⟨_, rfl⟩
  obtain ⟨p', hp'⟩ : ∃ p' : Int × Option Int, p' = (if e.parts[j].1 - 1 > 1 then e.parts[j].1 - 1 else 1, e.parts[j].2) := ⟨_, rfl⟩
  obtain ⟨e2, he2⟩ : ∃ e2 : Er, e2 = ⟨e.every, e.due, e.late, e.parts.set j p'⟩ := ⟨_, rfl⟩
  have hp1 : p'.1 ≤ e.parts[j].1 ∧ 1 ≤ p'.1 ∧ p'.1 ≤ 20 := by
    have := hpl.len
    rw [hp']
    dsimp only
    split <;> omega
  have o1 : OkE e1 := by
    subst he1
    have a := hdr.every
    have b := hdr.late
    have c := hdr.due
    exact ⟨⟨by dsimp only; omega, by dsimp only; omega⟩, ⟨by dsimp only; omega, by dsimp only; omega, by dsimp only; omega⟩, ⟨by dsimp only; omega, by dsimp only; omega⟩, hdo.parts, hdo.part, hdo.last⟩
  have hea : Eas (e.parts.set j p') e.parts := Eas.set hj hp1.1 (by rw [hp'])
  have o2 : OkE e2 := by
    subst he2
    refine ⟨hdo.every, hdo.late, hdo.due, by dsimp only; rw [List.length_set]; exact hdo.parts, fun q hq => ?_, ?_⟩
    · rcases List.mem_or_eq_of_mem_set hq with z | z
      · exact hdo.part q z
      · rw [z]
        exact ⟨hp1.2, fun t ht => hpl.tool t (by rw [hp'] at ht; exact ht)⟩
    · obtain ⟨l, hlast⟩ := hdo.last
      show ∃ l, (e.parts.set j p').getLast? = some (l, none)
      rw [List.getLast?_eq_getElem?] at hlast ⊢
      rw [List.length_set, List.getElem?_set]
      by_cases hjl : j = e.parts.length - 1
      · rw [if_pos hjl, if_pos hj]
        have : e.parts[j] = (l, none) := by
          rw [← hjl, List.getElem?_eq_getElem hj] at hlast
          exact Option.some.inj hlast
        refine ⟨p'.1, ?_⟩
        rw [hp']
        simp [this]
      · rw [if_neg hjl]
        exact ⟨l, hlast⟩
  have w1 := with_ok hok.len.2 hk e1
  have w2 := with_ok hok.len.2 hk e2
  have k1 := set_ok hok k o1
  have k2 := set_ok hok k o2
  have z1 : ∀ x, Easier (E (es.set k e1) x) (E es x) := set_easier hk (by rw [hE, he1]; exact ⟨by dsimp only; omega, rfl, .refl _⟩)
  have z2 : ∀ x, Easier (E (es.set k e2) x) (E es x) := set_easier hk (by rw [hE, he2]; exact ⟨Int.le_refl _, rfl, hea⟩)
  have hb : inB (es.length : Int) := inB_nat (by omega)
  have enc1 : encE e1 = .tuple [.int (e.every + 1 + d), .int e.due, .int e.late, .tuple (e.parts.map encP)] := by rw [he1]; rfl
  have enc2 : encE e2 = .tuple [.int e.every, .int e.due, .int e.late, .tuple ((e.parts.set j p').map encP)] := by rw [he2]; rfl
  have enc0 : encE e = .tuple [.int e.every, .int e.due, .int e.late, .tuple (e.parts.map encP)] := rfl
  have encp : encP p' = .tuple [.int (if e.parts[j].1 - 1 > 1 then e.parts[j].1 - 1 else 1), encO e.parts[j].2] := by rw [hp']; rfl
  have s0 : oSlice (.tuple (e.parts.map encP)) none (some (j : Int)) = some (.tuple ((e.parts.take j).map encP)) := by
    rw [oSlice_tuple, cut_to (by rw [List.length_map]; omega), ← List.map_take]
  have s1 : oSlice (.tuple (e.parts.map encP)) (some ((j : Int) + 1)) none = some (.tuple ((e.parts.drop (j + 1)).map encP)) := by
    rw [oSlice_tuple, show (j : Int) + 1 = ((j + 1 : Nat) : Int) by omega, cut_from (by rw [List.length_map]; omega), ← List.map_drop]
  have c0 : oCatT (.tuple ((e.parts.take j).map encP)) (.tuple [encP p']) = some (.tuple ((e.parts.take j ++ [p']).map encP)) := by
    rw [oCatT_tuple, if_pos (by simp; omega), List.map_append]
    rfl
  have c1 : oCatT (.tuple ((e.parts.take j ++ [p']).map encP)) (.tuple ((e.parts.drop (j + 1)).map encP)) = some (.tuple ((e.parts.set j p').map encP)) := by
    rw [oCatT_tuple, if_pos (by simp; omega), ← List.map_append, List.set_eq_take_append_cons_drop, if_pos hj]
    simp
  rw [enc1] at w1
  rw [enc2] at w2
  rw [enc0] at hix
  rw [encp] at c0
  have f1 := oIx_encP0 e.parts[j]
  have f2 := oIx_encP1 e.parts[j]
  generalize e.parts[j] = pj at *
  generalize e.parts.set j p' = PS at *
  have l7 : oLen (.tuple (e.parts.map encP)) = some (.int (e.parts.length : Int)) := by rw [oLen_tuple, List.length_map]
  simp only [m_law_k21, runD_ap, seqS_ap, setS_ap, asgS_ap, startD_ap, List.map_cons, List.map_nil, List.length_cons, List.length_nil, List.cons_append, List.nil_append, List.replicate, wipeD_nil, eC_ap, eCall_ap, aCons_ap, aNil_ap, eVar_succ, eVar_zero, Res.bind_ok, he, toS_ok, andThen_nx, List.set_cons_succ, List.set_cons_zero, eCall1_ap, oLen_encEs, Res.of_some, hre, m6, eOp_ap, hix, bindT_tup, if_true, setAll_cons, setAll_nil, toS'_ok, eTup_ap, oAdd_int, m7, if_pos (show 0 + 1 + 1 + 1 + 1 ≤ 16777216 by omega), w1]
  simp only [seqS_ap, setS_ap, wipeD_nil, eC_ap, eCall_ap, aCons_ap, aNil_ap, eVar_succ, eVar_zero, Res.bind_ok, toS_ok, andThen_nx, List.set_cons_succ, List.set_cons_zero, eCall1_ap, l7, Res.of_some, m8, eOp_ap, oIx_tuple, hpj, f1, f2, oSub_int, eCall2_ap, oMax_int, eTup_ap, List.length_cons, List.length_nil, if_pos (show 0 + 1 + 1 ≤ 16777216 by omega), eSlice_ap, ptNo_ap, ptSome_ap, asI_int, s0, s1, oAdd_int, if_pos (show 0 + 1 ≤ 16777216 by omega), c0, c1, if_pos (show 0 + 1 + 1 + 1 + 1 ≤ 16777216 by omega), w2]
  refine nx_toR (for_nx encN (fun pre ρ => ∃ a3 a4 a5 a6 a7 a9 a10 a12 a13, ρ = [some (encS ns), some (encEs es), some (encR rs), a3, a4, a5, a6, a7, some (encEs (es.set k e1)), a9, a10, some (encEs (es.set k e2)), a12, a13]) (List.range es.length) ?_ ⟨_, _, _, _, _, _, _, _, _, rfl⟩ fun pre n post ρ hi ⟨a3, a4, a5, a6, a7, a9, a10, a12, a13, hρ⟩ => ?_) fun ρ ⟨a3, a4, a5, a6, a7, a9, a10, a12, a13, hρ⟩ => by subst hρ; simp
  · simp [hb, rangeD_encN]
  · subst hρ
    have hn : n < es.length := List.mem_range.mp (by rw [hi]; simp)
    have q0 := longest_ok hok hr hn
    have q1 := longest_ok k1 (rs := rs) (by rw [List.length_set]; exact hr) (n := n) (by rw [List.length_set]; exact hn)
    have q2 := longest_ok k2 (rs := rs) (by rw [List.length_set]; exact hr) (n := n) (by rw [List.length_set]; exact hn)
    have r1 := lng_easier hok.fine k1.fine z1 hr.nodup (hr.mem hn)
    have r2 := lng_easier hok.fine k2.fine z2 hr.nodup (hr.mem hn)
    refine ⟨_, rfl, [some (encS ns), some (encEs es), some (encR rs), a3, a4, a5, a6, a7, some (encEs (es.set k e1)), a9, a10, some (encEs (es.set k e2)), some (encN n), some (encO (lng es rs n))], ?_, _, _, _, _, _, _, _, _, _, rfl⟩
    simp [q0, q1, q2, no_longer_ok, r1, r2, asB]
end L2.DL
set_option maxHeartbeats 2000000
namespace L2.DL
open PySem PySem.Spec PyProof.Rows

/-! ### in time, by sets -/
def inS (es : List Er) (hi : List Nat) (n : Nat) (lo : List Nat) : Bool := match lngS es hi n lo with
  | none => false
  | some t => decide (t ≤ (E es n).due)
theorem inT_split {es : List Er} {hi lo : List Nat} {n : Nat} (h : n ∉ hi) : inT es (hi ++ n :: lo) n = inS es hi n lo := by
  unfold inT inS
  rw [lng_split h]
  all_goals (cases lngS es hi n lo <;> rfl)
theorem inS_same {es : List Er} {hi hi' lo lo' : List Nat} (h : hi.Perm hi') (hl : lo.Perm lo') (n : Nat) : inS es hi n lo = inS es hi' n lo' := by
  unfold inS
  rw [lngS_same h hl]
theorem inS_raise1 {es : List Er} (he : FineEs es) {hi lo : List Nat} {n x : Nat} (h : inS es (x :: hi) n lo = true) : inS es hi n (x :: lo) = true := by
  unfold inS at h ⊢
  have z : noLonger (lngS es hi n (x :: lo)) (lngS es (x :: hi) n lo) = true := noLonger_of (fun t ht => nd_raise he ht) (Int.le_refl _)
  cases e : lngS es (x :: hi) n lo with
  | none => rw [e] at h; cases h
  | some t =>
    rw [e] at h z
    cases e' : lngS es hi n (x :: lo) with
    | none => rw [e'] at z; cases z
    | some t' =>
      rw [e'] at z
      simp [noLonger] at z h ⊢
      omega
theorem inS_raise {es : List Er} (he : FineEs es) {n : Nat} {hi : List Nat} : ∀ {xs lo : List Nat}, inS es (xs ++ hi) n lo = true → inS es hi n (xs ++ lo) = true
  | [], _, h => h
  | x :: xs, lo, h => by
    have h1 := inS_raise1 he (hi := xs ++ hi) (x := x) h
    have h2 := inS_raise (hi := hi) (xs := xs) (lo := x :: lo) he h1
    rw [inS_same (List.Perm.refl hi) (lo := x :: xs ++ lo) (lo' := xs ++ x :: lo) List.perm_middle.symm]
    exact h2
/-! ### sorting out -/
def others (left : List Nat) (n : Nat) : List Nat := left.filter fun m => !(m == n)
def lowest (es : List Er) (left lower : List Nat) : Option Nat := left.find? fun n => inT es (others left n ++ n :: lower) n
theorem encN_ne (m n : Nat) : oNe (encN m) (encN n) = some (.bool (!(m == n))) := by
  unfold encN
  rw [oNe_int]
  congr 3
  rw [Bool.eq_iff_iff]
  simp
  omega
theorem others_ok {left : List Nat} (hl : left.length ≤ 6) (n : Nat) {t : Nat} {ρ : Env} {k : Nat} (hk : ∀ d, eVar k (ρ.set t (some d)) = .ok (encN n)) (ht : ∀ d, eVar t (ρ.set t (some d)) = .ok d) :
    compD (.one t) (eB (eOp oNe (eVar t) (eVar k))) (eVar t) ρ (left.map encN) = .ok ((others left n).map encN) :=
  compD_enc encN (fun m => !(m == n)) encN left fun m _ => by
    refine ⟨_, rfl, ?_, fun _ => ht _⟩
    simp only [eB_ap, eOp_ap, ht, hk, Res.bind_ok, encN_ne, Res.of_some, asB]
theorem others_len (left : List Nat) (n : Nat) : (others left n).length ≤ left.length := List.length_filter_le _ _
theorem cat3_ok {xs ys : List Nat} {n : Nat} (h : xs.length + ys.length ≤ 12) : (oCatT (encR xs) (.tuple [encN n])).bind (fun z => oCatT z (encR ys)) = some (encR (xs ++ n :: ys)) := by
  unfold encR
  rw [oCatT_tuple, if_pos (by simp; omega), Option.bind_some, oCatT_tuple, if_pos (by simp; omega)]
  simp
theorem others_mem {left : List Nat} {m n : Nat} : m ∈ others left n ↔ m ∈ left ∧ m ≠ n := by
  unfold others
  rw [List.mem_filter]
  simp
theorem rk_others {es : List Er} {left lower : List Nat} {n : Nat} (hl : left.length + lower.length ≤ 6) (hb : ∀ x ∈ left ++ lower, x < es.length) (hn : n ∈ left) (hnd : left.Nodup) : Rk es (others left n ++ n :: lower) := by
  refine ⟨?_, fun r hr => hb r ?_⟩
  · have : (others left n).length + 1 ≤ left.length := by
      have : (others left n) = left.erase n := by
        rw [List.Nodup.erase_eq_filter hnd]
        rfl
      rw [this, List.length_erase_of_mem hn]
      have := List.length_pos_of_mem hn
      omega
    rw [List.length_append, List.length_cons]
    omega
  · rcases List.mem_append.mp hr with h | h
    · exact List.mem_append_left _ (others_mem.mp h).1
    · rcases List.mem_cons.mp h with h | h
      · subst h; exact List.mem_append_left _ hn
      · exact List.mem_append_right _ h
theorem lowest_for_ok {es : List Er} (he : FineEs es) {left lower : List Nat} (hl : left.length + lower.length ≤ 6) (hb : ∀ x ∈ left ++ lower, x < es.length) (hnd : left.Nodup) : m_lowest_for [encEs es, .list (left.map encN), encR lower] = .ok (encH (lowest es left lower)) := by
  simp only [m_lowest_for, runD_ap]
  simp [-forS_ap]
  refine for_find encN (fun ρ => ∃ a b c, ρ = [some (encEs es), some (.list (left.map encN)), some (encR lower), a, b, c]) (fun n => if inT es (others left n ++ n :: lower) n = true then some (encN n) else none) left rfl ⟨none, none, none, rfl⟩ (fun n ρ hn ⟨a, b, c, hρ⟩ => ?_) ?_
  · subst hρ
    refine ⟨_, rfl, ?_⟩
    have ho := others_ok (left := left) (by omega) n (t := 5) (k := 3) (ρ := [some (encEs es), some (.list (left.map encN)), some (encR lower), some (encN n), b, none]) (fun _ => rfl) (fun _ => rfl)
    have hc := cat3_ok (xs := others left n) (ys := lower) (n := n) (by have := others_len left n; omega)
    have hi := is_in_time_ok he (rk_others hl hb hn hnd) (n := n) (by simp)
    have hc2 : ∀ z, oCatT (encR (others left n)) (.tuple [encN n]) = some z → oCatT z (encR lower) = some (encR (others left n ++ n :: lower)) := fun z hz => by
      rw [hz] at hc; exact hc
    obtain ⟨z, hz⟩ : ∃ z, oCatT (encR (others left n)) (.tuple [encN n]) = some z := by
      cases h : oCatT (encR (others left n)) (.tuple [encN n]) with
      | none => rw [h] at hc; cases hc
      | some z => exact ⟨z, rfl⟩
    have hc3 := hc2 z hz
    have hz2 : oCatT (.tuple ((others left n).map encN)) (.tuple [encN n]) = some z := hz
    have hlen : left.length < 16777216 := by omega
    simp only [seqS_ap, setS_ap, wipeD_nil, eOp_ap, eCall1_ap, eComp_ap, eCompL_ap, itSq_ap, eVar_succ, eVar_zero, List.set_cons_succ, List.set_cons_zero, Res.bind_ok, items_list, List.length_map, if_pos hlen, slots_one, wipeD_cons, ho, oTuple_list, Res.of_some, eTup_ap, aCons_ap, aNil_ap, List.length_cons, List.length_nil, if_pos (show 0 + 1 ≤ 16777216 by omega), hz2, hc3, toS_ok, andThen_nx, ifS_ap, eB_ap, eCall_ap, hi, asB]
    by_cases hq : inT es (others left n ++ n :: lower) n = true
    · rw [if_pos hq, if_pos hq]
      simp
    · rw [if_neg hq, if_neg hq]
      exact Nx.of ⟨_, _, _, rfl⟩
  · rw [findSome_if]
    unfold lowest
    cases left.find? fun n => inT es (others left n ++ n :: lower) n with
    | some n => rfl
    | none =>
      rintro ρ ⟨a, b, c, rfl⟩
      rfl
/-- what is told of errands sorted out -/
structure SO (es : List Er) (left lower : List Nat) : Prop where
  perm : (left ++ lower).Perm (List.range es.length)
  sub : left.Sublist (List.range es.length)
  good : ∀ p x q, lower = p ++ x :: q → inS es (left ++ p) x q = true
theorem SO.nodup {es : List Er} {left lower : List Nat} (h : SO es left lower) : (left ++ lower).Nodup := h.perm.nodup_iff.mpr List.nodup_range
theorem SO.stuck {es : List Er} {left lower : List Nat} (h : SO es left lower) (e : lowest es left lower = none) : ∀ n ∈ left, inS es (others left n) n lower = false := by
  intro n hn
  unfold lowest at e
  rw [List.find?_eq_none] at e
  have := e n hn
  rw [inT_split (by intro z; exact (others_mem.mp z).2 rfl)] at this
  simpa using this
theorem erase_cast : ∀ (xs : List Nat) (k : Nat), ((xs.map fun (r : Nat) => (r : Int)).erase (k : Int)) = (xs.erase k).map fun (r : Nat) => (r : Int)
  | [], _ => rfl
  | x :: xs, k => by
    rw [List.map_cons, List.erase_cons, List.erase_cons, erase_cast xs k]
    by_cases h : x = k
    · subst h; simp
    · have h1 : ((x : Int) == (k : Int)) = false := by simp; omega
      have h2 : (x == k) = false := by simp [h]
      rw [h1, h2]
      rfl
theorem nats_ne_nil (xs : List Nat) : oNe (.list (xs.map encN)) (.list []) = some (.bool (!xs.isEmpty)) := by
  unfold oNe
  rw [if_pos ⟨(show Lay 1 (.list (xs.map encN)) by rw [encR_ints]; exact lay_ints 0 _).shaped, (lay_ints 0 []).shaped⟩]
  cases xs <;> rfl
theorem nats_eq_nil (xs : List Nat) : oEq (.list (xs.map encN)) (.list []) = some (.bool xs.isEmpty) := by
  unfold oEq
  rw [if_pos ⟨(show Lay 1 (.list (xs.map encN)) by rw [encR_ints]; exact lay_ints 0 _).shaped, (lay_ints 0 []).shaped⟩]
  cases xs <;> rfl
theorem sorted_out_ok {es : List Er} (he : FineEs es) : ∃ left lower, m_sorted_out [encEs es] = .ok (.tuple [.list (left.map encN), encR lower]) ∧ SO es left lower ∧ (left = [] ∨ lowest es left lower = none) := by
  have hl := he.len
  have hb : inB (es.length : Int) := inB_nat (by omega)
  simp only [m_sorted_out, runD_ap]
  simp [hb, rangeD_encN, -setS_ap, -remS_ap]
  generalize hC : (eB (eOp oNe (eVar 1) (eLst aNil))) = C
  generalize hB : (seqS (setS [1] 3 _) _) = B
  generalize hG : (retS (eTup _)) = G
  have key : ∀ (k : Nat) (left lower : List Nat) (x : Option PyData), left.length = k → SO es left lower → ∃ l w, ((whileS C B [some (encEs es), some (.list (left.map encN)), some (encR lower), x]).andThen G).toR = .ok (.tuple [.list (l.map encN), encR w]) ∧ SO es l w ∧ (l = [] ∨ lowest es l w = none) := by
    intro k
    induction k with
    | zero =>
      intro left lower x hk h
      have : left = [] := List.eq_nil_of_length_eq_zero hk
      subst this
      refine ⟨[], lower, ?_, h, .inl rfl⟩
      have := nats_ne_nil []
      rw [whileS_step, ← hC, ← hG]
      simp at this
      simp [this, asB]
    | succ k ih =>
      intro left lower x hk h
      have hlen : left.length + lower.length ≤ 6 := by
        have := h.perm.length_eq
        rw [List.length_append, List.length_range] at this
        omega
      have hnd := List.nodup_append.mp h.nodup
      have hlo := lowest_for_ok he hlen (fun y hy => List.mem_range.mp (h.perm.mem_iff.mp hy)) hnd.1
      have hne := nats_ne_nil left
      have hem : left.isEmpty = false := by
        cases left with
        | nil => simp at hk
        | cons a r => rfl
      rw [hem] at hne
      have hc : C [some (encEs es), some (.list (left.map encN)), some (encR lower), x] = .ok true := by
        rw [← hC]
        simp [hne, asB]
      cases e : lowest es left lower with
      | none =>
        refine ⟨left, lower, ?_, h, .inr e⟩
        rw [e] at hlo
        have hb2 : B [some (encEs es), some (.list (left.map encN)), some (encR lower), x] = .ret (.tuple [.list (left.map encN), encR lower]) := by
          rw [← hB]
          simp [hlo, encH, encO, asB]
        rw [whileS_step, hc, hb2]
        rfl
      | some n =>
        have hn : n ∈ left := by
          unfold lowest at e
          exact List.mem_of_find?_eq_some e
        have hin : inS es (others left n) n lower = true := by
          unfold lowest at e
          have := List.find?_some e
          rwa [inT_split (by intro z; exact (others_mem.mp z).2 rfl)] at this
        have hoe : others left n = left.erase n := by
          rw [List.Nodup.erase_eq_filter hnd.1]
          rfl
        have hp : left.Perm (n :: left.erase n) := List.perm_cons_erase hn
        have h2 : SO es (left.erase n) (n :: lower) := by
          refine ⟨?_, (List.erase_sublist).trans h.sub, fun p y q hq => ?_⟩
          · refine List.Perm.trans ?_ h.perm
            refine List.perm_middle.trans ?_
            rw [← List.cons_append]
            exact hp.symm.append_right _
          · cases p with
            | nil =>
              rw [List.nil_append, List.cons.injEq] at hq
              obtain ⟨rfl, rfl⟩ := hq
              rw [List.append_nil, ← hoe]
              exact hin
            | cons p0 p =>
              rw [List.cons_append, List.cons.injEq] at hq
              obtain ⟨rfl, rfl⟩ := hq
              have := h.good p y q rfl
              rw [inS_same (hi' := left ++ p) (lo' := q) ?_ (List.Perm.refl _)]
              · exact this
              · refine List.perm_middle.trans ?_
                rw [← List.cons_append]
                exact hp.symm.append_right _
        obtain ⟨l, w, g1, g2⟩ := ih (left.erase n) (n :: lower) (some (encN n)) (by rw [List.length_erase_of_mem hn]; omega) h2
        refine ⟨l, w, ?_, g2⟩
        rw [← g1]
        rw [e] at hlo
        have hcat : oCatT (.tuple [encN n]) (encR lower) = some (encR (n :: lower)) := by
          unfold encR
          rw [oCatT_tuple, if_pos (by simp; omega)]
          rfl
        have hmem : (n : Int) ∈ left.map fun (r : Nat) => (r : Int) := List.mem_map.mpr ⟨n, hn, rfl⟩
        have her : ((left.map fun (r : Nat) => (r : Int)).erase (n : Int)).map PyData.int = (left.erase n).map encN := by
          rw [erase_cast, encR_ints]
        have hb2 : B [some (encEs es), some (.list (left.map encN)), some (encR lower), x] = .nx [some (encEs es), some (.list ((left.erase n).map encN)), some (encR (n :: lower)), some (encN n)] := by
          rw [← hB]
          have hq : encH (some n) = encN n := rfl
          rw [hq] at hlo
          have hsc : scal (encN n) = .ok (encN n) := rfl
          have his : isN (encN n) = false := rfl
          have hai : asI (encN n) = .ok (n : Int) := rfl
          simp only [seqS_ap, setS_ap, eCall_ap, aCons_ap, aNil_ap, eVar_succ, eVar_zero, Res.bind_ok, hlo, hsc, toS_ok, andThen_nx, List.set_cons_succ, List.set_cons_zero, ifS_ap, eB_ap, eOp_ap, eC_ap, oIs_non, his, Res.of_some, asB, Bool.false_eq_true, if_false, nxS_ap, remS_ap, hai, ownL_succ, ownL_zero, toS'_ok, toInts_encN, if_pos hmem, her, wipeD_cons, wipeD_nil, eTup_ap, List.length_cons, List.length_nil, if_pos (show 0 + 1 ≤ 16777216 by omega), hcat]
        rw [whileS_step, hc, hb2]
        rfl
  obtain ⟨l, w, h1, h2, h3⟩ := key es.length (List.range es.length) [] none List.length_range ⟨by simp, List.Sublist.refl _, fun p x q h => by cases p <;> cases h⟩
  exact ⟨l, w, h1, h2, h3⟩
end L2.DL
set_option maxHeartbeats 2000000
namespace L2.DL
open PySem PySem.Spec PyProof.Rows

theorem SO.len {es : List Er} {left lower : List Nat} (h : SO es left lower) : left.length + lower.length = es.length := by
  have := h.perm.length_eq
  rwa [List.length_append, List.length_range] at this
/-- all in time -/
def allT (es : List Er) (rs : List Nat) : Bool := rs.all fun n => inT es rs n
theorem allT_iff {es : List Er} {rs : List Nat} : allT es rs = true ↔ ∀ n ∈ rs, inT es rs n = true := List.all_eq_true
theorem SO.fit {es : List Er} {lower : List Nat} (h : SO es [] lower) : OkR es.length lower ∧ allT es lower = true := by
  have hp : OkR es.length lower := h.perm
  refine ⟨hp, allT_iff.mpr fun n hn => ?_⟩
  obtain ⟨p, q, rfl, hx⟩ := split_at hp.nodup hn
  rw [inT_split hx]
  exact h.good p n q rfl
/-- the last one of xs in rs -/
theorem last_split {xs : List Nat} : ∀ {rs : List Nat}, (∃ x ∈ rs, x ∈ xs) → ∃ hi x lo, rs = hi ++ x :: lo ∧ x ∈ xs ∧ ∀ y ∈ lo, y ∉ xs
  | [], h => by obtain ⟨x, h, _⟩ := h; cases h
  | a :: r, h => by
    by_cases hr : ∃ x ∈ r, x ∈ xs
    · obtain ⟨hi, x, lo, rfl, h1, h2⟩ := last_split hr
      exact ⟨a :: hi, x, lo, rfl, h1, h2⟩
    · obtain ⟨x, hx, hm⟩ := h
      rcases List.mem_cons.mp hx with rfl | hx
      · exact ⟨[], x, r, rfl, hm, fun y hy hz => hr ⟨y, hy, hz⟩⟩
      · exact absurd ⟨x, hx, hm⟩ hr
/-- errands of which none is in time as the lowest one: by no ranks is the lowest one of them in time -/
theorem SO.never {es : List Er} (he : FineEs es) {left lower : List Nat} (h : SO es left lower) (hs : ∀ n ∈ left, inS es (others left n) n lower = false) {hi lo : List Nat} {x : Nat} (hr : OkR es.length (hi ++ x :: lo)) (hx : x ∈ left) (hlo : ∀ y ∈ lo, y ∉ left) : inT es (hi ++ x :: lo) x = false := by
  have hnd := hr.nodup
  have hnx : x ∉ hi := fun z => by
    rw [List.nodup_append] at hnd
    exact hnd.2.2 x z x (by simp) rfl
  rw [inT_split hnx]
  cases e : inS es hi x lo with
  | false => rfl
  | true =>
    have hnd2 := List.nodup_append.mp hnd
    have hnlo : x ∉ lo := (List.nodup_cons.mp hnd2.2.1).1
    -- those of hi that are not left
    have hsp : hi.Perm (hi.filter (fun y => !left.contains y) ++ hi.filter (fun y => left.contains y)) := by
      have := List.filter_append_perm (fun y => !left.contains y) hi
      simpa using this.symm
    have hA : (hi.filter fun y => left.contains y).Perm (others left x) := by
      have hno : (others left x).Nodup := (List.nodup_append.mp h.nodup).1.filter _
      rw [List.perm_ext_iff_of_nodup (hnd2.1.filter _) hno]
      intro y
      rw [List.mem_filter, others_mem]
      constructor
      · rintro ⟨h1, h2⟩
        exact ⟨by simpa using h2, fun z => hnx (z ▸ h1)⟩
      · rintro ⟨h1, h2⟩
        have hy : y ∈ hi ++ x :: lo := hr.mem_iff.mpr (h.sub.subset h1)
        rcases List.mem_append.mp hy with hy | hy
        · exact ⟨hy, by simpa using h1⟩
        · rcases List.mem_cons.mp hy with hy | hy
          · exact absurd hy h2
          · exact absurd h1 (hlo y hy)
    have hB : (hi.filter (fun y => !left.contains y) ++ lo).Perm lower := by
      rw [List.perm_ext_iff_of_nodup ?_ (List.nodup_append.mp h.nodup).2.1]
      · intro y
        rw [List.mem_append, List.mem_filter]
        constructor
        · rintro (⟨h1, h2⟩ | h1)
          · have hy : y ∈ left ++ lower := h.perm.mem_iff.mpr (hr.mem_iff.mp (List.mem_append_left _ h1))
            rcases List.mem_append.mp hy with hy | hy
            · simp [hy] at h2
            · exact hy
          · have hy : y ∈ left ++ lower := h.perm.mem_iff.mpr (hr.mem_iff.mp (by simp [h1]))
            rcases List.mem_append.mp hy with hy | hy
            · exact absurd hy (hlo y h1)
            · exact hy
        · intro h1
          have hnl : y ∉ left := fun z => (List.nodup_append.mp h.nodup).2.2 y z y h1 rfl
          have hy : y ∈ hi ++ x :: lo := hr.mem_iff.mpr (h.perm.mem_iff.mp (List.mem_append_right _ h1))
          rcases List.mem_append.mp hy with hy | hy
          · exact .inl ⟨hy, by simpa using hnl⟩
          · rcases List.mem_cons.mp hy with hy | hy
            · exact absurd (hy ▸ hx) hnl
            · exact .inr hy
      · rw [List.nodup_append]
        refine ⟨hnd2.1.filter _, (List.nodup_cons.mp hnd2.2.1).2, fun y hy z hz => ?_⟩
        exact hnd2.2.2 y (List.mem_filter.mp hy).1 z (List.mem_cons_of_mem _ hz)
    rw [inS_same (hsp.trans (List.Perm.append_left _ hA)) (List.Perm.refl lo)] at e
    have e2 := inS_raise he e
    rw [inS_same (List.Perm.refl _) hB, hs x hx] at e2
    cases e2
theorem SO.none {es : List Er} (he : FineEs es) {left lower : List Nat} (h : SO es left lower) (hs : lowest es left lower = none) (hn : left ≠ []) {rs : List Nat} (hr : OkR es.length rs) : allT es rs = false := by
  obtain ⟨hi, x, lo, rfl, h1, h2⟩ := last_split (xs := left) (rs := rs) (by
    cases left with
    | nil => exact absurd rfl hn
    | cons a r => exact ⟨a, hr.mem_iff.mpr (h.sub.subset List.mem_cons_self), List.mem_cons_self⟩)
  have := h.never he (h.stuck hs) hr h1 h2
  rw [← Bool.not_eq_true, allT_iff]
  intro z
  have := z x (by simp)
  simp_all
/-! ### fitting, never -/
def encOR : Option (List Nat) → PyData
  | none => .none
  | some rs => encR rs
theorem fitting_of_ok {es : List Er} (he : FineEs es) : ∃ left lower, m_sorted_out [encEs es] = .ok (.tuple [.list (left.map encN), encR lower]) ∧ m_fitting_of [encEs es] = .ok (encOR (if left = [] then some lower else none)) ∧ SO es left lower ∧ (left = [] ∨ lowest es left lower = none) := by
  obtain ⟨left, lower, h1, h2, h3⟩ := sorted_out_ok he
  refine ⟨left, lower, h1, ?_, h2, h3⟩
  have hne := nats_ne_nil left
  cases left with
  | nil =>
    simp at hne
    simp only [m_fitting_of, runD_ap]
    simp [h1, hne, asB, encOR]
  | cons a r =>
    rw [List.isEmpty_cons] at hne
    generalize (a :: r).map encN = L at h1 hne
    simp [m_fitting_of, runD_ap, h1, hne, asB, encOR]
theorem fit_spec {es : List Er} (he : FineEs es) {left lower : List Nat} (h : SO es left lower) (hs : left = [] ∨ lowest es left lower = none) : (match (if left = [] then some lower else none) with
    | some rs => OkR es.length rs ∧ allT es rs = true
    | none => ∀ rs, OkR es.length rs → allT es rs = false) := by
  by_cases hl : left = []
  · rw [if_pos hl]
    subst hl
    exact h.fit
  · rw [if_neg hl]
    rcases hs with hs | hs
    · exact absurd hs hl
    · exact fun rs hr => h.none he hs hl hr
/-- the told ranks that fit -/
structure Fit (es : List Er) (r : Option (List Nat)) : Prop where
  some : ∀ rs, r = some rs → OkR es.length rs ∧ allT es rs = true
  none : r = none → ∀ rs, OkR es.length rs → allT es rs = false
theorem fit_of {es : List Er} (he : FineEs es) : ∃ r, m_fitting_of [encEs es] = .ok (encOR r) ∧ Fit es r := by
  obtain ⟨left, lower, h1, h2, h3, h4⟩ := fitting_of_ok he
  refine ⟨_, h2, ?_, ?_⟩
  · intro rs e
    have := fit_spec he h3 h4
    rw [e] at this
    exact this
  · intro e
    have := fit_spec he h3 h4
    rw [e] at this
    exact this
theorem fitting_ok {es : List Er} (he : OkEs es) : ∃ r, m_fitting [encEs es] = .ok (encOR r) ∧ Fit es r := by
  obtain ⟨r, h1, h2⟩ := fit_of he.fine
  exact ⟨r, by simp [m_fitting, runD_ap, checked_ok he, h1], h2⟩
theorem never_ok {es : List Er} (he : OkEs es) : ∃ left lower, m_sorted_out [encEs es] = .ok (.tuple [.list (left.map encN), encR lower]) ∧ m_fitting [encEs es] = .ok (encOR (if left = [] then some lower else none)) ∧ m_never [encEs es] = .ok (if left = [] then .none else .list (left.map encN)) ∧ SO es left lower ∧ (left = [] ∨ lowest es left lower = none) := by
  obtain ⟨left, lower, h1, h2, h3, h4⟩ := fitting_of_ok he.fine
  refine ⟨left, lower, h1, by simp [m_fitting, runD_ap, checked_ok he, h2], ?_, h3, h4⟩
  have hne := nats_eq_nil left
  cases left with
  | nil =>
    simp at hne
    simp [m_never, runD_ap, checked_ok he, h1, hne, asB]
  | cons a r =>
    rw [List.isEmpty_cons] at hne
    rw [if_neg (by simp)]
    generalize (a :: r).map encN = L at h1 hne ⊢
    simp [m_never, runD_ap, checked_ok he, h1, hne, asB]
/-! ### all in time -/
theorem toBools_map2 {α : Type} (f : α → Bool) : ∀ (xs : List α), toBools (xs.map fun x => PyData.bool (f x)) = some (xs.map f)
  | [] => rfl
  | _ :: r => by
    show (toBools (r.map fun x => PyData.bool (f x))).map (_ :: ·) = _
    rw [toBools_map2 f r]
    rfl
theorem oAll_map {α : Type} (f : α → Bool) (xs : List α) : oAll (.list (xs.map fun x => PyData.bool (f x))) = some (.bool (xs.all f)) := by
  simp [oAll, toBools_map2]
theorem all_in_time_ok {es : List Er} (he : FineEs es) {rs : List Nat} (hr : OkR es.length rs) : m_all_in_time [encEs es, encR rs] = .ok (.bool (allT es rs)) := by
  have hl := he.len
  have hb : inB (es.length : Int) := inB_nat (by omega)
  have hc : compD (.one 2) teYes (eCall m_is_in_time (aCons (eVar 0) (aCons (eVar 1) (aCons (eVar 2) aNil)))) [some (encEs es), some (encR rs), none] ((List.range es.length).map encN) = .ok ((List.range es.length).map fun n => PyData.bool (inT es rs n)) :=
    compD_map encN _ _ fun k hk => by
      have hk := List.mem_range.mp hk
      refine ⟨_, rfl, ?_⟩
      simp [is_in_time_ok he (hr.rk hl) (hr.mem hk)]
  have hall : (List.range es.length).all (inT es rs) = allT es rs := by
    unfold allT
    rw [Bool.eq_iff_iff, List.all_eq_true, List.all_eq_true]
    exact ⟨fun h x hx => h x (hr.mem_iff.mp hx), fun h x hx => h x (hr.mem_iff.mpr hx)⟩
  have ho := oAll_map (inT es rs) (List.range es.length)
  rw [hall] at ho
  simp [m_all_in_time, runD_ap, hb, rangeD_encN, show es.length < 16777216 by omega, hc, ho]
theorem law_all_in_time_ok {es : List Er} (he : FineEs es) {rs : List Nat} (hr : Rk es rs) : m__law_all_in_time [encEs es, encR rs] = .ok (.bool (allT es rs)) := by
  have hl := hr.len
  have hc : compD (.one 2) (teNot (eB (eCall m__law_in_time (aCons (eVar 0) (aCons (eVar 1) (aCons (eVar 2) aNil)))))) (eVar 2) [some (encEs es), some (encR rs), none] (rs.map encN) = .ok ((rs.filter fun n => !inT es rs n).map encN) :=
    compD_enc encN (fun n => !inT es rs n) encN _ fun k hk => by
      refine ⟨_, rfl, ?_, fun _ => rfl⟩
      simp [law_in_time_ok he hr hk, asB]
  have hq := nats_eq_nil (rs.filter fun n => !inT es rs n)
  have hall : (rs.filter fun n => !inT es rs n).isEmpty = allT es rs := by
    unfold allT
    rw [Bool.eq_iff_iff, List.isEmpty_iff, List.filter_eq_nil_iff, List.all_eq_true]
    simp
  rw [hall] at hq
  generalize (rs.filter fun n => !inT es rs n) = F at *
  simp [m__law_all_in_time, runD_ap, show rs.length < 16777216 by omega, hc, hq]
end L2.DL
set_option maxHeartbeats 2000000
namespace L2.DL
open PySem PySem.Spec PyProof.Rows

/-- what is told of one errand of a set that never fits -/
def whyRow (es : List Er) (left lower : List Nat) (n : Nat) : PyData := .tuple [encN n, encR (others left n ++ n :: lower), encO (lng es (others left n ++ n :: lower) n)]
theorem why_never_ok {es : List Er} (he : OkEs es) {left lower : List Nat} (h1 : m_sorted_out [encEs es] = .ok (.tuple [.list (left.map encN), encR lower])) (h : SO es left lower) : m_why_never [encEs es] = .ok (if left = [] then .none else .list (left.map (whyRow es left lower))) := by
  have hne := nats_eq_nil left
  by_cases hl : left = []
  · subst hl
    simp at hne
    simp [m_why_never, runD_ap, checked_ok he, hne, asB] at h1 ⊢
    simp [h1, hne, asB]
  · rw [if_neg hl]
    have hem : left.isEmpty = false := by
      cases left with
      | nil => exact absurd rfl hl
      | cons a r => rfl
    rw [hem] at hne
    have hlen := h.len
    have hle := he.len
    have hnd := List.nodup_append.mp h.nodup
    simp only [m_why_never, runD_ap]
    simp [-forS_ap, checked_ok he, h1, hne, asB]
    refine nx_toR (for_nx encN (fun pre ρ => ∃ x y z, ρ = [some (encEs es), some (.list (left.map encN)), some (encR lower), some (.list (pre.map (whyRow es left lower))), x, y, z]) left rfl ⟨none, none, none, rfl⟩ fun pre n post ρ hp ⟨x, y, z, hρ⟩ => ?_) fun ρ ⟨x, y, z, hρ⟩ => by subst hρ; simp
    subst hρ
    have hn : n ∈ left := by rw [hp]; simp
    have hpl : pre.length < 16777216 := by
      have := congrArg List.length hp
      simp at this
      omega
    have ho := others_ok (left := left) (by omega) n (t := 6) (k := 4) (ρ := [some (encEs es), some (.list (left.map encN)), some (encR lower), none, some (encN n), y, none]) (fun _ => rfl) (fun _ => rfl)
    have hc := cat3_ok (xs := others left n) (ys := lower) (n := n) (by have := others_len left n; omega)
    obtain ⟨z0, hz⟩ : ∃ z, oCatT (encR (others left n)) (.tuple [encN n]) = some z := by
      cases hq : oCatT (encR (others left n)) (.tuple [encN n]) with
      | none => rw [hq] at hc; cases hc
      | some z => exact ⟨z, rfl⟩
    have hc3 : oCatT z0 (encR lower) = some (encR (others left n ++ n :: lower)) := by rw [hz] at hc; exact hc
    have hz2 : oCatT (.tuple ((others left n).map encN)) (.tuple [encN n]) = some z0 := hz
    have hlo := longest_of_ok he.fine (rk_others (es := es) (left := left) (lower := lower) (by omega) (fun q hq => List.mem_range.mp (h.perm.mem_iff.mp hq)) hn hnd.1) (n := n) (by simp)
    have hl2 : left.length < 16777216 := by omega
    refine ⟨_, rfl, [some (encEs es), some (.list (left.map encN)), some (encR lower), some (.list ((pre ++ [n]).map (whyRow es left lower))), some (encN n), some (encR (others left n ++ n :: lower)), z], ?_, _, _, _, rfl⟩
    simp only [seqS_ap, setS_ap, appS_ap, wipeD_cons, wipeD_nil, eOp_ap, eCall1_ap, eComp_ap, eCompL_ap, itSq_ap, eVar_succ, eVar_zero, List.set_cons_succ, List.set_cons_zero, Res.bind_ok, items_list, List.length_map, if_pos hl2, slots_one, ho, oTuple_list, Res.of_some, eTup_ap, aCons_ap, aNil_ap, List.length_cons, List.length_nil, if_pos (show 0 + 1 ≤ 16777216 by omega), hz2, hc3, toS_ok, andThen_nx, eCall_ap, hlo, if_pos (show 0 + 1 + 1 + 1 ≤ 16777216 by omega), ownL_succ, ownL_zero, toS'_ok, if_pos hpl, List.map_append, List.map_cons, List.map_nil]
    rfl
theorem sort_rise {xs : List Nat} (h : (xs.map fun (r : Nat) => (r : Int)).Pairwise (· ≤ ·)) : sortI (xs.map fun (r : Nat) => (r : Int)) = xs.map fun (r : Nat) => (r : Int) := rise_one (sortI_perm _) (sortI_rise _) h
theorem sorted_tup {xs ys : List Nat} (hl : xs.length < 64) (h : sortI (xs.map fun (r : Nat) => (r : Int)) = ys.map fun (r : Nat) => (r : Int)) : oSorted (encR xs) = some (.list (ys.map encN)) := by
  have : oSorted (encR xs) = (toInts (xs.map encN)).bind fun ns => if ns.length < 64 then some (.list ((sortI ns).map .int)) else none := rfl
  rw [this, toInts_encN, Option.bind_some, List.length_map, if_pos (by omega), h, ← encR_ints]
theorem lay_natl (xs : List Nat) : Lay 1 (.list (xs.map encN)) := by rw [encR_ints]; exact lay_ints 0 _
theorem law16_true (ns : List Int) : m_law_k16 [encS ns] = .ok (.bool true) := by
  obtain ⟨es, hl, hes, he⟩ := law_errands_ok ns (a := 0) (most := 4) (top := 18) (by omega) (by omega) (by omega) (by omega)
  have hok : OkEs es := ⟨by omega, fun e h => (hes e h).ok (by omega)⟩
  obtain ⟨left, lower, h1, _, h3, h4, h5⟩ := never_ok hok
  have hw := why_never_ok hok h1 h4
  by_cases hn : left = []
  · rw [if_pos hn] at h3 hw
    simp [m_law_k16, runD_ap, he, h3, hw, asB]
  · rw [if_neg hn] at h3 hw
    have hst := h4.stuck (h5.resolve_left hn)
    have hlen := h4.len
    have hle := hok.len
    have hnd := List.nodup_append.mp h4.nodup
    have hb : inB (es.length : Int) := inB_nat (by omega)
    have hl2 : left.length < 16777216 := by omega
    have hc1 : compD (.one 8) teYes (eOp oIx (eVar 8) (eC (.int 0))) [some (encS ns), some (encEs es), some (.list (left.map encN)), some (.list (left.map (whyRow es left lower))), none, none, none, none, none, none] (left.map (whyRow es left lower)) = .ok (left.map encN) :=
      compD_map (whyRow es left lower) encN left fun n _ => ⟨_, rfl, rfl⟩
    have hne := oNe_self (lay_natl left)
    have hbound : ∀ q ∈ left ++ lower, q < es.length := fun q hq => List.mem_range.mp (h4.perm.mem_iff.mp hq)
    simp only [m_law_k16, runD_ap]
    simp [-forS_ap, he, h3, hw, asB, hl2, hc1, hne]
    refine nx_toR (for_nx (whyRow es left lower) (fun pre ρ => ∃ a b c d, ρ = [some (encS ns), some (encEs es), some (.list (left.map encN)), some (.list (left.map (whyRow es left lower))), a, b, c, d, none, none]) left (by simp) ⟨none, none, none, none, rfl⟩ fun pre n post ρ hp ⟨a, b, c, d, hρ⟩ => ?_) fun ρ ⟨a, b, c, d, hρ⟩ => by subst hρ; simp
    subst hρ
    have hm : n ∈ left := by rw [hp]; simp
    obtain ⟨R, hR⟩ : ∃ R, R = others left n ++ n :: lower := ⟨_, rfl⟩
    have hno : n ∉ others left n := fun z => (others_mem.mp z).2 rfl
    have hrk : Rk es R := by rw [hR]; exact rk_others (by omega) hbound hm hnd.1
    have hmR : n ∈ R := by rw [hR]; simp
    have hoe : others left n = left.erase n := by
      rw [List.Nodup.erase_eq_filter hnd.1]
      rfl
    have hperm : OkR es.length R := by
      refine List.Perm.trans ?_ h4.perm
      rw [hR, hoe]
      refine List.perm_middle.trans ?_
      rw [← List.cons_append]
      exact (List.perm_cons_erase hm).symm.append_right _
    have hRl : R.length ≤ 6 := hrk.len
    have q1 := sorted_tup (xs := R) (ys := List.range es.length) (by omega) (sort_ranks hperm)
    have q2 := oNe_self (lay_natl (List.range es.length))
    have q3 := index_ok hmR
    have q4 : oSlice (encR R) none (some ((R.idxOf n : Nat) : Int)) = some (encR (others left n)) := by
      rw [slice_to (Nat.le_of_lt (List.idxOf_lt_length_of_mem hmR)), hR, idx_split hno, List.take_left]
    have hrise : ((others left n).map fun (r : Nat) => (r : Int)).Pairwise (· ≤ ·) := by
      rw [List.pairwise_map]
      have : (others left n).Pairwise (· < ·) := List.Pairwise.filter _ ((List.pairwise_lt_range (n := es.length)).sublist h4.sub)
      exact this.imp fun h => by omega
    have hol := others_len left n
    have q5 := sorted_tup (xs := others left n) (ys := others left n) (by omega) (sort_rise hrise)
    have q6 := fun v => others_ok (left := left) (by omega) n (t := 9) (k := 4) (ρ := [some (encS ns), some (encEs es), some (.list (left.map encN)), some (.list (left.map (whyRow es left lower))), some (encN n), some (encR R), some v, some (encR (others left n)), none, none]) (fun _ => rfl) (fun _ => rfl)
    have q7 := oNe_self (lay_natl (others left n))
    have q8 := law_longest_ok hok.fine hrk hmR
    have q9 := oNe_self (lay_encO 0 (lng es R n))
    have hin : inT es R n = false := by
      rw [hR, inT_split hno]
      exact hst n hm
    have hix := oIx_encEs (hrk.lt n hmR)
    refine ⟨[some (encS ns), some (encEs es), some (.list (left.map encN)), some (.list (left.map (whyRow es left lower))), some (encN n), some (encR R), some (encO (lng es R n)), d, none, none], by rw [hR]; simp [whyRow], [some (encS ns), some (encEs es), some (.list (left.map encN)), some (.list (left.map (whyRow es left lower))), some (encN n), some (encR R), some (encO (lng es R n)), some (encR (others left n)), none, none], ?_, _, _, _, _, rfl⟩
    have his : isaTuple (encR R) = some (.bool true) := rfl
    generalize others left n = O at *
    unfold inT at hin
    simp only [encN] at *
    cases hlr : lng es R n with
    | none =>
      rw [hlr] at hin q8 q9
      simp [encO] at q8 q9
      simp [his, q1, hb, rangeD_encN, q2, q3, q4, q5, q6, q7, q8, q9, hl2, asB, encO, encN]
    | some t =>
      rw [hlr] at hin q8 q9
      have hin : ¬ t ≤ (E es n).due := by simpa using hin
      simp [encO] at q8 q9
      simp [his, q1, hb, rangeD_encN, q2, q3, q4, q5, q6, q7, q8, q9, hl2, asB, encO, encN, hix, hin]
end L2.DL
set_option maxHeartbeats 2000000
namespace L2.DL
open PySem PySem.Spec PyProof.Rows

theorem others_perm {xs : List Nat} (hnd : xs.Nodup) {n : Nat} (hn : n ∈ xs) : (n :: others xs n).Perm xs := by
  have : others xs n = xs.erase n := by
    rw [List.Nodup.erase_eq_filter hnd]
    rfl
  rw [this]
  exact (List.perm_cons_erase hn).symm
theorem orders_ok : ∀ (k : Nat) (xs : List Nat), xs.length < k → xs.length ≤ 5 → xs.Nodup → ∃ L : List (List Nat), m__law_orders k [.list (xs.map encN)] = .ok (.list (L.map encR)) ∧ L.length ≤ 5 ^ xs.length ∧ ∀ rs, rs ∈ L ↔ rs.Perm xs
  | 0, _, h, _, _ => absurd h (Nat.not_lt_zero _)
  | k + 1, xs, hk, h5, hnd => by
    have hq := nats_eq_nil xs
    cases hx : xs with
    | nil =>
      subst hx
      simp at hq
      refine ⟨[[]], ?_, by simp, fun rs => by rw [List.mem_singleton, List.perm_nil]⟩
      show runD 5 _ _ = _
      rw [runD_ap]
      simp [hq, asB]
      rfl
    | cons x0 r0 =>
      rw [← hx]
      have hem : xs.isEmpty = false := by rw [hx]; rfl
      rw [hem] at hq
      have hlen : 1 ≤ xs.length := by rw [hx]; simp
      refine Exists.imp (fun L (h : (∃ v, m__law_orders (k + 1) [.list (xs.map encN)] = .ok v ∧ v = .list (L.map encR)) ∧ _) => ⟨by obtain ⟨v, h1, h2⟩ := h.1; rw [h1, h2], h.2⟩) ?_
      have hsub : ∀ n ∈ xs, (others xs n).length + 1 = xs.length := fun n hn => by
        have := (others_perm hnd hn).length_eq
        simpa using this
      -- what is told for the rest
      have hrest : ∀ n : Nat, ∃ L : List (List Nat), n ∈ xs → m__law_orders k [.list ((others xs n).map encN)] = .ok (.list (L.map encR)) ∧ L.length ≤ 5 ^ (xs.length - 1) ∧ ∀ rs, rs ∈ L ↔ rs.Perm (others xs n) := fun n => by
        by_cases hn : n ∈ xs
        · have h1 := hsub n hn
          obtain ⟨L, h2, h3, h4⟩ := orders_ok k (others xs n) (by omega) (by omega) (hnd.filter _)
          exact ⟨L, fun _ => ⟨h2, by rw [← show (others xs n).length = xs.length - 1 by omega]; exact h3, h4⟩⟩
        · exact ⟨[], fun z => absurd z hn⟩
      obtain ⟨g, hg⟩ := Classical.axiomOfChoice hrest
      have hpw : 5 ^ (xs.length - 1) ≤ 5 ^ 4 := Nat.pow_le_pow_right (by omega) (by omega)
      refine ⟨xs.flatMap fun n => (g n).map (n :: ·), ⟨_, ?_, rfl⟩, ?_, ?_⟩
      · show runD 5 _ _ = _
        rw [runD_ap]
        simp [-forS_ap, hq, asB]
        refine nx_toR (for_nx encN (fun pre ρ => ∃ a, ρ = [some (.list (xs.map encN)), some (.list ((pre.flatMap fun n => (g n).map (n :: ·)).map encR)), a, none, none] ∧ (pre.flatMap fun n => (g n).map (n :: ·)).length ≤ pre.length * 5 ^ (xs.length - 1)) xs rfl ⟨none, rfl, by simp⟩ fun pre n post ρ hp ⟨a, hρ, hl⟩ => ?_) fun ρ ⟨a, hρ, hl⟩ => by subst hρ; simp
        subst hρ
        have hn : n ∈ xs := by rw [hp]; simp
        obtain ⟨h1, h2, h3⟩ := hg n hn
        have hpl : pre.length ≤ 4 := by
          have := congrArg List.length hp
          simp at this
          omega
        have ho := others_ok (left := xs) (by omega) n (t := 4) (k := 2) (ρ := [some (.list (xs.map encN)), none, some (encN n), none, none]) (fun _ => rfl) (fun _ => rfl)
        have hc : compD (.one 3) teYes (eOp oCatT (eTup (aCons (eVar 2) aNil)) (eVar 3)) [some (.list (xs.map encN)), none, some (encN n), none, none] ((g n).map encR) = .ok ((g n).map fun rs => encR (n :: rs)) :=
          compD_map encR _ _ fun rs hrs => by
            have hl3 : rs.length ≤ 5 := by
              have := ((h3 rs).mp hrs).length_eq
              have := hsub n hn
              omega
            refine ⟨_, rfl, ?_⟩
            have : oCatT (.tuple [encN n]) (encR rs) = some (encR (n :: rs)) := by
              unfold encR
              rw [oCatT_tuple, if_pos (by simp; omega)]
              rfl
            simp [this]
        have hmul : pre.length * 5 ^ (xs.length - 1) ≤ 4 * 5 ^ 4 := Nat.mul_le_mul hpl hpw
        have hgl : (g n).length ≤ 625 := Nat.le_trans h2 hpw
        generalize hA : (pre.flatMap fun n => (g n).map (n :: ·)) = A at *
        have e1 : A.length + (g n).length ≤ 16777216 := by omega
        have e2 : (g n).length < 16777216 := by omega
        have e3 : xs.length < 16777216 := by omega
        refine ⟨_, rfl, [some (.list (xs.map encN)), some (.list ((A ++ (g n).map (n :: ·)).map encR)), some (encN n), none, none], ?_, some (encN n), ?_, ?_⟩
        · simp only [extS_ap, wipeD_cons, wipeD_nil, eComp_ap, eCompL_ap, itSq_ap, eCall_ap, aCons_ap, aNil_ap, eVar_succ, eVar_zero, List.set_cons_succ, List.set_cons_zero, Res.bind_ok, items_list, List.length_map, if_pos e3, slots_one, ho, h1, if_pos e2, hc, toS_ok, asL_list, toS'_ok, ownL_succ, ownL_zero, if_pos e1, List.map_append, List.map_map]
          rfl
        · rw [List.flatMap_append, hA, List.flatMap_singleton]
        · rw [List.flatMap_append, hA, List.flatMap_singleton, List.length_append, List.length_map, List.length_append, List.length_singleton, Nat.add_mul, Nat.one_mul]
          omega
      · have : ∀ ys : List Nat, (∀ y ∈ ys, y ∈ xs) → (ys.flatMap fun n => (g n).map (n :: ·)).length ≤ ys.length * 5 ^ (xs.length - 1) := by
          intro ys
          induction ys with
          | nil => intro _; simp
          | cons y r ih =>
            intro h
            have h1 := ih fun z hz => h z (List.mem_cons_of_mem _ hz)
            have h2 := (hg y (h y List.mem_cons_self)).2.1
            rw [List.flatMap_cons, List.length_append, List.length_map, List.length_cons, Nat.add_mul, Nat.one_mul]
            omega
        have h1 := this xs fun _ h => h
        have h2 : xs.length * 5 ^ (xs.length - 1) ≤ 5 * 5 ^ (xs.length - 1) := Nat.mul_le_mul_right _ h5
        have h3 : 5 ^ xs.length = 5 * 5 ^ (xs.length - 1) := by
          obtain ⟨m, hm⟩ : ∃ m, xs.length = m + 1 := ⟨xs.length - 1, by omega⟩
          rw [hm, Nat.pow_succ, Nat.add_sub_cancel, Nat.mul_comm]
        omega
      · intro rs
        constructor
        · intro hrs
          obtain ⟨n, hn, h⟩ := List.mem_flatMap.mp hrs
          obtain ⟨q, hq, rfl⟩ := List.mem_map.mp h
          exact (((hg n hn).2.2 q).mp hq).cons n |>.trans (others_perm hnd hn)
        · intro hrs
          cases rs with
          | nil => exact absurd hrs.length_eq (by rw [hx]; simp)
          | cons n q =>
            have hn : n ∈ xs := hrs.mem_iff.mp List.mem_cons_self
            refine List.mem_flatMap.mpr ⟨n, hn, List.mem_map.mpr ⟨q, ((hg n hn).2.2 q).mpr ?_, rfl⟩⟩
            exact (hrs.trans (others_perm hnd hn).symm).cons_inv
/-- all orders of n numbers -/
theorem orders_all {n : Nat} (hn : n ≤ 5) : ∃ L : List (List Nat), m__law_orders 8 [.list ((List.range n).map encN)] = .ok (.list (L.map encR)) ∧ L.length < 16777216 ∧ ∀ rs ∈ L, OkR n rs := by
  obtain ⟨L, h1, h2, h3⟩ := orders_ok 8 (List.range n) (by rw [List.length_range]; omega) (by rw [List.length_range]; omega) List.nodup_range
  rw [List.length_range] at h2
  have : 5 ^ n ≤ 5 ^ 5 := Nat.pow_le_pow_right (by omega) hn
  exact ⟨L, h1, by omega, fun rs => (h3 rs).mp⟩
theorem orders_full {n : Nat} (hn : n ≤ 5) : ∃ L : List (List Nat), m__law_orders 8 [.list ((List.range n).map encN)] = .ok (.list (L.map encR)) ∧ L.length < 16777216 ∧ ∀ rs, rs ∈ L ↔ OkR n rs := by
  obtain ⟨L, h1, h2, h3⟩ := orders_ok 8 (List.range n) (by rw [List.length_range]; omega) (by rw [List.length_range]; omega) List.nodup_range
  rw [List.length_range] at h2
  have : 5 ^ n ≤ 5 ^ 5 := Nat.pow_le_pow_right (by omega) hn
  exact ⟨L, h1, by omega, h3⟩
end L2.DL
set_option maxHeartbeats 2000000
namespace L2.DL
open PySem PySem.Spec PyProof.Rows

/-! ### sets of errands that fit on one hand -/
structure FeasBy (es : List Er) (S rs : List Nat) : Prop where
  nodup : rs.Nodup
  mem : ∀ x, x ∈ rs ↔ x ∈ S
  good : ∀ hi x lo, rs = hi ++ x :: lo → inS es hi x lo = true
def Feas (es : List Er) (S : List Nat) : Prop := ∃ rs, FeasBy es S rs
theorem sum_sub {α : Type} {f : α → Int} {xs ys : List α} (h : xs.Sublist ys) (h0 : ∀ y ∈ ys, 0 ≤ f y) : (xs.map f).sum ≤ (ys.map f).sum := by
  induction h with
  | slnil => exact Int.le_refl _
  | cons a h ih =>
    simp only [List.map_cons, List.sum_cons]
    have := h0 a List.mem_cons_self
    have := ih fun y hy => h0 y (List.mem_cons_of_mem _ hy)
    omega
  | cons_cons a h ih =>
    simp only [List.map_cons, List.sum_cons]
    have := ih fun y hy => h0 y (List.mem_cons_of_mem _ hy)
    omega
theorem nd_sub {es : List Er} (he : FineEs es) {hi hi' lo lo' : List Nat} (h1 : hi'.Sublist hi) (h2 : ∀ x ∈ lo', x ∈ lo) (n : Nat) {t : Int} (ht : 1 ≤ t) : nd es hi' n lo' t ≤ nd es hi n lo t := by
  have a1 := hb_mono (es := es) (A := hi' ++ [n]) (B := hi ++ [n]) (lo := lo') (lo' := lo) (fun x hx => by
    rcases List.mem_append.mp hx with z | z
    · exact List.mem_append_left _ (h1.subset z)
    · exact List.mem_append_right _ z) h2
  have a2 := sum_sub (f := fun o => often (E es o) t * work (E es o)) h1 fun o _ => Int.mul_nonneg (often_nonneg (he.at o) (by omega)) (by have := work_bounds (he.at o); omega)
  unfold nd
  omega
theorem inS_of {es es' : List Er} {hi hi' lo lo' : List Nat} {n n' : Nat} (h : ∀ t, 1 ≤ t → nd es' hi' n' lo' t ≤ nd es hi n lo t) (hm : (E es n).every - (E es n).late ≤ (E es' n').every - (E es' n').late) (hd : (E es n).due ≤ (E es' n').due) (q : inS es hi n lo = true) : inS es' hi' n' lo' = true := by
  unfold inS at q ⊢
  have z : noLonger (lngS es' hi' n' lo') (lngS es hi n lo) = true := noLonger_of h hm
  cases e : lngS es hi n lo with
  | none => rw [e] at q; cases q
  | some t =>
    rw [e] at q z
    cases e' : lngS es' hi' n' lo' with
    | none => rw [e'] at z; cases z
    | some t' =>
      rw [e'] at z
      simp [noLonger] at z q ⊢
      omega
theorem filter_split {p : Nat → Bool} : ∀ {rs hi lo : List Nat} {x : Nat}, rs.filter p = hi ++ x :: lo → ∃ hi0 lo0, rs = hi0 ++ x :: lo0 ∧ hi = hi0.filter p ∧ lo = lo0.filter p
  | [], hi, lo, x, h => by cases hi <;> cases h
  | a :: r, hi, lo, x, h => by
    cases hp : p a with
    | true =>
      rw [List.filter_cons_of_pos hp] at h
      cases hi with
      | nil =>
        rw [List.nil_append, List.cons.injEq] at h
        exact ⟨[], r, by rw [h.1]; rfl, rfl, h.2.symm⟩
      | cons b hi =>
        rw [List.cons_append, List.cons.injEq] at h
        obtain ⟨hi0, lo0, e1, e2, e3⟩ := filter_split h.2
        exact ⟨a :: hi0, lo0, by rw [e1]; rfl, by rw [List.filter_cons_of_pos hp, ← e2, h.1], e3⟩
    | false =>
      rw [List.filter_cons_of_neg (by rw [hp]; simp)] at h
      obtain ⟨hi0, lo0, e1, e2, e3⟩ := filter_split h
      exact ⟨a :: hi0, lo0, by rw [e1]; rfl, by rw [List.filter_cons_of_neg (by rw [hp]; simp), ← e2], e3⟩
theorem Feas.sub {es : List Er} (he : FineEs es) {S S' : List Nat} (h : Feas es S) (hs : ∀ x ∈ S', x ∈ S) : Feas es S' := by
  obtain ⟨rs, h1, h2, h3⟩ := h
  refine ⟨rs.filter fun x => S'.contains x, h1.filter _, fun x => ?_, fun hi x lo e => ?_⟩
  · rw [List.mem_filter]
    constructor
    · rintro ⟨_, q⟩; simpa using q
    · intro q; exact ⟨(h2 x).mpr (hs x q), by simpa using q⟩
  · obtain ⟨hi0, lo0, e1, e2, e3⟩ := filter_split e
    refine inS_of (fun t ht => ?_) (Int.le_refl _) (Int.le_refl _) (h3 hi0 x lo0 e1)
    subst e2 e3
    exact nd_sub he List.filter_sublist (fun y hy => (List.mem_filter.mp hy).1) x ht
/-- numbers put through f -/
theorem nd_map {es es' : List Er} {φ : Nat → Nat} {hi lo : List Nat} {n : Nat} (h : ∀ i, i ∈ hi ∨ i = n ∨ i ∈ lo → E es' i = E es (φ i)) (t : Int) : nd es' hi n lo t = nd es (hi.map φ) (φ n) (lo.map φ) t := by
  unfold nd
  have hti : ∀ u, toolIn es' (hi ++ [n]) u = toolIn es (hi.map φ ++ [φ n]) u := fun u => by
    unfold toolIn
    rw [List.any_append, List.any_append, List.any_map]
    simp only [List.any_cons, List.any_nil, Bool.or_false]
    rw [h n (.inr (.inl rfl))]
    congr 1
    rw [Bool.eq_iff_iff, List.any_eq_true, List.any_eq_true]
    constructor
    · rintro ⟨x, hx, q⟩; exact ⟨x, hx, by rw [h x (.inl hx)] at q; exact q⟩
    · rintro ⟨x, hx, q⟩; exact ⟨x, hx, by rw [h x (.inl hx)]; exact q⟩
  have hbp : ∀ p, hbP es' (hi ++ [n]) p = hbP es (hi.map φ ++ [φ n]) p := fun p => by
    unfold hbP
    cases p.2 with
    | none => rfl
    | some u => exact hti u
  have h1 : hb es' (hi ++ [n]) lo = hb es (hi.map φ ++ [φ n]) (lo.map φ) := by
    apply Int.le_antisymm
    · rw [hb_le]
      refine ⟨hb_nonneg _ _ _, fun l hl p hp hq => ?_⟩
      rw [h l (.inr (.inr hl))] at hp
      rw [hbp] at hq
      exact (hb_le.mp (Int.le_refl _)).2 (φ l) (List.mem_map.mpr ⟨l, hl, rfl⟩) p hp hq
    · rw [hb_le]
      refine ⟨hb_nonneg _ _ _, fun l hl p hp hq => ?_⟩
      obtain ⟨l0, hl0, rfl⟩ := List.mem_map.mp hl
      rw [← h l0 (.inr (.inr hl0))] at hp
      rw [← hbp] at hq
      exact (hb_le.mp (Int.le_refl _)).2 l0 hl0 p hp hq
  have h2 : (hi.map fun o => often (E es' o) t * work (E es' o)) = (hi.map φ).map fun o => often (E es o) t * work (E es o) := by
    rw [List.map_map]
    apply List.map_congr_left
    intro o ho
    show often (E es' o) t * work (E es' o) = often (E es (φ o)) t * work (E es (φ o))
    rw [h o (.inl ho)]
  rw [h1, h2, h n (.inr (.inl rfl))]
theorem inS_map {es es' : List Er} {φ : Nat → Nat} {hi lo : List Nat} {n : Nat} (h : ∀ i, i ∈ hi ∨ i = n ∨ i ∈ lo → E es' i = E es (φ i)) : inS es' hi n lo = inS es (hi.map φ) (φ n) (lo.map φ) := by
  unfold inS lngS
  rw [h n (.inr (.inl rfl)), least_congr fun t _ => nd_map h t]
theorem lngS_map {es es' : List Er} {φ : Nat → Nat} {hi lo : List Nat} {n : Nat} (h : ∀ i, i ∈ hi ∨ i = n ∨ i ∈ lo → E es' i = E es (φ i)) : lngS es' hi n lo = lngS es (hi.map φ) (φ n) (lo.map φ) := by
  unfold lngS
  rw [h n (.inr (.inl rfl)), least_congr fun t _ => nd_map h t]
/-- some errands by themselves, numbered anew -/
def pick (es : List Er) (S : List Nat) : List Er := S.map (E es)
theorem E_pick {es : List Er} {S : List Nat} {i : Nat} (h : i < S.length) : E (pick es S) i = E es (rkAt S i) := by
  rw [rkAt_get h]
  unfold pick
  show ((S.map (E es)).getD i default) = _
  rw [List.getD_eq_getElem?_getD, List.getElem?_map, List.getElem?_eq_getElem h]
  rfl
theorem pick_fine {es : List Er} (he : FineEs es) {S : List Nat} (hl : S.length ≤ 6) : FineEs (pick es S) := ⟨by unfold pick; rw [List.length_map]; exact hl, fun e h => by
  obtain ⟨n, _, rfl⟩ := List.mem_map.mp h
  exact he.at n⟩
theorem split_mem {rs hi lo : List Nat} {x : Nat} (e : rs = hi ++ x :: lo) {i : Nat} (h : i ∈ hi ∨ i = x ∨ i ∈ lo) : i ∈ rs := by
  rw [e]
  rcases h with h | h | h <;> simp [h]
theorem map_split {φ : Nat → Nat} : ∀ {rs hi lo : List Nat} {x : Nat}, rs.map φ = hi ++ x :: lo → ∃ hi0 x0 lo0, rs = hi0 ++ x0 :: lo0 ∧ hi = hi0.map φ ∧ x = φ x0 ∧ lo = lo0.map φ
  | [], hi, lo, x, h => by cases hi <;> cases h
  | a :: r, hi, lo, x, h => by
    cases hi with
    | nil =>
      rw [List.map_cons, List.nil_append, List.cons.injEq] at h
      exact ⟨[], a, r, rfl, rfl, h.1.symm, h.2.symm⟩
    | cons b hi =>
      rw [List.map_cons, List.cons_append, List.cons.injEq] at h
      obtain ⟨hi0, x0, lo0, e1, e2, e3, e4⟩ := map_split h.2
      exact ⟨a :: hi0, x0, lo0, by rw [e1]; rfl, by rw [List.map_cons, ← e2, h.1], e3, e4⟩
theorem nodup_map_of {φ : Nat → Nat} : ∀ {xs : List Nat}, xs.Nodup → (∀ a ∈ xs, ∀ b ∈ xs, φ a = φ b → a = b) → (xs.map φ).Nodup
  | [], _, _ => List.nodup_nil
  | a :: r, h, inj => by
    rw [List.nodup_cons] at h
    rw [List.map_cons, List.nodup_cons]
    refine ⟨fun z => ?_, nodup_map_of h.2 fun x hx y hy => inj x (List.mem_cons_of_mem _ hx) y (List.mem_cons_of_mem _ hy)⟩
    obtain ⟨b, hb, e⟩ := List.mem_map.mp z
    have := inj b (List.mem_cons_of_mem _ hb) a List.mem_cons_self e
    exact h.1 (this ▸ hb)
theorem nodup_inj {xs : List Nat} (h : xs.Nodup) {a b : Nat} (ha : a < xs.length) (hb : b < xs.length) (e : xs[a] = xs[b]) : a = b := by
  have hp := List.pairwise_iff_getElem.mp h
  rcases Nat.lt_trichotomy a b with q | q | q
  · exact absurd e (hp a b ha hb q)
  · exact q
  · exact absurd e.symm (hp b a hb ha q)
theorem feas_pick {es : List Er} (he : FineEs es) {S : List Nat} (hl : S.length ≤ 6) (hn : S.Nodup) {r : Option (List Nat)} (h : Fit (pick es S) r) : (r ≠ none ↔ Feas es S) := by
  have hlen : (pick es S).length = S.length := by unfold pick; rw [List.length_map]
  have inj : ∀ a, a < S.length → ∀ b, b < S.length → rkAt S a = rkAt S b → a = b := fun a ha b hb e => by
    rw [rkAt_get ha, rkAt_get hb] at e
    exact nodup_inj hn ha hb e
  constructor
  · intro hne
    cases r with
    | none => exact absurd rfl hne
    | some rs =>
      obtain ⟨h1, h2⟩ := h.some rs rfl
      rw [hlen] at h1
      have hlt : ∀ i ∈ rs, i < S.length := fun i hi => List.mem_range.mp (h1.mem_iff.mp hi)
      refine ⟨rs.map (rkAt S), nodup_map_of h1.nodup fun a ha b hb => inj a (hlt a ha) b (hlt b hb), fun x => ?_, fun hi x lo e => ?_⟩
      · rw [List.mem_map]
        constructor
        · rintro ⟨i, hi, rfl⟩
          rw [rkAt_get (hlt i hi)]
          exact List.getElem_mem _
        · intro hx
          obtain ⟨i, hi, rfl⟩ := List.getElem_of_mem hx
          exact ⟨i, h1.mem_iff.mpr (List.mem_range.mpr hi), rkAt_get hi⟩
      · obtain ⟨hi0, x0, lo0, e1, rfl, rfl, rfl⟩ := map_split e
        have hnx : x0 ∉ hi0 := fun z => by
          have := h1.nodup
          rw [e1, List.nodup_append] at this
          exact this.2.2 x0 z x0 (by simp) rfl
        rw [← inS_map (es' := pick es S) fun i hi => E_pick (hlt i (split_mem e1 hi)), ← inT_split hnx, ← e1]
        exact allT_iff.mp h2 x0 (by rw [e1]; simp)
  · rintro ⟨rs, h1, h2, h3⟩ rfl
    have hm : ∀ x ∈ rs, S.idxOf x < S.length ∧ rkAt S (S.idxOf x) = x := fun x hx => by
      have hlt := List.idxOf_lt_length_of_mem ((h2 x).mp hx)
      exact ⟨hlt, by rw [rkAt_get hlt]; exact List.getElem_idxOf hlt⟩
    have hnd : (rs.map fun x => S.idxOf x).Nodup := nodup_map_of h1 fun a ha b hb e => by
      rw [← (hm a ha).2, ← (hm b hb).2, e]
    have hp : OkR (pick es S).length (rs.map fun x => S.idxOf x) := by
      rw [hlen]
      refine (List.perm_ext_iff_of_nodup hnd List.nodup_range).mpr fun i => ?_
      rw [List.mem_map, List.mem_range]
      constructor
      · rintro ⟨x, hx, rfl⟩; exact (hm x hx).1
      · intro hi
        refine ⟨S[i], (h2 _).mpr (List.getElem_mem hi), ?_⟩
        have hlt := List.idxOf_lt_length_of_mem (List.getElem_mem hi)
        exact nodup_inj hn hlt hi (List.getElem_idxOf hlt)
    have := h.none rfl _ hp
    rw [← Bool.not_eq_true, allT_iff] at this
    refine this fun n hn2 => ?_
    obtain ⟨hi, lo, e, hx⟩ := split_at hnd hn2
    obtain ⟨hi0, x0, lo0, e1, e2, e3, e4⟩ := map_split e
    rw [e, inT_split hx, inS_map (es' := pick es S) (φ := rkAt S) fun i hi2 => E_pick (by
      have := split_mem e hi2
      have := hp.mem_iff.mp this
      rw [hlen] at this
      exact List.mem_range.mp this)]
    have back : ∀ xs : List Nat, (∀ x ∈ xs, x ∈ rs) → (xs.map fun x => S.idxOf x).map (rkAt S) = xs := fun xs hxs => by
      rw [List.map_map]
      have : xs.map (rkAt S ∘ fun x => S.idxOf x) = xs.map id := List.map_congr_left fun x hx => (hm x (hxs x hx)).2
      rw [this, List.map_id]
    rw [e2, e3, e4, back hi0 fun x hx => by rw [e1]; simp [hx], back lo0 fun x hx => by rw [e1]; simp [hx], (hm x0 (by rw [e1]; simp)).2]
    exact h3 hi0 x0 lo0 e1
end L2.DL
set_option maxHeartbeats 2000000
namespace L2.DL
open PySem PySem.Spec PyProof.Rows

/-! ### rows of numbers -/
def castL (r : List Nat) : List Int := r.map fun (k : Nat) => (k : Int)
def encRN (r : List Nat) : PyData := .list (r.map encN)
theorem encRN_row (r : List Nat) : encRN r = encRow (castL r) := by
  unfold encRN encRow castL
  rw [encR_ints]
theorem castL_inj : ∀ {a b : List Nat}, castL a = castL b → a = b
  | [], [], _ => rfl
  | [], _ :: _, h => by cases h
  | _ :: _, [], h => by cases h
  | x :: a, y :: b, h => by
    have h : (x : Int) :: castL a = (y : Int) :: castL b := h
    rw [List.cons.injEq] at h
    rw [castL_inj h.2, show x = y by omega]
theorem eqvAll_is : ∀ xs ys : List Int, PyData.eqvAll (xs.map .int) (ys.map .int) = (xs == ys)
  | [], [] => rfl
  | [], _ :: _ => rfl
  | _ :: _, [] => rfl
  | x :: xs, y :: ys => by
    show (PyData.eqv (.int x) (.int y) && PyData.eqvAll (xs.map .int) (ys.map .int)) = _
    rw [eqvAll_is xs ys]
    rfl
theorem eqv_rows (a b : List Nat) : PyData.eqv (encRN a) (encRN b) = (a == b) := by
  rw [encRN_row, encRN_row]
  show PyData.eqvAll ((castL a).map .int) ((castL b).map .int) = _
  rw [eqvAll_is, Bool.eq_iff_iff]
  simp
  exact ⟨castL_inj, fun h => by rw [h]⟩
theorem lay_row (r : List Nat) : Lay 1 (encRN r) := by
  show Lay 1 (.list (r.map encN))
  rw [encR_ints]; exact lay_ints 0 _
theorem lay_rows (rs : List (List Nat)) : Lay 2 (.list (rs.map encRN)) := Lay.list fun d hd => by
  obtain ⟨r, _, rfl⟩ := List.mem_map.mp hd
  exact lay_row r
theorem any_rows (r : List Nat) (rs : List (List Nat)) : ((rs.map encRN).any fun z => PyData.eqv z (encRN r)) = rs.contains r := by
  rw [List.any_map, Bool.eq_iff_iff, List.any_eq_true]
  constructor
  · rintro ⟨x, hx, h⟩
    have h : PyData.eqv (encRN x) (encRN r) = true := h
    rw [eqv_rows] at h
    have : x = r := by simpa using h
    subst this
    simpa using hx
  · intro h
    exact ⟨r, by simpa using h, by show PyData.eqv (encRN r) (encRN r) = true; rw [eqv_rows]; simp⟩
theorem notin_rows (r : List Nat) (rs : List (List Nat)) : oNotIn (encRN r) (.list (rs.map encRN)) = some (.bool (!rs.contains r)) := by
  rw [oNotIn_of ((lay_row r).mono (by omega)) (lay_rows rs), any_rows]
def sortN (w : List Nat) : List Nat := (sortI (castL w)).map Int.toNat
theorem sortN_cast (w : List Nat) : castL (sortN w) = sortI (castL w) := by
  unfold sortN castL
  rw [List.map_map]
  have : ∀ x ∈ sortI (w.map fun (k : Nat) => (k : Int)), ((fun (k : Nat) => (k : Int)) ∘ Int.toNat) x = id x := fun x hx => by
    obtain ⟨k, _, rfl⟩ := List.mem_map.mp ((sortI_perm _).mem_iff.mp hx)
    simp
  rw [List.map_congr_left this, List.map_id]
theorem perm_cast {a b : List Nat} (h : (castL a).Perm (castL b)) : a.Perm b := by
  have := h.map Int.toNat
  unfold castL at this
  rw [List.map_map, List.map_map] at this
  have e : (Int.toNat ∘ fun (k : Nat) => (k : Int)) = id := by funext k; simp
  rw [e, List.map_id, List.map_id] at this
  exact this
theorem sortN_perm (w : List Nat) : (sortN w).Perm w := perm_cast (by rw [sortN_cast]; exact sortI_perm _)
theorem sorted_nats {w : List Nat} (h : w.length < 64) : oSorted (.list (w.map encN)) = some (encRN (sortN w)) := by
  unfold oSorted
  dsimp only
  have e : w.map encN = (castL w).map .int := encR_ints w
  rw [e, toInts_map, Option.bind_some, if_pos (by unfold castL; rw [List.length_map]; exact h), ← sortN_cast, encRN_row]
  rfl
theorem sorted_rows {rs : List (List Nat)} (h : rs.length < 64) : ∃ rs' : List (List Nat), oSortedR (.list (rs.map encRN)) = some (.list (rs'.map encRN)) ∧ rs'.Perm rs := by
  have e : rs.map encRN = (rs.map castL).map encRow := by
    rw [List.map_map]
    exact List.map_congr_left fun r _ => encRN_row r
  refine ⟨(sortRows (rs.map castL)).map fun r => r.map Int.toNat, ?_, ?_⟩
  · unfold oSortedR
    dsimp only
    rw [e, toRows_map, Option.bind_some, if_pos (by rw [List.length_map]; exact h)]
    congr 2
    rw [List.map_map]
    refine (List.map_congr_left fun r hr => ?_).symm
    obtain ⟨q, _, rfl⟩ := List.mem_map.mp ((List.mergeSort_perm _ _).mem_iff.mp hr)
    show encRN ((castL q).map Int.toNat) = _
    have : (castL q).map Int.toNat = q := by
      unfold castL
      rw [List.map_map]
      have e : (Int.toNat ∘ fun (k : Nat) => (k : Int)) = id := by funext k; simp
      rw [e, List.map_id]
    rw [this, encRN_row]
  · have hp := (List.mergeSort_perm (rs.map castL) (PySem.W.dataLe false encRow)).map fun r => r.map Int.toNat
    rw [List.map_map] at hp
    have : rs.map ((fun r => r.map Int.toNat) ∘ castL) = rs.map id := List.map_congr_left fun q _ => by
      show (castL q).map Int.toNat = q
      unfold castL
      rw [List.map_map]
      have e : (Int.toNat ∘ fun (k : Nat) => (k : Int)) = id := by funext k; simp
      rw [e, List.map_id]
    rw [this, List.map_id] at hp
    exact hp
/-! ### bundles -/
structure BInv (es : List Er) (T : Nat) (rows : List (List Nat)) : Prop where
  perm : rows.flatten.Perm (List.range es.length)
  ne : ∀ r ∈ rows, r ≠ []
  closed : ∀ t : Nat, t < T → ∀ r1 ∈ rows, ∀ r2 ∈ rows, ∀ x ∈ r1, ∀ y ∈ r2, hasTool (E es x) (t : Int) = true → hasTool (E es y) (t : Int) = true → r1 = r2
  min : ∀ c : Nat → Nat, (∀ x y (t : Int), x < es.length → y < es.length → hasTool (E es x) t = true → hasTool (E es y) t = true → c x = c y) → ∀ r ∈ rows, ∀ x ∈ r, ∀ y ∈ r, c x = c y
theorem BInv.nodup {es : List Er} {T : Nat} {rows : List (List Nat)} (h : BInv es T rows) : rows.flatten.Nodup := h.perm.nodup_iff.mpr List.nodup_range
theorem BInv.lt {es : List Er} {T : Nat} {rows : List (List Nat)} (h : BInv es T rows) {r : List Nat} (hr : r ∈ rows) {x : Nat} (hx : x ∈ r) : x < es.length :=
  List.mem_range.mp (h.perm.mem_iff.mp (List.mem_flatten.mpr ⟨r, hr, hx⟩))
theorem rows_short : ∀ {rows : List (List Nat)}, (∀ r ∈ rows, r ≠ []) → rows.length ≤ rows.flatten.length
  | [], _ => by simp
  | r :: rows, h => by
    have h1 := rows_short fun q hq => h q (List.mem_cons_of_mem _ hq)
    have h2 : 1 ≤ r.length := by
      have := h r List.mem_cons_self
      cases r with
      | nil => exact absurd rfl this
      | cons a r => simp
    rw [List.flatten_cons, List.length_append, List.length_cons]
    omega
theorem row_short : ∀ {rows : List (List Nat)} {r : List Nat}, r ∈ rows → r.length ≤ rows.flatten.length
  | q :: rows, r, h => by
    rw [List.flatten_cons, List.length_append]
    rcases List.mem_cons.mp h with rfl | h
    · omega
    · have := row_short h
      omega
theorem BInv.len {es : List Er} {T : Nat} {rows : List (List Nat)} (h : BInv es T rows) : rows.length ≤ es.length := by
  have := rows_short h.ne
  rw [h.perm.length_eq, List.length_range] at this
  exact this
theorem BInv.rlen {es : List Er} {T : Nat} {rows : List (List Nat)} (h : BInv es T rows) {r : List Nat} (hr : r ∈ rows) : r.length ≤ es.length := by
  have := row_short hr
  rw [h.perm.length_eq, List.length_range] at this
  exact this
/-- the rows with a tool -/
def withT (es : List Er) (t : Nat) (rows : List (List Nat)) : List (List Nat) := rows.filter fun r => r.any fun x => hasTool (E es x) (t : Int)
theorem mem_withT {es : List Er} {t : Nat} {rows : List (List Nat)} {r : List Nat} : r ∈ withT es t rows ↔ r ∈ rows ∧ ∃ x ∈ r, hasTool (E es x) (t : Int) = true := by
  unfold withT
  rw [List.mem_filter, List.any_eq_true]
theorem BInv.few {es : List Er} {T : Nat} {rows : List (List Nat)} (h : BInv es T rows) (hs : (withT es T rows).length ≤ 1) : BInv es (T + 1) rows := by
  refine ⟨h.perm, h.ne, fun t ht r1 h1 r2 h2 x hx y hy q1 q2 => ?_, h.min⟩
  by_cases e : t = T
  · subst e
    have m1 : r1 ∈ withT es t rows := mem_withT.mpr ⟨h1, x, hx, q1⟩
    have m2 : r2 ∈ withT es t rows := mem_withT.mpr ⟨h2, y, hy, q2⟩
    cases hw : withT es t rows with
    | nil => rw [hw] at m1; cases m1
    | cons a r =>
      rw [hw] at hs m1 m2
      have : r = [] := List.eq_nil_of_length_eq_zero (by rw [List.length_cons] at hs; omega)
      subst this
      rw [List.mem_singleton] at m1 m2
      rw [m1, m2]
  · exact h.closed t (by omega) r1 h1 r2 h2 x hx y hy q1 q2
theorem flatten_filter (p : List Nat → Bool) : ∀ rows : List (List Nat), ((rows.filter fun r => !p r).flatten ++ (rows.filter p).flatten).Perm rows.flatten
  | [] => List.Perm.refl _
  | r :: rows => by
    have ih := flatten_filter p rows
    cases hp : p r with
    | true =>
      rw [List.filter_cons_of_pos (p := p) hp, List.filter_cons_of_neg (p := fun r => !p r) (by simp [hp]), List.flatten_cons, List.flatten_cons]
      refine List.Perm.trans ?_ (ih.append_left r)
      rw [← List.append_assoc, ← List.append_assoc]
      exact List.perm_append_comm.append_right _
    | false =>
      rw [List.filter_cons_of_neg (p := p) (by simp [hp]), List.filter_cons_of_pos (p := fun r => !p r) (by simp [hp]), List.flatten_cons, List.flatten_cons, List.append_assoc]
      exact ih.append_left r
theorem BInv.join {es : List Er} {T : Nat} {rows : List (List Nat)} (h : BInv es T rows) (hs : 1 < (withT es T rows).length) {rows' : List (List Nat)} {m : List Nat} (hm : m.Perm (withT es T rows).flatten) (hp : rows'.Perm ((rows.filter fun r => !(withT es T rows).contains r) ++ [m])) : BInv es (T + 1) rows' := by
  have hkeep : ∀ r, r ∈ rows.filter (fun r => !(withT es T rows).contains r) ↔ r ∈ rows ∧ r ∉ withT es T rows := fun r => by
    rw [List.mem_filter]; simp
  have hin : ∀ r ∈ rows', (r ∈ rows ∧ r ∉ withT es T rows) ∨ r = m := fun r hr => by
    rcases List.mem_append.mp (hp.mem_iff.mp hr) with z | z
    · exact .inl ((hkeep r).mp z)
    · exact .inr (by simpa using z)
  have hmm : ∀ x, x ∈ m ↔ ∃ r ∈ withT es T rows, x ∈ r := fun x => by
    rw [hm.mem_iff, List.mem_flatten]
  refine ⟨?_, fun r hr => ?_, fun t ht r1 h1 r2 h2 x hx y hy q1 q2 => ?_, fun c hc r hr x hx y hy => ?_⟩
  · have e1 : rows'.flatten.Perm ((rows.filter fun r => !(withT es T rows).contains r) ++ [m]).flatten := hp.flatten
    refine e1.trans (List.Perm.trans ?_ h.perm)
    rw [List.flatten_append, List.flatten_singleton]
    refine (hm.append_left _).trans ?_
    have e2 : withT es T rows = rows.filter fun r => (withT es T rows).contains r := by
      have : ∀ r ∈ rows, (r.any fun x => hasTool (E es x) (T : Int)) = (withT es T rows).contains r := fun r hr => by
        rw [Bool.eq_iff_iff]
        constructor
        · intro z
          have : r ∈ withT es T rows := List.mem_filter.mpr ⟨hr, z⟩
          simpa using this
        · intro z
          have : r ∈ withT es T rows := by simpa using z
          exact (List.mem_filter.mp this).2
      exact List.filter_congr this
    have := flatten_filter (fun r => (withT es T rows).contains r) rows
    rw [← e2] at this
    exact this
  · rcases hin r hr with ⟨z, _⟩ | rfl
    · exact h.ne r z
    · intro e
      cases hw : withT es T rows with
      | nil => rw [hw] at hs; simp at hs
      | cons a q =>
        have ha : a ∈ withT es T rows := by rw [hw]; exact List.mem_cons_self
        obtain ⟨_, u, hu, _⟩ := mem_withT.mp ha
        have := (hmm u).mpr ⟨a, ha, hu⟩
        rw [e] at this
        cases this
  · by_cases e : t = T
    · subst e
      rcases hin r1 h1 with ⟨z, w⟩ | rfl
      · exact absurd (mem_withT.mpr ⟨z, x, hx, q1⟩) w
      · rcases hin r2 h2 with ⟨z, w⟩ | rfl
        · exact absurd (mem_withT.mpr ⟨z, y, hy, q2⟩) w
        · rfl
    · have ht' : t < T := by omega
      rcases hin r1 h1 with ⟨z, w⟩ | e1
      · rcases hin r2 h2 with ⟨z2, w2⟩ | e2
        · exact h.closed t ht' r1 z r2 z2 x hx y hy q1 q2
        · rw [e2] at hy
          obtain ⟨b, hb, hyb⟩ := (hmm y).mp hy
          have := h.closed t ht' r1 z b (mem_withT.mp hb).1 x hx y hyb q1 q2
          exact absurd (this ▸ hb) w
      · rcases hin r2 h2 with ⟨z2, w2⟩ | e2
        · rw [e1] at hx
          obtain ⟨b, hb, hxb⟩ := (hmm x).mp hx
          have := h.closed t ht' b (mem_withT.mp hb).1 r2 z2 x hxb y hy q1 q2
          exact absurd (this ▸ hb) w2
        · rw [e1, e2]
  · rcases hin r hr with ⟨z, _⟩ | rfl
    · exact h.min c hc r z x hx y hy
    · obtain ⟨a, ha, hxa⟩ := (hmm x).mp hx
      obtain ⟨b, hb, hyb⟩ := (hmm y).mp hy
      obtain ⟨ha1, u, hu, qu⟩ := mem_withT.mp ha
      obtain ⟨hb1, v, hv, qv⟩ := mem_withT.mp hb
      rw [h.min c hc a ha1 x hxa u hu, hc u v _ (h.lt ha1 hu) (h.lt hb1 hv) qu qv, h.min c hc b hb1 v hv y hyb]
theorem bundles_ok {es : List Er} (he : FineEs es) : ∃ rows, m_bundles [encEs es] = .ok (.list (rows.map encRN)) ∧ BInv es 4 rows := by
  have hl := he.len
  have hb : inB (es.length : Int) := inB_nat (by omega)
  have hc0 : compD (.one 6) teYes (eLst (aCons (eVar 6) aNil)) [some (encEs es), none, none, none, none, none, none] ((List.range es.length).map encN) = .ok (((List.range es.length).map fun k => [k]).map encRN) := by
    have := compD_map (t := .one 6) (e := eLst (aCons (eVar 6) aNil)) (ρ := [some (encEs es), none, none, none, none, none, none]) encN (fun k => encRN [k]) (List.range es.length) fun k _ => ⟨_, rfl, by simp [encRN]⟩
    rw [this, List.map_map]
    rfl
  have b0 : BInv es 0 ((List.range es.length).map fun k => [k]) := by
    refine ⟨?_, fun r hr => ?_, fun t ht => absurd ht (Nat.not_lt_zero _), fun c _ r hr x hx y hy => ?_⟩
    · have : ((List.range es.length).map fun k => [k]).flatten = List.range es.length := by
        generalize List.range es.length = X
        induction X with
        | nil => rfl
        | cons a r ih => simp only [List.map_cons, List.flatten_cons, ih, List.singleton_append]
      rw [this]
    · obtain ⟨k, _, rfl⟩ := List.mem_map.mp hr
      simp
    · obtain ⟨k, _, rfl⟩ := List.mem_map.mp hr
      rw [List.mem_singleton] at hx hy
      rw [hx, hy]
  generalize ((List.range es.length).map fun k => [k]) = R0 at *
  simp only [m_bundles, runD_ap]
  simp [-forS_ap, hb, rangeD_encN, show es.length < 16777216 by omega, hc0]
  refine nx_toP (P := fun v => ∃ rows, v = .ok (.list (rows.map encRN)) ∧ BInv es 4 rows) (for_nx encN (fun pre ρ => ∃ (rows : List (List Nat)) (a2 a3 a4 a5 a6 : Option PyData), ρ = [some (encEs es), some (.list (rows.map encRN)), a2, a3, a4, a5, a6] ∧ BInv es pre.length rows) (List.range 4) ?_ ⟨_, none, none, none, none, none, rfl, b0⟩ fun pre a post ρ hp ⟨rows, a2, a3, a4, a5, a6, hρ, hB⟩ => ?_) fun ρ ⟨rows, a2, a3, a4, a5, a6, hρ, hB⟩ => ?_
  · have : inB 4 := by decide
    simp [this]
    exact rangeD_map 4
  · subst hρ
    have ha : a = pre.length := by
      have := congrArg (fun l => l[pre.length]?) hp
      simp at this
      rw [List.getElem?_range (by
        have := congrArg List.length hp
        simp at this
        omega)] at this
      exact (Option.some.inj this).symm
    rw [List.length_append, List.length_singleton, ← ha]
    rw [← ha] at hB
    have hrl := hB.len
    have h1 : rows.length < 16777216 := by omega
    have hc1 : compD (.one 5) (eB (eCall1 oAny (eComp (itSq (eVar 5)) (.one 6) teYes (eCall m_has_tool (aCons (eOp oIx (eVar 0) (eVar 6)) (aCons (eVar 2) aNil)))))) (eVar 5) [some (encEs es), some (.list (rows.map encRN)), some (encN a), a3, a4, none, a6] (rows.map encRN) = .ok ((withT es a rows).map encRN) :=
      compD_enc encRN _ encRN rows fun r hr => by
        have hrr := hB.rlen hr
        have hci : compD (.one 6) teYes (eCall m_has_tool (aCons (eOp oIx (eVar 0) (eVar 6)) (aCons (eVar 2) aNil))) [some (encEs es), some (.list (rows.map encRN)), some (encN a), a3, a4, some (encRN r), none] (r.map encN) = .ok (r.map fun x => PyData.bool (hasTool (E es x) (a : Int))) :=
          compD_map encN _ _ fun x hx => by
            have := tool_at (E es x) (he.at x) (a : Int)
            refine ⟨_, rfl, ?_⟩
            simp [encN, oIx_encEs (hB.lt hr hx), this]
        have hoa : oAny (.list (r.map fun x => PyData.bool (hasTool (E es x) (a : Int)))) = some (.bool (r.any fun x => hasTool (E es x) (a : Int))) := by
          simp [oAny, toBools_map2]
        have hit : items (encRN r) = .ok (r.map encN) := rfl
        refine ⟨_, rfl, ?_, fun _ => rfl⟩
        simp [hit, show r.length < 16777216 by omega, hci, hoa, asB]
    refine ⟨_, rfl, ?_⟩
    simp only [seqS_ap, setS_ap, wipeD_nil, eComp_ap, eCompL_ap, itSq_ap, eVar_succ, eVar_zero, List.set_cons_succ, List.set_cons_zero, Res.bind_ok, items_list, List.length_map, if_pos h1, slots_one, wipeD_cons, hc1, toS_ok, andThen_nx, ifS_ap, eB_ap, eOp_ap, eCall1_ap, oLen_list, Res.of_some, eC_ap, oGt_int, asB]
    by_cases hs : 1 < (withT es a rows).length
    · have hs2 : (1 : Int) < ((withT es a rows).length : Int) := by omega
      have hwl : (withT es a rows).length ≤ 6 := Nat.le_trans (List.length_filter_le _ _) (by omega)
      have hfl : ∀ ys : List (List Nat), (∀ y ∈ ys, y.length ≤ 6) → ys.flatten.length ≤ 6 * ys.length := by
        intro ys
        induction ys with
        | nil => intro _; simp
        | cons y r ih =>
          intro h
          have := ih fun z hz => h z (List.mem_cons_of_mem _ hz)
          have := h y List.mem_cons_self
          rw [List.flatten_cons, List.length_append, List.length_cons]
          omega
      have hwr : ∀ y ∈ withT es a rows, y.length ≤ 6 := fun y hy => by
        have := hB.rlen (mem_withT.mp hy).1
        omega
      simp only [hs2, decide_true, if_true, newS_ap, nLst_ap, aNil_ap, wipeD_nil, Res.bind_ok, List.length_nil, if_pos (show 0 ≤ 16777216 by omega), toS_ok, List.length_cons, if_pos (show 4 < 0 + 1 + 1 + 1 + 1 + 1 + 1 + 1 by omega), andThen_nx, List.set_cons_succ, List.set_cons_zero]
      refine nx_then (for_nx encRN (fun pre2 ρ => ∃ x5, ρ = [some (encEs es), some (.list (rows.map encRN)), some (encN a), some (.list ((withT es a rows).map encRN)), some (.list (pre2.flatten.map encN)), x5, a6]) (withT es a rows) (by simp) ⟨a5, rfl⟩ fun pre2 r post2 ρ hq ⟨x5, hρ⟩ => ?_) fun ρ ⟨x5, hρ⟩ => ?_
      · subst hρ
        have hr6 : r.length ≤ 6 := hwr r (by rw [hq]; simp)
        have hp6 : pre2.flatten.length ≤ 36 := by
          have h1 := hfl pre2 fun y hy => hwr y (by rw [hq]; simp [hy])
          have h2 := congrArg List.length hq
          simp at h2
          omega
        refine ⟨_, rfl, [some (encEs es), some (.list (rows.map encRN)), some (encN a), some (.list ((withT es a rows).map encRN)), some (.list ((pre2 ++ [r]).flatten.map encN)), some (encRN r), a6], ?_, _, rfl⟩
        have hal : asL (encRN r) = .ok (r.map encN) := rfl
        generalize hA : pre2.flatten = A at *
        simp [hal, show A.length + r.length ≤ 16777216 by omega, hA]
      · subst hρ
        have hw6 : (withT es a rows).flatten.length ≤ 36 := by
          have := hfl _ hwr
          omega
        have hc2 : compD (.one 5) (eB (eOp oNotIn (eVar 5) (eVar 3))) (eVar 5) [some (encEs es), some (.list (rows.map encRN)), some (encN a), some (.list ((withT es a rows).map encRN)), some (.list ((withT es a rows).flatten.map encN)), none, a6] (rows.map encRN) = .ok ((rows.filter fun r => !(withT es a rows).contains r).map encRN) :=
          compD_enc encRN (fun r => !(withT es a rows).contains r) encRN rows fun r _ => by
            refine ⟨_, rfl, ?_, fun _ => rfl⟩
            simp only [eB_ap, eOp_ap, List.set_cons_succ, List.set_cons_zero, eVar_succ, eVar_zero, Res.bind_ok, notin_rows, Res.of_some, asB]
        have hso := sorted_nats (w := (withT es a rows).flatten) (by omega)
        obtain ⟨rows', hr1, hr2⟩ := sorted_rows (rs := (rows.filter fun r => !(withT es a rows).contains r) ++ [sortN (withT es a rows).flatten]) (by
          rw [List.length_append, List.length_singleton]
          have := List.length_filter_le (fun r => !(withT es a rows).contains r) rows
          omega)
        have hB2 := hB.join hs (sortN_perm _) hr2
        have hkl := List.length_filter_le (fun r => !(withT es a rows).contains r) rows
        rw [List.map_append, List.map_singleton] at hr1
        generalize (rows.filter fun r => !(withT es a rows).contains r) = KP at *
        generalize sortN (withT es a rows).flatten = SN at *
        refine ⟨[some (encEs es), some (.list (rows'.map encRN)), some (encN a), some (.list ((withT es a rows).map encRN)), some (.list ((withT es a rows).flatten.map encN)), x5, a6], ?_, rows', _, _, _, _, _, rfl, hB2⟩
        simp only [setS_ap, wipeD_nil, eCall1_ap, eOp_ap, eComp_ap, eCompL_ap, itSq_ap, eVar_succ, eVar_zero, Res.bind_ok, items_list, List.length_map, if_pos h1, slots_one, wipeD_cons, List.set_cons_succ, List.set_cons_zero, hc2, eLst_ap, aCons_ap, aNil_ap, hso, Res.of_some, List.length_cons, List.length_nil, if_pos (show 0 + 1 ≤ 16777216 by omega), oCatL_list, if_pos (show KP.length + (0 + 1) ≤ 16777216 by omega), hr1, toS_ok]
    · have hs2 : ¬ (1 : Int) < ((withT es a rows).length : Int) := by omega
      simp only [hs2, decide_false, Bool.false_eq_true, if_false, nxS_ap]
      exact ⟨_, rfl, rows, _, _, _, _, _, rfl, hB.few (by omega)⟩
  · subst hρ
    rw [List.length_range] at hB
    exact ⟨rows, by simp, hB⟩
end L2.DL
set_option maxHeartbeats 2000000
namespace L2.DL
open PySem PySem.Spec PyProof.Rows

theorem Feas.nil (es : List Er) : Feas es [] := ⟨[], List.nodup_nil, fun x => Iff.rfl, fun hi x lo e => by cases hi <;> cases e⟩
theorem row_empty (S : List Nat) : oEq (encRN S) (.list []) = some (.bool S.isEmpty) := nats_eq_nil S
theorem fits_ok {es : List Er} (he : FineEs es) {S : List Nat} (hl : S.length ≤ 6) (hn : S.Nodup) (hlt : ∀ x ∈ S, x < es.length) : ∃ b, m_fits [encEs es, encRN S] = .ok (.bool b) ∧ (b = true ↔ Feas es S) := by
  have hq := row_empty S
  cases hS : S with
  | nil =>
    subst hS
    refine ⟨true, ?_, fun _ => Feas.nil es, fun _ => rfl⟩
    simp at hq
    simp [m_fits, runD_ap, hq, asB]
  | cons a r =>
    rw [← hS]
    have hem : S.isEmpty = false := by rw [hS]; rfl
    rw [hem] at hq
    obtain ⟨f, h1, h2⟩ := fit_of (pick_fine he hl)
    have hp := feas_pick he hl hn h2
    have hc : compD (.one 2) teYes (eOp oIx (eVar 0) (eVar 2)) [some (encEs es), some (encRN S), none] (S.map encN) = .ok ((pick es S).map encE) := by
      have := compD_map (t := .one 2) (e := eOp oIx (eVar 0) (eVar 2)) (ρ := [some (encEs es), some (encRN S), none]) encN (fun x => encE (E es x)) S fun x hx => ⟨_, rfl, by
        have := oIx_encEs (hlt x hx)
        simp [encN, this]⟩
      rw [this]
      unfold pick
      rw [List.map_map]
      rfl
    have hit : items (encRN S) = .ok (S.map encN) := rfl
    have hE : PyData.tuple ((pick es S).map encE) = encEs (pick es S) := rfl
    have hI : isN (encOR f) = f.isNone := by cases f <;> rfl
    refine ⟨!f.isNone, ?_, ?_⟩
    · simp only [m_fits, runD_ap]
      simp [hq, asB, hit, show S.length < 16777216 by omega, hc, hE, h1, hI]
    · rw [← hp]
      cases f <;> simp
def encRows : Option (List (List Nat)) → PyData
  | none => .none
  | some rs => .list (rs.map encRN)
structure Dealt (es : List Er) (left rows : List (List Nat)) (r : Option (List (List Nat))) : Prop where
  sound : ∀ rs, r = some rs → rs.length = rows.length ∧ rs.flatten.Perm (rows.flatten ++ left.flatten) ∧ (∀ b ∈ left, ∃ q ∈ rs, ∀ x ∈ b, x ∈ q) ∧ (∀ b ∈ rows, ∃ q ∈ rs, ∀ x ∈ b, x ∈ q) ∧ ∀ q ∈ rs, q ∈ rows ∨ (Feas es q ∧ ∃ w, q = sortN w)
  complete : ∀ G : Nat → List Nat, (∀ j, j < rows.length → ∀ x ∈ rows.getD j [], x ∈ G j) → (∀ b ∈ left, ∃ j, j < rows.length ∧ ∀ x ∈ b, x ∈ G j) → (∀ j, j < rows.length → Feas es (G j)) → r ≠ none
theorem set_split {α : Type} : ∀ {rows : List α} {j : Nat} (h : j < rows.length), ∃ A B, rows = A ++ rows[j] :: B ∧ ∀ m, rows.set j m = A ++ m :: B
  | x :: rows, 0, _ => ⟨[], rows, rfl, fun _ => rfl⟩
  | x :: rows, j + 1, h => by
    obtain ⟨A, B, e1, e2⟩ := set_split (rows := rows) (j := j) (by simpa using h)
    refine ⟨x :: A, B, ?_, fun m => by rw [List.set_cons_succ, e2 m]; rfl⟩
    rw [List.getElem_cons_succ, List.cons_append, ← e1]
theorem idxOf_le_get : ∀ {xs : List (List Nat)} {i : Nat} (h : i < xs.length), xs.idxOf xs[i] ≤ i
  | x :: xs, 0, _ => by simp
  | x :: xs, i + 1, h => by
    rw [List.getElem_cons_succ, List.idxOf_cons]
    have := idxOf_le_get (xs := xs) (i := i) (by simpa using h)
    cases (x == xs[i]'(by simpa using h)) <;> simp <;> omega
theorem getD_at {rows : List (List Nat)} {j : Nat} (h : j < rows.length) : rows.getD j [] = rows[j] := by
  rw [List.getD_eq_getElem?_getD, List.getElem?_eq_getElem h]; rfl
theorem getD_set {rows : List (List Nat)} {j i : Nat} {m : List Nat} (h : j < rows.length) : (rows.set j m).getD i [] = if i = j then m else rows.getD i [] := by
  rw [List.getD_eq_getElem?_getD, List.getElem?_set, List.getD_eq_getElem?_getD]
  by_cases e : j = i
  · subst e; simp [h]
  · rw [if_neg e, if_neg (Ne.symm e)]
theorem rows_at {rows : List (List Nat)} {j : Nat} (h : j < rows.length) : atI (rows.map encRN) (j : Int) = some (encRN rows[j]) := atI_nat (by rw [List.getElem?_map, List.getElem?_eq_getElem h]; rfl)
theorem findSome_map {α β γ : Type} (f : α → Option β) (g : β → γ) : ∀ xs : List α, xs.findSome? (fun a => (f a).map g) = (xs.findSome? f).map g
  | [] => rfl
  | a :: xs => by
    rw [List.findSome?_cons, List.findSome?_cons]
    cases f a with
    | some b => rfl
    | none => exact findSome_map f g xs
theorem dealt_on_ok {es : List Er} (he : FineEs es) : ∀ (k : Nat) (left rows : List (List Nat)), left.length < k → (rows.flatten ++ left.flatten).Nodup → (rows.flatten ++ left.flatten).length ≤ 6 → (∀ x ∈ rows.flatten ++ left.flatten, x < es.length) → rows.length ≤ 6 → left.length ≤ 6 →
    ∃ r, m_dealt_on k [encEs es, .list (left.map encRN), .list (rows.map encRN)] = .ok (encRows r) ∧ Dealt es left rows r
  | 0, _, _, h, _, _, _, _, _ => absurd h (Nat.not_lt_zero _)
  | k + 1, left, rows, hk, hnd, hlen, hlt, hrl, hll => by
    have heq : oEq (.list (left.map encRN)) (.list []) = some (.bool left.isEmpty) := by
      unfold oEq
      rw [if_pos ⟨(lay_rows left).shaped, (lay_ints 0 []).shaped⟩]
      cases left <;> rfl
    cases hleft : left with
    | nil =>
      subst hleft
      refine ⟨some rows, ?_, ⟨fun rs e => ?_, fun G _ _ _ e => by cases e⟩⟩
      · show runD 6 _ _ = _
        rw [runD_ap]
        simp at heq
        simp [heq, asB, encRows]
      · cases e
        exact ⟨rfl, by simp, fun b hb => (by cases hb), fun b hb => ⟨b, hb, fun x hx => hx⟩, fun q hq => .inl hq⟩
    | cons b0 rest =>
      have hem : left.isEmpty = false := by rw [hleft]; rfl
      rw [hem] at heq
      rw [← hleft]
      have hfl : left.flatten = b0 ++ rest.flatten := by rw [hleft, List.flatten_cons]
      rw [hfl] at hnd hlen hlt
      -- the row made longer
      obtain ⟨more, hmore⟩ : ∃ more : Nat → List Nat, ∀ j, more j = sortN (rows.getD j [] ++ b0) := ⟨_, fun _ => rfl⟩
      have hperm : ∀ j, j < rows.length → ((rows.set j (more j)).flatten ++ rest.flatten).Perm (rows.flatten ++ (b0 ++ rest.flatten)) := fun j hj => by
        obtain ⟨A, B, e1, e2⟩ := set_split hj
        have hm : (more j).Perm (rows[j] ++ b0) := by rw [hmore, getD_at hj]; exact sortN_perm _
        rw [e2 (more j)]
        have e3 : rows.flatten = A.flatten ++ (rows[j] ++ B.flatten) := by
          conv => lhs; rw [e1]
          simp
        rw [e3]
        simp only [List.flatten_append, List.flatten_cons, List.append_assoc]
        refine List.Perm.append_left _ ?_
        refine (hm.append_right _).trans ?_
        rw [List.append_assoc]
        refine List.Perm.append_left _ ?_
        rw [← List.append_assoc, ← List.append_assoc]
        exact List.perm_append_comm.append_right _
      have hmsub : ∀ j, j < rows.length → ∀ x, x ∈ more j ↔ x ∈ rows.getD j [] ∨ x ∈ b0 := fun j hj x => by
        rw [hmore, (sortN_perm _).mem_iff, List.mem_append]
      have hrec : ∀ j : Nat, ∃ p : Bool × Option (List (List Nat)), j < rows.length → m_fits [encEs es, encRN (more j)] = .ok (.bool p.1) ∧ (p.1 = true ↔ Feas es (more j)) ∧
          m_dealt_on k [encEs es, .list (rest.map encRN), .list ((rows.set j (more j)).map encRN)] = .ok (encRows p.2) ∧ Dealt es rest (rows.set j (more j)) p.2 := fun j => by
        by_cases hj : j < rows.length
        · have hp := hperm j hj
          have hnd2 := hp.nodup_iff.mpr hnd
          have hms : (more j).Sublist ((rows.set j (more j)).flatten ++ rest.flatten) := by
            obtain ⟨A, B, e1, e2⟩ := set_split hj
            rw [e2]
            simp only [List.flatten_append, List.flatten_cons, List.append_assoc]
            exact (List.sublist_append_left _ _).trans (List.sublist_append_right _ _)
          obtain ⟨b, f1, f2⟩ := fits_ok he (S := more j) (by
            have := hms.length_le
            rw [hp.length_eq] at this
            omega) (hnd2.sublist hms) (fun x hx => hlt x (hp.mem_iff.mp (hms.subset hx)))
          obtain ⟨r, g1, g2⟩ := dealt_on_ok he k rest (rows.set j (more j)) (by rw [hleft, List.length_cons] at hk; omega) hnd2 (by rw [hp.length_eq]; exact hlen) (fun x hx => hlt x (hp.mem_iff.mp hx)) (by rw [List.length_set]; exact hrl) (by rw [hleft, List.length_cons] at hll; omega)
          exact ⟨(b, r), fun _ => ⟨f1, f2, g1, g2⟩⟩
        · exact ⟨(false, none), fun z => absurd z hj⟩
      obtain ⟨g, hg⟩ := Classical.axiomOfChoice hrec
      obtain ⟨cond, hcond⟩ : ∃ cond : Nat → Bool, ∀ j, cond j = (!(rows.take j).contains (rows.getD j []) && (g j).1) := ⟨_, fun _ => rfl⟩
      obtain ⟨out, hout⟩ : ∃ out : Nat → Option (List (List Nat)), ∀ j, out j = if cond j = true then (g j).2 else none := ⟨_, fun _ => rfl⟩
      refine ⟨(List.range rows.length).findSome? out, ?_, ?_⟩
      · have hb : inB (rows.length : Int) := inB_nat (by omega)
        have hl0 : atI (left.map encRN) 0 = some (encRN b0) := by rw [hleft]; simp
        have hl1 : oSlice (.list (left.map encRN)) (some 1) none = some (.list (rest.map encRN)) := by
          rw [oSlice_list, show (1 : Int) = ((1 : Nat) : Int) from rfl, cut_from (by rw [hleft]; simp), hleft]
          rfl
        show runD 6 _ _ = _
        rw [runD_ap]
        simp only [seqS_ap, ifS_ap, startD_ap, List.map_cons, List.map_nil, List.length_cons, List.length_nil, List.cons_append, List.nil_append, List.replicate, eB_ap, eOp_ap, eVar_succ, eVar_zero, eLst_ap, aNil_ap, Res.bind_ok, if_pos (show 0 ≤ 16777216 by omega), heq, Res.of_some, asB, toS_ok, Bool.false_eq_true, if_false, nxS_ap, andThen_nx]
        refine for_find encN (fun ρ => ∃ a b c, ρ = [some (encEs es), some (.list (left.map encRN)), some (.list (rows.map encRN)), a, b, c]) (fun j => (out j).map fun rs => PyData.list (rs.map encRN)) (List.range rows.length) ?_ ⟨none, none, none, rfl⟩ (fun j ρ hj ⟨a, b, c, hρ⟩ => ?_) ?_
        · simp [hb, rangeD_encN]
        · subst hρ
          have hj := List.mem_range.mp hj
          obtain ⟨f1, f2, g1, g2⟩ := hg j hj
          have hrj := rows_at hj
          have hso : oCatL (encRN rows[j]) (encRN b0) = some (.list ((rows[j] ++ b0).map encN)) := by
            unfold encRN
            have h1 : rows[j].length ≤ 6 := by
              have := row_short (rows := rows) (List.getElem_mem hj)
              rw [List.length_append] at hlen
              omega
            have h2 : b0.length ≤ 6 := by
              rw [List.length_append, List.length_append] at hlen
              omega
            rw [oCatL_list, if_pos (by simp; omega), List.map_append]
          have hsn := sorted_nats (w := rows[j] ++ b0) (by
            have h1 := row_short (rows := rows) (List.getElem_mem hj)
            rw [List.length_append, List.length_append] at hlen
            rw [List.length_append]
            omega)
          have hmj : sortN (rows[j] ++ b0) = more j := by rw [hmore, getD_at hj]
          rw [hmj] at hsn
          have htk : oSlice (.list (rows.map encRN)) none (some (j : Int)) = some (.list ((rows.take j).map encRN)) := by
            rw [oSlice_list, cut_to (by rw [List.length_map]; omega), List.map_take]
          have hdr : oSlice (.list (rows.map encRN)) (some ((j : Int) + 1)) none = some (.list ((rows.drop (j + 1)).map encRN)) := by
            rw [oSlice_list, show (j : Int) + 1 = ((j + 1 : Nat) : Int) by omega, cut_from (by rw [List.length_map]; omega), List.map_drop]
          have hni := notin_rows rows[j] (rows.take j)
          have hc1 : oCatL (.list ((rows.take j).map encRN)) (.list [encRN (more j)]) = some (.list ((rows.take j ++ [more j]).map encRN)) := by
            rw [oCatL_list, if_pos (by simp; omega), List.map_append]; rfl
          have hc2 : oCatL (.list ((rows.take j ++ [more j]).map encRN)) (.list ((rows.drop (j + 1)).map encRN)) = some (.list ((rows.set j (more j)).map encRN)) := by
            rw [oCatL_list, if_pos (by simp; omega), ← List.map_append, List.set_eq_take_append_cons_drop, if_pos hj]
            simp
          have hcj := hcond j
          rw [getD_at hj] at hcj
          refine ⟨_, rfl, ?_⟩
          have hoj := hout j
          simp only [encN, seqS_ap, setS_ap, wipeD_nil, eCall1_ap, eOp_ap, eVar_succ, eVar_zero, List.set_cons_succ, List.set_cons_zero, Res.bind_ok, oIx_list, hrj, eC_ap, hl0, Res.of_some, hso, hsn, toS_ok, andThen_nx, ifS_ap, teAnd_ap, eB_ap, eSlice_ap, ptNo_ap, ptSome_ap, asI_int, htk, hni, asB, eCall_ap, aCons_ap, aNil_ap, f1, hl1, eLst_ap, List.length_cons, List.length_nil, if_pos (show 0 + 1 ≤ 16777216 by omega), hc1, oAdd_int, hdr, hc2, g1]
          cases hct : (rows.take j).contains rows[j] with
          | true =>
            rw [hct, Bool.not_true, Bool.false_and] at hcj
            rw [hcj, if_neg (by simp)] at hoj
            rw [hoj]
            simp
            exact ⟨_, rfl, _, _, _, rfl⟩
          | false =>
            rw [hct, Bool.not_false, Bool.true_and] at hcj
            cases hf : (g j).1 with
            | false =>
              rw [hf] at hcj
              rw [hcj, if_neg (by simp)] at hoj
              rw [hoj]
              simp
              exact ⟨_, rfl, _, _, _, rfl⟩
            | true =>
              rw [hf] at hcj
              rw [hcj, if_pos rfl] at hoj
              rw [hoj]
              cases hr2 : (g j).2 with
              | none =>
                simp [encRows, asB]
                exact ⟨_, rfl, _, _, _, rfl⟩
              | some rs => simp [encRows, asB]
        · rw [findSome_map]
          cases (List.range rows.length).findSome? out with
          | some rs => rfl
          | none =>
            rintro ρ ⟨a, b, c, rfl⟩
            rfl
      · constructor
        · intro rs e
          obtain ⟨j, hj, e2⟩ := List.exists_of_findSome?_eq_some e
          have hj := List.mem_range.mp hj
          rw [hout] at e2
          split at e2
          · rename_i hc
            obtain ⟨f1, f2, g1, g2⟩ := hg j hj
            obtain ⟨s1, s2, s3, s4, s5⟩ := g2.sound rs e2
            have hfe : Feas es (more j) := by
              rw [hcond] at hc
              exact f2.mp (by simp at hc; exact hc.2)
            refine ⟨by rw [s1, List.length_set], s2.trans (by rw [hfl]; exact hperm j hj), fun b hb => ?_, fun b hb => ?_, fun q hq => ?_⟩
            · rw [hleft] at hb
              rcases List.mem_cons.mp hb with rfl | hb
              · obtain ⟨q, hq1, hq2⟩ := s4 (more j) (List.mem_set hj _)
                exact ⟨q, hq1, fun x hx => hq2 x ((hmsub j hj x).mpr (.inr hx))⟩
              · exact s3 b hb
            · obtain ⟨i, hi, rfl⟩ := List.getElem_of_mem hb
              by_cases hij : i = j
              · subst hij
                obtain ⟨q, hq1, hq2⟩ := s4 (more i) (List.mem_set hj _)
                exact ⟨q, hq1, fun x hx => hq2 x ((hmsub i hj x).mpr (.inl (by rw [getD_at hj]; exact hx)))⟩
              · refine s4 rows[i] ?_
                rw [List.mem_iff_getElem?]
                exact ⟨i, by rw [List.getElem?_set_ne (Ne.symm hij), List.getElem?_eq_getElem hi]⟩
            · rcases s5 q hq with z | z
              · rcases List.mem_or_eq_of_mem_set z with z | z
                · exact .inl z
                · exact .inr ⟨z ▸ hfe, _, z.trans (hmore j)⟩
              · exact .inr z
          · cases e2
        · intro G G1 G2 G3 e
          rw [List.findSome?_eq_none_iff] at e
          obtain ⟨kk, hkk, hk2⟩ := G2 b0 (by rw [hleft]; exact List.mem_cons_self)
          -- the first row like that one
          obtain ⟨j, hj, hjk, hjf⟩ : ∃ j, ∃ hj : j < rows.length, rows.getD j [] = rows.getD kk [] ∧ rows[j] ∉ rows.take j := by
            have hmem : rows[kk] ∈ rows := List.getElem_mem hkk
            have hlt2 := List.idxOf_lt_length_of_mem hmem
            refine ⟨rows.idxOf rows[kk], hlt2, ?_, fun z => ?_⟩
            · rw [getD_at hlt2, getD_at hkk, List.getElem_idxOf hlt2]
            · obtain ⟨i, hi, e3⟩ := List.mem_take_iff_getElem.mp z
              rw [List.getElem_idxOf hlt2] at e3
              have : rows.idxOf rows[kk] ≤ i := by
                rw [← e3]
                exact idxOf_le_get (by omega)
              omega
          obtain ⟨f1, f2, g1, g2⟩ := hg j hj
          have hfe : Feas es (more j) := (G3 kk hkk).sub he fun x hx => by
            rcases (hmsub j hj x).mp hx with z | z
            · rw [hjk] at z; exact G1 kk hkk x z
            · exact hk2 x z
          have hcj : cond j = true := by
            rw [hcond, getD_at hj, f2.mpr hfe]
            simp [hjf]
          have hno := e j (List.mem_range.mpr hj)
          rw [hout, if_pos hcj] at hno
          refine g2.complete (fun i => if i = j then G kk else if i = kk then G j else G i) (fun i hi x hx => ?_) (fun b hb => ?_) (fun i hi => ?_) hno
          · rw [List.length_set] at hi
            rw [getD_set hj] at hx
            by_cases hij : i = j
            · rw [if_pos hij] at hx ⊢
              rcases (hmsub j hj x).mp hx with z | z
              · rw [hjk] at z; exact G1 kk hkk x z
              · exact hk2 x z
            · rw [if_neg hij] at hx ⊢
              by_cases hik : i = kk
              · rw [if_pos hik]
                rw [hik, ← hjk] at hx
                exact G1 j hj x hx
              · rw [if_neg hik]
                exact G1 i hi x hx
          · obtain ⟨i, hi, hx⟩ := G2 b (by rw [hleft]; exact List.mem_cons_of_mem _ hb)
            rw [List.length_set]
            by_cases hij : i = j
            · by_cases hjkk : j = kk
              · exact ⟨j, hj, by rw [if_pos rfl, ← hjkk, ← hij]; exact hx⟩
              · exact ⟨kk, hkk, by rw [if_neg (Ne.symm hjkk), if_pos rfl, ← hij]; exact hx⟩
            · by_cases hik : i = kk
              · exact ⟨j, hj, by rw [if_pos rfl, ← hik]; exact hx⟩
              · exact ⟨i, hi, by rw [if_neg hij, if_neg hik]; exact hx⟩
          · rw [List.length_set] at hi
            split
            · exact G3 kk hkk
            · split
              · exact G3 j hj
              · exact G3 i hi
end L2.DL
set_option maxHeartbeats 2000000
namespace L2.DL
open PySem PySem.Spec PyProof.Rows

def Share (es : List Er) (x y : Nat) : Prop := ∃ t : Int, hasTool (E es x) t = true ∧ hasTool (E es y) t = true
/-- a dealing to h hands -/
def CanDeal (es : List Er) (h : Nat) : Prop := ∃ c : Nat → Nat, (∀ x, x < es.length → c x < h) ∧ (∀ x y, x < es.length → y < es.length → Share es x y → c x = c y) ∧ ∀ j, j < h → Feas es ((List.range es.length).filter fun x => c x == j)
theorem CanDeal.more {es : List Er} {h h' : Nat} (d : CanDeal es h) (hh : h ≤ h') : CanDeal es h' := by
  obtain ⟨c, h1, h2, h3⟩ := d
  refine ⟨c, fun x hx => Nat.lt_of_lt_of_le (h1 x hx) hh, h2, fun j hj => ?_⟩
  by_cases hq : j < h
  · exact h3 j hq
  · have : (List.range es.length).filter (fun x => c x == j) = [] := List.filter_eq_nil_iff.mpr fun x hx => by
      have := h1 x (List.mem_range.mp hx)
      simp
      omega
    rw [this]
    exact Feas.nil es
theorem tool_small {e : Er} (he : FineE e) {t : Int} (h : hasTool e t = true) : ∃ k : Nat, k < 4 ∧ t = (k : Int) := by
  obtain ⟨p, hp, q⟩ := List.any_eq_true.mp h
  have q : p.2 = some t := by simpa using q
  have := (he.part p hp).2.2 t q
  exact ⟨t.toNat, by omega, by omega⟩
theorem row_of {rs : List (List Nat)} (hn : rs.flatten.Nodup) {x i j : Nat} (hi : i < rs.length) (hj : j < rs.length) (h1 : x ∈ rs[i]) (h2 : x ∈ rs[j]) : i = j := by
  induction rs generalizing i j with
  | nil => simp at hi
  | cons r rs ih =>
    rw [List.flatten_cons, List.nodup_append] at hn
    cases i with
    | zero =>
      cases j with
      | zero => rfl
      | succ j =>
        exfalso
        rw [List.getElem_cons_zero] at h1
        rw [List.getElem_cons_succ] at h2
        exact hn.2.2 x h1 x (List.mem_flatten.mpr ⟨_, List.getElem_mem _, h2⟩) rfl
    | succ i =>
      cases j with
      | zero =>
        exfalso
        rw [List.getElem_cons_zero] at h2
        rw [List.getElem_cons_succ] at h1
        exact hn.2.2 x h2 x (List.mem_flatten.mpr ⟨_, List.getElem_mem _, h1⟩) rfl
      | succ j =>
        rw [List.getElem_cons_succ] at h1 h2
        have := ih hn.2.1 (by simpa using hi) (by simpa using hj) h1 h2
        omega
/-- what is told of a told dealing -/
structure DealOk (es : List Er) (h : Nat) (rs : List (List Nat)) : Prop where
  len : rs.length = h
  perm : rs.flatten.Perm (List.range es.length)
  rows : ∀ q ∈ rs, q = [] ∨ (Feas es q ∧ ∃ w, q = sortN w)
  closed : ∀ q ∈ rs, ∀ x ∈ q, ∀ y, y < es.length → Share es x y → y ∈ q
theorem dealing_ok {es : List Er} (he : FineEs es) {h : Nat} (hh : h ≤ 4) : ∃ r, m_dealing_of [encEs es, .int (h : Int)] = .ok (encRows r) ∧ (r ≠ none ↔ CanDeal es h) ∧ ∀ rs, r = some rs → DealOk es h rs := by
  obtain ⟨B, hB1, hB⟩ := bundles_ok he
  have hel := he.len
  have hbl := hB.len
  have hfl0 : (List.replicate h ([] : List Nat)).flatten = [] := by simp
  have hperm : ((List.replicate h ([] : List Nat)).flatten ++ B.flatten).Perm (List.range es.length) := by
    rw [hfl0, List.nil_append]; exact hB.perm
  obtain ⟨r, g1, g2⟩ := dealt_on_ok he 8 B (List.replicate h []) (by omega) (hperm.nodup_iff.mpr List.nodup_range) (by rw [hperm.length_eq, List.length_range]; omega) (fun x hx => List.mem_range.mp (hperm.mem_iff.mp hx)) (by rw [List.length_replicate]; omega) (by omega)
  have hbh : inB (h : Int) := inB_nat (by omega)
  have hc : compD (.one 2) teYes (eLst aNil) [some (encEs es), some (.int (h : Int)), none] ((List.range h).map encN) = .ok ((List.replicate h ([] : List Nat)).map encRN) := by
    have := compD_map (t := .one 2) (e := eLst aNil) (ρ := [some (encEs es), some (.int (h : Int)), none]) encN (fun _ => encRN []) (List.range h) fun k _ => ⟨_, rfl, by simp [encRN]⟩
    rw [this]
    congr 1
    rw [List.map_replicate]
    refine List.ext_getElem (by simp) fun i h1 h2 => by simp
  refine ⟨r, ?_, ?_, ?_⟩
  · generalize (List.replicate h ([] : List Nat)).map encRN = RR at *
    simp [m_dealing_of, runD_ap, hB1, hbh, rangeD_encN, show h < 16777216 by omega, hc, g1]
  · have hsame : ∀ x y, x < es.length → y < es.length → Share es x y → ∀ r1 ∈ B, x ∈ r1 → y ∈ r1 := fun x y hx hy ⟨t, q1, q2⟩ r1 h1 hx1 => by
      obtain ⟨k, hk, rfl⟩ := tool_small (he.at x) q1
      have : y ∈ B.flatten := hB.perm.mem_iff.mpr (List.mem_range.mpr hy)
      obtain ⟨r2, h2, hy2⟩ := List.mem_flatten.mp this
      rw [hB.closed k hk r1 h1 r2 h2 x hx1 y hy2 q1 q2]
      exact hy2
    constructor
    · intro hne
      cases r with
      | none => exact absurd rfl hne
      | some rs =>
        obtain ⟨s1, s2, s3, s4, s5⟩ := g2.sound rs rfl
        rw [List.length_replicate] at s1
        have s2 := s2.trans hperm
        have hnd := s2.nodup_iff.mpr List.nodup_range
        have hex : ∀ x : Nat, ∃ i : Nat, x < es.length → ∃ hi : i < rs.length, x ∈ rs[i] := fun x => by
          by_cases hx : x < es.length
          · have : x ∈ rs.flatten := s2.mem_iff.mpr (List.mem_range.mpr hx)
            obtain ⟨q, hq, hxq⟩ := List.mem_flatten.mp this
            obtain ⟨i, hi, rfl⟩ := List.getElem_of_mem hq
            exact ⟨i, fun _ => ⟨hi, hxq⟩⟩
          · exact ⟨0, fun z => absurd z hx⟩
        obtain ⟨c, hc⟩ := Classical.axiomOfChoice hex
        refine ⟨c, fun x hx => ?_, fun x y hx hy hs => ?_, fun j hj => ?_⟩
        · obtain ⟨hi, _⟩ := hc x hx
          omega
        · have : x ∈ B.flatten := hB.perm.mem_iff.mpr (List.mem_range.mpr hx)
          obtain ⟨r1, h1, hx1⟩ := List.mem_flatten.mp this
          obtain ⟨q, hq, hq2⟩ := s3 r1 h1
          obtain ⟨i, hi, rfl⟩ := List.getElem_of_mem hq
          obtain ⟨a1, a2⟩ := hc x hx
          obtain ⟨b1, b2⟩ := hc y hy
          rw [row_of hnd a1 hi a2 (hq2 x hx1), row_of hnd b1 hi b2 (hq2 y (hsame x y hx hy hs r1 h1 hx1))]
        · have hf : Feas es rs[j] := by
            rcases s5 rs[j] (List.getElem_mem (by omega)) with z | z
            · have := List.eq_of_mem_replicate z
              rw [this]
              exact Feas.nil es
            · exact z.1
          refine hf.sub he fun x hx => ?_
          obtain ⟨h1, h2⟩ := List.mem_filter.mp hx
          obtain ⟨a1, a2⟩ := hc x (List.mem_range.mp h1)
          have h2 : c x = j := by simpa using h2
          subst h2
          exact a2
    · rintro ⟨c, h1, h2, h3⟩
      refine g2.complete (fun j => (List.range es.length).filter fun x => c x == j) (fun j hj x hx => ?_) (fun b hb => ?_) fun j hj => h3 j (by rw [List.length_replicate] at hj; exact hj)
      · rw [List.length_replicate] at hj
        rw [List.getD_eq_getElem?_getD, List.getElem?_replicate] at hx
        simp [hj] at hx
      · obtain ⟨x0, hx0⟩ : ∃ x, x ∈ b := by
          cases b with
          | nil => exact absurd rfl (hB.ne [] hb)
          | cons a q => exact ⟨a, List.mem_cons_self⟩
        refine ⟨c x0, by rw [List.length_replicate]; exact h1 x0 (hB.lt hb hx0), fun x hx => ?_⟩
        rw [List.mem_filter, List.mem_range]
        refine ⟨hB.lt hb hx, ?_⟩
        have := hB.min c (fun a b t ha hb q1 q2 => h2 a b ha hb ⟨t, q1, q2⟩) b hb x hx x0 hx0
        simp [this]
  · rintro rs rfl
    obtain ⟨s1, s2, s3, s4, s5⟩ := g2.sound rs rfl
    rw [List.length_replicate] at s1
    have s2 := s2.trans hperm
    have hnd := s2.nodup_iff.mpr List.nodup_range
    refine ⟨s1, s2, fun q hq => ?_, fun q hq x hx y hy hs => ?_⟩
    · rcases s5 q hq with z | z
      · exact .inl (List.eq_of_mem_replicate z)
      · exact .inr z
    · have hxl : x < es.length := List.mem_range.mp (s2.mem_iff.mp (List.mem_flatten.mpr ⟨q, hq, hx⟩))
      have : x ∈ B.flatten := hB.perm.mem_iff.mpr (List.mem_range.mpr hxl)
      obtain ⟨r1, h1, hx1⟩ := List.mem_flatten.mp this
      obtain ⟨q2, hq2, hq3⟩ := s3 r1 h1
      obtain ⟨t, w1, w2⟩ := hs
      obtain ⟨k, hk, rfl⟩ := tool_small (he.at x) w1
      have hyb : y ∈ B.flatten := hB.perm.mem_iff.mpr (List.mem_range.mpr hy)
      obtain ⟨r2, hr2, hy2⟩ := List.mem_flatten.mp hyb
      have hyr : y ∈ r1 := by rw [hB.closed k hk r1 h1 r2 hr2 x hx1 y hy2 w1 w2]; exact hy2
      obtain ⟨i, hi, rfl⟩ := List.getElem_of_mem hq
      obtain ⟨j, hj, rfl⟩ := List.getElem_of_mem hq2
      have := row_of hnd hi hj hx (hq3 x hx1)
      subst this
      exact hq3 y hyr
end L2.DL
set_option maxHeartbeats 2000000
namespace L2.DL
open PySem PySem.Spec PyProof.Rows

theorem isN_rows (r : Option (List (List Nat))) : isN (encRows r) = r.isNone := by cases r <;> rfl
theorem dealt_ok {es : List Er} (he : OkEs es) {h : Nat} (h1 : 1 ≤ h) (h4 : h ≤ 4) : m_dealt [encEs es, .int (h : Int)] = m_dealing_of [encEs es, .int (h : Int)] := by
  obtain ⟨r, g, _⟩ := dealing_ok he.fine h4
  simp [m_dealt, runD_ap, checked_ok he, between_int, show (1 : Int) ≤ (h : Int) by omega, show (h : Int) ≤ 4 by omega, g, asB]
/-- the first of one to four hands -/
def firstH (b : Nat → Bool) : Option Nat := [1, 2, 3, 4].find? b
theorem fewest_ok {es : List Er} (he : OkEs es) {b : Nat → Bool} (hb : ∀ h : Nat, 1 ≤ h → h ≤ 4 → ∃ r, m_dealing_of [encEs es, .int (h : Int)] = .ok (encRows r) ∧ (b h = true ↔ r ≠ none)) : m_fewest_hands [encEs es] = .ok (encH (firstH b)) := by
  simp only [m_fewest_hands, runD_ap]
  simp [-forS_ap, checked_ok he]
  refine for_find encN (fun ρ => ∃ x, ρ = [some (encEs es), x]) (fun h => if b h = true then some (encN h) else none) [1, 2, 3, 4] (by rfl) ⟨none, rfl⟩ (fun h ρ hm ⟨x, hρ⟩ => ?_) ?_
  · subst hρ
    have h1 : 1 ≤ h ∧ h ≤ 4 := by
      simp at hm
      omega
    obtain ⟨r, g1, g2⟩ := hb h h1.1 h1.2
    have hi := isN_rows r
    refine ⟨_, rfl, ?_⟩
    simp only [encN] at *
    cases hq : b h with
    | true =>
      have : r.isNone = false := by
        have := g2.mp hq
        cases r with
        | none => exact absurd rfl this
        | some _ => rfl
      rw [this] at hi
      simp [g1, hi, asB]
    | false =>
      have : r = none := by
        cases r with
        | none => rfl
        | some q => exact absurd (g2.mpr (by simp)) (by rw [hq]; simp)
      subst this
      simp [g1, hi, asB]
      exact ⟨_, rfl, _, rfl⟩
  · rw [findSome_if]
    unfold firstH
    cases [1, 2, 3, 4].find? b with
    | some h => rfl
    | none =>
      rintro ρ ⟨x, rfl⟩
      rfl
theorem canDeal_fn {es : List Er} (he : FineEs es) : ∃ b : Nat → Bool, (∀ h : Nat, 1 ≤ h → h ≤ 4 → ∃ r, m_dealing_of [encEs es, .int (h : Int)] = .ok (encRows r) ∧ (b h = true ↔ r ≠ none)) ∧ ∀ h : Nat, h ≤ 4 → (b h = true ↔ CanDeal es h) := by
  have : ∀ h : Nat, ∃ c : Bool, (h ≤ 4 → ∃ r, m_dealing_of [encEs es, .int (h : Int)] = .ok (encRows r) ∧ (c = true ↔ r ≠ none) ∧ (r ≠ none ↔ CanDeal es h)) := fun h => by
    by_cases h4 : h ≤ 4
    · obtain ⟨r, g1, g2, _⟩ := dealing_ok he h4
      exact ⟨!r.isNone, fun _ => ⟨r, g1, by cases r <;> simp, g2⟩⟩
    · exact ⟨false, fun z => absurd z h4⟩
  obtain ⟨b, hb⟩ := Classical.axiomOfChoice this
  refine ⟨b, fun h _ h4 => ?_, fun h h4 => ?_⟩
  · obtain ⟨r, g1, g2, _⟩ := hb h h4
    exact ⟨r, g1, g2⟩
  · obtain ⟨r, _, g2, g3⟩ := hb h h4
    exact g2.trans g3
theorem law19_true (ns : List Int) : m_law_k19 [encS ns] = .ok (.bool true) := by
  obtain ⟨es, hl, hes, he⟩ := law_errands_ok ns (a := 2) (most := 4) (top := 18) (by omega) (by omega) (by omega) (by omega)
  have hok : OkEs es := ⟨by omega, fun e h => (hes e h).ok (by omega)⟩
  obtain ⟨b, hb, hcd⟩ := canDeal_fn hok.fine
  have mono : ∀ h h', h ≤ h' → h' ≤ 4 → b h = true → b h' = true := fun h h' h1 h2 q => (hcd h' h2).mpr (((hcd h (by omega)).mp q).more h1)
  have hfew := fewest_ok hok hb
  have hc : compD (.one 3) (eB (eOp oIsNot (eCall m_dealt (aCons (eVar 1) (aCons (eVar 3) aNil))) (eC .none))) (eVar 3) [some (encS ns), some (encEs es), none, none] ([1, 2, 3, 4].map encN) = .ok (([1, 2, 3, 4].filter b).map encN) :=
    compD_enc encN b encN [1, 2, 3, 4] fun h hm => by
      have h1 : 1 ≤ h ∧ h ≤ 4 := by
        simp at hm
        omega
      obtain ⟨r, g1, g2⟩ := hb h h1.1 h1.2
      have hd := dealt_ok hok h1.1 h1.2
      rw [g1] at hd
      have hi := isN_rows r
      refine ⟨_, rfl, ?_, fun _ => rfl⟩
      have hbr : b h = !r.isNone := by
        rw [Bool.eq_iff_iff, g2]
        cases r <;> simp
      simp only [encN] at *
      simp [hd, asB, hi, hbr]
  have m0 := mixed_ok ns (k := 0) (many := 6) (by omega) (by omega)
  have v0 := mix_nonneg ns 0 (show 0 < 6 by omega)
  have v1 := mix_lt ns 0 (show 0 < 6 by omega)
  generalize mix ns 0 6 = c at *
  have hbad : ∃ d, atI [PyData.int 0, .int 5, .bool true, .none, .str "2", .int (-1)] c = some d ∧ m_between [d, .int 1, .int 4] = .ok (.bool false) := by
    obtain h | h | h | h | h | h : c = 0 ∨ c = 1 ∨ c = 2 ∨ c = 3 ∨ c = 4 ∨ c = 5 := by omega
    all_goals subst h
    · exact ⟨_, rfl, by rw [between_int]; rfl⟩
    · exact ⟨_, rfl, by rw [between_int]; rfl⟩
    · exact ⟨_, rfl, by simp [m_between, runD_ap, m_is_whole, asB]⟩
    · exact ⟨_, rfl, by simp [m_between, runD_ap, m_is_whole, asB]⟩
    · exact ⟨_, rfl, by simp [m_between, runD_ap, m_is_whole, asB]⟩
    · exact ⟨_, rfl, by rw [between_int]; rfl⟩
  obtain ⟨d, d1, d2⟩ := hbad
  have hdn : m_dealt [encEs es, d] = .err "NoNumber" := by simp [m_dealt, runD_ap, checked_ok hok, d2, asB]
  have href : m__law_refused_k19 [encEs es, d] = .ok (.bool true) := by simp [m__law_refused_k19, runD_ap, tryRetS, hdn]
  have hr5 : rangeD 1 5 = [1, 2, 3, 4].map encN := rfl
  have i1 : inB 1 ∧ inB 5 := by decide
  have i2 : inB 2 := by decide
  have i3 : inB 3 := by decide
  have i4 : inB 4 := by decide
  have n1 : oNe (.list []) (.list []) = some (.bool false) := oNe_self (lay_ints 0 [])
  have nn : oNe .none .none = some (.bool false) := oNe_self (Lay.non 1)
  have key : ∀ (f : Option Nat) (L : List Nat), firstH b = f → [1, 2, 3, 4].filter b = L → L.head? = f → (∀ x, L.head? = some x → rangeD (x : Int) 5 = L.map encN ∧ inB (x : Int)) → L.length ≤ 4 → m_law_k19 [encS ns] = .ok (.bool true) := by
    intro f L e1 e2 e3 e4 e5
    rw [e1] at hfew
    rw [e2] at hc
    have hne := nats_ne_nil L
    have hcat : oCatL (.list (L.map encN)) (.list [.none]) = some (.list (L.map encN ++ [.none])) := by
      rw [oCatL_list, if_pos (by simp; omega)]
    cases L with
    | nil =>
      have : f = none := e3.symm
      subst this
      simp at hne hcat hc
      simp [m_law_k19, runD_ap, he, i1, hr5, hc, hcat, hfew, encH, encO, nn, asB, n1, m0, d1, href]
    | cons x r =>
      have : f = some x := e3.symm
      subst this
      obtain ⟨q1, q2⟩ := e4 x rfl
      have hat : atI (encN x :: (r.map encN ++ [PyData.none])) 0 = some (encN x) := by simp
      have hxx : oNe (encN x) (encN x) = some (.bool false) := oNe_self (n := 1) (Lay.int 1 _)
      have hLL := oNe_self (lay_natl (x :: r))
      have hfx : encH (some x) = encN x := rfl
      rw [hfx] at hfew
      rw [List.isEmpty_cons] at hne
      have hrange : eLstR2 (eOp oIx (eVar 2) (eC (.int 0))) (eC (.int 5)) [some (encS ns), some (encEs es), some (.list ((x :: r).map encN)), none] = .ok (.list ((x :: r).map encN)) := by
        unfold eLstR2
        have : atI (encN x :: r.map encN) 0 = some (encN x) := by simp
        simp only [eOp_ap, eVar_succ, eVar_zero, Res.bind_ok, eC_ap, List.map_cons, oIx_list, this, Res.of_some]
        simp only [encN, asI_int, Res.bind_ok]
        rw [if_pos ⟨q2, i1.2⟩, q1]
        rfl
      simp only [List.map_cons, List.map_nil] at hc
      simp only [List.map_cons] at hcat hrange hLL hne
      simp only [List.cons_append] at hcat
      simp [m_law_k19, runD_ap, he, i1, hr5, hc, hcat, hfew, hat, hxx, asB, hne, hrange, hLL, m0, d1, href]
  cases b1 : b 1 with
  | true =>
    have b2 := mono 1 2 (by omega) (by omega) b1
    have b3 := mono 1 3 (by omega) (by omega) b1
    have b4 := mono 1 4 (by omega) (by omega) b1
    exact key (some 1) [1, 2, 3, 4] (by simp [firstH, b1]) (by simp [b1, b2, b3, b4]) rfl (fun x e => by cases e; exact ⟨rfl, i1.1⟩) (by simp)
  | false =>
    cases b2 : b 2 with
    | true =>
      have b3 := mono 2 3 (by omega) (by omega) b2
      have b4 := mono 2 4 (by omega) (by omega) b2
      exact key (some 2) [2, 3, 4] (by simp [firstH, b1, b2]) (by simp [b1, b2, b3, b4]) rfl (fun x e => by cases e; exact ⟨rfl, i2⟩) (by simp)
    | false =>
      cases b3 : b 3 with
      | true =>
        have b4 := mono 3 4 (by omega) (by omega) b3
        exact key (some 3) [3, 4] (by simp [firstH, b1, b2, b3]) (by simp [b1, b2, b3, b4]) rfl (fun x e => by cases e; exact ⟨rfl, i3⟩) (by simp)
      | false =>
        cases b4 : b 4 with
        | true => exact key (some 4) [4] (by simp [firstH, b1, b2, b3, b4]) (by simp [b1, b2, b3, b4]) rfl (fun x e => by cases e; exact ⟨rfl, i4⟩) (by simp)
        | false => exact key none [] (by simp [firstH, b1, b2, b3, b4]) (by simp [b1, b2, b3, b4]) rfl (fun x e => by cases e) (by simp)
end L2.DL
set_option maxHeartbeats 2000000
namespace L2.DL
open PySem PySem.Spec PyProof.Rows

/-! ### loops that say False -/
def AllRes (r : SRes) (b : Prop) (R : Env → Prop) : Prop := (b ∧ Nx r R) ∨ (¬ b ∧ r = .ret (.bool false))
theorem AllRes.seq {r : SRes} {g : Sf} {b b' : Prop} {R R' : Env → Prop} (h : AllRes r b R) (k : ∀ ρ, R ρ → AllRes (g ρ) b' R') : AllRes (r.andThen g) (b ∧ b') R' := by
  rcases h with ⟨hb, ρ, rfl, q⟩ | ⟨hb, rfl⟩
  · rcases k ρ q with ⟨hb', z⟩ | ⟨hb', z⟩
    · exact .inl ⟨⟨hb, hb'⟩, z⟩
    · exact .inr ⟨fun w => hb' w.2, z⟩
  · exact .inr ⟨fun w => hb w.1, rfl⟩
theorem AllRes.iff {r : SRes} {b b' : Prop} {R : Env → Prop} (h : AllRes r b R) (e : b ↔ b') : AllRes r b' R := by
  rcases h with ⟨hb, z⟩ | ⟨hb, z⟩
  · exact .inl ⟨e.mp hb, z⟩
  · exact .inr ⟨fun w => hb (e.mpr w), z⟩
theorem AllRes.weak {r : SRes} {b b' : Prop} {R R' : Env → Prop} (h : AllRes r b R) (e : b ↔ b') (k : ∀ ρ, R ρ → R' ρ) : AllRes r b' R' := by
  rcases h with ⟨hb, ρ, z, q⟩ | ⟨hb, z⟩
  · exact .inl ⟨e.mp hb, ρ, z, k ρ q⟩
  · exact .inr ⟨fun w => hb (e.mpr w), z⟩
theorem loop_all {α : Type} {t : Tgt} {fb : Sf} (enc : α → PyData) (R : Env → Prop) (P : α → Prop) : ∀ (xs : List α) (ρ : Env), R ρ → (∀ a ρ, a ∈ xs → R ρ → ∃ ρ1, bindT t (enc a) ρ = .ok ρ1 ∧ AllRes (fb ρ1) (P a) R) → AllRes (loopS t fb (xs.map enc) ρ) (∀ a ∈ xs, P a) R
  | [], ρ, r, _ => .inl ⟨fun a h => (by cases h), ρ, rfl, r⟩
  | a :: xs, ρ, r, h => by
    obtain ⟨ρ1, h1, h2⟩ := h a ρ List.mem_cons_self r
    rw [List.map_cons]
    unfold loopS
    rw [h1]
    dsimp only
    rcases h2 with ⟨hp, ρ2, h2, h3⟩ | ⟨hp, h2⟩
    · rw [h2]
      dsimp only
      refine (loop_all enc R P xs ρ2 h3 fun b ρ hb => h b ρ (List.mem_cons_of_mem _ hb)).iff ⟨fun w b hb => ?_, fun w b hb => w b (List.mem_cons_of_mem _ hb)⟩
      rcases List.mem_cons.mp hb with z | z
      · rw [z]; exact hp
      · exact w b z
    · rw [h2]
      exact .inr ⟨fun w => hp (w a List.mem_cons_self), rfl⟩
theorem for_all {α : Type} {M : List Nat} {it : Itr'} {t : Tgt} {fb : Sf} {ρ : Env} (enc : α → PyData) (R : Env → Prop) (P : α → Prop) (xs : List α) (hit : it (wipeD ρ M) = .ok (xs.map enc)) (h0 : R ρ)
    (hs : ∀ a ρ, a ∈ xs → R ρ → ∃ ρ1, bindT t (enc a) ρ = .ok ρ1 ∧ AllRes (fb ρ1) (P a) R) : AllRes (forS M it t fb ρ) (∀ a ∈ xs, P a) R := by
  rw [forS_ap, hit, toS_ok]
  exact loop_all enc R P xs ρ h0 hs
theorem ne_nil {n : Nat} {ds : List PyData} (h : Lay n (.list ds)) (hn : n ≤ 64 := by decide) : oNe (.list ds) (.list []) = some (.bool (!ds.isEmpty)) := by
  unfold oNe
  rw [if_pos ⟨h.shaped hn, (lay_ints 0 []).shaped⟩]
  cases ds <;> rfl
/-! ### is_dealing -/
def DealRow (es : List Er) (r : List Nat) : Prop := Feas es r ∧ ∀ y, y < es.length → y ∉ r → ∀ x ∈ r, ¬ Share es x y
def toolsOf (e : Er) : List Int := e.parts.filterMap (·.2)
theorem hasTool_mem {e : Er} {t : Int} : hasTool e t = true ↔ t ∈ toolsOf e := by
  unfold hasTool toolsOf
  rw [List.mem_filterMap]
  constructor
  · intro h
    obtain ⟨p, h1, h2⟩ := List.any_eq_true.mp h
    exact ⟨p, h1, by simpa using h2⟩
  · rintro ⟨p, h1, h2⟩
    exact List.any_eq_true.mpr ⟨p, h1, by simpa using h2⟩
theorem is_dealing_ok {es : List Er} (he : OkEs es) {rows : List (List Nat)} (hn : ∀ r ∈ rows, r.Nodup) (hlt : ∀ r ∈ rows, ∀ x ∈ r, x < es.length) (hl : ∀ r ∈ rows, r.length ≤ 6) :
    ∃ b, m__law_is_dealing [encEs es, .list (rows.map encRN)] = .ok (.bool b) ∧ (b = true ↔ ∀ r ∈ rows, DealRow es r) := by
  have hel := he.len
  have hb : inB (es.length : Int) := inB_nat (by omega)
  have key : AllRes (forS [] (itSq (eVar 1)) (.one 2) (seqS (ifS (teAnd (eB (eOp oNe (eVar 2) (eLst aNil))) (eB (eOp oIs (eCall m_fitting (aCons (eCall1 oTuple (eComp (itSq (eVar 2)) (.one 4) teYes (eOp oIx (eVar 0) (eVar 4)))) aNil)) (eC .none)))) (retS (eC (.bool false))) nxS) (forS [] (itR1 (eCall1 oLen (eVar 0))) (.one 3) (ifS (eB (eOp oNotIn (eVar 3) (eVar 2))) (forS [] (itSq (eVar 2)) (.one 4) (seqS (setS [] 5 (eComp (itSq (eOp oIx (eOp oIx (eVar 0) (eVar 4)) (eC (.int 3)))) (.tup [6, 7]) (eB (eOp oIsNot (eVar 7) (eC .none))) (eVar 7))) (ifS (eB (eOp oNe (eComp (itSq (eOp oIx (eOp oIx (eVar 0) (eVar 3)) (eC (.int 3)))) (.tup [6, 7]) (eB (eOp oIn (eVar 7) (eVar 5))) (eVar 7)) (eLst aNil))) (retS (eC (.bool false))) nxS))) nxS)))
      [some (encEs es), some (.list (rows.map encRN)), none, none, none, none, none, none]) (∀ r ∈ rows, DealRow es r) (fun ρ => ∃ x2 x3 x4 x5, ρ = [some (encEs es), some (.list (rows.map encRN)), x2, x3, x4, x5, none, none]) := by
    refine for_all encRN _ (DealRow es) rows rfl ⟨none, none, none, none, rfl⟩ fun r ρ hr ⟨x2, x3, x4, x5, hρ⟩ => ?_
    subst hρ
    refine ⟨_, rfl, ?_⟩
    have hrl := hl r hr
    have hit : items (encRN r) = .ok (r.map encN) := rfl
    rw [seqS_ap]
    refine AllRes.seq (R := fun ρ => ρ = [some (encEs es), some (.list (rows.map encRN)), some (encRN r), x3, x4, x5, none, none]) ?_ fun ρ hρ => ?_
    · -- the row fits
      cases hS : r with
      | nil =>
        refine .inl ⟨Feas.nil es, ?_⟩
        have hne : oNe (encRN []) (.list []) = some (.bool false) := rfl
        refine ⟨_, ?_, rfl⟩
        simp [hne]
      | cons a s =>
        rw [← hS]
        have hem : oNe (encRN r) (.list []) = some (.bool true) := by
          have := ne_nil (lay_row r)
          unfold encRN at this ⊢
          rw [this, hS]
          rfl
        have hok : OkEs (pick es r) := ⟨by unfold pick; rw [List.length_map]; exact ⟨by rw [hS]; simp, hrl⟩, fun e h => by
          unfold pick at h
          obtain ⟨x, _, rfl⟩ := List.mem_map.mp h
          exact he.at x⟩
        obtain ⟨f, h1, h2⟩ := fitting_ok hok
        have hp := feas_pick he.fine hrl (hn r hr) h2
        have hc : compD (.one 4) teYes (eOp oIx (eVar 0) (eVar 4)) [some (encEs es), some (.list (rows.map encRN)), some (encRN r), x3, none, x5, none, none] (r.map encN) = .ok ((pick es r).map encE) := by
          have := compD_map (t := .one 4) (e := eOp oIx (eVar 0) (eVar 4)) (ρ := [some (encEs es), some (.list (rows.map encRN)), some (encRN r), x3, none, x5, none, none]) encN (fun x => encE (E es x)) r fun x hx => ⟨_, rfl, by
            have := oIx_encEs (hlt r hr x hx)
            simp [encN, this]⟩
          rw [this]
          unfold pick
          rw [List.map_map]
          rfl
        have hE : PyData.tuple ((pick es r).map encE) = encEs (pick es r) := rfl
        have hI : isN (encOR f) = f.isNone := by cases f <;> rfl
        have hlen : (r.map encN).length < 16777216 := by rw [List.length_map]; omega
        have hcomp : eComp (itSq (eVar 2)) (.one 4) teYes (eOp oIx (eVar 0) (eVar 4)) [some (encEs es), some (.list (rows.map encRN)), some (encRN r), x3, x4, x5, none, none] = .ok (.list ((pick es r).map encE)) := by
          rw [eComp_ap, eCompL_ap]
          simp only [itSq_ap, eVar_succ, eVar_zero, Res.bind_ok, hit, if_pos hlen, slots_one, wipeD_cons, wipeD_nil, List.set_cons_succ, List.set_cons_zero, hc]
        cases hf : f with
        | none =>
          rw [hf] at hI h1 hp
          refine .inr ⟨fun w => ?_, ?_⟩
          · exact absurd rfl (hp.mpr w)
          · simp [-eComp_ap, hem, hcomp, hE, h1, hI]
        | some g =>
          rw [hf] at hI h1 hp
          refine .inl ⟨hp.mp (by simp), _, ?_, rfl⟩
          simp [-eComp_ap, hem, hcomp, hE, h1, hI]
    · -- it is closed
      subst hρ
      refine AllRes.weak (for_all encN (fun ρ => ∃ x3 x4 x5, ρ = [some (encEs es), some (.list (rows.map encRN)), some (encRN r), x3, x4, x5, none, none]) (fun y => y ∉ r → ∀ x ∈ r, ¬ Share es x y) (List.range es.length) ?_ ⟨x3, x4, x5, rfl⟩ fun y ρ hy ⟨x3, x4, x5, hρ⟩ => ?_) ⟨fun w y hy => w y (List.mem_range.mpr hy), fun w y hy => w y (List.mem_range.mp hy)⟩ fun ρ ⟨x3, x4, x5, c⟩ => ⟨some (encRN r), x3, x4, x5, c⟩
      · simp [hb, rangeD_encN]
      subst hρ
      have hy := List.mem_range.mp hy
      refine ⟨_, rfl, ?_⟩
      have hni : oNotIn (encN y) (encRN r) = some (.bool (!r.contains y)) := by
        show oNotIn (.int (y : Int)) (.list (r.map encN)) = _
        rw [oNotIn_of (n := 1) (Lay.int 1 _) (lay_natl r)]
        congr 3
        rw [List.any_map, List.contains_eq_any_beq]
        congr 1
        funext z
        show (PyData.eqv (.int (z : Int)) (.int (y : Int))) = _
        rw [eqv_int, Bool.eq_iff_iff]
        simp
        omega
      by_cases hm : y ∈ r
      · refine .inl ⟨fun w => absurd hm w, _, ?_, some (encN y), x4, x5, rfl⟩
        simp [hni, hm]
      · have hcond : (eB (eOp oNotIn (eVar 3) (eVar 2))) [some (encEs es), some (.list (rows.map encRN)), some (encRN r), some (encN y), x4, x5, none, none] = .ok true := by simp [hni, hm]
        simp only [List.set_cons_succ, List.set_cons_zero]
        rw [ifS_ap, hcond, toS_ok, if_pos rfl]
        refine AllRes.weak (for_all encN (fun ρ => ∃ x4 x5, ρ = [some (encEs es), some (.list (rows.map encRN)), some (encRN r), some (encN y), x4, x5, none, none]) (fun x => ¬ Share es x y) r ?_ ⟨x4, x5, rfl⟩ fun x ρ hx ⟨x4, x5, hρ⟩ => ?_) ⟨fun w _ => w, fun w => w hm⟩ fun ρ ⟨x4, x5, c⟩ => ⟨some (encN y), x4, x5, c⟩
        · simp [hit]
        subst hρ
        have hxl := hlt r hr x hx
        refine ⟨_, rfl, ?_⟩
        have hE1 := oIx_encEs hxl
        have hE2 := oIx_encEs hy
        have hpx := (he.at x).parts
        have hpy := (he.at y).parts
        have c1 : compD (.tup [6, 7]) (eB (eOp oIsNot (eVar 7) (eC .none))) (eVar 7) [some (encEs es), some (.list (rows.map encRN)), some (encRN r), some (encN y), some (encN x), x5, none, none] ((E es x).parts.map encP) = .ok ((toolsOf (E es x)).map .int) := by
          have := compD_filterMap (t := .tup [6, 7]) (c := eB (eOp oIsNot (eVar 7) (eC .none))) (e := eVar 7) (ρ := [some (encEs es), some (.list (rows.map encRN)), some (encRN r), some (encN y), some (encN x), x5, none, none]) encP (·.2) PyData.int (E es x).parts fun p hp => ⟨_, rfl, by
            simp [isN_encO], fun b hb => by
            simp [hb, encO]⟩
          exact this
        have c2 : compD (.tup [6, 7]) (eB (eOp oIn (eVar 7) (eVar 5))) (eVar 7) [some (encEs es), some (.list (rows.map encRN)), some (encRN r), some (encN y), some (encN x), some (.list ((toolsOf (E es x)).map .int)), none, none] ((E es y).parts.map encP) = .ok (((toolsOf (E es y)).filter fun t => (toolsOf (E es x)).contains t).map .int) := by
          have hin : ∀ o : Option Int, oIn (encO o) (.list ((toolsOf (E es x)).map .int)) = some (.bool (match o with
              | some t => (toolsOf (E es x)).contains t
              | none => false)) := fun o => by
            rw [oIn_of (n := 1) (lay_encO 1 o) (lay_ints 0 _)]
            cases o with
            | none =>
              congr 2
              rw [List.any_map]
              exact List.any_eq_false.mpr fun z _ => by simp [encO]
            | some t =>
              congr 2
              show _ = (toolsOf (E es x)).contains t
              rw [List.any_map, List.contains_eq_any_beq]
              congr 1
              funext z
              show PyData.eqv (.int z) (.int t) = _
              rw [eqv_int, Bool.eq_iff_iff]
              simp
              omega
          have := compD_filterMap (t := .tup [6, 7]) (c := eB (eOp oIn (eVar 7) (eVar 5))) (e := eVar 7) (ρ := [some (encEs es), some (.list (rows.map encRN)), some (encRN r), some (encN y), some (encN x), some (.list ((toolsOf (E es x)).map .int)), none, none]) encP (fun p => p.2.bind fun t => if (toolsOf (E es x)).contains t = true then some t else none) PyData.int (E es y).parts fun p hp => ⟨_, rfl, by
            simp only [setAll_cons, setAll_nil, List.set_cons_succ, List.set_cons_zero, eB_ap, eOp_ap, eVar_succ, eVar_zero, Res.bind_ok, hin, Res.of_some, asB_bool]
            cases p.2 with
            | none => rfl
            | some t => by_cases w : t ∈ toolsOf (E es x) <;> simp [w], fun b hb => by
            have : p.2 = some b := by
              cases hp2 : p.2 with
              | none => rw [hp2] at hb; cases hb
              | some t =>
                rw [hp2] at hb
                simp only [Option.bind_some] at hb
                split at hb
                · rw [Option.some.inj hb]
                · cases hb
            simp [this, encO]⟩
          rw [this]
          congr 2
          unfold toolsOf
          rw [List.filter_filterMap]
          congr 1
          funext p
          cases p.2 with
          | none => rfl
          | some t => rfl
        have hlx : ((E es x).parts.map encP).length < 16777216 := by rw [List.length_map]; omega
        have hly : ((E es y).parts.map encP).length < 16777216 := by rw [List.length_map]; omega
        have hnn := ne_nil (lay_ints 0 ((toolsOf (E es y)).filter fun t => (toolsOf (E es x)).contains t))
        have e1 : eComp (itSq (eOp oIx (eOp oIx (eVar 0) (eVar 4)) (eC (.int 3)))) (.tup [6, 7]) (eB (eOp oIsNot (eVar 7) (eC .none))) (eVar 7) [some (encEs es), some (.list (rows.map encRN)), some (encRN r), some (encN y), some (encN x), x5, none, none] = .ok (.list ((toolsOf (E es x)).map .int)) := by
          rw [eComp_ap, eCompL_ap]
          simp only [itSq_ap, eOp_ap, eC_ap, eVar_succ, eVar_zero, Res.bind_ok, Res.of_some, encN] at hE1 ⊢
          simp only [hE1, Res.bind_ok, Res.of_some, oIx_encE3, items_tuple, if_pos hlx, slots_tup, wipeD_cons, wipeD_nil, List.set_cons_succ, List.set_cons_zero]
          simp only [encN] at c1
          rw [c1]
          rfl
        have e2 : eComp (itSq (eOp oIx (eOp oIx (eVar 0) (eVar 3)) (eC (.int 3)))) (.tup [6, 7]) (eB (eOp oIn (eVar 7) (eVar 5))) (eVar 7) [some (encEs es), some (.list (rows.map encRN)), some (encRN r), some (encN y), some (encN x), some (.list ((toolsOf (E es x)).map .int)), none, none] = .ok (.list (((toolsOf (E es y)).filter fun t => (toolsOf (E es x)).contains t).map .int)) := by
          rw [eComp_ap, eCompL_ap]
          simp only [itSq_ap, eOp_ap, eC_ap, eVar_succ, eVar_zero, Res.bind_ok, Res.of_some, encN] at hE2 ⊢
          simp only [hE2, Res.bind_ok, Res.of_some, oIx_encE3, items_tuple, if_pos hly, slots_tup, wipeD_cons, wipeD_nil, List.set_cons_succ, List.set_cons_zero]
          simp only [encN] at c2
          rw [c2]
          rfl
        have hsh : ((toolsOf (E es y)).filter fun t => (toolsOf (E es x)).contains t) = [] ↔ ¬ Share es x y := by
          rw [List.filter_eq_nil_iff]
          constructor
          · rintro w ⟨t, h1, h2⟩
            exact w t (hasTool_mem.mp h2) (by simpa using hasTool_mem.mp h1)
          · intro w t ht hc
            exact w ⟨t, hasTool_mem.mpr (by simpa using hc), hasTool_mem.mpr ht⟩
        generalize hF : ((toolsOf (E es y)).filter fun t => (toolsOf (E es x)).contains t) = F at *
        simp only [seqS_ap, setS_ap, wipeD_nil, List.set_cons_succ, List.set_cons_zero, e1, toS_ok, andThen_nx, ifS_ap, eB_ap, eOp_ap, e2, eLst_ap, aNil_ap, Res.bind_ok]
        rw [if_pos (by decide), Res.bind_ok, hnn, Res.of_some, Res.bind_ok, asB_bool, toS_ok]
        cases F with
        | nil =>
          refine .inl ⟨hsh.mp rfl, _, ?_, some (encN x), some (.list ((toolsOf (E es x)).map .int)), rfl⟩
          simp
        | cons a F =>
          refine .inr ⟨fun w => ?_, ?_⟩
          · have := hsh.mpr w
            cases this
          · simp
  rcases key with ⟨a, ρ, b, x2, x3, x4, x5, c⟩ | ⟨a, b⟩
  · refine ⟨true, ?_, fun _ => a, fun _ => rfl⟩
    simp only [m__law_is_dealing, runD_ap, seqS_ap, startD_ap]
    simp only [List.map_cons, List.map_nil, List.length_cons, List.length_nil, List.cons_append, List.nil_append, List.replicate]
    rw [b]
    rfl
  · refine ⟨false, ?_, fun w => (by cases w), fun w => absurd w a⟩
    simp only [m__law_is_dealing, runD_ap, seqS_ap, startD_ap]
    simp only [List.map_cons, List.map_nil, List.length_cons, List.length_nil, List.cons_append, List.nil_append, List.replicate]
    rw [b]
    rfl

/-! ### all dealings -/
def stepR (k : Nat) (rows : List (List Nat)) (h : Nat) : List (List Nat) := rows.zipIdx.map fun p => p.1 ++ if p.2 = h then [k] else []
def deals (h : Nat) : Nat → List (List (List Nat))
  | 0 => [List.replicate h []]
  | k + 1 => (deals h k).flatMap fun rows => (List.range h).map fun j => stepR k rows j
def dealRows (c : Nat → Nat) (h k : Nat) : List (List Nat) := (List.range h).map fun j => (List.range k).filter fun x => c x == j
theorem stepR_deal (c : Nat → Nat) (h k j : Nat) : stepR k (dealRows c h k) j = dealRows (fun x => if x = k then j else c x) h (k + 1) := by
  unfold stepR dealRows
  refine List.ext_getElem? fun i => ?_
  by_cases hi : i < h
  · rw [List.getElem?_map, List.getElem?_zipIdx, List.getElem?_map, List.getElem?_range hi, List.getElem?_map, List.getElem?_range hi]
    simp only [Option.map_some, Option.some.injEq, Nat.zero_add]
    rw [List.range_succ, List.filter_append]
    congr 1
    · refine List.filter_congr fun x hx => ?_
      have : x ≠ k := by have := List.mem_range.mp hx; omega
      rw [if_neg this]
    · by_cases z : i = j
      · subst z; simp
      · have : ¬ j = i := fun w => z w.symm
        simp [z, this]
  · rw [List.getElem?_eq_none (by simp; omega), List.getElem?_eq_none (by simp; omega)]
theorem deals_all (h : Nat) : ∀ k, ∀ rows, rows ∈ deals h k ↔ ∃ c : Nat → Nat, (∀ x, x < k → c x < h) ∧ rows = dealRows c h k
  | 0, rows => by
    have e : ∀ c : Nat → Nat, dealRows c h 0 = List.replicate h [] := fun c => by
      unfold dealRows
      refine List.ext_getElem? fun i => ?_
      by_cases hi : i < h
      · simp [hi]
      · rw [List.getElem?_eq_none (by simp; omega), List.getElem?_eq_none (by simp; omega)]
    unfold deals
    rw [List.mem_singleton]
    constructor
    · intro w
      exact ⟨fun _ => 0, fun x hx => by omega, by rw [e, w]⟩
    · rintro ⟨c, _, w⟩
      rw [w, e]
  | k + 1, rows => by
    unfold deals
    rw [List.mem_flatMap]
    constructor
    · rintro ⟨rows0, h1, h2⟩
      obtain ⟨c, hc, rfl⟩ := (deals_all h k rows0).mp h1
      obtain ⟨j, hj, rfl⟩ := List.mem_map.mp h2
      refine ⟨fun x => if x = k then j else c x, fun x hx => ?_, stepR_deal c h k j⟩
      dsimp only
      split
      · exact List.mem_range.mp hj
      · exact hc x (by omega)
    · rintro ⟨c, hc, rfl⟩
      refine ⟨dealRows c h k, (deals_all h k _).mpr ⟨c, fun x hx => hc x (by omega), rfl⟩, List.mem_map.mpr ⟨c k, List.mem_range.mpr (hc k (by omega)), ?_⟩⟩
      rw [stepR_deal]
      unfold dealRows
      refine List.map_congr_left fun j _ => List.filter_congr fun x _ => ?_
      dsimp only
      by_cases z : x = k
      · rw [if_pos z, z]
      · rw [if_neg z]
theorem flat_len {α β : Type} {f : α → List β} {h : Nat} (hf : ∀ a, (f a).length = h) : ∀ xs : List α, (xs.flatMap f).length = xs.length * h
  | [] => by simp
  | x :: xs => by rw [List.flatMap_cons, List.length_append, hf, flat_len hf xs, List.length_cons, Nat.add_mul]; omega
theorem deals_len {h : Nat} (hh : h ≤ 3) : ∀ k, k ≤ 6 → (deals h k).length ≤ 3 ^ k
  | 0, _ => by simp [deals]
  | k + 1, hk => by
    have ih := deals_len hh k (by omega)
    have : (deals h (k + 1)).length = (deals h k).length * h := by
      exact flat_len (fun rows => by simp) _
    rw [this, Nat.pow_succ]
    exact Nat.mul_le_mul ih hh
def encRs (rows : List (List Nat)) : PyData := .list (rows.map encRN)
theorem dealings_ok {n h : Nat} (hn : n ≤ 6) (hh : h ≤ 3) : m__law_dealings [.int (n : Int), .int (h : Int)] = .ok (.list ((deals h n).map encRs)) := by
  have hbh : inB (h : Int) := inB_nat (by omega)
  have hbn : inB (n : Int) := inB_nat (by omega)
  have hc0 : compD (.one 6) teYes (eLst aNil) [some (.int (n : Int)), some (.int (h : Int)), none, none, none, none, none, none, none] ((List.range h).map encN) = .ok ((List.range h).map fun _ => PyData.list []) := compD_map _ _ _ fun k hk => ⟨_, rfl, rfl⟩
  have hr0 : (List.range h).map (fun _ => PyData.list []) = (List.replicate h []).map encRN := by
    refine List.ext_getElem? fun i => ?_
    by_cases hi : i < h
    · simp [hi, encRN]
    · rw [List.getElem?_eq_none (by simp; omega), List.getElem?_eq_none (by simp; omega)]
  simp only [m__law_dealings, runD_ap]
  simp [-forS_ap, hbh, rangeD_encN, show h < 16777216 by omega, hc0]
  rw [hr0]
  refine nx_toR (for_nx encN (fun pre ρ => ∃ x3 x4 x5 x6, ρ = [some (.int (n : Int)), some (.int (h : Int)), some (.list ((deals h pre.length).map encRs)), x3, x4, x5, x6, none, none]) (List.range n) (by simp [hbn, rangeD_encN]) ⟨none, none, none, none, rfl⟩ fun pre k post ρ hi ⟨x3, x4, x5, x6, hρ⟩ => ?_) fun ρ ⟨x3, x4, x5, x6, hρ⟩ => ?_
  · subst hρ
    have hkn : k < n := List.mem_range.mp (by rw [hi]; simp)
    have hpk : pre.length = k := by
      have e1 : (List.range n)[pre.length]? = some k := by rw [hi]; simp
      have hp : pre.length < n := by
        have := congrArg List.length hi
        simp at this
        omega
      rw [List.getElem?_range hp] at e1
      exact Option.some.inj e1
    rw [List.length_append, List.length_singleton, hpk]
    have hdl := deals_len hh k (by omega)
    have h36 : (3 : Nat) ^ k ≤ 3 ^ 6 := Nat.pow_le_pow_right (by decide) (by omega)
    have h37 : (3 : Nat) ^ 6 = 729 := by decide
    refine ⟨_, rfl, ?_⟩
    simp only [seqS_ap, newS_ap, nLst_ap, aNil_ap, wipeD_nil, List.set_cons_succ, List.set_cons_zero, Res.bind_ok, List.length_nil, Nat.zero_le, if_true, toS_ok, List.length_cons]
    rw [if_pos (by decide), andThen_nx]
    generalize hD : deals h k = D at *
    refine nx_then (for_nx encRs (fun pre ρ => ∃ x5 x6, ρ = [some (.int (n : Int)), some (.int (h : Int)), some (.list (D.map encRs)), some (encN k), some (.list ((pre.flatMap fun rows => (List.range h).map fun j => stepR k rows j).map encRs)), x5, x6, none, none]) D (by simp) ⟨x5, x6, rfl⟩ fun pre rows post ρ hi ⟨x5, x6, hρ⟩ => ?_) fun ρ ⟨x5, x6, hρ⟩ => ?_
    · subst hρ
      have hrm : rows ∈ deals h k := by rw [hD, hi]; simp
      obtain ⟨c, _, hrc⟩ := (deals_all h k rows).mp hrm
      have hrl : rows.length = h := by rw [hrc]; simp [dealRows]
      have hprl : pre.length ≤ 729 := by
        have := congrArg List.length hi
        simp at this
        omega
      refine ⟨_, rfl, ?_⟩
      refine nx_mono (for_nx encN (fun pre2 ρ => ∃ x6, ρ = [some (.int (n : Int)), some (.int (h : Int)), some (.list (D.map encRs)), some (encN k), some (.list (((pre.flatMap fun rows => (List.range h).map fun j => stepR k rows j) ++ pre2.map fun j => stepR k rows j).map encRs)), some (encRs rows), x6, none, none]) (List.range h) (by simp [hbh, rangeD_encN]) ⟨x6, by simp⟩ fun pre2 j post2 ρ hj ⟨x6, hρ⟩ => ?_) fun ρ ⟨x6, hρ⟩ => ⟨some (encRs rows), x6, by rw [hρ]; simp⟩
      subst hρ
      refine ⟨_, rfl, ?_⟩
      have hp2 : pre2.length ≤ 3 := by
        have := congrArg List.length hj
        simp at this
        omega
      have hcomp : compD (.tup [7, 8]) teYes (eOp oCatL (eVar 8) (eRep (nLst (aCons (eVar 3) aNil)) (eCall1 oInt (eOp oEq (eVar 7) (eVar 6))))) [some (.int (n : Int)), some (.int (h : Int)), some (.list (D.map encRs)), some (encN k), none, some (encRs rows), some (encN j), none, none] (enumFrom 0 (rows.map encRN)) = .ok ((stepR k rows j).map encRN) := by
        rw [enumFrom_map]
        unfold stepR
        rw [List.map_map]
        refine compD_map (fun p : List Nat × Nat => PyData.tuple [.int (p.2 : Int), encRN p.1]) _ rows.zipIdx fun p hp => ⟨_, rfl, ?_⟩
        have hp1 : p.1 ∈ rows := by
          obtain ⟨i, hi1⟩ := List.mem_iff_getElem?.mp hp
          rw [List.getElem?_zipIdx] at hi1
          obtain ⟨a, ha, rfl⟩ := Option.map_eq_some_iff.mp hi1
          exact List.mem_of_getElem? ha
        have hpl : p.1.length ≤ 6 := by
          rw [hrc] at hp1
          unfold dealRows at hp1
          obtain ⟨q, _, hq⟩ := List.mem_map.mp hp1
          rw [← hq]
          have := List.length_filter_le (fun x => c x == q) (List.range k)
          rw [List.length_range] at this
          omega
        have hrep : ∀ b : Bool, repD [encN k] (if b = true then 1 else 0) = (if b = true then [k] else []).map encN := fun b => by cases b <;> rfl
        have heq : (((p.2 : Nat) : Int) == (j : Int)) = decide (p.2 = j) := by
          rw [Bool.eq_iff_iff]; simp; omega
        by_cases z : p.2 = j
        · have := hrep true
          simp only [if_pos rfl] at this
          simp [eRep, z, encN, encRN] at this ⊢
          simp [this, show p.1.length + 1 ≤ 16777216 by omega]
        · have z' : ¬ ((p.2 : Int) = (j : Int)) := by omega
          have := hrep false
          simp at this
          simp [eRep, z, z', encN, encRN] at this ⊢
          simp [this, show p.1.length ≤ 16777216 by omega]
      have hlr : (enumFrom 0 (rows.map encRN)).length < 16777216 := by rw [enumFrom_length, List.length_map]; omega
      have he : eComp (itEnum (eVar 5)) (.tup [7, 8]) teYes (eOp oCatL (eVar 8) (eRep (nLst (aCons (eVar 3) aNil)) (eCall1 oInt (eOp oEq (eVar 7) (eVar 6))))) [some (.int (n : Int)), some (.int (h : Int)), some (.list (D.map encRs)), some (encN k), none, some (encRs rows), some (encN j), none, none] = .ok (encRs (stepR k rows j)) := by
        rw [eComp_ap, eCompL_ap]
        have : itEnum (eVar 5) [some (.int (n : Int)), some (.int (h : Int)), some (.list (D.map encRs)), some (encN k), none, some (encRs rows), some (encN j), none, none] = .ok (enumFrom 0 (rows.map encRN)) := rfl
        rw [this, Res.bind_ok, if_pos hlr]
        simp only [slots_tup, wipeD_cons, wipeD_nil, List.set_cons_succ, List.set_cons_zero]
        rw [hcomp]
        rfl
      have hsz : (((pre.flatMap fun rows => (List.range h).map fun j => stepR k rows j) ++ pre2.map fun j => stepR k rows j).map encRs).length < 16777216 := by
        have : (pre.flatMap fun rows => (List.range h).map fun j => stepR k rows j).length = pre.length * h := by
          exact flat_len (fun rows => by simp) _
        rw [List.length_map, List.length_append, this, List.length_map]
        have : pre.length * h ≤ 729 * 3 := Nat.mul_le_mul hprl hh
        omega
      refine ⟨_, ?_, some (encN j), rfl⟩
      have hasl : asL (encRs rows) = .ok (rows.map encRN) := rfl
      simp only [List.set_cons_succ, List.set_cons_zero, appS_ap, ownL_succ, ownL_zero, toS'_ok, wipeD_cons, wipeD_nil, eComp_ap, eCompL_ap, itEnum_ap, slots_tup, eVar_succ, eVar_zero, Res.bind_ok, hasl, if_pos hlr, hcomp, toS_ok]
      rw [if_pos hsz, List.map_append (l₁ := pre2), ← List.append_assoc, List.map_append (l₂ := [j].map _)]
      rfl
    · subst hρ
      refine ⟨_, ?_, some (encN k), some (.list ((deals h (k + 1)).map encRs)), x5, x6, rfl⟩
      unfold deals
      rw [hD]
      simp
  · subst hρ
    simp
/-! ### the law -/
theorem oSorted_row {q : List Nat} (h : q.length < 64) : oSorted (encRN q) = some (encRN (sortN q)) := sorted_nats h
theorem sortN_of_rise {q : List Nat} (h : (castL q).Pairwise (· ≤ ·)) : sortN q = q := by
  have h1 : castL (sortN q) = castL q := by
    rw [sortN_cast]
    exact sort_rise h
  exact castL_inj h1
theorem sortN_rise (q : List Nat) : (castL (sortN q)).Pairwise (· ≤ ·) := by rw [sortN_cast]; exact sortI_rise _
theorem castL_range (n : Nat) : (castL (List.range n)).Pairwise (· ≤ ·) := by
  unfold castL
  rw [List.pairwise_map]
  exact List.pairwise_lt_range.imp fun h => by omega
theorem sortN_range {q : List Nat} {n : Nat} (h : q.Perm (List.range n)) : sortN q = List.range n := by
  apply castL_inj
  rw [sortN_cast]
  have h1 : (sortI (castL q)).Perm (castL (List.range n)) := (sortI_perm _).trans (h.map _)
  exact rise_one h1 (sortI_rise _) (castL_range n)
theorem law18_true (ns : List Int) : m_law_k18 [encS ns] = .ok (.bool true) := by
  obtain ⟨es, hl, hd, he0⟩ := law_errands_ok ns (a := 2) (most := 4) (top := 18) (by decide) (by decide) (by decide) (by decide)
  have he : OkEs es := ⟨⟨hl.1, by omega⟩, fun e h => (hd e h).ok (by decide)⟩
  have hm0 := mixed_ok ns (k := 0) (many := 3) (by decide) (by decide)
  obtain ⟨h, hh1, hh3, hh⟩ : ∃ h : Nat, 1 ≤ h ∧ h ≤ 3 ∧ (h : Int) = 1 + mix ns 0 3 := by
    have h1 := mix_nonneg ns 0 (show (0 : Int) < 3 by decide)
    have h2 := mix_lt ns 0 (show (0 : Int) < 3 by decide)
    exact ⟨(1 + mix ns 0 3).toNat, by omega, by omega, by omega⟩
  obtain ⟨r, hr1, hr2, hr3⟩ := dealing_ok he.fine (show h ≤ 4 by omega)
  rw [← dealt_ok he hh1 (by omega)] at hr1
  have hel := he.len
  have hI := isN_rows r
  simp only [m_law_k18, runD_ap]
  cases hr : r with
  | none =>
    rw [hr] at hr1 hr2 hI
    have hno : ¬ CanDeal es h := fun z => hr2.mpr z rfl
    have hcmp : compD (.one 6) (eB (eCall m__law_is_dealing (aCons (eVar 1) (aCons (eVar 6) aNil)))) (eVar 6) [some (encS ns), some (encEs es), some (.int (h : Int)), some .none, none, none, none] ((deals h es.length).map encRs) = .ok [] := by
      have := compD_enc (t := .one 6) (c := eB (eCall m__law_is_dealing (aCons (eVar 1) (aCons (eVar 6) aNil)))) (e := eVar 6) (ρ := [some (encS ns), some (encEs es), some (.int (h : Int)), some .none, none, none, none]) encRs (fun _ => false) encRs (deals h es.length) fun rows hm => ⟨_, rfl, by
        obtain ⟨c, hc, hrc⟩ := (deals_all h es.length rows).mp hm
        have hmem : ∀ q ∈ rows, ∃ j, j < h ∧ q = (List.range es.length).filter fun x => c x == j := fun q hq => by
          rw [hrc] at hq
          obtain ⟨j, hj, rfl⟩ := List.mem_map.mp hq
          exact ⟨j, List.mem_range.mp hj, rfl⟩
        obtain ⟨b, hb1, hb2⟩ := is_dealing_ok he (rows := rows) (fun q hq => by
          obtain ⟨j, _, rfl⟩ := hmem q hq
          exact List.nodup_range.filter _) (fun q hq x hx => by
          obtain ⟨j, _, rfl⟩ := hmem q hq
          exact List.mem_range.mp (List.mem_filter.mp hx).1) (fun q hq => by
          obtain ⟨j, _, rfl⟩ := hmem q hq
          have := List.length_filter_le (fun x => c x == j) (List.range es.length)
          rw [List.length_range] at this
          omega)
        have hbf : b = false := by
          cases hb : b with
          | false => rfl
          | true =>
            exfalso
            have hall := hb2.mp hb
            have hrow : ∀ j, j < h → DealRow es ((List.range es.length).filter fun x => c x == j) := fun j hj => hall _ (by
              rw [hrc]
              exact List.mem_map.mpr ⟨j, List.mem_range.mpr hj, rfl⟩)
            refine hno ⟨c, hc, fun x y hx hy hs => ?_, fun j hj => (hrow j hj).1⟩
            by_cases z : c x = c y
            · exact z
            · exfalso
              refine (hrow (c x) (hc x hx)).2 y hy (fun w => ?_) x (List.mem_filter.mpr ⟨List.mem_range.mpr hx, by simp⟩) hs
              have := (List.mem_filter.mp w).2
              simp at this
              exact z this.symm
        unfold encRs
        simp [hb1, hbf], fun w => (by cases w)⟩
      rw [this]
      simp
    have hdl := deals_len hh3 es.length (by omega)
    have h36 : (3 : Nat) ^ es.length ≤ 3 ^ 6 := Nat.pow_le_pow_right (by decide) (by omega)
    have h37 : (3 : Nat) ^ 6 = 729 := by decide
    have hlt : (deals h es.length).length < 16777216 := by omega
    have hen : encRows none = .none := rfl
    rw [hen] at hr1
    have hdo := dealings_ok (n := es.length) (h := h) (by omega) hh3
    have heq : oEq (.list []) (.list []) = some (.bool true) := rfl
    simp [he0, hm0, ← hh, hr1, hdo, hlt, hcmp, heq]
  | some rs =>
    rw [hr] at hr1 hI
    obtain ⟨hlen, hperm, hrows, hclosed⟩ := hr3 rs hr
    have hnd : rs.flatten.Nodup := hperm.nodup_iff.mpr List.nodup_range
    have hrm : ∀ q ∈ rs, ∀ x ∈ q, x < es.length := fun q hq x hx => List.mem_range.mp (hperm.mem_iff.mp (List.mem_flatten.mpr ⟨q, hq, hx⟩))
    have hrn : ∀ q ∈ rs, q.Nodup := fun q hq => (List.sublist_flatten_of_mem hq).nodup hnd
    have hfl : rs.flatten.length = es.length := by rw [hperm.length_eq, List.length_range]
    have hrl : ∀ q ∈ rs, q.length ≤ 6 := fun q hq => by
      have := row_short hq
      omega
    obtain ⟨b, hb1, hb2⟩ := is_dealing_ok he hrn hrm hrl
    have hbt : b = true := hb2.mpr fun q hq => ⟨by
      rcases hrows q hq with z | z
      · rw [z]; exact Feas.nil es
      · exact z.1, fun y hy hny x hx hs => hny (hclosed q hq x hx y hy hs)⟩
    have hen : encRows (some rs) = .list (rs.map encRN) := rfl
    rw [hen] at hr1
    have hsorted : ∀ q ∈ rs, sortN q = q := fun q hq => by
      rcases hrows q hq with z | ⟨_, w, z⟩
      · rw [z]; rfl
      · rw [z]; exact sortN_of_rise (sortN_rise w)
    have hb : inB (es.length : Int) := inB_nat (by omega)
    have hne : oNe (.int (rs.length : Int)) (.int (h : Int)) = some (.bool false) := by rw [hlen]; simp
    simp [-forS_ap, he0, hm0, ← hh, hr1, hlen]
    refine nx_toR (for_nx encRN (fun pre ρ => ∃ x4, ρ = [some (encS ns), some (encEs es), some (.int (h : Int)), some (.list (rs.map encRN)), x4, none, none]) rs (by simp) ⟨none, rfl⟩ fun pre q post ρ hi ⟨x4, hρ⟩ => ?_) fun ρ ⟨x4, hρ⟩ => ?_
    · subst hρ
      have hq : q ∈ rs := by rw [hi]; simp
      have h1 := oSorted_row (q := q) (by have := hrl q hq; omega)
      rw [hsorted q hq] at h1
      have h2 : oNe (encRN q) (encRN q) = some (.bool false) := by
        unfold oNe
        rw [if_pos ⟨(lay_row q).shaped, (lay_row q).shaped⟩, eqv_rows]
        simp
      have h3 : isaList (encRN q) = some (.bool true) := rfl
      refine ⟨_, rfl, _, ?_, some (encRN q), rfl⟩
      simp [h1, h2, h3]
    · subst hρ
      simp only [seqS_ap, newS_ap, nLst_ap, aNil_ap, wipeD_nil, List.set_cons_succ, List.set_cons_zero, Res.bind_ok, List.length_nil, Nat.zero_le, if_true, toS_ok, List.length_cons]
      rw [if_pos (by decide), andThen_nx]
      refine nx_toR (for_nx encRN (fun pre ρ => ∃ x4, ρ = [some (encS ns), some (encEs es), some (.int (h : Int)), some (.list (rs.map encRN)), x4, some (.list (pre.flatten.map encN)), none]) rs (by simp) ⟨x4, rfl⟩ fun pre q post ρ hi ⟨x4, hρ⟩ => ?_) fun ρ ⟨x4, hρ⟩ => ?_
      · subst hρ
        have hq : q ∈ rs := by rw [hi]; simp
        have hsz : pre.flatten.length + q.length ≤ 16777216 := by
          have : rs.flatten.length = pre.flatten.length + (q.length + post.flatten.length) := by rw [hi]; simp
          omega
        have h3 : asL (encRN q) = .ok (q.map encN) := rfl
        refine ⟨_, rfl, _, ?_, some (encRN q), rfl⟩
        have e : (pre ++ [q]).flatten = pre.flatten ++ q := by simp
        rw [e, List.map_append]
        generalize pre.flatten = F at *
        simp [h3, hsz]
      · subst hρ
        have h1 := oSorted_row (q := rs.flatten) (by omega)
        rw [sortN_range hperm] at h1
        have h2 : oEq (encRN (List.range es.length)) (.list (rangeD 0 (es.length : Int))) = some (.bool true) := by
          have : PyData.list (rangeD 0 (es.length : Int)) = encRN (List.range es.length) := by rw [rangeD_encN]; rfl
          rw [this]
          unfold oEq
          rw [if_pos ⟨(lay_row _).shaped, (lay_row _).shaped⟩, eqv_rows]
          simp
        have h1' : oSorted (.list (rs.flatten.map encN)) = some (encRN (List.range es.length)) := h1
        generalize rs.flatten.map encN = FL at h1'
        simp [h1', hb, h2, hb1, hbt]
end L2.DL
namespace L2.DL
open PySem
theorem hlaw_k18 : ∀ ns : List Int, ns.length ≤ 63 → m_law_k18 [.list (ns.map .int)] = .ok (.bool true) := fun ns _ => law18_true ns
end L2.DL
set_option maxHeartbeats 4000000
namespace L2.DL.Wk_k18_dealt
open PySem PySem.Spec PyProof.Rows
def topS (i : Nat) : Stmt := PySem.Challenge.pw_ranksure_k18_dealt.main.body.getD i (.Pass ⟨0, 0, 0, 0⟩)
structure Bts (mg : Str → Option Value) : Prop where
  all : mg "all" = none
  any : mg "any" = none
  bool : mg "bool" = none
  enumerate : mg "enumerate" = none
  int : mg "int" = none
  isinstance : mg "isinstance" = none
  len : mg "len" = none
  list : mg "list" = none
  max : mg "max" = none
  min : mg "min" = none
  range : mg "range" = none
  sorted : mg "sorted" = none
  sum : mg "sum" = none
  tuple : mg "tuple" = none
section
variable {P : Program} {w : World} {K : PySem.W.Frag} {mg : Str → Option Value} {base : Heap}
abbrev s__law_cell_at : Stmt := topS 37
abbrev N__law_cell_at : List Str := ["_law_script", "_law_k"]
theorem sc__law_cell_at : FnScope N__law_cell_at ["_law_script", "_law_k"] (defScope s__law_cell_at) := ⟨rfl, rfl, rfl, by decide +kernel, rfl, by decide +kernel, by decide +kernel⟩
theorem df__law_cell_at (B : Bts mg) {f : Addr} {fd : FuncData} (F : Fun K "_law_cell_at" "_law_cell_at" s__law_cell_at f fd) (hm : mg "_law_cell_at" = some (.ref f)) : Df P w K mg base "_law_cell_at" 1 2 m__law_cell_at :=
  Df.mk' (M' := []) F hm (F.binds (ps := ["_law_script", "_law_k"]) fun _ _ _ _ _ _ us hl => match us, hl with | [_, _], _ => rfl) sc__law_cell_at rfl rfl fun cdv A outer s0 H E hr tk hp =>
    (s_cons (s_if (t_lt (dv 1) (d_len B.len (dv 0))) (s_one (s_ret (d_ix (dv 0) (dv 1)))) s_nil) (s_cons (s_if (t_eq (hu65 hr) (dv 0) (d_lst a_nil)) (s_one (s_ret d_int)) s_nil) (s_one (s_ret (d_add (d_mul (d_ix (dv 0) (d_mod (dv 1) (d_len B.len (dv 0)))) d_int) (dv 1))))))
abbrev s__law_mixed : Stmt := topS 38
abbrev N__law_mixed : List Str := ["_law_script", "_law_k", "_law_many", "_law_drawn"]
theorem sc__law_mixed : FnScope N__law_mixed ["_law_script", "_law_k", "_law_many"] (defScope s__law_mixed) := ⟨rfl, rfl, rfl, by decide +kernel, rfl, by decide +kernel, by decide +kernel⟩
theorem df__law_mixed (B : Bts mg) (F__law_cell_at : Df P w K mg base "_law_cell_at" 1 2 m__law_cell_at) {f : Addr} {fd : FuncData} (F : Fun K "_law_mixed" "_law_mixed" s__law_mixed f fd) (hm : mg "_law_mixed" = some (.ref f)) : Df P w K mg base "_law_mixed" 2 3 m__law_mixed :=
  Df.mk' (M' := []) F hm (F.binds (ps := ["_law_script", "_law_k", "_law_many"]) fun _ _ _ _ _ _ us hl => match us, hl with | [_, _, _], _ => rfl) sc__law_mixed rfl rfl fun cdv A outer s0 H E hr tk hp =>
    (s_cons (s_set 3 sc__law_mixed.nd (se_no (d_mod (d_mul (d_add (d_add (d_call (F__law_cell_at.mono (by decide)) hr tk (a_cons (dv 0) (a_cons (dv 1) a_nil))) (d_mul d_int (dv 1))) d_int) d_int) d_int))) (s_one (s_ret (d_mod (d_mod (d_add (d_add (d_mul (dv 3) (dv 3)) (d_mul d_int (dv 3))) (dv 1)) d_int) (dv 2)))))
abbrev s__law_errand : Stmt := topS 39
abbrev N__law_errand : List Str := ["_law_script", "_law_at", "_law_top", "_law_tools", "_law_every", "_law_late", "_law_due", "_law_parts", "_law_k", "_law_cell"]
theorem sc__law_errand : FnScope N__law_errand ["_law_script", "_law_at", "_law_top", "_law_tools"] (defScope s__law_errand) := ⟨rfl, rfl, rfl, by decide +kernel, rfl, by decide +kernel, by decide +kernel⟩
theorem df__law_errand (B : Bts mg) (F__law_mixed : Df P w K mg base "_law_mixed" 2 3 m__law_mixed) {f : Addr} {fd : FuncData} (F : Fun K "_law_errand" "_law_errand" s__law_errand f fd) (hm : mg "_law_errand" = some (.ref f)) : Df P w K mg base "_law_errand" 3 4 m__law_errand :=
  Df.mk' (M' := []) F hm (F.binds (ps := ["_law_script", "_law_at", "_law_top", "_law_tools"]) fun _ _ _ _ _ _ us hl => match us, hl with | [_, _, _, _], _ => rfl) sc__law_errand rfl rfl fun cdv A outer s0 H E hr tk hp =>
    (s_cons (s_set 4 sc__law_errand.nd (se_no (d_add d_int (d_call (F__law_mixed.mono (by decide)) hr tk (a_cons (dv 0) (a_cons (dv 1) (a_cons (dv 2) a_nil))))))) (s_cons (s_set 5 sc__law_errand.nd (se_no (d_mul (d_call (F__law_mixed.mono (by decide)) hr tk (a_cons (dv 0) (a_cons (d_add (dv 1) d_int) (a_cons d_int a_nil)))) (d_intc B.int (d_eq (hu65 hr) (d_call (F__law_mixed.mono (by decide)) hr tk (a_cons (dv 0) (a_cons (d_add (dv 1) d_int) (a_cons d_int a_nil)))) d_int))))) (s_cons (s_set 5 sc__law_errand.nd (se_no (d_min2 rfl B.min (dv 5) (d_sub (dv 4) d_int)))) (s_cons (s_set 6 sc__law_errand.nd (se_no (d_sub (dv 4) (dv 5)))) (s_cons (s_if (t_eq (hu65 hr) (d_call (F__law_mixed.mono (by decide)) hr tk (a_cons (dv 0) (a_cons (d_add (dv 1) d_int) (a_cons d_int a_nil)))) d_int) (s_one (s_set 6 sc__law_errand.nd (se_no (d_sub (dv 6) (d_call (F__law_mixed.mono (by decide)) hr tk (a_cons (dv 0) (a_cons (d_add (dv 1) d_int) (a_cons (dv 6) a_nil)))))))) s_nil) (s_cons (s_new 7 sc__law_errand.nd (n_lst a_nil)) (s_cons (s_for hp rfl (i_range1 B.range (d_call (F__law_mixed.mono (by decide)) hr tk (a_cons (dv 0) (a_cons (d_add (dv 1) d_int) (a_cons d_int a_nil))))) (g_one 8 sc__law_errand.nd) (s_cons (s_set 9 sc__law_errand.nd (se_fr (d_call (F__law_mixed.mono (by decide)) hr tk (a_cons (dv 0) (a_cons (d_add (d_add (dv 1) d_int) (dv 8)) (a_cons d_int a_nil)))))) (s_cons (s_app 7 (se_fr (d_tup (a_cons (d_add d_int (d_mod (dv 9) d_int)) (a_cons (d_ix (d_lst (a_cons d_int (a_cons d_int (a_cons d_int (a_cons d_int (a_cons d_non a_nil)))))) (d_mod (d_div (dv 9) d_int) d_int)) a_nil))))) (s_one (s_if (dt_not (dt_val (dv 3))) (s_one (s_put 7 (se_sc (d_tup (a_cons (d_ix (d_ix (dv 7) (d_neg d_int)) d_int) (a_cons d_non a_nil)))) (d_neg d_int))) s_nil))))) (s_one (s_ret (d_tup (a_cons (dv 4) (a_cons (dv 6) (a_cons (dv 5) (a_cons (d_tupc B.tuple (d_catL (dv 7) (d_lst (a_cons (d_tup (a_cons (d_add d_int (d_call (F__law_mixed.mono (by decide)) hr tk (a_cons (dv 0) (a_cons (d_add (dv 1) d_int) (a_cons d_int a_nil))))) (a_cons d_non a_nil))) a_nil)))) a_nil))))))))))))))
abbrev s__law_errands : Stmt := topS 40
abbrev N__law_errands : List Str := ["_law_script", "_law_at", "_law_most", "_law_top", "_law_tools", "_law_many", "_law_k"]
theorem sc__law_errands : FnScope N__law_errands ["_law_script", "_law_at", "_law_most", "_law_top", "_law_tools"] (defScope s__law_errands) := ⟨rfl, rfl, rfl, by decide +kernel, rfl, by decide +kernel, by decide +kernel⟩
theorem df__law_errands (B : Bts mg) (F__law_mixed : Df P w K mg base "_law_mixed" 2 3 m__law_mixed) (F__law_errand : Df P w K mg base "_law_errand" 3 4 m__law_errand) {f : Addr} {fd : FuncData} (F : Fun K "_law_errands" "_law_errands" s__law_errands f fd) (hm : mg "_law_errands" = some (.ref f)) : Df P w K mg base "_law_errands" 4 5 m__law_errands :=
  Df.mk' (M' := []) F hm (F.binds (ps := ["_law_script", "_law_at", "_law_most", "_law_top", "_law_tools"]) fun _ _ _ _ _ _ us hl => match us, hl with | [_, _, _, _, _], _ => rfl) sc__law_errands rfl rfl fun cdv A outer s0 H E hr tk hp =>
    (s_cons (s_set 5 sc__law_errands.nd (se_no (d_add d_int (d_call (F__law_mixed.mono (by decide)) hr tk (a_cons (dv 0) (a_cons (dv 1) (a_cons (dv 2) a_nil))))))) (s_one (s_ret (d_tupc B.tuple (d_comp rfl sc__law_errands.nd (i_range1 B.range (dv 5)) (blkOk_by (own := [("_law_k", 6)]) (N := N__law_errands) (sc := (defScope s__law_errands)) (by decide +kernel)) rfl (fun _ _ _ _ _ => (g_one 6 sc__law_errands.nd)) (fun _ _ _ _ _ => ts_nil) (fun _ _ _ _ _ => (d_call (F__law_errand.mono (by decide)) hr takes0 (a_cons (dv 0) (a_cons (d_add (d_add (dv 1) d_int) (d_mul d_int (dv 6))) (a_cons (dv 3) (a_cons (dv 4) a_nil)))))))))))
abbrev s_is_whole : Stmt := topS 6
abbrev N_is_whole : List Str := ["thing"]
theorem sc_is_whole : FnScope N_is_whole ["thing"] (defScope s_is_whole) := ⟨rfl, rfl, rfl, by decide +kernel, rfl, by decide +kernel, by decide +kernel⟩
theorem df_is_whole (B : Bts mg) {f : Addr} {fd : FuncData} (F : Fun K "is_whole" "is_whole" s_is_whole f fd) (hm : mg "is_whole" = some (.ref f)) : Df P w K mg base "is_whole" 1 1 m_is_whole :=
  Df.mk' (M' := []) F hm (F.binds (ps := ["thing"]) fun _ _ _ _ _ _ us hl => match us, hl with | [_], _ => rfl) sc_is_whole rfl rfl fun cdv A outer s0 H E hr tk hp =>
    (s_one (s_ret (d_and (d_isInt B.isinstance B.int (dv 0)) (d_one (d_not (d_isBool B.isinstance B.bool (dv 0)))))))
abbrev s_between : Stmt := topS 7
abbrev N_between : List Str := ["thing", "low", "most"]
theorem sc_between : FnScope N_between ["thing", "low", "most"] (defScope s_between) := ⟨rfl, rfl, rfl, by decide +kernel, rfl, by decide +kernel, by decide +kernel⟩
theorem df_between (B : Bts mg) (F_is_whole : Df P w K mg base "is_whole" 1 1 m_is_whole) {f : Addr} {fd : FuncData} (F : Fun K "between" "between" s_between f fd) (hm : mg "between" = some (.ref f)) : Df P w K mg base "between" 2 3 m_between :=
  Df.mk' (M' := []) F hm (F.binds (ps := ["thing", "low", "most"]) fun _ _ _ _ _ _ us hl => match us, hl with | [_, _, _], _ => rfl) sc_between rfl rfl fun cdv A outer s0 H E hr tk hp =>
    (s_one (s_ret (d_and (d_call (F_is_whole.mono (by decide)) hr tk (a_cons (dv 0) a_nil)) (d_one (d_chain op_le o2_le op_le o2_le (dv 1) (dv 0) (dv 2))))))
abbrev s_is_part : Stmt := topS 8
abbrev N_is_part : List Str := ["thing"]
theorem sc_is_part : FnScope N_is_part ["thing"] (defScope s_is_part) := ⟨rfl, rfl, rfl, by decide +kernel, rfl, by decide +kernel, by decide +kernel⟩
theorem df_is_part (B : Bts mg) (F_between : Df P w K mg base "between" 2 3 m_between) {t_TOOLS : Tok} (c_TOOLS : mg "TOOLS" = some (.int 4 t_TOOLS)) {f : Addr} {fd : FuncData} (F : Fun K "is_part" "is_part" s_is_part f fd) (hm : mg "is_part" = some (.ref f)) : Df P w K mg base "is_part" 3 1 m_is_part :=
  Df.mk' (M' := []) F hm (F.binds (ps := ["thing"]) fun _ _ _ _ _ _ us hl => match us, hl with | [_], _ => rfl) sc_is_part rfl rfl fun cdv A outer s0 H E hr tk hp =>
    (s_cons (s_if (dwt (dw_or (dt_not (dt_val (d_isTuple B.isinstance B.tuple (dv 0)))) (dw_or (t_ne (hu65 hr) (d_len B.len (dv 0)) d_int) (dw_or1 (dt_not (dt_val (d_call (F_between.mono (by decide)) hr tk (a_cons (d_ix (dv 0) d_int) (a_cons d_int (a_cons d_int a_nil)))))))))) (s_one (s_ret d_bl)) s_nil) (s_one (s_ret (d_or (d_is (d_ix (dv 0) d_int) d_non) (d_one (d_call (F_between.mono (by decide)) hr tk (a_cons (d_ix (dv 0) d_int) (a_cons d_int (a_cons (d_sub (d_glob c_TOOLS) d_int) a_nil)))))))))
abbrev s_is_errand : Stmt := topS 9
abbrev N_is_errand : List Str := ["thing", "part"]
theorem sc_is_errand : FnScope N_is_errand ["thing"] (defScope s_is_errand) := ⟨rfl, rfl, rfl, by decide +kernel, rfl, by decide +kernel, by decide +kernel⟩
theorem df_is_errand (B : Bts mg) (F_between : Df P w K mg base "between" 2 3 m_between) (F_is_part : Df P w K mg base "is_part" 3 1 m_is_part) {f : Addr} {fd : FuncData} (F : Fun K "is_errand" "is_errand" s_is_errand f fd) (hm : mg "is_errand" = some (.ref f)) : Df P w K mg base "is_errand" 4 1 m_is_errand :=
  Df.mk' (M' := []) F hm (F.binds (ps := ["thing"]) fun _ _ _ _ _ _ us hl => match us, hl with | [_], _ => rfl) sc_is_errand rfl rfl fun cdv A outer s0 H E hr tk hp =>
    (s_cons (s_if (dwt (dw_or (dt_not (dt_val (d_isTuple B.isinstance B.tuple (dv 0)))) (dw_or (t_ne (hu65 hr) (d_len B.len (dv 0)) d_int) (dw_or1 (dt_not (dt_val (d_call (F_between.mono (by decide)) hr tk (a_cons (d_ix (dv 0) d_int) (a_cons d_int (a_cons d_int a_nil)))))))))) (s_one (s_ret d_bl)) s_nil) (s_cons (s_if (dwt (dw_or (dt_not (dt_val (d_call (F_between.mono (by decide)) hr tk (a_cons (d_ix (dv 0) d_int) (a_cons d_int (a_cons (d_min2 rfl B.min d_int (d_sub (d_ix (dv 0) d_int) d_int)) a_nil)))))) (dw_or1 (dt_not (dt_val (d_call (F_between.mono (by decide)) hr tk (a_cons (d_ix (dv 0) d_int) (a_cons d_int (a_cons (d_sub (d_ix (dv 0) d_int) (d_ix (dv 0) d_int)) a_nil))))))))) (s_one (s_ret d_bl)) s_nil) (s_cons (s_if (dwt (dw_or (dt_not (dt_val (d_isTuple B.isinstance B.tuple (d_ix (dv 0) d_int)))) (dw_or1 (dt_not (dt_chain op_le o2_le op_le o2_le d_int (d_len B.len (d_ix (dv 0) d_int)) d_int))))) (s_one (s_ret d_bl)) s_nil) (s_one (s_ret (d_and (d_all rfl B.all (d_comp rfl sc_is_errand.nd (i_sq (d_ix (dv 0) d_int)) (blkOk_by (own := [("part", 1)]) (N := N_is_errand) (sc := (defScope s_is_errand)) (by decide +kernel)) rfl (fun _ _ _ _ _ => (g_one 1 sc_is_errand.nd)) (fun _ _ _ _ _ => ts_nil) (fun _ _ _ _ _ => (d_call (F_is_part.mono (by decide)) hr takes0 (a_cons (dv 1) a_nil))))) (d_one (d_is (d_ix (d_ix (d_ix (dv 0) d_int) (d_neg d_int)) d_int) d_non))))))))
abbrev s_are_errands : Stmt := topS 10
abbrev N_are_errands : List Str := ["thing", "errand"]
theorem sc_are_errands : FnScope N_are_errands ["thing"] (defScope s_are_errands) := ⟨rfl, rfl, rfl, by decide +kernel, rfl, by decide +kernel, by decide +kernel⟩
theorem df_are_errands (B : Bts mg) (F_is_errand : Df P w K mg base "is_errand" 4 1 m_is_errand) {f : Addr} {fd : FuncData} (F : Fun K "are_errands" "are_errands" s_are_errands f fd) (hm : mg "are_errands" = some (.ref f)) : Df P w K mg base "are_errands" 5 1 m_are_errands :=
  Df.mk' (M' := []) F hm (F.binds (ps := ["thing"]) fun _ _ _ _ _ _ us hl => match us, hl with | [_], _ => rfl) sc_are_errands rfl rfl fun cdv A outer s0 H E hr tk hp =>
    (s_cons (s_if (dwt (dw_or (dt_not (dt_val (d_isTuple B.isinstance B.tuple (dv 0)))) (dw_or1 (dt_not (dt_chain op_le o2_le op_le o2_le d_int (d_len B.len (dv 0)) d_int))))) (s_one (s_ret d_bl)) s_nil) (s_one (s_ret (d_all rfl B.all (d_comp rfl sc_are_errands.nd (i_sq (dv 0)) (blkOk_by (own := [("errand", 1)]) (N := N_are_errands) (sc := (defScope s_are_errands)) (by decide +kernel)) rfl (fun _ _ _ _ _ => (g_one 1 sc_are_errands.nd)) (fun _ _ _ _ _ => ts_nil) (fun _ _ _ _ _ => (d_call (F_is_errand.mono (by decide)) hr takes0 (a_cons (dv 1) a_nil))))))))
abbrev s_checked : Stmt := topS 11
abbrev N_checked : List Str := ["errands"]
theorem sc_checked : FnScope N_checked ["errands"] (defScope s_checked) := ⟨rfl, rfl, rfl, by decide +kernel, rfl, by decide +kernel, by decide +kernel⟩
theorem df_checked (B : Bts mg) (F_are_errands : Df P w K mg base "are_errands" 5 1 m_are_errands) (X_NoErrands : ExcT K mg "NoErrands") {f : Addr} {fd : FuncData} (F : Fun K "checked" "checked" s_checked f fd) (hm : mg "checked" = some (.ref f)) : Df P w K mg base "checked" 6 1 m_checked :=
  Df.mk' (M' := []) F hm (F.binds (ps := ["errands"]) fun _ _ _ _ _ _ us hl => match us, hl with | [_], _ => rfl) sc_checked rfl rfl fun cdv A outer s0 H E hr tk hp =>
    (s_cons (s_if (dt_not (dt_val (d_call (F_are_errands.mono (by decide)) hr tk (a_cons (dv 0) a_nil)))) (s_one (s_raise X_NoErrands rfl tk)) s_nil) (s_one (s_ret (dv 0))))
abbrev s_last_of : Stmt := topS 21
abbrev N_last_of : List Str := ["row"]
theorem sc_last_of : FnScope N_last_of ["row"] (defScope s_last_of) := ⟨rfl, rfl, rfl, by decide +kernel, rfl, by decide +kernel, by decide +kernel⟩
theorem df_last_of (B : Bts mg) {f : Addr} {fd : FuncData} (F : Fun K "last_of" "last_of" s_last_of f fd) (hm : mg "last_of" = some (.ref f)) : Df P w K mg base "last_of" 1 1 m_last_of :=
  Df.mk' (M' := []) F hm (F.binds (ps := ["row"]) fun _ _ _ _ _ _ us hl => match us, hl with | [_], _ => rfl) sc_last_of rfl rfl fun cdv A outer s0 H E hr tk hp =>
    (s_cons (s_if (t_is (dv 0) d_non) (s_one (s_ret d_non)) s_nil) (s_one (s_ret (d_ix (dv 0) (d_neg d_int)))))
abbrev s_work_of : Stmt := topS 12
abbrev N_work_of : List Str := ["errand", "part"]
theorem sc_work_of : FnScope N_work_of ["errand"] (defScope s_work_of) := ⟨rfl, rfl, rfl, by decide +kernel, rfl, by decide +kernel, by decide +kernel⟩
theorem df_work_of (B : Bts mg) {f : Addr} {fd : FuncData} (F : Fun K "work_of" "work_of" s_work_of f fd) (hm : mg "work_of" = some (.ref f)) : Df P w K mg base "work_of" 1 1 m_work_of :=
  Df.mk' (M' := []) F hm (F.binds (ps := ["errand"]) fun _ _ _ _ _ _ us hl => match us, hl with | [_], _ => rfl) sc_work_of rfl rfl fun cdv A outer s0 H E hr tk hp =>
    (s_one (s_ret (d_sum rfl B.sum (d_comp rfl sc_work_of.nd (i_sq (d_ix (dv 0) d_int)) (blkOk_by (own := [("part", 1)]) (N := N_work_of) (sc := (defScope s_work_of)) (by decide +kernel)) rfl (fun _ _ _ _ _ => (g_one 1 sc_work_of.nd)) (fun _ _ _ _ _ => ts_nil) (fun _ _ _ _ _ => (d_ix (dv 1) d_int))))))
abbrev s_often : Stmt := topS 17
abbrev N_often : List Str := ["errand", "times"]
theorem sc_often : FnScope N_often ["errand", "times"] (defScope s_often) := ⟨rfl, rfl, rfl, by decide +kernel, rfl, by decide +kernel, by decide +kernel⟩
theorem df_often (B : Bts mg) {f : Addr} {fd : FuncData} (F : Fun K "often" "often" s_often f fd) (hm : mg "often" = some (.ref f)) : Df P w K mg base "often" 1 2 m_often :=
  Df.mk' (M' := []) F hm (F.binds (ps := ["errand", "times"]) fun _ _ _ _ _ _ us hl => match us, hl with | [_, _], _ => rfl) sc_often rfl rfl fun cdv A outer s0 H E hr tk hp =>
    (s_one (s_ret (d_div (d_sub (d_add (d_add (dv 1) (d_ix (dv 0) d_int)) (d_ix (dv 0) d_int)) d_int) (d_ix (dv 0) d_int))))
abbrev s_need_with : Stmt := topS 18
abbrev N_need_with : List Str := ["errands", "ranks", "number", "held", "times", "higher", "whole", "other"]
theorem sc_need_with : FnScope N_need_with ["errands", "ranks", "number", "held", "times"] (defScope s_need_with) := ⟨rfl, rfl, rfl, by decide +kernel, rfl, by decide +kernel, by decide +kernel⟩
theorem df_need_with (B : Bts mg) (F_work_of : Df P w K mg base "work_of" 1 1 m_work_of) (F_often : Df P w K mg base "often" 1 2 m_often) {f : Addr} {fd : FuncData} (F : Fun K "need_with" "need_with" s_need_with f fd) (hm : mg "need_with" = some (.ref f)) : Df P w K mg base "need_with" 2 5 m_need_with :=
  Df.mk' (M' := []) F hm (F.binds (ps := ["errands", "ranks", "number", "held", "times"]) fun _ _ _ _ _ _ us hl => match us, hl with | [_, _, _, _, _], _ => rfl) sc_need_with rfl rfl fun cdv A outer s0 H E hr tk hp =>
    (s_cons (s_set 5 sc_need_with.nd (se_no (d_slice (dv 1) o_none (o_some (d_tupIndex (dv 1) (dv 2)))))) (s_cons (s_set 6 sc_need_with.nd (se_no (d_add (dv 3) (d_call (F_work_of.mono (by decide)) hr tk (a_cons (d_ix (dv 0) (dv 2)) a_nil))))) (s_one (s_ret (d_add (dv 6) (d_sum rfl B.sum (d_comp rfl sc_need_with.nd (i_sq (dv 5)) (blkOk_by (own := [("other", 7)]) (N := N_need_with) (sc := (defScope s_need_with)) (by decide +kernel)) rfl (fun _ _ _ _ _ => (g_one 7 sc_need_with.nd)) (fun _ _ _ _ _ => ts_nil) (fun _ _ _ _ _ => (d_mul (d_call (F_often.mono (by decide)) hr takes0 (a_cons (d_ix (dv 0) (dv 7)) (a_cons (dv 4) a_nil))) (d_call (F_work_of.mono (by decide)) hr takes0 (a_cons (d_ix (dv 0) (dv 7)) a_nil)))))))))))
abbrev s_levels_with : Stmt := topS 19
abbrev N_levels_with : List Str := ["errands", "ranks", "number", "held", "most", "made", "more"]
theorem sc_levels_with : FnScope N_levels_with ["errands", "ranks", "number", "held"] (defScope s_levels_with) := ⟨rfl, rfl, rfl, by decide +kernel, rfl, by decide +kernel, by decide +kernel⟩
theorem df_levels_with (B : Bts mg) (F_need_with : Df P w K mg base "need_with" 2 5 m_need_with) {f : Addr} {fd : FuncData} (F : Fun K "levels_with" "levels_with" s_levels_with f fd) (hm : mg "levels_with" = some (.ref f)) : Df P w K mg base "levels_with" 3 4 m_levels_with :=
  Df.mk' (M' := []) F hm (F.binds (ps := ["errands", "ranks", "number", "held"]) fun _ _ _ _ _ _ us hl => match us, hl with | [_, _, _, _], _ => rfl) sc_levels_with rfl rfl fun cdv A outer s0 H E hr tk hp =>
    (s_cons (s_set 4 sc_levels_with.nd (se_no (d_sub (d_ix (d_ix (dv 0) (dv 2)) d_int) (d_ix (d_ix (dv 0) (dv 2)) d_int)))) (s_cons (s_new 5 sc_levels_with.nd (n_lst (a_cons (d_call (F_need_with.mono (by decide)) hr tk (a_cons (dv 0) (a_cons (dv 1) (a_cons (dv 2) (a_cons (dv 3) (a_cons d_int a_nil)))))) a_nil))) (s_cons (s_while hp (t_le (d_ix (dv 5) (d_neg d_int)) (dv 4)) (s_cons (s_set 6 sc_levels_with.nd (se_sc (d_call (F_need_with.mono (by decide)) hr tk (a_cons (dv 0) (a_cons (dv 1) (a_cons (dv 2) (a_cons (dv 3) (a_cons (d_ix (dv 5) (d_neg d_int)) a_nil)))))))) (s_cons (s_if (t_eq (hu65 hr) (dv 6) (d_ix (dv 5) (d_neg d_int))) (s_one (s_ret (dv 5))) s_nil) (s_one (s_app 5 (se_fr (dv 6))))))) (s_one (s_ret d_non)))))
abbrev s_has_tool : Stmt := topS 13
abbrev N_has_tool : List Str := ["errand", "tool", "part"]
theorem sc_has_tool : FnScope N_has_tool ["errand", "tool"] (defScope s_has_tool) := ⟨rfl, rfl, rfl, by decide +kernel, rfl, by decide +kernel, by decide +kernel⟩
theorem df_has_tool (B : Bts mg) {f : Addr} {fd : FuncData} (F : Fun K "has_tool" "has_tool" s_has_tool f fd) (hm : mg "has_tool" = some (.ref f)) : Df P w K mg base "has_tool" 1 2 m_has_tool :=
  Df.mk' (M' := []) F hm (F.binds (ps := ["errand", "tool"]) fun _ _ _ _ _ _ us hl => match us, hl with | [_, _], _ => rfl) sc_has_tool rfl rfl fun cdv A outer s0 H E hr tk hp =>
    (s_one (s_ret (d_in (hu65 hr) (dv 1) (d_comp rfl sc_has_tool.nd (i_sq (d_ix (dv 0) d_int)) (blkOk_by (own := [("part", 2)]) (N := N_has_tool) (sc := (defScope s_has_tool)) (by decide +kernel)) rfl (fun _ _ _ _ _ => (g_one 2 sc_has_tool.nd)) (fun _ _ _ _ _ => ts_nil) (fun _ _ _ _ _ => (d_ix (dv 2) d_int))))))
abbrev s_heights_of : Stmt := topS 14
abbrev N_heights_of : List Str := ["errands", "ranks", "made", "tool", "some", "place"]
theorem sc_heights_of : FnScope N_heights_of ["errands", "ranks"] (defScope s_heights_of) := ⟨rfl, rfl, rfl, by decide +kernel, rfl, by decide +kernel, by decide +kernel⟩
theorem df_heights_of (B : Bts mg) (F_has_tool : Df P w K mg base "has_tool" 1 2 m_has_tool) {t_TOOLS : Tok} (c_TOOLS : mg "TOOLS" = some (.int 4 t_TOOLS)) {f : Addr} {fd : FuncData} (F : Fun K "heights_of" "heights_of" s_heights_of f fd) (hm : mg "heights_of" = some (.ref f)) : Df P w K mg base "heights_of" 2 2 m_heights_of :=
  Df.mk' (M' := []) F hm (F.binds (ps := ["errands", "ranks"]) fun _ _ _ _ _ _ us hl => match us, hl with | [_, _], _ => rfl) sc_heights_of rfl rfl fun cdv A outer s0 H E hr tk hp =>
    (s_cons (s_new 2 sc_heights_of.nd (n_lst a_nil)) (s_cons (s_for hp rfl (i_range1 B.range (d_glob c_TOOLS)) (g_one 3 sc_heights_of.nd) (s_cons (s_setLc 4 rfl sc_heights_of.nd (i_range1 B.range (d_len B.len (dv 1))) (blkOk_by (own := [("place", 5)]) (N := N_heights_of) (sc := (defScope s_heights_of)) (by decide +kernel)) rfl (fun _ _ _ _ _ => (g_one 5 sc_heights_of.nd)) (fun _ _ _ _ _ => (ts_one (dt_val (d_call (F_has_tool.mono (by decide)) hr takes0 (a_cons (d_ix (dv 0) (d_ix (dv 1) (dv 5))) (a_cons (dv 3) a_nil)))))) (fun _ _ _ _ _ => (dv 5))) (s_one (s_app 2 (se_fr (d_ix (d_catL (dv 4) (d_lst (a_cons d_non a_nil))) d_int)))))) (s_one (s_ret (dv 2)))))
abbrev s_hold_of : Stmt := topS 16
abbrev N_hold_of : List Str := ["errands", "ranks", "number", "place", "heights", "found", "lower", "length", "tool"]
theorem sc_hold_of : FnScope N_hold_of ["errands", "ranks", "number"] (defScope s_hold_of) := ⟨rfl, rfl, rfl, by decide +kernel, rfl, by decide +kernel, by decide +kernel⟩
theorem df_hold_of (B : Bts mg) (F_heights_of : Df P w K mg base "heights_of" 2 2 m_heights_of) {f : Addr} {fd : FuncData} (F : Fun K "hold_of" "hold_of" s_hold_of f fd) (hm : mg "hold_of" = some (.ref f)) : Df P w K mg base "hold_of" 3 3 m_hold_of :=
  Df.mk' (M' := []) F hm (F.binds (ps := ["errands", "ranks", "number"]) fun _ _ _ _ _ _ us hl => match us, hl with | [_, _, _], _ => rfl) sc_hold_of rfl rfl fun cdv A outer s0 H E hr tk hp =>
    (s_cons (s_set 3 sc_hold_of.nd (se_no (d_tupIndex (dv 1) (dv 2)))) (s_cons (s_set 4 sc_hold_of.nd (se_no (d_call (F_heights_of.mono (by decide)) hr tk (a_cons (dv 0) (a_cons (dv 1) a_nil))))) (s_cons (s_new 5 sc_hold_of.nd (n_lst (a_cons d_int a_nil))) (s_cons (s_for hp rfl (i_sq (d_slice (dv 1) (o_some (d_add (dv 3) d_int)) o_none)) (g_one 6 sc_hold_of.nd) (s_one (s_for hp rfl (i_sq (d_ix (d_ix (dv 0) (dv 6)) d_int)) (g_tup rfl (gs_cons 7 sc_hold_of.nd (gs_cons 8 sc_hold_of.nd gs_nil))) (s_one (s_if (dwt (dw_and (t_isnot (dv 8) d_non) (dw_and1 (t_le (d_ix (dv 4) (dv 8)) (dv 3))))) (s_one (s_app 5 (se_fr (d_sub (dv 7) d_int)))) s_nil))))) (s_one (s_ret (d_maxL rfl B.max (dv 5))))))))
abbrev s_levels_of : Stmt := topS 20
abbrev N_levels_of : List Str := ["errands", "ranks", "number"]
theorem sc_levels_of : FnScope N_levels_of ["errands", "ranks", "number"] (defScope s_levels_of) := ⟨rfl, rfl, rfl, by decide +kernel, rfl, by decide +kernel, by decide +kernel⟩
theorem df_levels_of (B : Bts mg) (F_levels_with : Df P w K mg base "levels_with" 3 4 m_levels_with) (F_hold_of : Df P w K mg base "hold_of" 3 3 m_hold_of) {f : Addr} {fd : FuncData} (F : Fun K "levels_of" "levels_of" s_levels_of f fd) (hm : mg "levels_of" = some (.ref f)) : Df P w K mg base "levels_of" 4 3 m_levels_of :=
  Df.mk' (M' := []) F hm (F.binds (ps := ["errands", "ranks", "number"]) fun _ _ _ _ _ _ us hl => match us, hl with | [_, _, _], _ => rfl) sc_levels_of rfl rfl fun cdv A outer s0 H E hr tk hp =>
    (s_one (s_ret (d_call (F_levels_with.mono (by decide)) hr tk (a_cons (dv 0) (a_cons (dv 1) (a_cons (dv 2) (a_cons (d_call (F_hold_of.mono (by decide)) hr tk (a_cons (dv 0) (a_cons (dv 1) (a_cons (dv 2) a_nil)))) a_nil)))))))
abbrev s_longest_of : Stmt := topS 22
abbrev N_longest_of : List Str := ["errands", "ranks", "number"]
theorem sc_longest_of : FnScope N_longest_of ["errands", "ranks", "number"] (defScope s_longest_of) := ⟨rfl, rfl, rfl, by decide +kernel, rfl, by decide +kernel, by decide +kernel⟩
theorem df_longest_of (B : Bts mg) (F_last_of : Df P w K mg base "last_of" 1 1 m_last_of) (F_levels_of : Df P w K mg base "levels_of" 4 3 m_levels_of) {f : Addr} {fd : FuncData} (F : Fun K "longest_of" "longest_of" s_longest_of f fd) (hm : mg "longest_of" = some (.ref f)) : Df P w K mg base "longest_of" 5 3 m_longest_of :=
  Df.mk' (M' := []) F hm (F.binds (ps := ["errands", "ranks", "number"]) fun _ _ _ _ _ _ us hl => match us, hl with | [_, _, _], _ => rfl) sc_longest_of rfl rfl fun cdv A outer s0 H E hr tk hp =>
    (s_one (s_ret (d_call (F_last_of.mono (by decide)) hr tk (a_cons (d_call (F_levels_of.mono (by decide)) hr tk (a_cons (dv 0) (a_cons (dv 1) (a_cons (dv 2) a_nil)))) a_nil))))
abbrev s_is_in_time : Stmt := topS 23
abbrev N_is_in_time : List Str := ["errands", "ranks", "number", "found"]
theorem sc_is_in_time : FnScope N_is_in_time ["errands", "ranks", "number"] (defScope s_is_in_time) := ⟨rfl, rfl, rfl, by decide +kernel, rfl, by decide +kernel, by decide +kernel⟩
theorem df_is_in_time (B : Bts mg) (F_longest_of : Df P w K mg base "longest_of" 5 3 m_longest_of) {f : Addr} {fd : FuncData} (F : Fun K "is_in_time" "is_in_time" s_is_in_time f fd) (hm : mg "is_in_time" = some (.ref f)) : Df P w K mg base "is_in_time" 6 3 m_is_in_time :=
  Df.mk' (M' := []) F hm (F.binds (ps := ["errands", "ranks", "number"]) fun _ _ _ _ _ _ us hl => match us, hl with | [_, _, _], _ => rfl) sc_is_in_time rfl rfl fun cdv A outer s0 H E hr tk hp =>
    (s_cons (s_set 3 sc_is_in_time.nd (se_no (d_call (F_longest_of.mono (by decide)) hr tk (a_cons (dv 0) (a_cons (dv 1) (a_cons (dv 2) a_nil)))))) (s_one (s_ret (d_and (d_isnot (dv 3) d_non) (d_one (d_le (dv 3) (d_ix (d_ix (dv 0) (dv 2)) d_int)))))))
abbrev s_lowest_for : Stmt := topS 25
abbrev N_lowest_for : List Str := ["errands", "left", "lower", "number", "ranks", "other"]
theorem sc_lowest_for : FnScope N_lowest_for ["errands", "left", "lower"] (defScope s_lowest_for) := ⟨rfl, rfl, rfl, by decide +kernel, rfl, by decide +kernel, by decide +kernel⟩
theorem df_lowest_for (B : Bts mg) (F_is_in_time : Df P w K mg base "is_in_time" 6 3 m_is_in_time) {f : Addr} {fd : FuncData} (F : Fun K "lowest_for" "lowest_for" s_lowest_for f fd) (hm : mg "lowest_for" = some (.ref f)) : Df P w K mg base "lowest_for" 7 3 m_lowest_for :=
  Df.mk' (M' := []) F hm (F.binds (ps := ["errands", "left", "lower"]) fun _ _ _ _ _ _ us hl => match us, hl with | [_, _, _], _ => rfl) sc_lowest_for rfl rfl fun cdv A outer s0 H E hr tk hp =>
    (s_cons (s_for hp rfl (i_sq (dv 1)) (g_one 3 sc_lowest_for.nd) (s_cons (s_set 4 sc_lowest_for.nd (se_no (d_catT (d_catT (d_tupc B.tuple (d_comp rfl sc_lowest_for.nd (i_sq (dv 1)) (blkOk_by (own := [("other", 5)]) (N := N_lowest_for) (sc := (defScope s_lowest_for)) (by decide +kernel)) rfl (fun _ _ _ _ _ => (g_one 5 sc_lowest_for.nd)) (fun _ _ _ _ _ => (ts_one (t_ne (hu65 hr) (dv 5) (dv 3)))) (fun _ _ _ _ _ => (dv 5)))) (d_tup (a_cons (dv 3) a_nil))) (dv 2)))) (s_one (s_if (dt_val (d_call (F_is_in_time.mono (by decide)) hr tk (a_cons (dv 0) (a_cons (dv 4) (a_cons (dv 3) a_nil))))) (s_one (s_ret (dv 3))) s_nil)))) (s_one (s_ret d_non)))
abbrev s_sorted_out : Stmt := topS 26
abbrev N_sorted_out : List Str := ["errands", "left", "lower", "found"]
theorem sc_sorted_out : FnScope N_sorted_out ["errands"] (defScope s_sorted_out) := ⟨rfl, rfl, rfl, by decide +kernel, rfl, by decide +kernel, by decide +kernel⟩
theorem df_sorted_out (B : Bts mg) (F_lowest_for : Df P w K mg base "lowest_for" 7 3 m_lowest_for) {f : Addr} {fd : FuncData} (F : Fun K "sorted_out" "sorted_out" s_sorted_out f fd) (hm : mg "sorted_out" = some (.ref f)) : Df P w K mg base "sorted_out" 8 1 m_sorted_out :=
  Df.mk' (M' := []) F hm (F.binds (ps := ["errands"]) fun _ _ _ _ _ _ us hl => match us, hl with | [_], _ => rfl) sc_sorted_out rfl rfl fun cdv A outer s0 H E hr tk hp =>
    (s_cons (s_new 1 sc_sorted_out.nd (n_R1 rfl B.list B.range (d_len B.len (dv 0)))) (s_cons (s_set 2 sc_sorted_out.nd (se_fr (d_tup a_nil))) (s_cons (s_while hp (t_ne (hu65 hr) (dv 1) (d_lst a_nil)) (s_cons (s_set 3 sc_sorted_out.nd (se_sc (d_call (F_lowest_for.mono (by decide)) hr tk (a_cons (dv 0) (a_cons (dv 1) (a_cons (dv 2) a_nil)))))) (s_cons (s_if (t_is (dv 3) d_non) (s_one (s_ret (d_tup (a_cons (dv 1) (a_cons (dv 2) a_nil))))) s_nil) (s_cons (s_rem 1 (dv 3)) (s_one (s_set 2 sc_sorted_out.nd (se_fr (d_catT (d_tup (a_cons (dv 3) a_nil)) (dv 2))))))))) (s_one (s_ret (d_tup (a_cons (dv 1) (a_cons (dv 2) a_nil))))))))
abbrev s_fitting_of : Stmt := topS 27
abbrev N_fitting_of : List Str := ["errands", "left", "lower"]
theorem sc_fitting_of : FnScope N_fitting_of ["errands"] (defScope s_fitting_of) := ⟨rfl, rfl, rfl, by decide +kernel, rfl, by decide +kernel, by decide +kernel⟩
theorem df_fitting_of (B : Bts mg) (F_sorted_out : Df P w K mg base "sorted_out" 8 1 m_sorted_out) {f : Addr} {fd : FuncData} (F : Fun K "fitting_of" "fitting_of" s_fitting_of f fd) (hm : mg "fitting_of" = some (.ref f)) : Df P w K mg base "fitting_of" 9 1 m_fitting_of :=
  Df.mk' (M' := []) F hm (F.binds (ps := ["errands"]) fun _ _ _ _ _ _ us hl => match us, hl with | [_], _ => rfl) sc_fitting_of rfl rfl fun cdv A outer s0 H E hr tk hp =>
    (s_cons (s_asg (g_tup rfl (gs_cons 1 sc_fitting_of.nd (gs_cons 2 sc_fitting_of.nd gs_nil))) (se_no (d_call (F_sorted_out.mono (by decide)) hr tk (a_cons (dv 0) a_nil)))) (s_cons (s_if (t_ne (hu65 hr) (dv 1) (d_lst a_nil)) (s_one (s_ret d_non)) s_nil) (s_one (s_ret (dv 2)))))
abbrev s_fits : Stmt := topS 32
abbrev N_fits : List Str := ["errands", "some", "number"]
theorem sc_fits : FnScope N_fits ["errands", "some"] (defScope s_fits) := ⟨rfl, rfl, rfl, by decide +kernel, rfl, by decide +kernel, by decide +kernel⟩
theorem df_fits (B : Bts mg) (F_fitting_of : Df P w K mg base "fitting_of" 9 1 m_fitting_of) {f : Addr} {fd : FuncData} (F : Fun K "fits" "fits" s_fits f fd) (hm : mg "fits" = some (.ref f)) : Df P w K mg base "fits" 10 2 m_fits :=
  Df.mk' (M' := []) F hm (F.binds (ps := ["errands", "some"]) fun _ _ _ _ _ _ us hl => match us, hl with | [_, _], _ => rfl) sc_fits rfl rfl fun cdv A outer s0 H E hr tk hp =>
    (s_one (s_ret (d_or (d_eq (hu65 hr) (dv 1) (d_lst a_nil)) (d_one (d_isnot (d_call (F_fitting_of.mono (by decide)) hr tk (a_cons (d_tupc B.tuple (d_comp rfl sc_fits.nd (i_sq (dv 1)) (blkOk_by (own := [("number", 2)]) (N := N_fits) (sc := (defScope s_fits)) (by decide +kernel)) rfl (fun _ _ _ _ _ => (g_one 2 sc_fits.nd)) (fun _ _ _ _ _ => ts_nil) (fun _ _ _ _ _ => (d_ix (dv 0) (dv 2))))) a_nil)) d_non)))))
abbrev s_dealt_on : Stmt := topS 33
abbrev N_dealt_on : List Str := ["errands", "left", "rows", "k", "more", "found"]
theorem sc_dealt_on : FnScope N_dealt_on ["errands", "left", "rows"] (defScope s_dealt_on) := ⟨rfl, rfl, rfl, by decide +kernel, rfl, by decide +kernel, by decide +kernel⟩
theorem df_dealt_on (B : Bts mg) (F_fits : Df P w K mg base "fits" 10 2 m_fits) {f : Addr} {fd : FuncData} (F : Fun K "dealt_on" "dealt_on" s_dealt_on f fd) (hm : mg "dealt_on" = some (.ref f)) : ∀ k, Df P w K mg base "dealt_on" (11 + k) 3 (m_dealt_on k)
  | 0 => Df.bad (k := 10) F hm (F.binds (ps := ["errands", "left", "rows"]) fun _ _ _ _ _ _ us hl => match us, hl with | [_, _, _], _ => rfl) sc_dealt_on rfl
  | k + 1 => by
    have F_dealt_on := df_dealt_on B F_fits F hm k
    exact Df.mk' (k := 11 + k) (M' := []) F hm (F.binds (ps := ["errands", "left", "rows"]) fun _ _ _ _ _ _ us hl => match us, hl with | [_, _, _], _ => rfl) sc_dealt_on rfl rfl fun cdv A outer s0 H E hr tk hp =>
      (s_cons (s_if (t_eq (hu65 hr) (dv 1) (d_lst a_nil)) (s_one (s_ret (dv 2))) s_nil) (s_cons (s_for hp rfl (i_range1 B.range (d_len B.len (dv 2))) (g_one 3 sc_dealt_on.nd) (s_cons (s_set 4 sc_dealt_on.nd (se_no (d_sorted B.sorted (d_catL (d_ix (dv 2) (dv 3)) (d_ix (dv 1) d_int))))) (s_one (s_if (dwt (dw_and (t_notin (hu65 hr) (d_ix (dv 2) (dv 3)) (d_slice (dv 2) o_none (o_some (dv 3)))) (dw_and1 (dt_val (d_call (F_fits.mono (by omega)) hr tk (a_cons (dv 0) (a_cons (dv 4) a_nil))))))) (s_cons (s_set 5 sc_dealt_on.nd (se_no (d_call (F_dealt_on.mono (by omega)) hr tk (a_cons (dv 0) (a_cons (d_slice (dv 1) (o_some d_int) o_none) (a_cons (d_catL (d_catL (d_slice (dv 2) o_none (o_some (dv 3))) (d_lst (a_cons (dv 4) a_nil))) (d_slice (dv 2) (o_some (d_add (dv 3) d_int)) o_none)) a_nil)))))) (s_one (s_if (t_isnot (dv 5) d_non) (s_one (s_ret (dv 5))) s_nil))) s_nil)))) (s_one (s_ret d_non))))
abbrev s_bundles : Stmt := topS 31
abbrev N_bundles : List Str := ["errands", "made", "tool", "some", "whole", "row", "number"]
theorem sc_bundles : FnScope N_bundles ["errands"] (defScope s_bundles) := ⟨rfl, rfl, rfl, by decide +kernel, rfl, by decide +kernel, by decide +kernel⟩
theorem df_bundles (B : Bts mg) (F_has_tool : Df P w K mg base "has_tool" 1 2 m_has_tool) {t_TOOLS : Tok} (c_TOOLS : mg "TOOLS" = some (.int 4 t_TOOLS)) {f : Addr} {fd : FuncData} (F : Fun K "bundles" "bundles" s_bundles f fd) (hm : mg "bundles" = some (.ref f)) : Df P w K mg base "bundles" 2 1 m_bundles :=
  Df.mk' (M' := []) F hm (F.binds (ps := ["errands"]) fun _ _ _ _ _ _ us hl => match us, hl with | [_], _ => rfl) sc_bundles rfl rfl fun cdv A outer s0 H E hr tk hp =>
    (s_cons (s_setLc 1 rfl sc_bundles.nd (i_range1 B.range (d_len B.len (dv 0))) (blkOk_by (own := [("number", 6)]) (N := N_bundles) (sc := (defScope s_bundles)) (by decide +kernel)) rfl (fun _ _ _ _ _ => (g_one 6 sc_bundles.nd)) (fun _ _ _ _ _ => ts_nil) (fun _ _ _ _ _ => (d_lst (a_cons (dv 6) a_nil)))) (s_cons (s_for hp rfl (i_range1 B.range (d_glob c_TOOLS)) (g_one 2 sc_bundles.nd) (s_cons (s_set 3 sc_bundles.nd (se_no (d_comp rfl sc_bundles.nd (i_sq (dv 1)) (blkOk_by (own := [("row", 5)]) (N := N_bundles) (sc := (defScope s_bundles)) (by decide +kernel)) rfl (fun _ _ _ _ _ => (g_one 5 sc_bundles.nd)) (fun _ _ _ _ _ => (ts_one (dt_val (d_any rfl B.any (d_comp rfl sc_bundles.nd (i_sq (dv 5)) (blkOk_by (own := [("number", 6)]) (N := N_bundles) (sc := (relS _ (defScope s_bundles))) (by decide +kernel)) rfl (fun _ _ _ _ _ => (g_one 6 sc_bundles.nd)) (fun _ _ _ _ _ => ts_nil) (fun _ _ _ _ _ => (d_call (F_has_tool.mono (by decide)) hr takes0 (a_cons (d_ix (dv 0) (dv 6)) (a_cons (dv 2) a_nil))))))))) (fun _ _ _ _ _ => (dv 5))))) (s_one (s_if (t_gt (d_len B.len (dv 3)) d_int) (s_cons (s_new 4 sc_bundles.nd (n_lst a_nil)) (s_cons (s_for hp rfl (i_sq (dv 3)) (g_one 5 sc_bundles.nd) (s_one (s_ext 4 (se_fr (dv 5))))) (s_frz [] (by decide) (s_one (s_set 1 sc_bundles.nd (se_no (d_sortedR (hu65 hr) B.sorted (d_catL (d_comp rfl sc_bundles.nd (i_sq (dv 1)) (blkOk_by (own := [("row", 5)]) (N := N_bundles) (sc := (defScope s_bundles)) (by decide +kernel)) rfl (fun _ _ _ _ _ => (g_one 5 sc_bundles.nd)) (fun _ _ _ _ _ => (ts_one (t_notin (hu65 hr) (dv 5) (dv 3)))) (fun _ _ _ _ _ => (dv 5))) (d_lst (a_cons (d_sorted B.sorted (dv 4)) a_nil)))))))))) s_nil)))) (s_one (s_ret (dv 1)))))
abbrev s_dealing_of : Stmt := topS 34
abbrev N_dealing_of : List Str := ["errands", "hands", "hand"]
theorem sc_dealing_of : FnScope N_dealing_of ["errands", "hands"] (defScope s_dealing_of) := ⟨rfl, rfl, rfl, by decide +kernel, rfl, by decide +kernel, by decide +kernel⟩
theorem df_dealing_of (B : Bts mg) (F_dealt_on : Df P w K mg base "dealt_on" 19 3 (m_dealt_on 8)) (F_bundles : Df P w K mg base "bundles" 2 1 m_bundles) {f : Addr} {fd : FuncData} (F : Fun K "dealing_of" "dealing_of" s_dealing_of f fd) (hm : mg "dealing_of" = some (.ref f)) : Df P w K mg base "dealing_of" 20 2 m_dealing_of :=
  Df.mk' (M' := []) F hm (F.binds (ps := ["errands", "hands"]) fun _ _ _ _ _ _ us hl => match us, hl with | [_, _], _ => rfl) sc_dealing_of rfl rfl fun cdv A outer s0 H E hr tk hp =>
    (s_one (s_ret (d_call (F_dealt_on.mono (by decide)) hr tk (a_cons (dv 0) (a_cons (d_call (F_bundles.mono (by decide)) hr tk (a_cons (dv 0) a_nil)) (a_cons (d_comp rfl sc_dealing_of.nd (i_range1 B.range (dv 1)) (blkOk_by (own := [("hand", 2)]) (N := N_dealing_of) (sc := (defScope s_dealing_of)) (by decide +kernel)) rfl (fun _ _ _ _ _ => (g_one 2 sc_dealing_of.nd)) (fun _ _ _ _ _ => ts_nil) (fun _ _ _ _ _ => (d_lst a_nil))) a_nil))))))
abbrev s_dealt : Stmt := topS 35
abbrev N_dealt : List Str := ["errands", "hands"]
theorem sc_dealt : FnScope N_dealt ["errands", "hands"] (defScope s_dealt) := ⟨rfl, rfl, rfl, by decide +kernel, rfl, by decide +kernel, by decide +kernel⟩
theorem df_dealt (B : Bts mg) (F_checked : Df P w K mg base "checked" 6 1 m_checked) (F_between : Df P w K mg base "between" 2 3 m_between) (F_dealing_of : Df P w K mg base "dealing_of" 20 2 m_dealing_of) {t_HANDS : Tok} (c_HANDS : mg "HANDS" = some (.int 4 t_HANDS)) (X_NoNumber : ExcT K mg "NoNumber") {f : Addr} {fd : FuncData} (F : Fun K "dealt" "dealt" s_dealt f fd) (hm : mg "dealt" = some (.ref f)) : Df P w K mg base "dealt" 21 2 m_dealt :=
  Df.mk' (M' := []) F hm (F.binds (ps := ["errands", "hands"]) fun _ _ _ _ _ _ us hl => match us, hl with | [_, _], _ => rfl) sc_dealt rfl rfl fun cdv A outer s0 H E hr tk hp =>
    (s_cons (s_expr (d_call (F_checked.mono (by decide)) hr tk (a_cons (dv 0) a_nil))) (s_cons (s_if (dt_not (dt_val (d_call (F_between.mono (by decide)) hr tk (a_cons (dv 1) (a_cons d_int (a_cons (d_glob c_HANDS) a_nil)))))) (s_one (s_raise X_NoNumber rfl tk)) s_nil) (s_one (s_ret (d_call (F_dealing_of.mono (by decide)) hr tk (a_cons (dv 0) (a_cons (dv 1) a_nil)))))))
abbrev s__law_dealings : Stmt := topS 42
abbrev N__law_dealings : List Str := ["_law_many", "_law_hands", "_law_found", "_law_number", "_law_more", "_law_rows", "_law_hand", "_law_k", "_law_row"]
theorem sc__law_dealings : FnScope N__law_dealings ["_law_many", "_law_hands"] (defScope s__law_dealings) := ⟨rfl, rfl, rfl, by decide +kernel, rfl, by decide +kernel, by decide +kernel⟩
theorem df__law_dealings (B : Bts mg) {f : Addr} {fd : FuncData} (F : Fun K "_law_dealings" "_law_dealings" s__law_dealings f fd) (hm : mg "_law_dealings" = some (.ref f)) : Df P w K mg base "_law_dealings" 1 2 m__law_dealings :=
  Df.mk' (M' := []) F hm (F.binds (ps := ["_law_many", "_law_hands"]) fun _ _ _ _ _ _ us hl => match us, hl with | [_, _], _ => rfl) sc__law_dealings rfl rfl fun cdv A outer s0 H E hr tk hp =>
    (s_cons (s_set 2 sc__law_dealings.nd (se_no (d_lst (a_cons (d_comp rfl sc__law_dealings.nd (i_range1 B.range (dv 1)) (blkOk_by (own := [("_law_hand", 6)]) (N := N__law_dealings) (sc := (defScope s__law_dealings)) (by decide +kernel)) rfl (fun _ _ _ _ _ => (g_one 6 sc__law_dealings.nd)) (fun _ _ _ _ _ => ts_nil) (fun _ _ _ _ _ => (d_lst a_nil))) a_nil)))) (s_cons (s_for hp rfl (i_range1 B.range (dv 0)) (g_one 3 sc__law_dealings.nd) (s_cons (s_new 4 sc__law_dealings.nd (n_lst a_nil)) (s_cons (s_for hp rfl (i_sq (dv 2)) (g_one 5 sc__law_dealings.nd) (s_one (s_for hp rfl (i_range1 B.range (dv 1)) (g_one 6 sc__law_dealings.nd) (s_one (s_app 4 (se_fr (d_comp rfl sc__law_dealings.nd (i_enum B.enumerate (dv 5)) (blkOk_by (own := [("_law_k", 7), ("_law_row", 8)]) (N := N__law_dealings) (sc := (defScope s__law_dealings)) (by decide +kernel)) rfl (fun _ _ _ _ _ => (g_tup rfl (gs_cons 7 sc__law_dealings.nd (gs_cons 8 sc__law_dealings.nd gs_nil)))) (fun _ _ _ _ _ => ts_nil) (fun _ _ _ _ _ => (d_catL (dv 8) (d_rep (n_lst (a_cons (dv 3) a_nil)) (d_intc B.int (d_eq (hu65 hr) (dv 7) (dv 6))))))))))))) (s_frz [] (by decide) (s_one (s_set 2 sc__law_dealings.nd (se_no (dv 4)))))))) (s_one (s_ret (dv 2)))))
abbrev s_fitting : Stmt := topS 28
abbrev N_fitting : List Str := ["errands"]
theorem sc_fitting : FnScope N_fitting ["errands"] (defScope s_fitting) := ⟨rfl, rfl, rfl, by decide +kernel, rfl, by decide +kernel, by decide +kernel⟩
theorem df_fitting (B : Bts mg) (F_fitting_of : Df P w K mg base "fitting_of" 9 1 m_fitting_of) (F_checked : Df P w K mg base "checked" 6 1 m_checked) {f : Addr} {fd : FuncData} (F : Fun K "fitting" "fitting" s_fitting f fd) (hm : mg "fitting" = some (.ref f)) : Df P w K mg base "fitting" 10 1 m_fitting :=
  Df.mk' (M' := []) F hm (F.binds (ps := ["errands"]) fun _ _ _ _ _ _ us hl => match us, hl with | [_], _ => rfl) sc_fitting rfl rfl fun cdv A outer s0 H E hr tk hp =>
    (s_one (s_ret (d_call (F_fitting_of.mono (by decide)) hr tk (a_cons (d_call (F_checked.mono (by decide)) hr tk (a_cons (dv 0) a_nil)) a_nil))))
abbrev s__law_is_dealing : Stmt := topS 41
abbrev N__law_is_dealing : List Str := ["_law_errands_here", "_law_rows", "_law_row", "_law_other", "_law_number", "_law_here", "_law_length", "_law_tool"]
theorem sc__law_is_dealing : FnScope N__law_is_dealing ["_law_errands_here", "_law_rows"] (defScope s__law_is_dealing) := ⟨rfl, rfl, rfl, by decide +kernel, rfl, by decide +kernel, by decide +kernel⟩
theorem df__law_is_dealing (B : Bts mg) (F_fitting : Df P w K mg base "fitting" 10 1 m_fitting) {f : Addr} {fd : FuncData} (F : Fun K "_law_is_dealing" "_law_is_dealing" s__law_is_dealing f fd) (hm : mg "_law_is_dealing" = some (.ref f)) : Df P w K mg base "_law_is_dealing" 11 2 m__law_is_dealing :=
  Df.mk' (M' := []) F hm (F.binds (ps := ["_law_errands_here", "_law_rows"]) fun _ _ _ _ _ _ us hl => match us, hl with | [_, _], _ => rfl) sc__law_is_dealing rfl rfl fun cdv A outer s0 H E hr tk hp =>
    (s_cons (s_for hp rfl (i_sq (dv 1)) (g_one 2 sc__law_is_dealing.nd) (s_cons (s_if (dwt (dw_and (t_ne (hu65 hr) (dv 2) (d_lst a_nil)) (dw_and1 (t_is (d_call (F_fitting.mono (by decide)) hr tk (a_cons (d_tupc B.tuple (d_comp rfl sc__law_is_dealing.nd (i_sq (dv 2)) (blkOk_by (own := [("_law_number", 4)]) (N := N__law_is_dealing) (sc := (defScope s__law_is_dealing)) (by decide +kernel)) rfl (fun _ _ _ _ _ => (g_one 4 sc__law_is_dealing.nd)) (fun _ _ _ _ _ => ts_nil) (fun _ _ _ _ _ => (d_ix (dv 0) (dv 4))))) a_nil)) d_non)))) (s_one (s_ret d_bl)) s_nil) (s_one (s_for hp rfl (i_range1 B.range (d_len B.len (dv 0))) (g_one 3 sc__law_is_dealing.nd) (s_one (s_if (t_notin (hu65 hr) (dv 3) (dv 2)) (s_one (s_for hp rfl (i_sq (dv 2)) (g_one 4 sc__law_is_dealing.nd) (s_cons (s_set 5 sc__law_is_dealing.nd (se_no (d_comp rfl sc__law_is_dealing.nd (i_sq (d_ix (d_ix (dv 0) (dv 4)) d_int)) (blkOk_by (own := [("_law_length", 6), ("_law_tool", 7)]) (N := N__law_is_dealing) (sc := (defScope s__law_is_dealing)) (by decide +kernel)) rfl (fun _ _ _ _ _ => (g_tup rfl (gs_cons 6 sc__law_is_dealing.nd (gs_cons 7 sc__law_is_dealing.nd gs_nil)))) (fun _ _ _ _ _ => (ts_one (t_isnot (dv 7) d_non))) (fun _ _ _ _ _ => (dv 7))))) (s_one (s_if (t_ne (hu65 hr) (d_comp rfl sc__law_is_dealing.nd (i_sq (d_ix (d_ix (dv 0) (dv 3)) d_int)) (blkOk_by (own := [("_law_length", 6), ("_law_tool", 7)]) (N := N__law_is_dealing) (sc := (defScope s__law_is_dealing)) (by decide +kernel)) rfl (fun _ _ _ _ _ => (g_tup rfl (gs_cons 6 sc__law_is_dealing.nd (gs_cons 7 sc__law_is_dealing.nd gs_nil)))) (fun _ _ _ _ _ => (ts_one (t_in (hu65 hr) (dv 7) (dv 5)))) (fun _ _ _ _ _ => (dv 7))) (d_lst a_nil)) (s_one (s_ret d_bl)) s_nil))))) s_nil)))))) (s_one (s_ret d_bl)))
abbrev s_law : Stmt := topS 43
abbrev N_law : List Str := ["_law_script", "_law_errands_here", "_law_hands", "_law_answer", "_law_row", "_law_whole", "_law_rows"]
theorem sc_law : FnScope N_law ["_law_script"] (defScope s_law) := ⟨rfl, rfl, rfl, by decide +kernel, rfl, by decide +kernel, by decide +kernel⟩
theorem fn_law (B : Bts mg) (F__law_errands : Df P w K mg base "_law_errands" 4 5 m__law_errands) (F__law_mixed : Df P w K mg base "_law_mixed" 2 3 m__law_mixed) (F_dealt : Df P w K mg base "dealt" 21 2 m_dealt) (F__law_dealings : Df P w K mg base "_law_dealings" 1 2 m__law_dealings) (F__law_is_dealing : Df P w K mg base "_law_is_dealing" 11 2 m__law_is_dealing) {f : Addr} {fd : FuncData} (F : Fun K "law" "law" s_law f fd) : FnOk P w K mg base (L2.CX P w) 22 f fd ["_law_script"] (spD K mg 1 m_law_k18) :=
  fn_mk' (M' := []) F sc_law rfl rfl fun cdv A outer s0 H E hr tk hp =>
    (s_cons (s_set 1 sc_law.nd (se_no (d_call (F__law_errands.mono (by decide)) hr tk (a_cons (dv 0) (a_cons d_int (a_cons d_int (a_cons d_int (a_cons d_bl a_nil)))))))) (s_cons (s_set 2 sc_law.nd (se_no (d_add d_int (d_call (F__law_mixed.mono (by decide)) hr tk (a_cons (dv 0) (a_cons d_int (a_cons d_int a_nil))))))) (s_cons (s_set 3 sc_law.nd (se_no (d_call (F_dealt.mono (by decide)) hr tk (a_cons (dv 1) (a_cons (dv 2) a_nil))))) (s_cons (s_if (t_is (dv 3) d_non) (s_one (s_ret (d_eq (hu65 hr) (d_comp rfl sc_law.nd (i_sq (d_call (F__law_dealings.mono (by decide)) hr tk (a_cons (d_len B.len (dv 1)) (a_cons (dv 2) a_nil)))) (blkOk_by (own := [("_law_rows", 6)]) (N := N_law) (sc := (defScope s_law)) (by decide +kernel)) rfl (fun _ _ _ _ _ => (g_one 6 sc_law.nd)) (fun _ _ _ _ _ => (ts_one (dt_val (d_call (F__law_is_dealing.mono (by decide)) hr takes0 (a_cons (dv 1) (a_cons (dv 6) a_nil)))))) (fun _ _ _ _ _ => (dv 6))) (d_lst a_nil)))) s_nil) (s_cons (s_if (dwt (dw_or (dt_not (dt_val (d_isList B.isinstance B.list (dv 3)))) (dw_or1 (t_ne (hu65 hr) (d_len B.len (dv 3)) (dv 2))))) (s_one (s_ret d_bl)) s_nil) (s_cons (s_for hp rfl (i_sq (dv 3)) (g_one 4 sc_law.nd) (s_one (s_if (dwt (dw_or (dt_not (dt_val (d_isList B.isinstance B.list (dv 4)))) (dw_or1 (t_ne (hu65 hr) (dv 4) (d_sorted B.sorted (dv 4)))))) (s_one (s_ret d_bl)) s_nil))) (s_cons (s_new 5 sc_law.nd (n_lst a_nil)) (s_cons (s_for hp rfl (i_sq (dv 3)) (g_one 4 sc_law.nd) (s_one (s_ext 5 (se_fr (dv 4))))) (s_one (s_ret (d_and (d_eq (hu65 hr) (d_sorted B.sorted (dv 5)) (d_lstR1 rfl B.list B.range (d_len B.len (dv 1)))) (d_one (d_call (F__law_is_dealing.mono (by decide)) hr tk (a_cons (dv 1) (a_cons (dv 3) a_nil)))))))))))))))
end
theorem all_mk {l : PySem.W.OpenLaw} {w : World} {K : PySem.W.Frag} {h : Heap} {mg : Str → Option Value} {fa : Addr} (hlaw : ∀ ns : List Int, ns.length ≤ 63 → m_law_k18 [.list (ns.map .int)] = .ok (.bool true)) (X : K.In h) (G : h.Ns mainGlobals mg) (hfa : mg "law" = some (.ref fa))
    {od__law_cell_at an__law_cell_at : Option Addr} {sl__law_cell_at : Array (Option Value)} {oc__law_cell_at kV__law_cell_at dc__law_cell_at pm__law_cell_at cd__law_cell_at ct__law_cell_at : Value} {f__law_cell_at : Addr} {od__law_mixed an__law_mixed : Option Addr} {sl__law_mixed : Array (Option Value)} {oc__law_mixed kV__law_mixed dc__law_mixed pm__law_mixed cd__law_mixed ct__law_mixed : Value} {f__law_mixed : Addr} {od__law_errand an__law_errand : Option Addr} {sl__law_errand : Array (Option Value)} {oc__law_errand kV__law_errand dc__law_errand pm__law_errand cd__law_errand ct__law_errand : Value} {f__law_errand : Addr} {od__law_errands an__law_errands : Option Addr} {sl__law_errands : Array (Option Value)} {oc__law_errands kV__law_errands dc__law_errands pm__law_errands cd__law_errands ct__law_errands : Value} {f__law_errands : Addr} {od_is_whole an_is_whole : Option Addr} {sl_is_whole : Array (Option Value)} {oc_is_whole kV_is_whole dc_is_whole pm_is_whole cd_is_whole ct_is_whole : Value} {f_is_whole : Addr} {od_between an_between : Option Addr} {sl_between : Array (Option Value)} {oc_between kV_between dc_between pm_between cd_between ct_between : Value} {f_between : Addr} {od_is_part an_is_part : Option Addr} {sl_is_part : Array (Option Value)} {oc_is_part kV_is_part dc_is_part pm_is_part cd_is_part ct_is_part : Value} {f_is_part : Addr} {od_is_errand an_is_errand : Option Addr} {sl_is_errand : Array (Option Value)} {oc_is_errand kV_is_errand dc_is_errand pm_is_errand cd_is_errand ct_is_errand : Value} {f_is_errand : Addr} {od_are_errands an_are_errands : Option Addr} {sl_are_errands : Array (Option Value)} {oc_are_errands kV_are_errands dc_are_errands pm_are_errands cd_are_errands ct_are_errands : Value} {f_are_errands : Addr} {od_checked an_checked : Option Addr} {sl_checked : Array (Option Value)} {oc_checked kV_checked dc_checked pm_checked cd_checked ct_checked : Value} {f_checked : Addr} {od_last_of an_last_of : Option Addr} {sl_last_of : Array (Option Value)} {oc_last_of kV_last_of dc_last_of pm_last_of cd_last_of ct_last_of : Value} {f_last_of : Addr} {od_work_of an_work_of : Option Addr} {sl_work_of : Array (Option Value)} {oc_work_of kV_work_of dc_work_of pm_work_of cd_work_of ct_work_of : Value} {f_work_of : Addr} {od_often an_often : Option Addr} {sl_often : Array (Option Value)} {oc_often kV_often dc_often pm_often cd_often ct_often : Value} {f_often : Addr} {od_need_with an_need_with : Option Addr} {sl_need_with : Array (Option Value)} {oc_need_with kV_need_with dc_need_with pm_need_with cd_need_with ct_need_with : Value} {f_need_with : Addr} {od_levels_with an_levels_with : Option Addr} {sl_levels_with : Array (Option Value)} {oc_levels_with kV_levels_with dc_levels_with pm_levels_with cd_levels_with ct_levels_with : Value} {f_levels_with : Addr} {od_has_tool an_has_tool : Option Addr} {sl_has_tool : Array (Option Value)} {oc_has_tool kV_has_tool dc_has_tool pm_has_tool cd_has_tool ct_has_tool : Value} {f_has_tool : Addr} {od_heights_of an_heights_of : Option Addr} {sl_heights_of : Array (Option Value)} {oc_heights_of kV_heights_of dc_heights_of pm_heights_of cd_heights_of ct_heights_of : Value} {f_heights_of : Addr} {od_hold_of an_hold_of : Option Addr} {sl_hold_of : Array (Option Value)} {oc_hold_of kV_hold_of dc_hold_of pm_hold_of cd_hold_of ct_hold_of : Value} {f_hold_of : Addr} {od_levels_of an_levels_of : Option Addr} {sl_levels_of : Array (Option Value)} {oc_levels_of kV_levels_of dc_levels_of pm_levels_of cd_levels_of ct_levels_of : Value} {f_levels_of : Addr} {od_longest_of an_longest_of : Option Addr} {sl_longest_of : Array (Option Value)} {oc_longest_of kV_longest_of dc_longest_of pm_longest_of cd_longest_of ct_longest_of : Value} {f_longest_of : Addr} {od_is_in_time an_is_in_time : Option Addr} {sl_is_in_time : Array (Option Value)} {oc_is_in_time kV_is_in_time dc_is_in_time pm_is_in_time cd_is_in_time ct_is_in_time : Value} {f_is_in_time : Addr} {od_lowest_for an_lowest_for : Option Addr} {sl_lowest_for : Array (Option Value)} {oc_lowest_for kV_lowest_for dc_lowest_for pm_lowest_for cd_lowest_for ct_lowest_for : Value} {f_lowest_for : Addr} {od_sorted_out an_sorted_out : Option Addr} {sl_sorted_out : Array (Option Value)} {oc_sorted_out kV_sorted_out dc_sorted_out pm_sorted_out cd_sorted_out ct_sorted_out : Value} {f_sorted_out : Addr} {od_fitting_of an_fitting_of : Option Addr} {sl_fitting_of : Array (Option Value)} {oc_fitting_of kV_fitting_of dc_fitting_of pm_fitting_of cd_fitting_of ct_fitting_of : Value} {f_fitting_of : Addr} {od_fits an_fits : Option Addr} {sl_fits : Array (Option Value)} {oc_fits kV_fits dc_fits pm_fits cd_fits ct_fits : Value} {f_fits : Addr} {od_dealt_on an_dealt_on : Option Addr} {sl_dealt_on : Array (Option Value)} {oc_dealt_on kV_dealt_on dc_dealt_on pm_dealt_on cd_dealt_on ct_dealt_on : Value} {f_dealt_on : Addr} {od_bundles an_bundles : Option Addr} {sl_bundles : Array (Option Value)} {oc_bundles kV_bundles dc_bundles pm_bundles cd_bundles ct_bundles : Value} {f_bundles : Addr} {od_dealing_of an_dealing_of : Option Addr} {sl_dealing_of : Array (Option Value)} {oc_dealing_of kV_dealing_of dc_dealing_of pm_dealing_of cd_dealing_of ct_dealing_of : Value} {f_dealing_of : Addr} {od_dealt an_dealt : Option Addr} {sl_dealt : Array (Option Value)} {oc_dealt kV_dealt dc_dealt pm_dealt cd_dealt ct_dealt : Value} {f_dealt : Addr} {od__law_dealings an__law_dealings : Option Addr} {sl__law_dealings : Array (Option Value)} {oc__law_dealings kV__law_dealings dc__law_dealings pm__law_dealings cd__law_dealings ct__law_dealings : Value} {f__law_dealings : Addr} {od_fitting an_fitting : Option Addr} {sl_fitting : Array (Option Value)} {oc_fitting kV_fitting dc_fitting pm_fitting cd_fitting ct_fitting : Value} {f_fitting : Addr} {od__law_is_dealing an__law_is_dealing : Option Addr} {sl__law_is_dealing : Array (Option Value)} {oc__law_is_dealing kV__law_is_dealing dc__law_is_dealing pm__law_is_dealing cd__law_is_dealing ct__law_is_dealing : Value} {f__law_is_dealing : Addr} {od_law an_law : Option Addr} {sl_law : Array (Option Value)} {oc_law kV_law dc_law pm_law cd_law ct_law : Value} {f_law : Addr} {t_TOOLS : Tok} {t_HANDS : Tok} {C_NoErrands : Addr} {C_NoNumber : Addr}
    (a__law_cell_at : PySem.W.nsIn K mainGlobals "_law_cell_at" = some (some (.ref f__law_cell_at)))
    (l__law_cell_at : K.lookup f__law_cell_at = some ⟨oc__law_cell_at, od__law_cell_at, .func (PySem.W.fnOf "_law_cell_at" "_law_cell_at" (defArgs s__law_cell_at) (defBody s__law_cell_at) (defScope s__law_cell_at) .none kV__law_cell_at dc__law_cell_at pm__law_cell_at an__law_cell_at cd__law_cell_at ct__law_cell_at), sl__law_cell_at⟩)
    (c__law_cell_at : PySem.W.codeIn K cd__law_cell_at "_law_cell_at" = true)
    (k__law_cell_at : PySem.W.keepIn K (.ref f__law_cell_at) = true)
    (a__law_mixed : PySem.W.nsIn K mainGlobals "_law_mixed" = some (some (.ref f__law_mixed)))
    (l__law_mixed : K.lookup f__law_mixed = some ⟨oc__law_mixed, od__law_mixed, .func (PySem.W.fnOf "_law_mixed" "_law_mixed" (defArgs s__law_mixed) (defBody s__law_mixed) (defScope s__law_mixed) .none kV__law_mixed dc__law_mixed pm__law_mixed an__law_mixed cd__law_mixed ct__law_mixed), sl__law_mixed⟩)
    (c__law_mixed : PySem.W.codeIn K cd__law_mixed "_law_mixed" = true)
    (k__law_mixed : PySem.W.keepIn K (.ref f__law_mixed) = true)
    (a__law_errand : PySem.W.nsIn K mainGlobals "_law_errand" = some (some (.ref f__law_errand)))
    (l__law_errand : K.lookup f__law_errand = some ⟨oc__law_errand, od__law_errand, .func (PySem.W.fnOf "_law_errand" "_law_errand" (defArgs s__law_errand) (defBody s__law_errand) (defScope s__law_errand) .none kV__law_errand dc__law_errand pm__law_errand an__law_errand cd__law_errand ct__law_errand), sl__law_errand⟩)
    (c__law_errand : PySem.W.codeIn K cd__law_errand "_law_errand" = true)
    (k__law_errand : PySem.W.keepIn K (.ref f__law_errand) = true)
    (a__law_errands : PySem.W.nsIn K mainGlobals "_law_errands" = some (some (.ref f__law_errands)))
    (l__law_errands : K.lookup f__law_errands = some ⟨oc__law_errands, od__law_errands, .func (PySem.W.fnOf "_law_errands" "_law_errands" (defArgs s__law_errands) (defBody s__law_errands) (defScope s__law_errands) .none kV__law_errands dc__law_errands pm__law_errands an__law_errands cd__law_errands ct__law_errands), sl__law_errands⟩)
    (c__law_errands : PySem.W.codeIn K cd__law_errands "_law_errands" = true)
    (k__law_errands : PySem.W.keepIn K (.ref f__law_errands) = true)
    (a_is_whole : PySem.W.nsIn K mainGlobals "is_whole" = some (some (.ref f_is_whole)))
    (l_is_whole : K.lookup f_is_whole = some ⟨oc_is_whole, od_is_whole, .func (PySem.W.fnOf "is_whole" "is_whole" (defArgs s_is_whole) (defBody s_is_whole) (defScope s_is_whole) .none kV_is_whole dc_is_whole pm_is_whole an_is_whole cd_is_whole ct_is_whole), sl_is_whole⟩)
    (c_is_whole : PySem.W.codeIn K cd_is_whole "is_whole" = true)
    (k_is_whole : PySem.W.keepIn K (.ref f_is_whole) = true)
    (a_between : PySem.W.nsIn K mainGlobals "between" = some (some (.ref f_between)))
    (l_between : K.lookup f_between = some ⟨oc_between, od_between, .func (PySem.W.fnOf "between" "between" (defArgs s_between) (defBody s_between) (defScope s_between) .none kV_between dc_between pm_between an_between cd_between ct_between), sl_between⟩)
    (c_between : PySem.W.codeIn K cd_between "between" = true)
    (k_between : PySem.W.keepIn K (.ref f_between) = true)
    (a_is_part : PySem.W.nsIn K mainGlobals "is_part" = some (some (.ref f_is_part)))
    (l_is_part : K.lookup f_is_part = some ⟨oc_is_part, od_is_part, .func (PySem.W.fnOf "is_part" "is_part" (defArgs s_is_part) (defBody s_is_part) (defScope s_is_part) .none kV_is_part dc_is_part pm_is_part an_is_part cd_is_part ct_is_part), sl_is_part⟩)
    (c_is_part : PySem.W.codeIn K cd_is_part "is_part" = true)
    (k_is_part : PySem.W.keepIn K (.ref f_is_part) = true)
    (a_is_errand : PySem.W.nsIn K mainGlobals "is_errand" = some (some (.ref f_is_errand)))
    (l_is_errand : K.lookup f_is_errand = some ⟨oc_is_errand, od_is_errand, .func (PySem.W.fnOf "is_errand" "is_errand" (defArgs s_is_errand) (defBody s_is_errand) (defScope s_is_errand) .none kV_is_errand dc_is_errand pm_is_errand an_is_errand cd_is_errand ct_is_errand), sl_is_errand⟩)
    (c_is_errand : PySem.W.codeIn K cd_is_errand "is_errand" = true)
    (k_is_errand : PySem.W.keepIn K (.ref f_is_errand) = true)
    (a_are_errands : PySem.W.nsIn K mainGlobals "are_errands" = some (some (.ref f_are_errands)))
    (l_are_errands : K.lookup f_are_errands = some ⟨oc_are_errands, od_are_errands, .func (PySem.W.fnOf "are_errands" "are_errands" (defArgs s_are_errands) (defBody s_are_errands) (defScope s_are_errands) .none kV_are_errands dc_are_errands pm_are_errands an_are_errands cd_are_errands ct_are_errands), sl_are_errands⟩)
    (c_are_errands : PySem.W.codeIn K cd_are_errands "are_errands" = true)
    (k_are_errands : PySem.W.keepIn K (.ref f_are_errands) = true)
    (a_checked : PySem.W.nsIn K mainGlobals "checked" = some (some (.ref f_checked)))
    (l_checked : K.lookup f_checked = some ⟨oc_checked, od_checked, .func (PySem.W.fnOf "checked" "checked" (defArgs s_checked) (defBody s_checked) (defScope s_checked) .none kV_checked dc_checked pm_checked an_checked cd_checked ct_checked), sl_checked⟩)
    (c_checked : PySem.W.codeIn K cd_checked "checked" = true)
    (k_checked : PySem.W.keepIn K (.ref f_checked) = true)
    (a_last_of : PySem.W.nsIn K mainGlobals "last_of" = some (some (.ref f_last_of)))
    (l_last_of : K.lookup f_last_of = some ⟨oc_last_of, od_last_of, .func (PySem.W.fnOf "last_of" "last_of" (defArgs s_last_of) (defBody s_last_of) (defScope s_last_of) .none kV_last_of dc_last_of pm_last_of an_last_of cd_last_of ct_last_of), sl_last_of⟩)
    (c_last_of : PySem.W.codeIn K cd_last_of "last_of" = true)
    (k_last_of : PySem.W.keepIn K (.ref f_last_of) = true)
    (a_work_of : PySem.W.nsIn K mainGlobals "work_of" = some (some (.ref f_work_of)))
    (l_work_of : K.lookup f_work_of = some ⟨oc_work_of, od_work_of, .func (PySem.W.fnOf "work_of" "work_of" (defArgs s_work_of) (defBody s_work_of) (defScope s_work_of) .none kV_work_of dc_work_of pm_work_of an_work_of cd_work_of ct_work_of), sl_work_of⟩)
    (c_work_of : PySem.W.codeIn K cd_work_of "work_of" = true)
    (k_work_of : PySem.W.keepIn K (.ref f_work_of) = true)
    (a_often : PySem.W.nsIn K mainGlobals "often" = some (some (.ref f_often)))
    (l_often : K.lookup f_often = some ⟨oc_often, od_often, .func (PySem.W.fnOf "often" "often" (defArgs s_often) (defBody s_often) (defScope s_often) .none kV_often dc_often pm_often an_often cd_often ct_often), sl_often⟩)
    (c_often : PySem.W.codeIn K cd_often "often" = true)
    (k_often : PySem.W.keepIn K (.ref f_often) = true)
    (a_need_with : PySem.W.nsIn K mainGlobals "need_with" = some (some (.ref f_need_with)))
    (l_need_with : K.lookup f_need_with = some ⟨oc_need_with, od_need_with, .func (PySem.W.fnOf "need_with" "need_with" (defArgs s_need_with) (defBody s_need_with) (defScope s_need_with) .none kV_need_with dc_need_with pm_need_with an_need_with cd_need_with ct_need_with), sl_need_with⟩)
    (c_need_with : PySem.W.codeIn K cd_need_with "need_with" = true)
    (k_need_with : PySem.W.keepIn K (.ref f_need_with) = true)
    (a_levels_with : PySem.W.nsIn K mainGlobals "levels_with" = some (some (.ref f_levels_with)))
    (l_levels_with : K.lookup f_levels_with = some ⟨oc_levels_with, od_levels_with, .func (PySem.W.fnOf "levels_with" "levels_with" (defArgs s_levels_with) (defBody s_levels_with) (defScope s_levels_with) .none kV_levels_with dc_levels_with pm_levels_with an_levels_with cd_levels_with ct_levels_with), sl_levels_with⟩)
    (c_levels_with : PySem.W.codeIn K cd_levels_with "levels_with" = true)
    (k_levels_with : PySem.W.keepIn K (.ref f_levels_with) = true)
    (a_has_tool : PySem.W.nsIn K mainGlobals "has_tool" = some (some (.ref f_has_tool)))
    (l_has_tool : K.lookup f_has_tool = some ⟨oc_has_tool, od_has_tool, .func (PySem.W.fnOf "has_tool" "has_tool" (defArgs s_has_tool) (defBody s_has_tool) (defScope s_has_tool) .none kV_has_tool dc_has_tool pm_has_tool an_has_tool cd_has_tool ct_has_tool), sl_has_tool⟩)
    (c_has_tool : PySem.W.codeIn K cd_has_tool "has_tool" = true)
    (k_has_tool : PySem.W.keepIn K (.ref f_has_tool) = true)
    (a_heights_of : PySem.W.nsIn K mainGlobals "heights_of" = some (some (.ref f_heights_of)))
    (l_heights_of : K.lookup f_heights_of = some ⟨oc_heights_of, od_heights_of, .func (PySem.W.fnOf "heights_of" "heights_of" (defArgs s_heights_of) (defBody s_heights_of) (defScope s_heights_of) .none kV_heights_of dc_heights_of pm_heights_of an_heights_of cd_heights_of ct_heights_of), sl_heights_of⟩)
    (c_heights_of : PySem.W.codeIn K cd_heights_of "heights_of" = true)
    (k_heights_of : PySem.W.keepIn K (.ref f_heights_of) = true)
    (a_hold_of : PySem.W.nsIn K mainGlobals "hold_of" = some (some (.ref f_hold_of)))
    (l_hold_of : K.lookup f_hold_of = some ⟨oc_hold_of, od_hold_of, .func (PySem.W.fnOf "hold_of" "hold_of" (defArgs s_hold_of) (defBody s_hold_of) (defScope s_hold_of) .none kV_hold_of dc_hold_of pm_hold_of an_hold_of cd_hold_of ct_hold_of), sl_hold_of⟩)
    (c_hold_of : PySem.W.codeIn K cd_hold_of "hold_of" = true)
    (k_hold_of : PySem.W.keepIn K (.ref f_hold_of) = true)
    (a_levels_of : PySem.W.nsIn K mainGlobals "levels_of" = some (some (.ref f_levels_of)))
    (l_levels_of : K.lookup f_levels_of = some ⟨oc_levels_of, od_levels_of, .func (PySem.W.fnOf "levels_of" "levels_of" (defArgs s_levels_of) (defBody s_levels_of) (defScope s_levels_of) .none kV_levels_of dc_levels_of pm_levels_of an_levels_of cd_levels_of ct_levels_of), sl_levels_of⟩)
    (c_levels_of : PySem.W.codeIn K cd_levels_of "levels_of" = true)
    (k_levels_of : PySem.W.keepIn K (.ref f_levels_of) = true)
    (a_longest_of : PySem.W.nsIn K mainGlobals "longest_of" = some (some (.ref f_longest_of)))
    (l_longest_of : K.lookup f_longest_of = some ⟨oc_longest_of, od_longest_of, .func (PySem.W.fnOf "longest_of" "longest_of" (defArgs s_longest_of) (defBody s_longest_of) (defScope s_longest_of) .none kV_longest_of dc_longest_of pm_longest_of an_longest_of cd_longest_of ct_longest_of), sl_longest_of⟩)
    (c_longest_of : PySem.W.codeIn K cd_longest_of "longest_of" = true)
    (k_longest_of : PySem.W.keepIn K (.ref f_longest_of) = true)
    (a_is_in_time : PySem.W.nsIn K mainGlobals "is_in_time" = some (some (.ref f_is_in_time)))
    (l_is_in_time : K.lookup f_is_in_time = some ⟨oc_is_in_time, od_is_in_time, .func (PySem.W.fnOf "is_in_time" "is_in_time" (defArgs s_is_in_time) (defBody s_is_in_time) (defScope s_is_in_time) .none kV_is_in_time dc_is_in_time pm_is_in_time an_is_in_time cd_is_in_time ct_is_in_time), sl_is_in_time⟩)
    (c_is_in_time : PySem.W.codeIn K cd_is_in_time "is_in_time" = true)
    (k_is_in_time : PySem.W.keepIn K (.ref f_is_in_time) = true)
    (a_lowest_for : PySem.W.nsIn K mainGlobals "lowest_for" = some (some (.ref f_lowest_for)))
    (l_lowest_for : K.lookup f_lowest_for = some ⟨oc_lowest_for, od_lowest_for, .func (PySem.W.fnOf "lowest_for" "lowest_for" (defArgs s_lowest_for) (defBody s_lowest_for) (defScope s_lowest_for) .none kV_lowest_for dc_lowest_for pm_lowest_for an_lowest_for cd_lowest_for ct_lowest_for), sl_lowest_for⟩)
    (c_lowest_for : PySem.W.codeIn K cd_lowest_for "lowest_for" = true)
    (k_lowest_for : PySem.W.keepIn K (.ref f_lowest_for) = true)
    (a_sorted_out : PySem.W.nsIn K mainGlobals "sorted_out" = some (some (.ref f_sorted_out)))
    (l_sorted_out : K.lookup f_sorted_out = some ⟨oc_sorted_out, od_sorted_out, .func (PySem.W.fnOf "sorted_out" "sorted_out" (defArgs s_sorted_out) (defBody s_sorted_out) (defScope s_sorted_out) .none kV_sorted_out dc_sorted_out pm_sorted_out an_sorted_out cd_sorted_out ct_sorted_out), sl_sorted_out⟩)
    (c_sorted_out : PySem.W.codeIn K cd_sorted_out "sorted_out" = true)
    (k_sorted_out : PySem.W.keepIn K (.ref f_sorted_out) = true)
    (a_fitting_of : PySem.W.nsIn K mainGlobals "fitting_of" = some (some (.ref f_fitting_of)))
    (l_fitting_of : K.lookup f_fitting_of = some ⟨oc_fitting_of, od_fitting_of, .func (PySem.W.fnOf "fitting_of" "fitting_of" (defArgs s_fitting_of) (defBody s_fitting_of) (defScope s_fitting_of) .none kV_fitting_of dc_fitting_of pm_fitting_of an_fitting_of cd_fitting_of ct_fitting_of), sl_fitting_of⟩)
    (c_fitting_of : PySem.W.codeIn K cd_fitting_of "fitting_of" = true)
    (k_fitting_of : PySem.W.keepIn K (.ref f_fitting_of) = true)
    (a_fits : PySem.W.nsIn K mainGlobals "fits" = some (some (.ref f_fits)))
    (l_fits : K.lookup f_fits = some ⟨oc_fits, od_fits, .func (PySem.W.fnOf "fits" "fits" (defArgs s_fits) (defBody s_fits) (defScope s_fits) .none kV_fits dc_fits pm_fits an_fits cd_fits ct_fits), sl_fits⟩)
    (c_fits : PySem.W.codeIn K cd_fits "fits" = true)
    (k_fits : PySem.W.keepIn K (.ref f_fits) = true)
    (a_dealt_on : PySem.W.nsIn K mainGlobals "dealt_on" = some (some (.ref f_dealt_on)))
    (l_dealt_on : K.lookup f_dealt_on = some ⟨oc_dealt_on, od_dealt_on, .func (PySem.W.fnOf "dealt_on" "dealt_on" (defArgs s_dealt_on) (defBody s_dealt_on) (defScope s_dealt_on) .none kV_dealt_on dc_dealt_on pm_dealt_on an_dealt_on cd_dealt_on ct_dealt_on), sl_dealt_on⟩)
    (c_dealt_on : PySem.W.codeIn K cd_dealt_on "dealt_on" = true)
    (k_dealt_on : PySem.W.keepIn K (.ref f_dealt_on) = true)
    (a_bundles : PySem.W.nsIn K mainGlobals "bundles" = some (some (.ref f_bundles)))
    (l_bundles : K.lookup f_bundles = some ⟨oc_bundles, od_bundles, .func (PySem.W.fnOf "bundles" "bundles" (defArgs s_bundles) (defBody s_bundles) (defScope s_bundles) .none kV_bundles dc_bundles pm_bundles an_bundles cd_bundles ct_bundles), sl_bundles⟩)
    (c_bundles : PySem.W.codeIn K cd_bundles "bundles" = true)
    (k_bundles : PySem.W.keepIn K (.ref f_bundles) = true)
    (a_dealing_of : PySem.W.nsIn K mainGlobals "dealing_of" = some (some (.ref f_dealing_of)))
    (l_dealing_of : K.lookup f_dealing_of = some ⟨oc_dealing_of, od_dealing_of, .func (PySem.W.fnOf "dealing_of" "dealing_of" (defArgs s_dealing_of) (defBody s_dealing_of) (defScope s_dealing_of) .none kV_dealing_of dc_dealing_of pm_dealing_of an_dealing_of cd_dealing_of ct_dealing_of), sl_dealing_of⟩)
    (c_dealing_of : PySem.W.codeIn K cd_dealing_of "dealing_of" = true)
    (k_dealing_of : PySem.W.keepIn K (.ref f_dealing_of) = true)
    (a_dealt : PySem.W.nsIn K mainGlobals "dealt" = some (some (.ref f_dealt)))
    (l_dealt : K.lookup f_dealt = some ⟨oc_dealt, od_dealt, .func (PySem.W.fnOf "dealt" "dealt" (defArgs s_dealt) (defBody s_dealt) (defScope s_dealt) .none kV_dealt dc_dealt pm_dealt an_dealt cd_dealt ct_dealt), sl_dealt⟩)
    (c_dealt : PySem.W.codeIn K cd_dealt "dealt" = true)
    (k_dealt : PySem.W.keepIn K (.ref f_dealt) = true)
    (a__law_dealings : PySem.W.nsIn K mainGlobals "_law_dealings" = some (some (.ref f__law_dealings)))
    (l__law_dealings : K.lookup f__law_dealings = some ⟨oc__law_dealings, od__law_dealings, .func (PySem.W.fnOf "_law_dealings" "_law_dealings" (defArgs s__law_dealings) (defBody s__law_dealings) (defScope s__law_dealings) .none kV__law_dealings dc__law_dealings pm__law_dealings an__law_dealings cd__law_dealings ct__law_dealings), sl__law_dealings⟩)
    (c__law_dealings : PySem.W.codeIn K cd__law_dealings "_law_dealings" = true)
    (k__law_dealings : PySem.W.keepIn K (.ref f__law_dealings) = true)
    (a_fitting : PySem.W.nsIn K mainGlobals "fitting" = some (some (.ref f_fitting)))
    (l_fitting : K.lookup f_fitting = some ⟨oc_fitting, od_fitting, .func (PySem.W.fnOf "fitting" "fitting" (defArgs s_fitting) (defBody s_fitting) (defScope s_fitting) .none kV_fitting dc_fitting pm_fitting an_fitting cd_fitting ct_fitting), sl_fitting⟩)
    (c_fitting : PySem.W.codeIn K cd_fitting "fitting" = true)
    (k_fitting : PySem.W.keepIn K (.ref f_fitting) = true)
    (a__law_is_dealing : PySem.W.nsIn K mainGlobals "_law_is_dealing" = some (some (.ref f__law_is_dealing)))
    (l__law_is_dealing : K.lookup f__law_is_dealing = some ⟨oc__law_is_dealing, od__law_is_dealing, .func (PySem.W.fnOf "_law_is_dealing" "_law_is_dealing" (defArgs s__law_is_dealing) (defBody s__law_is_dealing) (defScope s__law_is_dealing) .none kV__law_is_dealing dc__law_is_dealing pm__law_is_dealing an__law_is_dealing cd__law_is_dealing ct__law_is_dealing), sl__law_is_dealing⟩)
    (c__law_is_dealing : PySem.W.codeIn K cd__law_is_dealing "_law_is_dealing" = true)
    (k__law_is_dealing : PySem.W.keepIn K (.ref f__law_is_dealing) = true)
    (a_law : PySem.W.nsIn K mainGlobals "law" = some (some (.ref f_law)))
    (l_law : K.lookup f_law = some ⟨oc_law, od_law, .func (PySem.W.fnOf "law" "law" (defArgs s_law) (defBody s_law) (defScope s_law) .none kV_law dc_law pm_law an_law cd_law ct_law), sl_law⟩)
    (c_law : PySem.W.codeIn K cd_law "law" = true)
    (k_law : PySem.W.keepIn K (.ref f_law) = true)
    (z_all : PySem.W.nsIn K mainGlobals "all" = some none)
    (z_any : PySem.W.nsIn K mainGlobals "any" = some none)
    (z_bool : PySem.W.nsIn K mainGlobals "bool" = some none)
    (z_enumerate : PySem.W.nsIn K mainGlobals "enumerate" = some none)
    (z_int : PySem.W.nsIn K mainGlobals "int" = some none)
    (z_isinstance : PySem.W.nsIn K mainGlobals "isinstance" = some none)
    (z_len : PySem.W.nsIn K mainGlobals "len" = some none)
    (z_list : PySem.W.nsIn K mainGlobals "list" = some none)
    (z_max : PySem.W.nsIn K mainGlobals "max" = some none)
    (z_min : PySem.W.nsIn K mainGlobals "min" = some none)
    (z_range : PySem.W.nsIn K mainGlobals "range" = some none)
    (z_sorted : PySem.W.nsIn K mainGlobals "sorted" = some none)
    (z_sum : PySem.W.nsIn K mainGlobals "sum" = some none)
    (z_tuple : PySem.W.nsIn K mainGlobals "tuple" = some none)
    (g_TOOLS : PySem.W.nsIn K mainGlobals "TOOLS" = some (some (.int 4 t_TOOLS)))
    (g_HANDS : PySem.W.nsIn K mainGlobals "HANDS" = some (some (.int 4 t_HANDS)))
    (x1_NoErrands : PySem.W.nsIn K mainGlobals "NoErrands" = some (some (.ref C_NoErrands)))
    (x2_NoErrands : PySem.W.excIn K C_NoErrands [.type "ValueError", .type "Exception", .type "BaseException", .type "object"] "ValueError.__new__" = true)
    (x3_NoErrands : PySem.W.keepIn K (.ref C_NoErrands) = true)
    (x4_NoErrands : PySem.W.subIn K (.ref C_NoErrands) (.type "BaseException") = some true)
    (x5_NoErrands : PySem.W.typeIn K (.ref C_NoErrands) = some (.type "type"))
    (x1_NoNumber : PySem.W.nsIn K mainGlobals "NoNumber" = some (some (.ref C_NoNumber)))
    (x2_NoNumber : PySem.W.excIn K C_NoNumber [.type "ValueError", .type "Exception", .type "BaseException", .type "object"] "ValueError.__new__" = true)
    (x3_NoNumber : PySem.W.keepIn K (.ref C_NoNumber) = true)
    (x4_NoNumber : PySem.W.subIn K (.ref C_NoNumber) (.type "BaseException") = some true)
    (x5_NoNumber : PySem.W.typeIn K (.ref C_NoNumber) = some (.type "type")) :
    ∃ fd : FuncData, (∀ (s : Shared) (v : Value), BindsTo s fd ⟨[v], []⟩ [("_law_script", v)]) ∧ ∀ base : Heap, K.In base → base.Ns mainGlobals mg → FnOk l.prog w K mg base (L2.CX l.prog w) 22 fa fd ["_law_script"] (spLaw K) := by
  have e := hfa.symm.trans (PySem.W.mg_of X G a_law)
  cases e
  have B : Bts mg := ⟨PySem.W.mg_none_of X G z_all, PySem.W.mg_none_of X G z_any, PySem.W.mg_none_of X G z_bool, PySem.W.mg_none_of X G z_enumerate, PySem.W.mg_none_of X G z_int, PySem.W.mg_none_of X G z_isinstance, PySem.W.mg_none_of X G z_len, PySem.W.mg_none_of X G z_list, PySem.W.mg_none_of X G z_max, PySem.W.mg_none_of X G z_min, PySem.W.mg_none_of X G z_range, PySem.W.mg_none_of X G z_sorted, PySem.W.mg_none_of X G z_sum, PySem.W.mg_none_of X G z_tuple⟩
  have X_NoErrands : ExcT K mg "NoErrands" := ⟨C_NoErrands, PySem.W.mg_of X G x1_NoErrands, x2_NoErrands, x3_NoErrands, x4_NoErrands, x5_NoErrands⟩
  have X_NoNumber : ExcT K mg "NoNumber" := ⟨C_NoNumber, PySem.W.mg_of X G x1_NoNumber, x2_NoNumber, x3_NoNumber, x4_NoNumber, x5_NoNumber⟩
  refine ⟨PySem.W.fnOf "law" "law" (defArgs s_law) (defBody s_law) (defScope s_law) .none kV_law dc_law pm_law an_law cd_law ct_law, fun s v => .of_eq rfl, fun base _ _ => ?_⟩
  have F__law_cell_at : Df l.prog w K mg base "_law_cell_at" 1 2 m__law_cell_at := df__law_cell_at B (fun_mk (st := s__law_cell_at) l__law_cell_at c__law_cell_at k__law_cell_at) (PySem.W.mg_of X G a__law_cell_at)
  have F__law_mixed : Df l.prog w K mg base "_law_mixed" 2 3 m__law_mixed := df__law_mixed B F__law_cell_at (fun_mk (st := s__law_mixed) l__law_mixed c__law_mixed k__law_mixed) (PySem.W.mg_of X G a__law_mixed)
  have F__law_errand : Df l.prog w K mg base "_law_errand" 3 4 m__law_errand := df__law_errand B F__law_mixed (fun_mk (st := s__law_errand) l__law_errand c__law_errand k__law_errand) (PySem.W.mg_of X G a__law_errand)
  have F__law_errands : Df l.prog w K mg base "_law_errands" 4 5 m__law_errands := df__law_errands B F__law_mixed F__law_errand (fun_mk (st := s__law_errands) l__law_errands c__law_errands k__law_errands) (PySem.W.mg_of X G a__law_errands)
  have F_is_whole : Df l.prog w K mg base "is_whole" 1 1 m_is_whole := df_is_whole B (fun_mk (st := s_is_whole) l_is_whole c_is_whole k_is_whole) (PySem.W.mg_of X G a_is_whole)
  have F_between : Df l.prog w K mg base "between" 2 3 m_between := df_between B F_is_whole (fun_mk (st := s_between) l_between c_between k_between) (PySem.W.mg_of X G a_between)
  have F_is_part : Df l.prog w K mg base "is_part" 3 1 m_is_part := df_is_part B F_between (PySem.W.mg_of X G g_TOOLS) (fun_mk (st := s_is_part) l_is_part c_is_part k_is_part) (PySem.W.mg_of X G a_is_part)
  have F_is_errand : Df l.prog w K mg base "is_errand" 4 1 m_is_errand := df_is_errand B F_between F_is_part (fun_mk (st := s_is_errand) l_is_errand c_is_errand k_is_errand) (PySem.W.mg_of X G a_is_errand)
  have F_are_errands : Df l.prog w K mg base "are_errands" 5 1 m_are_errands := df_are_errands B F_is_errand (fun_mk (st := s_are_errands) l_are_errands c_are_errands k_are_errands) (PySem.W.mg_of X G a_are_errands)
  have F_checked : Df l.prog w K mg base "checked" 6 1 m_checked := df_checked B F_are_errands X_NoErrands (fun_mk (st := s_checked) l_checked c_checked k_checked) (PySem.W.mg_of X G a_checked)
  have F_last_of : Df l.prog w K mg base "last_of" 1 1 m_last_of := df_last_of B (fun_mk (st := s_last_of) l_last_of c_last_of k_last_of) (PySem.W.mg_of X G a_last_of)
  have F_work_of : Df l.prog w K mg base "work_of" 1 1 m_work_of := df_work_of B (fun_mk (st := s_work_of) l_work_of c_work_of k_work_of) (PySem.W.mg_of X G a_work_of)
  have F_often : Df l.prog w K mg base "often" 1 2 m_often := df_often B (fun_mk (st := s_often) l_often c_often k_often) (PySem.W.mg_of X G a_often)
  have F_need_with : Df l.prog w K mg base "need_with" 2 5 m_need_with := df_need_with B F_work_of F_often (fun_mk (st := s_need_with) l_need_with c_need_with k_need_with) (PySem.W.mg_of X G a_need_with)
  have F_levels_with : Df l.prog w K mg base "levels_with" 3 4 m_levels_with := df_levels_with B F_need_with (fun_mk (st := s_levels_with) l_levels_with c_levels_with k_levels_with) (PySem.W.mg_of X G a_levels_with)
  have F_has_tool : Df l.prog w K mg base "has_tool" 1 2 m_has_tool := df_has_tool B (fun_mk (st := s_has_tool) l_has_tool c_has_tool k_has_tool) (PySem.W.mg_of X G a_has_tool)
  have F_heights_of : Df l.prog w K mg base "heights_of" 2 2 m_heights_of := df_heights_of B F_has_tool (PySem.W.mg_of X G g_TOOLS) (fun_mk (st := s_heights_of) l_heights_of c_heights_of k_heights_of) (PySem.W.mg_of X G a_heights_of)
  have F_hold_of : Df l.prog w K mg base "hold_of" 3 3 m_hold_of := df_hold_of B F_heights_of (fun_mk (st := s_hold_of) l_hold_of c_hold_of k_hold_of) (PySem.W.mg_of X G a_hold_of)
  have F_levels_of : Df l.prog w K mg base "levels_of" 4 3 m_levels_of := df_levels_of B F_levels_with F_hold_of (fun_mk (st := s_levels_of) l_levels_of c_levels_of k_levels_of) (PySem.W.mg_of X G a_levels_of)
  have F_longest_of : Df l.prog w K mg base "longest_of" 5 3 m_longest_of := df_longest_of B F_last_of F_levels_of (fun_mk (st := s_longest_of) l_longest_of c_longest_of k_longest_of) (PySem.W.mg_of X G a_longest_of)
  have F_is_in_time : Df l.prog w K mg base "is_in_time" 6 3 m_is_in_time := df_is_in_time B F_longest_of (fun_mk (st := s_is_in_time) l_is_in_time c_is_in_time k_is_in_time) (PySem.W.mg_of X G a_is_in_time)
  have F_lowest_for : Df l.prog w K mg base "lowest_for" 7 3 m_lowest_for := df_lowest_for B F_is_in_time (fun_mk (st := s_lowest_for) l_lowest_for c_lowest_for k_lowest_for) (PySem.W.mg_of X G a_lowest_for)
  have F_sorted_out : Df l.prog w K mg base "sorted_out" 8 1 m_sorted_out := df_sorted_out B F_lowest_for (fun_mk (st := s_sorted_out) l_sorted_out c_sorted_out k_sorted_out) (PySem.W.mg_of X G a_sorted_out)
  have F_fitting_of : Df l.prog w K mg base "fitting_of" 9 1 m_fitting_of := df_fitting_of B F_sorted_out (fun_mk (st := s_fitting_of) l_fitting_of c_fitting_of k_fitting_of) (PySem.W.mg_of X G a_fitting_of)
  have F_fits : Df l.prog w K mg base "fits" 10 2 m_fits := df_fits B F_fitting_of (fun_mk (st := s_fits) l_fits c_fits k_fits) (PySem.W.mg_of X G a_fits)
  have F_dealt_on : Df l.prog w K mg base "dealt_on" 19 3 (m_dealt_on 8) := df_dealt_on B F_fits (fun_mk (st := s_dealt_on) l_dealt_on c_dealt_on k_dealt_on) (PySem.W.mg_of X G a_dealt_on) 8
  have F_bundles : Df l.prog w K mg base "bundles" 2 1 m_bundles := df_bundles B F_has_tool (PySem.W.mg_of X G g_TOOLS) (fun_mk (st := s_bundles) l_bundles c_bundles k_bundles) (PySem.W.mg_of X G a_bundles)
  have F_dealing_of : Df l.prog w K mg base "dealing_of" 20 2 m_dealing_of := df_dealing_of B F_dealt_on F_bundles (fun_mk (st := s_dealing_of) l_dealing_of c_dealing_of k_dealing_of) (PySem.W.mg_of X G a_dealing_of)
  have F_dealt : Df l.prog w K mg base "dealt" 21 2 m_dealt := df_dealt B F_checked F_between F_dealing_of (PySem.W.mg_of X G g_HANDS) X_NoNumber (fun_mk (st := s_dealt) l_dealt c_dealt k_dealt) (PySem.W.mg_of X G a_dealt)
  have F__law_dealings : Df l.prog w K mg base "_law_dealings" 1 2 m__law_dealings := df__law_dealings B (fun_mk (st := s__law_dealings) l__law_dealings c__law_dealings k__law_dealings) (PySem.W.mg_of X G a__law_dealings)
  have F_fitting : Df l.prog w K mg base "fitting" 10 1 m_fitting := df_fitting B F_fitting_of F_checked (fun_mk (st := s_fitting) l_fitting c_fitting k_fitting) (PySem.W.mg_of X G a_fitting)
  have F__law_is_dealing : Df l.prog w K mg base "_law_is_dealing" 11 2 m__law_is_dealing := df__law_is_dealing B F_fitting (fun_mk (st := s__law_is_dealing) l__law_is_dealing c__law_is_dealing k__law_is_dealing) (PySem.W.mg_of X G a__law_is_dealing)
  exact law_fn (fn_law B F__law_errands F__law_mixed F_dealt F__law_dealings F__law_is_dealing (fun_mk (st := s_law) l_law c_law k_law)) hlaw
end L2.DL.Wk_k18_dealt
open PySem PySem.W PyProof.Rows
set_option maxHeartbeats 0 in
theorem PySem.Challenge.cw_ranksure_k18_dealt_holds : PySem.Challenge.rw_ranksure_k18_dealt.Holds := by
  w_on; o_law; k_head; (case hw => w_witness2)
  k_fill
  refine L2.walk_of (l := PySem.Challenge.rw_ranksure_k18_dealt) (n := 63) (k := 22) (x := "_law_script") (CX := fun w => L2.CX (PySem.Challenge.rw_ranksure_k18_dealt).prog w) (sp := fun w => L2.DL.spLaw _) rfl (by decide) rfl ⟨rfl, by decide, by decide⟩ (fun w h Y => PySem.W.kIn_of Y) ?F (fun _ _ a ns hl _ hS => ⟨a, ns, rfl, hS, hl, fun _ => rfl⟩) (fun _ _ _ _ _ h => L2.DL.cx_end h)
  case F =>
    intro w mg fa h KX G hmg
    refine' L2.DL.Wk_k18_dealt.all_mk L2.DL.hlaw_k18 KX G hmg ?a__law_cell_at ?l__law_cell_at ?c__law_cell_at ?k__law_cell_at ?a__law_mixed ?l__law_mixed ?c__law_mixed ?k__law_mixed ?a__law_errand ?l__law_errand ?c__law_errand ?k__law_errand ?a__law_errands ?l__law_errands ?c__law_errands ?k__law_errands ?a_is_whole ?l_is_whole ?c_is_whole ?k_is_whole ?a_between ?l_between ?c_between ?k_between ?a_is_part ?l_is_part ?c_is_part ?k_is_part ?a_is_errand ?l_is_errand ?c_is_errand ?k_is_errand ?a_are_errands ?l_are_errands ?c_are_errands ?k_are_errands ?a_checked ?l_checked ?c_checked ?k_checked ?a_last_of ?l_last_of ?c_last_of ?k_last_of ?a_work_of ?l_work_of ?c_work_of ?k_work_of ?a_often ?l_often ?c_often ?k_often ?a_need_with ?l_need_with ?c_need_with ?k_need_with ?a_levels_with ?l_levels_with ?c_levels_with ?k_levels_with ?a_has_tool ?l_has_tool ?c_has_tool ?k_has_tool ?a_heights_of ?l_heights_of ?c_heights_of ?k_heights_of ?a_hold_of ?l_hold_of ?c_hold_of ?k_hold_of ?a_levels_of ?l_levels_of ?c_levels_of ?k_levels_of ?a_longest_of ?l_longest_of ?c_longest_of ?k_longest_of ?a_is_in_time ?l_is_in_time ?c_is_in_time ?k_is_in_time ?a_lowest_for ?l_lowest_for ?c_lowest_for ?k_lowest_for ?a_sorted_out ?l_sorted_out ?c_sorted_out ?k_sorted_out ?a_fitting_of ?l_fitting_of ?c_fitting_of ?k_fitting_of ?a_fits ?l_fits ?c_fits ?k_fits ?a_dealt_on ?l_dealt_on ?c_dealt_on ?k_dealt_on ?a_bundles ?l_bundles ?c_bundles ?k_bundles ?a_dealing_of ?l_dealing_of ?c_dealing_of ?k_dealing_of ?a_dealt ?l_dealt ?c_dealt ?k_dealt ?a__law_dealings ?l__law_dealings ?c__law_dealings ?k__law_dealings ?a_fitting ?l_fitting ?c_fitting ?k_fitting ?a__law_is_dealing ?l__law_is_dealing ?c__law_is_dealing ?k__law_is_dealing ?a_law ?l_law ?c_law ?k_law ?z_all ?z_any ?z_bool ?z_enumerate ?z_int ?z_isinstance ?z_len ?z_list ?z_max ?z_min ?z_range ?z_sorted ?z_sum ?z_tuple ?g_TOOLS ?g_HANDS ?x1_NoErrands ?x2_NoErrands ?x3_NoErrands ?x4_NoErrands ?x5_NoErrands ?x1_NoNumber ?x2_NoNumber ?x3_NoNumber ?x4_NoNumber ?x5_NoNumber
    (case a__law_cell_at => k_is)
    (case l__law_cell_at => k_is)
    (case c__law_cell_at => k_is)
    (case k__law_cell_at => k_is)
    (case a__law_mixed => k_is)
    (case l__law_mixed => k_is)
    (case c__law_mixed => k_is)
    (case k__law_mixed => k_is)
    (case a__law_errand => k_is)
    (case l__law_errand => k_is)
    (case c__law_errand => k_is)
    (case k__law_errand => k_is)
    (case a__law_errands => k_is)
    (case l__law_errands => k_is)
    (case c__law_errands => k_is)
    (case k__law_errands => k_is)
    (case a_is_whole => k_is)
    (case l_is_whole => k_is)
    (case c_is_whole => k_is)
    (case k_is_whole => k_is)
    (case a_between => k_is)
    (case l_between => k_is)
    (case c_between => k_is)
    (case k_between => k_is)
    (case a_is_part => k_is)
    (case l_is_part => k_is)
    (case c_is_part => k_is)
    (case k_is_part => k_is)
    (case a_is_errand => k_is)
    (case l_is_errand => k_is)
    (case c_is_errand => k_is)
    (case k_is_errand => k_is)
    (case a_are_errands => k_is)
    (case l_are_errands => k_is)
    (case c_are_errands => k_is)
    (case k_are_errands => k_is)
    (case a_checked => k_is)
    (case l_checked => k_is)
    (case c_checked => k_is)
    (case k_checked => k_is)
    (case a_last_of => k_is)
    (case l_last_of => k_is)
    (case c_last_of => k_is)
    (case k_last_of => k_is)
    (case a_work_of => k_is)
    (case l_work_of => k_is)
    (case c_work_of => k_is)
    (case k_work_of => k_is)
    (case a_often => k_is)
    (case l_often => k_is)
    (case c_often => k_is)
    (case k_often => k_is)
    (case a_need_with => k_is)
    (case l_need_with => k_is)
    (case c_need_with => k_is)
    (case k_need_with => k_is)
    (case a_levels_with => k_is)
    (case l_levels_with => k_is)
    (case c_levels_with => k_is)
    (case k_levels_with => k_is)
    (case a_has_tool => k_is)
    (case l_has_tool => k_is)
    (case c_has_tool => k_is)
    (case k_has_tool => k_is)
    (case a_heights_of => k_is)
    (case l_heights_of => k_is)
    (case c_heights_of => k_is)
    (case k_heights_of => k_is)
    (case a_hold_of => k_is)
    (case l_hold_of => k_is)
    (case c_hold_of => k_is)
    (case k_hold_of => k_is)
    (case a_levels_of => k_is)
    (case l_levels_of => k_is)
    (case c_levels_of => k_is)
    (case k_levels_of => k_is)
    (case a_longest_of => k_is)
    (case l_longest_of => k_is)
    (case c_longest_of => k_is)
    (case k_longest_of => k_is)
    (case a_is_in_time => k_is)
    (case l_is_in_time => k_is)
    (case c_is_in_time => k_is)
    (case k_is_in_time => k_is)
    (case a_lowest_for => k_is)
    (case l_lowest_for => k_is)
    (case c_lowest_for => k_is)
    (case k_lowest_for => k_is)
    (case a_sorted_out => k_is)
    (case l_sorted_out => k_is)
    (case c_sorted_out => k_is)
    (case k_sorted_out => k_is)
    (case a_fitting_of => k_is)
    (case l_fitting_of => k_is)
    (case c_fitting_of => k_is)
    (case k_fitting_of => k_is)
    (case a_fits => k_is)
    (case l_fits => k_is)
    (case c_fits => k_is)
    (case k_fits => k_is)
    (case a_dealt_on => k_is)
    (case l_dealt_on => k_is)
    (case c_dealt_on => k_is)
    (case k_dealt_on => k_is)
    (case a_bundles => k_is)
    (case l_bundles => k_is)
    (case c_bundles => k_is)
    (case k_bundles => k_is)
    (case a_dealing_of => k_is)
    (case l_dealing_of => k_is)
    (case c_dealing_of => k_is)
    (case k_dealing_of => k_is)
    (case a_dealt => k_is)
    (case l_dealt => k_is)
    (case c_dealt => k_is)
    (case k_dealt => k_is)
    (case a__law_dealings => k_is)
    (case l__law_dealings => k_is)
    (case c__law_dealings => k_is)
    (case k__law_dealings => k_is)
    (case a_fitting => k_is)
    (case l_fitting => k_is)
    (case c_fitting => k_is)
    (case k_fitting => k_is)
    (case a__law_is_dealing => k_is)
    (case l__law_is_dealing => k_is)
    (case c__law_is_dealing => k_is)
    (case k__law_is_dealing => k_is)
    (case a_law => k_is)
    (case l_law => k_is)
    (case c_law => k_is)
    (case k_law => k_is)
    (case z_all => k_is)
    (case z_any => k_is)
    (case z_bool => k_is)
    (case z_enumerate => k_is)
    (case z_int => k_is)
    (case z_isinstance => k_is)
    (case z_len => k_is)
    (case z_list => k_is)
    (case z_max => k_is)
    (case z_min => k_is)
    (case z_range => k_is)
    (case z_sorted => k_is)
    (case z_sum => k_is)
    (case z_tuple => k_is)
    (case g_TOOLS => k_is)
    (case g_HANDS => k_is)
    (case x1_NoErrands => k_is)
    (case x2_NoErrands => k_exc)
    (case x3_NoErrands => k_is)
    (case x4_NoErrands => k_is)
    (case x5_NoErrands => k_is)
    (case x1_NoNumber => k_is)
    (case x2_NoNumber => k_exc)
    (case x3_NoNumber => k_is)
    (case x4_NoNumber => k_is)
    (case x5_NoNumber => k_is)
