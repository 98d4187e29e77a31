import PyProof.Rows.All
import HandS.ForMost
import KE.SortData
import PyProof.ReprRoads
import HandS.Wide
import HandS.Deep
import HandS.TupAny
import HandS.Flow
import HandS.Defaults
import KE.DataMinMax
import HandS.IsInst
import HandS.Set
import HandS.SetFor
import HandS.SetIn
import KE.KRevSl
import HandS.DictComp
import HandS.Iter
import HandS.TupLe
import HandS.Conv
import HandS.TupSets
import HandS.Flt
import PySem.Challenge.RW_claimshold_k31_shares_of_titles
import HandS.HeadHook1
import KE.KStateDown
import HandS.More
import HandS.Words
import HandS.WordsExc
import HandS.Head0
import HandS.Head1
import HandS.Head2
import HandS.HeadEnd
import HandS.HeadHook2
set_option Elab.async false
set_option linter.all false
set_option maxRecDepth 100000
set_option maxHeartbeats 4000000
/-! G0: values that are data or cells, the store, worlds, the invariant, freezing and peeking. -/
namespace G
open PySem PySem.Spec PyProof.Rows L2

inductive Xv where
  | d (d : PyData)
  | c (i : Nat)
instance : Inhabited Xv := ⟨.d .none⟩

inductive Ob where
  | lst (xs : List Xv)
  | tup (xs : List Xv)
  | dic (kvs : List (Key × Xv))
  | dit (kvs : List (List Key × Xv))
  | ins (C : Addr) (fs : List (Str × Xv))
  | frz (d : PyData)
abbrev Sto := List Ob

def kD : Key → PyData
  | .inl i => .int i
  | .inr x => .str x

mutual
inductive Dq (K : PySem.W.Frag) (F : Hp) : V → PyData → Prop
  | non : Dq K F .non .none
  | bl (b : Bool) : Dq K F (.bl b) (.bool b)
  | int (i : Int) : Dq K F (.int i) (.int i)
  | str (x : Str) : Dq K F (.str x) (.str x)
  | lst {a : Addr} {xs : List V} {ds : List PyData} : SqL K F a xs → DqAll K F xs ds → Dq K F (.ref a) (.list ds)
  | tup {a : Addr} {xs : List V} {ds : List PyData} : SqT K F a xs → DqAll K F xs ds → Dq K F (.ref a) (.tuple ds)
  | dic {a : Addr} {kvs : List (Key × V)} {ds : List PyData} : Rd F a (.dK kvs) → DqAll K F (kvs.map (·.2)) ds → Dq K F (.ref a) (.dict ((kvs.map fun p => kD p.1).zip ds))
inductive DqAll (K : PySem.W.Frag) (F : Hp) : List V → List PyData → Prop
  | nil : DqAll K F [] []
  | cons {v : V} {vs : List V} {d : PyData} {ds : List PyData} : Dq K F v d → DqAll K F vs ds → DqAll K F (v :: vs) (d :: ds)
end

def plainO : HO → Prop
  | .lst _ => True
  | .tup _ => True
  | .dK _ => True
  | _ => False
/-- what may be read stays to be read -/
structure SameR (F F' : Hp) : Prop where
  rd : ∀ a u, plainO u → Rd F a u → Rd F' a u
  dom : ∀ a, F a ≠ none → F' a ≠ none
  fz : ∀ a o u, F a = some (.frz o u) → F' a = some (.frz o u)
  tp : ∀ a xs, F a = some (.tup xs) → F' a = some (.tup xs)
theorem SameR.of {F F' : Hp} (s : Same F F') : SameR F F' := ⟨fun a u _ r => by
  rcases r with r | ⟨o, r⟩
  · exact .inl (s _ _ r)
  · exact .inr ⟨o, s _ _ r⟩, fun a h z => h (s.free z), fun a o u h => s _ _ h, fun a xs h => s _ _ h⟩
theorem SameR.refl (F : Hp) : SameR F F := ⟨fun _ _ _ h => h, fun _ h => h, fun _ _ _ h => h, fun _ _ h => h⟩
theorem SameR.trans {A B C : Hp} (a : SameR A B) (b : SameR B C) : SameR A C := ⟨fun x u p h => b.rd x u p (a.rd x u p h), fun x h => b.dom x (a.dom x h), fun x o u h => b.fz x o u (a.fz x o u h), fun x xs h => b.tp x xs (a.tp x xs h)⟩
theorem SameR.sqL {K : PySem.W.Frag} {F F' : Hp} (s : SameR F F') {a : Addr} {xs : List V} (h : SqL K F a xs) : SqL K F' a xs := by
  rcases h with h | h
  · exact .inl (s.rd _ _ trivial h)
  · exact .inr h
theorem SameR.sqT {K : PySem.W.Frag} {F F' : Hp} (s : SameR F F') {a : Addr} {xs : List V} (h : SqT K F a xs) : SqT K F' a xs := by
  rcases h with h | h
  · exact .inl (s.rd _ _ trivial h)
  · exact .inr h
section
variable {K : PySem.W.Frag} {F F' : Hp}
mutual
theorem Dq.same (s : SameR F F') : ∀ {v : V} {d : PyData}, Dq K F v d → Dq K F' v d
  | _, _, .non => .non
  | _, _, .bl b => .bl b
  | _, _, .int i => .int i
  | _, _, .str x => .str x
  | _, _, .lst h r => .lst (s.sqL h) (DqAll.same s r)
  | _, _, .tup h r => .tup (s.sqT h) (DqAll.same s r)
  | _, _, .dic h r => .dic (s.rd _ _ trivial h) (DqAll.same s r)
theorem DqAll.same (s : SameR F F') : ∀ {vs : List V} {ds : List PyData}, DqAll K F vs ds → DqAll K F' vs ds
  | _, _, .nil => .nil
  | _, _, .cons h r => .cons (Dq.same s h) (DqAll.same s r)
end
theorem DqAll.length : ∀ {vs : List V} {ds : List PyData}, DqAll K F vs ds → vs.length = ds.length
  | _, _, .nil => rfl
  | _, _, .cons _ r => by simp [DqAll.length r]
theorem DqAll.get : ∀ {vs : List V} {ds : List PyData} {i : Nat} {d : PyData}, DqAll K F vs ds → ds[i]? = some d → ∃ v, vs[i]? = some v ∧ Dq K F v d
  | _, _, _, _, .nil, h => by simp at h
  | _, _, 0, _, .cons h _, e => by simp at e; subst e; exact ⟨_, rfl, h⟩
  | _, _, i + 1, d, .cons _ r, e => by
    obtain ⟨v, h1, h2⟩ := DqAll.get (i := i) (d := d) r (by simpa using e)
    exact ⟨v, by simpa using h1, h2⟩
theorem DqAll.append : ∀ {vs ws : List V} {ds es : List PyData}, DqAll K F vs ds → DqAll K F ws es → DqAll K F (vs ++ ws) (ds ++ es)
  | _, _, _, _, .nil, r => r
  | _, _, _, _, .cons h t, r => .cons h (DqAll.append t r)
end

structure Wd where
  θ : List Addr
  F : Hp
  G : Hp
structure Wd.lf (W W' : Wd) : Prop where
  th : ∀ (i : Nat) a, W.θ[i]? = some a → W'.θ[i]? = some a
  f : SameR W.F W'.F
structure Wd.le (W W' : Wd) : Prop extends Wd.lf W W' where
  g : W'.G = W.G
theorem Wd.lf.refl (W : Wd) : W.lf W := ⟨fun _ _ h => h, SameR.refl _⟩
theorem Wd.lf.trans {A B C : Wd} (a : A.lf B) (b : B.lf C) : A.lf C := ⟨fun i x h => b.th i x (a.th i x h), a.f.trans b.f⟩
theorem Wd.le.refl (W : Wd) : W.le W := ⟨.refl W, rfl⟩
theorem Wd.le.trans {A B C : Wd} (a : A.le B) (b : B.le C) : A.le C := ⟨a.tolf.trans b.tolf, b.g.trans a.g⟩

def VX (K : PySem.W.Frag) (W : Wd) (v : V) : Xv → Prop
  | .d d => Dq K W.F v d
  | .c i => ∃ a, v = .ref a ∧ W.θ[i]? = some a
abbrev VXs (K : PySem.W.Frag) (W : Wd) : List V → List Xv → Prop := Paired (VX K W)
theorem VX.lf {K : PySem.W.Frag} {W W' : Wd} (l : W.lf W') {v : V} {x : Xv} (h : VX K W v x) : VX K W' v x := by
  cases x with
  | d d => exact Dq.same l.f h
  | c i => obtain ⟨a, e, q⟩ := h; exact ⟨a, e, l.th _ _ q⟩
theorem VX.le {K : PySem.W.Frag} {W W' : Wd} (l : W.le W') {v : V} {x : Xv} (h : VX K W v x) : VX K W' v x := h.lf l.tolf
theorem VXs.lf {K : PySem.W.Frag} {W W' : Wd} (l : W.lf W') {vs : List V} {xs : List Xv} (h : Paired (VX K W) vs xs) : Paired (VX K W') vs xs := L2.Paired.mapP h fun _ _ => VX.lf l
theorem VXs.le {K : PySem.W.Frag} {W W' : Wd} (l : W.le W') {vs : List V} {xs : List Xv} (h : VXs K W vs xs) : VXs K W' vs xs := L2.Paired.mapP h fun _ _ => VX.le l
abbrev dX (ds : List PyData) : List Xv := ds.map .d
theorem VXs.ofD {K : PySem.W.Frag} {W : Wd} : ∀ {vs : List V} {ds : List PyData}, DqAll K W.F vs ds → VXs K W vs (dX ds)
  | _, _, .nil => .nil
  | _, _, .cons h r => .cons h (VXs.ofD r)
theorem VXs.toD {K : PySem.W.Frag} {W : Wd} : ∀ {ds : List PyData} {vs : List V}, VXs K W vs (dX ds) → DqAll K W.F vs ds
  | [], _, h => by cases h; exact .nil
  | d :: ds, _, h => by
    cases h with
    | cons a r => exact .cons a (VXs.toD r)
theorem VXs.length {K : PySem.W.Frag} {W : Wd} {vs : List V} {xs : List Xv} (h : VXs K W vs xs) : vs.length = xs.length := Paired.length h
theorem VXs.get {K : PySem.W.Frag} {W : Wd} : ∀ {vs : List V} {xs : List Xv} {i : Nat} {x : Xv}, VXs K W vs xs → xs[i]? = some x → ∃ v, vs[i]? = some v ∧ VX K W v x
  | _, _, _, _, .nil, h => by simp at h
  | _, _, 0, _, .cons h _, e => by simp at e; subst e; exact ⟨_, rfl, h⟩
  | _, _, i + 1, x, .cons _ r, e => by
    obtain ⟨v, h1, h2⟩ := VXs.get (i := i) (x := x) r (by simpa using e)
    exact ⟨v, by simpa using h1, h2⟩
theorem VXs.getV {K : PySem.W.Frag} {W : Wd} : ∀ {vs : List V} {xs : List Xv} {i : Nat} {v : V}, VXs K W vs xs → vs[i]? = some v → ∃ x, xs[i]? = some x ∧ VX K W v x
  | _, _, _, _, .nil, h => by simp at h
  | _, _, 0, _, .cons h _, e => by simp at e; subst e; exact ⟨_, rfl, h⟩
  | _, _, i + 1, v, .cons _ r, e => by
    obtain ⟨x, h1, h2⟩ := VXs.getV (i := i) (v := v) r (by simpa using e)
    exact ⟨x, by simpa using h1, h2⟩
theorem VXs.append {K : PySem.W.Frag} {W : Wd} : ∀ {vs ws : List V} {xs ys : List Xv}, VXs K W vs xs → VXs K W ws ys → VXs K W (vs ++ ws) (xs ++ ys)
  | _, _, _, _, .nil, r => r
  | _, _, _, _, .cons h t, r => .cons h (VXs.append t r)
theorem VXs.set {K : PySem.W.Frag} {W : Wd} {v : V} {x : Xv} (h : VX K W v x) : ∀ {vs : List V} {xs : List Xv} (i : Nat), VXs K W vs xs → VXs K W (vs.set i v) (xs.set i x)
  | _, _, _, .nil => .nil
  | _, _, 0, .cons _ t => .cons h t
  | _, _, i + 1, .cons q t => .cons q (VXs.set h i t)

def KVX {κ : Type} (K : PySem.W.Frag) (W : Wd) : List (κ × V) → List (κ × Xv) → Prop := Paired fun p q => p.1 = q.1 ∧ VX K W p.2 q.2
theorem KVX.lf {κ : Type} {K : PySem.W.Frag} {W W' : Wd} (l : W.lf W') {vs : List (κ × V)} {xs : List (κ × Xv)} (h : KVX K W vs xs) : KVX K W' vs xs := L2.Paired.mapP h fun _ _ q => ⟨q.1, q.2.lf l⟩
theorem KVX.le {κ : Type} {K : PySem.W.Frag} {W W' : Wd} (l : W.le W') {vs : List (κ × V)} {xs : List (κ × Xv)} (h : KVX K W vs xs) : KVX K W' vs xs := h.lf l.tolf

/-- what stands at the address of a cell -/
def OkOb (K : PySem.W.Frag) (W : Wd) (H : Hp) (a : Addr) : Ob → Prop
  | .lst xs => W.F a = none ∧ ∃ vs, H a = some (.lst vs) ∧ VXs K W vs xs
  | .tup xs => ∃ vs, H a = some (.tup vs) ∧ VXs K W vs xs
  | .dic kvs => W.F a = none ∧ ∃ vs, H a = some (.dK vs) ∧ KVX K W vs kvs
  | .dit kvs => W.F a = none ∧ ∃ vs, H a = some (.dT vs) ∧ KVX K W vs kvs
  | .ins C fs => W.F a = none ∧ ∃ dx vs, H a = some (.ins C dx vs) ∧ KVX K W vs fs
  | .frz d => Dq K W.F (.ref a) d

structure InvS (K : PySem.W.Frag) (W : Wd) (M : Sto) (H : Hp) : Prop where
  len : W.θ.length = M.length
  nd : W.θ.Nodup
  ob : ∀ (i : Nat) a o, W.θ[i]? = some a → M[i]? = some o → OkOb K W H a o
  sf : Same W.F H
  sg : Same W.G H
  fg : ∀ a, W.F a = none ∨ W.G a = none ∨ ∃ xs, W.F a = some (.tup xs)
  tg : ∀ a ∈ W.θ, W.G a = none
  th : ∀ a ∈ W.θ, H a ≠ none

section
variable {K : PySem.W.Frag} {W W' : Wd} {M M' : Sto} {H H' : Hp}

theorem OkOb.lf (l : W.lf W') (s : H a = H' a) (f : W'.F a = W.F a) {o : Ob} (h : OkOb K W H a o) : OkOb K W' H' a o := by
  cases o with
  | lst xs => obtain ⟨h0, vs, h1, h2⟩ := h; exact ⟨f.trans h0, vs, s ▸ h1, VXs.lf l h2⟩
  | tup xs => obtain ⟨vs, h1, h2⟩ := h; exact ⟨vs, s ▸ h1, VXs.lf l h2⟩
  | dic xs => obtain ⟨h0, vs, h1, h2⟩ := h; exact ⟨f.trans h0, vs, s ▸ h1, h2.lf l⟩
  | dit xs => obtain ⟨h0, vs, h1, h2⟩ := h; exact ⟨f.trans h0, vs, s ▸ h1, h2.lf l⟩
  | ins C fs => obtain ⟨h0, dx, vs, h1, h2⟩ := h; exact ⟨f.trans h0, dx, vs, s ▸ h1, h2.lf l⟩
  | frz d => exact Dq.same l.f h
theorem OkOb.le {a : Addr} (l : W.le W') (s : H a = H' a) (f : W'.F a = W.F a) {o : Ob} (h : OkOb K W H a o) : OkOb K W' H' a o := h.lf l.tolf s f
theorem InvS.cell (I : InvS K W M H) {i : Nat} {o : Ob} (e : M[i]? = some o) : ∃ a, W.θ[i]? = some a ∧ OkOb K W H a o := by
  have hi : i < W.θ.length := by rw [I.len]; exact (List.getElem?_eq_some_iff.mp e).1
  exact ⟨W.θ[i], List.getElem?_eq_getElem hi, I.ob i _ o (List.getElem?_eq_getElem hi) e⟩
theorem InvS.fresh (I : InvS K W M H) {p : Addr} (h : H p = none) : W.F p = none ∧ W.G p = none ∧ p ∉ W.θ :=
  ⟨I.sf.free h, I.sg.free h, fun z => I.th p z h⟩
theorem same_new {H : Hp} {p : Addr} {o : HO} (h : H p = none) : Same H (upd H p o) := fun b x e => by
  rw [upd_ne (ne_of_none e h)]
  exact e
theorem get_snoc {α : Type} {l : List α} {a b : α} {i : Nat} (h : (l ++ [a])[i]? = some b) : l[i]? = some b ∨ (i = l.length ∧ b = a) := by
  by_cases hi : i < l.length
  · rw [List.getElem?_append_left hi] at h; exact .inl h
  · rw [List.getElem?_append_right (by omega)] at h
    have : i - l.length = 0 := by
      cases e : i - l.length with
      | zero => rfl
      | succ n => rw [e] at h; simp at h
    rw [this] at h
    simp at h
    exact .inr ⟨by omega, h.symm⟩
theorem get_snoc_old {α : Type} {l : List α} {a b : α} {i : Nat} (h : l[i]? = some b) : (l ++ [a])[i]? = some b := by
  rw [List.getElem?_append_left (List.getElem?_eq_some_iff.mp h).1]; exact h
/-- a new object that is nobody's data: a cell. It stands with what it holds -/
theorem InvS.newCell (I : InvS K W M H) {p : Addr} (hp : H p = none) {u : HO} {o : Ob} (ok : ∀ W' : Wd, W.le W' → W'.F p = none → OkOb K W' (upd H p u) p o) :
    InvS K ⟨W.θ ++ [p], W.F, W.G⟩ (M ++ [o]) (upd H p u) ∧ W.le ⟨W.θ ++ [p], W.F, W.G⟩ := by
  obtain ⟨f0, g0, t0⟩ := I.fresh hp
  have l : W.le ⟨W.θ ++ [p], W.F, W.G⟩ := ⟨⟨fun i a h => get_snoc_old h, SameR.refl _⟩, rfl⟩
  refine ⟨⟨by simp [I.len], ?_, fun i a o' h1 h2 => ?_, I.sf.trans (same_new hp), I.sg.trans (same_new hp), I.fg, fun a ha => ?_, fun a ha => ?_⟩, l⟩
  · show (W.θ ++ [p]).Nodup
    rw [List.nodup_append]
    exact ⟨I.nd, by simp, fun a ha b hb => by
      simp at hb; subst hb
      rintro rfl
      exact t0 ha⟩
  · rcases get_snoc h1 with h1 | ⟨e1, rfl⟩
    · rcases get_snoc h2 with h2 | ⟨e2, _⟩
      · have ha : a ≠ p := fun e => t0 (e ▸ List.mem_of_getElem? h1)
        exact (I.ob i a o' h1 h2).le l (upd_ne ha).symm rfl
      · exfalso
        have := (List.getElem?_eq_some_iff.mp h1).1
        rw [I.len] at this
        omega
    · rcases get_snoc h2 with h2 | ⟨_, rfl⟩
      · exfalso
        have := (List.getElem?_eq_some_iff.mp h2).1
        rw [← I.len] at this
        omega
      · exact ok _ l f0
  · rcases List.mem_append.mp ha with ha | ha
    · exact I.tg a ha
    · simp at ha; subst ha; exact g0
  · rcases List.mem_append.mp ha with ha | ha
    · rw [upd_ne (show a ≠ p from fun e => t0 (e ▸ ha))]; exact I.th a ha
    · simp at ha; subst ha; rw [upd_same]; simp
/-- a new object that is data from the start -/
theorem InvS.newData (I : InvS K W M H) {p : Addr} (hp : H p = none) (u : HO) :
    InvS K ⟨W.θ, upd W.F p u, W.G⟩ M (upd H p u) ∧ W.le ⟨W.θ, upd W.F p u, W.G⟩ := by
  obtain ⟨f0, g0, t0⟩ := I.fresh hp
  have l : W.le ⟨W.θ, upd W.F p u, W.G⟩ := ⟨⟨fun i a h => h, .of (same_new f0)⟩, rfl⟩
  refine ⟨⟨I.len, I.nd, fun i a o' h1 h2 => ?_, fun b o h => ?_, I.sg.trans (same_new hp), fun a => ?_, I.tg, fun a ha => ?_⟩, l⟩
  · have ha : a ≠ p := fun e => t0 (e ▸ List.mem_of_getElem? h1)
    exact (I.ob i a o' h1 h2).le l (upd_ne ha).symm (upd_ne ha)
  · by_cases e : b = p
    · subst e
      have h : upd W.F b u b = some o := h
      rw [upd_same] at h ⊢; exact h
    · have h : upd W.F p u b = some o := h
      rw [upd_ne e] at h ⊢; exact I.sf b o h
  · by_cases e : a = p
    · subst e; exact .inr (.inl g0)
    · rcases I.fg a with q | q | ⟨xs, q⟩
      · exact .inl (by show upd W.F p u a = none; rw [upd_ne e]; exact q)
      · exact .inr (.inl q)
      · exact .inr (.inr ⟨xs, by show upd W.F p u a = _; rw [upd_ne e]; exact q⟩)
  · rw [upd_ne (show a ≠ p from fun e => t0 (e ▸ ha))]; exact I.th a ha
/-- a new object that nobody knows of -/
theorem InvS.newLoose (I : InvS K W M H) {p : Addr} (hp : H p = none) (u : HO) : InvS K W M (upd H p u) := by
  obtain ⟨f0, g0, t0⟩ := I.fresh hp
  refine ⟨I.len, I.nd, fun i a o' h1 h2 => ?_, I.sf.trans (same_new hp), I.sg.trans (same_new hp), I.fg, I.tg, fun a ha => ?_⟩
  · have ha : a ≠ p := fun e => t0 (e ▸ List.mem_of_getElem? h1)
    exact (I.ob i a o' h1 h2).le (Wd.le.refl W) (upd_ne ha).symm rfl
  · rw [upd_ne (show a ≠ p from fun e => t0 (e ▸ ha))]; exact I.th a ha
/-- a cell is written -/
theorem InvS.write (I : InvS K W M H) {i : Nat} {a : Addr} (ha : W.θ[i]? = some a) (hf : W.F a = none) {u : HO} {o : Ob} (ok : OkOb K W (upd H a u) a o) : InvS K W (M.set i o) (upd H a u) := by
  have hm : a ∈ W.θ := List.mem_of_getElem? ha
  have hi := (List.getElem?_eq_some_iff.mp ha).1
  refine ⟨by simp [I.len], I.nd, fun j b o' h1 h2 => ?_, fun b x h => ?_, fun b x h => ?_, I.fg, I.tg, fun b hb => ?_⟩
  · by_cases e : j = i
    · subst e
      rw [ha] at h1; cases h1
      rw [List.getElem?_set_self (by rw [← I.len]; exact hi)] at h2
      cases h2; exact ok
    · rw [List.getElem?_set_ne (Ne.symm e)] at h2
      have hb : b ≠ a := fun z => by
        subst z
        obtain ⟨q1, e1⟩ := List.getElem?_eq_some_iff.mp h1
        obtain ⟨q2, e2⟩ := List.getElem?_eq_some_iff.mp ha
        exact e ((List.getElem_inj I.nd).mp (e1.trans e2.symm))
      exact (I.ob j b o' h1 h2).le (Wd.le.refl W) (upd_ne hb).symm rfl
  · rw [upd_ne (ne_of_none h hf)]; exact I.sf b x h
  · rw [upd_ne (ne_of_none h (I.tg a hm))]; exact I.sg b x h
  · by_cases e : b = a
    · subst e; rw [upd_same]; simp
    · rw [upd_ne e]; exact I.th b hb
/-- a cell becomes data -/
theorem InvS.freeze (I : InvS K W M H) {i : Nat} {a : Addr} (ha : W.θ[i]? = some a) (hf : W.F a = none) {u : HO} (hu : H a = some u) {d : PyData} (ok : Dq K (upd W.F a u) (.ref a) d) :
    InvS K ⟨W.θ, upd W.F a u, W.G⟩ (M.set i (.frz d)) H ∧ W.le ⟨W.θ, upd W.F a u, W.G⟩ := by
  have hm : a ∈ W.θ := List.mem_of_getElem? ha
  have hi := (List.getElem?_eq_some_iff.mp ha).1
  have l : W.le ⟨W.θ, upd W.F a u, W.G⟩ := ⟨⟨fun i a h => h, .of (same_new hf)⟩, rfl⟩
  refine ⟨⟨by simp [I.len], I.nd, fun j b o' h1 h2 => ?_, fun b x h => ?_, I.sg, fun b => ?_, I.tg, I.th⟩, l⟩
  · by_cases e : j = i
    · subst e
      have h1 : W.θ[j]? = some b := h1
      rw [ha] at h1; cases h1
      rw [List.getElem?_set_self (by rw [← I.len]; exact hi)] at h2
      cases h2; exact ok
    · rw [List.getElem?_set_ne (Ne.symm e)] at h2
      have hb : b ≠ a := fun z => by
        subst z
        obtain ⟨q1, e1⟩ := List.getElem?_eq_some_iff.mp h1
        obtain ⟨q2, e2⟩ := List.getElem?_eq_some_iff.mp ha
        exact e ((List.getElem_inj I.nd).mp (e1.trans e2.symm))
      exact (I.ob j b o' h1 h2).le l rfl (upd_ne hb)
  · have h : upd W.F a u b = some x := h
    by_cases e : b = a
    · subst e; rw [upd_same] at h; cases h; exact hu
    · rw [upd_ne e] at h; exact I.sf b x h
  · by_cases e : b = a
    · subst e; exact .inr (.inl (I.tg b hm))
    · rcases I.fg b with q | q | ⟨xs, q⟩
      · exact .inl (by show upd W.F a u b = none; rw [upd_ne e]; exact q)
      · exact .inr (.inl q)
      · exact .inr (.inr ⟨xs, by show upd W.F a u b = _; rw [upd_ne e]; exact q⟩)
/-- a cell whose object is data already -/
theorem InvS.known (I : InvS K W M H) {i : Nat} {a : Addr} (ha : W.θ[i]? = some a) {d : PyData} (ok : Dq K W.F (.ref a) d) : InvS K W (M.set i (.frz d)) H := by
  have hi := (List.getElem?_eq_some_iff.mp ha).1
  refine ⟨by simp [I.len], I.nd, fun j b o' h1 h2 => ?_, I.sf, I.sg, I.fg, I.tg, I.th⟩
  by_cases e : j = i
  · subst e
    rw [ha] at h1; cases h1
    rw [List.getElem?_set_self (by rw [← I.len]; exact hi)] at h2
    cases h2; exact ok
  · rw [List.getElem?_set_ne (Ne.symm e)] at h2
    exact I.ob j b o' h1 h2
/-- a tuple of data that stands in the heap is data -/
theorem InvS.adoptT (I : InvS K W M H) {b : Addr} {vs : List V} (hb : H b = some (.tup vs)) {ds : List PyData} (hd : DqAll K W.F vs ds) :
    ∃ W', W.le W' ∧ W'.θ = W.θ ∧ InvS K W' M H ∧ W'.F b = some (.tup vs) := by
  by_cases hf : W.F b = none
  · have l : W.le ⟨W.θ, upd W.F b (.tup vs), W.G⟩ := ⟨⟨fun i a h => h, .of (same_new hf)⟩, rfl⟩
    refine ⟨⟨W.θ, upd W.F b (.tup vs), W.G⟩, l, rfl, ⟨I.len, I.nd, fun i a o h1 h2 => ?_, fun a o h => ?_, I.sg, fun a => ?_, I.tg, I.th⟩, upd_same⟩
    · have ok := I.ob i a o h1 h2
      by_cases e : a = b
      · subst e
        cases o with
        | lst xs => obtain ⟨_, us, q, _⟩ := ok; rw [hb] at q; cases q
        | tup xs => obtain ⟨us, q1, q2⟩ := ok; exact ⟨us, q1, VXs.le l q2⟩
        | dic xs => obtain ⟨_, us, q, _⟩ := ok; rw [hb] at q; cases q
        | dit xs => obtain ⟨_, us, q, _⟩ := ok; rw [hb] at q; cases q
        | ins C fs => obtain ⟨_, dx, us, q, _⟩ := ok; rw [hb] at q; cases q
        | frz d => exact Dq.same l.f ok
      · exact ok.le l rfl (upd_ne e)
    · have h : upd W.F b (.tup vs) a = some o := h
      by_cases e : a = b
      · subst e; rw [upd_same] at h; cases h; exact hb
      · rw [upd_ne e] at h; exact I.sf a o h
    · by_cases e : a = b
      · subst e; exact .inr (.inr ⟨vs, upd_same⟩)
      · rcases I.fg a with q | q | ⟨xs, q⟩
        · exact .inl (by show upd W.F b _ a = none; rw [upd_ne e]; exact q)
        · exact .inr (.inl q)
        · exact .inr (.inr ⟨xs, by show upd W.F b _ a = _; rw [upd_ne e]; exact q⟩)
  · refine ⟨W, .refl W, rfl, I, ?_⟩
    cases h : W.F b with
    | none => exact absurd h hf
    | some o =>
      have := I.sf b o h
      rw [hb] at this
      rw [← this]
/-- the guard of a dict is not data -/
theorem InvS.fD (I : InvS K W M H) {D : Addr} {u : HO} (hg : W.G D = some u) (hu : ∀ xs, u ≠ .tup xs) : W.F D = none := by
  rcases I.fg D with q | q | ⟨xs, q⟩
  · exact q
  · rw [hg] at q; cases q
  · have h1 := I.sf D _ q
    have h2 := I.sg D _ hg
    rw [h1] at h2
    cases h2
    exact absurd rfl (hu xs)
end

/-! ### freezing and peeking -/
def frzLf (f : Sto → Xv → Option (PyData × Sto)) : Sto → List Xv → Option (List PyData × Sto)
  | M, [] => some ([], M)
  | M, x :: xs => match f M x with
    | some (d, M') => match frzLf f M' xs with
      | some (ds, M'') => some (d :: ds, M'')
      | none => none
    | none => none
def frzN : Nat → Sto → Xv → Option (PyData × Sto)
  | 0, M, x => match x with
    | .d d => some (d, M)
    | .c _ => none
  | n + 1, M, x => match x with
    | .d d => some (d, M)
    | .c i => match M[i]? with
      | some (.frz d) => some (d, M)
      | some (.lst xs) => match frzLf (frzN n) M xs with
        | some (ds, M') => match M'[i]? with
          | some (.lst _) => some (.list ds, M'.set i (.frz (.list ds)))
          | _ => none
        | none => none
      | some (.tup xs) => match frzLf (frzN n) M xs with
        | some (ds, M') => match M'[i]? with
          | some (.tup _) => some (.tuple ds, M'.set i (.frz (.tuple ds)))
          | _ => none
        | none => none
      | some (.dic kvs) => match frzLf (frzN n) M (kvs.map (·.2)) with
        | some (ds, M') => match M'[i]? with
          | some (.dic _) => some (.dict ((kvs.map fun p => kD p.1).zip ds), M'.set i (.frz (.dict ((kvs.map fun p => kD p.1).zip ds))))
          | _ => none
        | none => none
      | _ => none
abbrev frzL (n : Nat) : Sto → List Xv → Option (List PyData × Sto) := frzLf (frzN n)
def pkLf (f : Xv → Option PyData) : List Xv → Option (List PyData)
  | [] => some []
  | x :: xs => match f x with
    | some d => match pkLf f xs with
      | some ds => some (d :: ds)
      | none => none
    | none => none
def pkN : Nat → Sto → Xv → Option PyData
  | 0, _, x => match x with
    | .d d => some d
    | .c _ => none
  | n + 1, M, x => match x with
    | .d d => some d
    | .c i => match M[i]? with
      | some (.frz d) => some d
      | some (.lst xs) => match pkLf (pkN n M) xs with
        | some ds => some (.list ds)
        | none => none
      | some (.tup xs) => match pkLf (pkN n M) xs with
        | some ds => some (.tuple ds)
        | none => none
      | some (.dic kvs) => match pkLf (pkN n M) (kvs.map (·.2)) with
        | some ds => some (.dict ((kvs.map fun p => kD p.1).zip ds))
        | none => none
      | _ => none
abbrev pkL (n : Nat) (M : Sto) : List Xv → Option (List PyData) := pkLf (pkN n M)
abbrev pk (M : Sto) (x : Xv) : Option PyData := pkN 6 M x
abbrev fz (M : Sto) (x : Xv) : Option (PyData × Sto) := frzN 6 M x
abbrev fzL (M : Sto) (x : List Xv) : Option (List PyData × Sto) := frzL 6 M x

theorem pkN_d (n : Nat) (M : Sto) (d : PyData) : pkN n M (.d d) = some d := by cases n <;> rfl
theorem pkL_d (n : Nat) (M : Sto) : ∀ ds : List PyData, pkL n M (dX ds) = some ds
  | [] => rfl
  | d :: ds => by
    show pkLf (pkN n M) (.d d :: dX ds) = _
    have := pkL_d n M ds
    unfold pkL at this
    rw [pkLf, pkN_d, this]
theorem frzN_d (n : Nat) (M : Sto) (d : PyData) : frzN n M (.d d) = some (d, M) := by cases n <;> rfl
theorem frzL_d (n : Nat) (M : Sto) : ∀ ds : List PyData, frzL n M (dX ds) = some (ds, M)
  | [] => rfl
  | d :: ds => by
    show frzLf (frzN n) M (.d d :: dX ds) = _
    have := frzL_d n M ds
    unfold frzL at this
    rw [frzLf, frzN_d]
    dsimp only
    rw [this]

section
variable {K : PySem.W.Frag} {W : Wd} {M : Sto} {H : Hp}
theorem KVX.split {κ : Type} {K : PySem.W.Frag} {W : Wd} : ∀ {vs : List (κ × V)} {xs : List (κ × Xv)}, KVX K W vs xs → vs.map (·.1) = xs.map (·.1) ∧ VXs K W (vs.map (·.2)) (xs.map (·.2))
  | _, _, .nil => ⟨rfl, .nil⟩
  | _, _, .cons h r => by
    obtain ⟨e1, e2⟩ := KVX.split r
    refine ⟨?_, .cons h.2 e2⟩
    simp [h.1]
    exact e1
theorem map_fst {κ α β γ : Type} (f : κ → γ) {l : List (κ × α)} {m : List (κ × β)} (h : l.map (·.1) = m.map (·.1)) : (l.map fun p => f p.1) = m.map fun p => f p.1 := by
  have e := congrArg (List.map f) h
  rw [List.map_map, List.map_map] at e
  exact e
theorem pkLf_ok {f : Xv → Option PyData} : ∀ (xs : List Xv) (vs : List V) (ds : List PyData), (∀ x v d, VX K W v x → f x = some d → Dq K H v d) → VXs K W vs xs → pkLf f xs = some ds → DqAll K H vs ds
  | [], vs, ds, _, h, q => by
    cases h
    cases q; exact .nil
  | x :: xs, _, ds, hf, h, q => by
    cases h with
    | cons h1 h2 =>
      rw [pkLf] at q
      cases e1 : f x with
      | none => rw [e1] at q; cases q
      | some d =>
        rw [e1] at q
        dsimp only at q
        cases e2 : pkLf f xs with
        | none => rw [e2] at q; cases q
        | some ds' => rw [e2] at q; cases q; exact .cons (hf x _ d h1 e1) (pkLf_ok xs _ ds' hf h2 e2)
theorem pkN_ok (I : InvS K W M H) : ∀ (n : Nat) (x : Xv) (v : V) (d : PyData), VX K W v x → pkN n M x = some d → Dq K H v d
  | n, .d d, v, e, h, q => by
    rw [pkN_d] at q; cases q
    exact Dq.same (.of I.sf) h
  | 0, .c i, v, e, h, q => by simp [pkN] at q
  | n + 1, .c i, v, e, h, q => by
    obtain ⟨a, rfl, ha⟩ := h
    unfold pkN at q
    dsimp only at q
    cases hm : M[i]? with
    | none => rw [hm] at q; cases q
    | some o =>
      rw [hm] at q
      have ok := I.ob i a o ha hm
      have ih := pkN_ok I n
      cases o with
      | frz d => cases q; exact Dq.same (.of I.sf) ok
      | lst xs =>
        obtain ⟨_, vs, h1, h2⟩ := ok
        dsimp only at q
        cases hl : pkLf (pkN n M) xs with
        | none => rw [hl] at q; cases q
        | some ds => rw [hl] at q; cases q; exact .lst (.of h1) (pkLf_ok xs vs ds ih h2 hl)
      | tup xs =>
        obtain ⟨vs, h1, h2⟩ := ok
        dsimp only at q
        cases hl : pkLf (pkN n M) xs with
        | none => rw [hl] at q; cases q
        | some ds => rw [hl] at q; cases q; exact .tup (.of h1) (pkLf_ok xs vs ds ih h2 hl)
      | dic kvs =>
        obtain ⟨_, vs, h1, h2⟩ := ok
        obtain ⟨e1, e2⟩ := KVX.split h2
        dsimp only at q
        cases hl : pkLf (pkN n M) (kvs.map (·.2)) with
        | none => rw [hl] at q; cases q
        | some ds =>
          rw [hl] at q; cases q
          have := Dq.dic (K := K) (F := H) (a := a) (kvs := vs) (ds := ds) (.inl h1) (pkLf_ok _ _ ds ih e2 hl)
          rw [map_fst kD e1] at this
          exact this
      | dit kvs => cases q
      | ins C fs => cases q
end

section
variable {K : PySem.W.Frag} {H : Hp}
theorem frzLf_ok {f : Sto → Xv → Option (PyData × Sto)} (hf : ∀ (x : Xv) (W : Wd) (M M' : Sto) (v : V) (d : PyData), InvS K W M H → VX K W v x → f M x = some (d, M') → ∃ W', W.le W' ∧ W'.θ = W.θ ∧ InvS K W' M' H ∧ Dq K W'.F v d) :
    ∀ (xs : List Xv) (W : Wd) (M M' : Sto) (vs : List V) (ds : List PyData), InvS K W M H → VXs K W vs xs → frzLf f M xs = some (ds, M') → ∃ W', W.le W' ∧ W'.θ = W.θ ∧ InvS K W' M' H ∧ DqAll K W'.F vs ds
  | [], W, M, M', vs, ds, I, h, q => by
    cases h
    cases q; exact ⟨W, .refl W, rfl, I, .nil⟩
  | x :: xs, W, M, M', _, ds, I, h, q => by
    cases h with
    | cons h1 h2 =>
      rw [frzLf] at q
      cases e1 : f M x with
      | none => rw [e1] at q; cases q
      | some r =>
        obtain ⟨d, Ma⟩ := r
        rw [e1] at q
        dsimp only at q
        obtain ⟨W1, l1, t1, I1, r1⟩ := hf x W M Ma _ d I h1 e1
        cases e2 : frzLf f Ma xs with
        | none => rw [e2] at q; cases q
        | some r' =>
          obtain ⟨ds', Mb⟩ := r'
          rw [e2] at q
          cases q
          obtain ⟨W2, l2, t2, I2, r2⟩ := frzLf_ok hf xs W1 Ma _ _ ds' I1 (VXs.le l1 h2) e2
          exact ⟨W2, l1.trans l2, t2.trans t1, I2, .cons (r1.same l2.f) r2⟩
theorem frzN_ok : ∀ (n : Nat) (x : Xv) (W : Wd) (M M' : Sto) (v : V) (d : PyData), InvS K W M H → VX K W v x → frzN n M x = some (d, M') → ∃ W', W.le W' ∧ W'.θ = W.θ ∧ InvS K W' M' H ∧ Dq K W'.F v d
  | n, .d d, W, M, M', v, e, I, h, q => by
    rw [frzN_d] at q; cases q
    exact ⟨W, .refl W, rfl, I, h⟩
  | 0, .c i, W, M, M', v, e, I, h, q => by simp [frzN] at q
  | n + 1, .c i, W, M, M', v, e, I, h, q => by
    obtain ⟨a, rfl, ha⟩ := h
    have ih := frzN_ok n
    unfold frzN at q
    dsimp only at q
    cases hm : M[i]? with
    | none => rw [hm] at q; cases q
    | some o =>
      rw [hm] at q
      have ok := I.ob i a o ha hm
      cases o with
      | frz d => cases q; exact ⟨W, .refl W, rfl, I, ok⟩
      | lst xs =>
        obtain ⟨_, vs, h1, h2⟩ := ok
        dsimp only at q
        cases hl : frzLf (frzN n) M xs with
        | none => rw [hl] at q; cases q
        | some r =>
          obtain ⟨ds, Ma⟩ := r
          rw [hl] at q
          dsimp only at q
          obtain ⟨W1, l1, t1, I1, r1⟩ := frzLf_ok ih xs W M Ma vs ds I h2 hl
          cases hm1 : Ma[i]? with
          | none => rw [hm1] at q; cases q
          | some o1 =>
            rw [hm1] at q
            have ok1 := I1.ob i a o1 (t1 ▸ ha) hm1
            cases o1 with
            | lst ys =>
              cases q
              obtain ⟨f0, _⟩ := ok1
              obtain ⟨J, l⟩ := I1.freeze (d := .list ds) (t1 ▸ ha) f0 h1 (.lst (.of upd_same) (r1.same (.of (same_new f0))))
              exact ⟨_, l1.trans l, t1, J, .lst (.of upd_same) (r1.same (.of (same_new f0)))⟩
            | _ => cases q
      | tup xs =>
        obtain ⟨vs, h1, h2⟩ := ok
        dsimp only at q
        cases hl : frzLf (frzN n) M xs with
        | none => rw [hl] at q; cases q
        | some r =>
          obtain ⟨ds, Ma⟩ := r
          rw [hl] at q
          dsimp only at q
          obtain ⟨W1, l1, t1, I1, r1⟩ := frzLf_ok ih xs W M Ma vs ds I h2 hl
          cases hm1 : Ma[i]? with
          | none => rw [hm1] at q; cases q
          | some o1 =>
            rw [hm1] at q
            have ok1 := I1.ob i a o1 (t1 ▸ ha) hm1
            cases o1 with
            | tup ys =>
              cases q
              by_cases f0 : W1.F a = none
              · obtain ⟨J, l⟩ := I1.freeze (d := .tuple ds) (t1 ▸ ha) f0 h1 (.tup (.of upd_same) (r1.same (.of (same_new f0))))
                exact ⟨_, l1.trans l, t1, J, .tup (.of upd_same) (r1.same (.of (same_new f0)))⟩
              · have fa : W1.F a = some (.tup vs) := by
                  cases h : W1.F a with
                  | none => exact absurd h f0
                  | some o =>
                    have := I1.sf a o h
                    rw [h1] at this
                    rw [← this]
                exact ⟨W1, l1, t1, I1.known (d := .tuple ds) (t1 ▸ ha) (.tup (.of fa) r1), .tup (.of fa) r1⟩
            | _ => cases q
      | dic kvs =>
        obtain ⟨_, vs, h1, h2⟩ := ok
        obtain ⟨e1, e2⟩ := KVX.split h2
        dsimp only at q
        cases hl : frzLf (frzN n) M (kvs.map (·.2)) with
        | none => rw [hl] at q; cases q
        | some r =>
          obtain ⟨ds, Ma⟩ := r
          rw [hl] at q
          dsimp only at q
          obtain ⟨W1, l1, t1, I1, r1⟩ := frzLf_ok ih _ W M Ma _ ds I e2 hl
          cases hm1 : Ma[i]? with
          | none => rw [hm1] at q; cases q
          | some o1 =>
            rw [hm1] at q
            have ok1 := I1.ob i a o1 (t1 ▸ ha) hm1
            cases o1 with
            | dic ys =>
              cases q
              obtain ⟨f0, _⟩ := ok1
              have hd := Dq.dic (K := K) (F := upd W1.F a (.dK vs)) (a := a) (kvs := vs) (ds := ds) (.inl upd_same) (r1.same (.of (same_new f0)))
              rw [map_fst kD e1] at hd
              obtain ⟨J, l⟩ := I1.freeze (t1 ▸ ha) f0 h1 hd
              exact ⟨_, l1.trans l, t1, J, hd⟩
            | _ => cases q
      | dit kvs => cases q
      | ins C fs => cases q
end
end G

set_option Elab.async false
set_option linter.all false
set_option maxRecDepth 100000
set_option maxHeartbeats 4000000
/-! G1: the judgements over data and store; names, constants, operators, tests. -/
namespace G
open PySem PySem.Spec PyProof.Rows L2
abbrev St := L2.St

def ifS {α : Type} (o : Option α) (P : α → Prop) : Prop := match o with
  | some a => P a
  | none => False
theorem ifS_of {α : Type} {o : Option α} {P : α → Prop} (h : ifS o P) : ∃ a, o = some a ∧ P a := by
  cases o with
  | none => exact h.elim
  | some a => exact ⟨a, rfl, h⟩
@[simp] theorem ifS_some {α : Type} (a : α) (P : α → Prop) : ifS (some a) P = P a := rfl
@[simp] theorem ifS_none {α : Type} (P : α → Prop) : ifS none P = False := rfl

abbrev Sl := List (Option Xv)
abbrev RE := Sl → Sto → (Xv → Sto → Prop) → Prop
abbrev RF := Sl → Sto → (List Xv → Sto → Prop) → Prop
abbrev RT := Sl → Sto → (Bool → Sto → Prop) → Prop
inductive Out where
  | nx (σ : Sl) | rt (x : Xv) | bk (σ : Sl) | ct (σ : Sl)
abbrev RS := Sl → Sto → (Out → Sto → Prop) → Prop

def slot (σ : Sl) (i : Nat) : Option Xv := match σ[i]? with
  | some (some x) => some x
  | _ => none
def Slr (K : PySem.W.Frag) (W : Wd) (σ : St) (σx : Sl) : Prop := σ.length = σx.length ∧ ∀ (i : Nat) x, σx[i]? = some (some x) → ∃ v, σ[i]? = some (some v) ∧ VX K W v x
section
variable {K : PySem.W.Frag} {W W' : Wd} {M : Sto} {H : Hp} {σ : St} {σx : Sl}
theorem Slr.lf (l : W.lf W') (h : Slr K W σ σx) : Slr K W' σ σx := ⟨h.1, fun i x e => let ⟨v, h1, h2⟩ := h.2 i x e; ⟨v, h1, h2.lf l⟩⟩
theorem Slr.le (l : W.le W') (h : Slr K W σ σx) : Slr K W' σ σx := h.lf l.tolf
theorem Slr.set (h : Slr K W σ σx) (i : Nat) {v : V} {x : Xv} (r : VX K W v x) : Slr K W (σ.set i (some v)) (σx.set i (some x)) := by
  refine ⟨by simp [h.1], fun j y e => ?_⟩
  by_cases q : i = j
  · subst q
    by_cases hi : i < σx.length
    · rw [List.getElem?_set_self hi] at e
      cases e
      exact ⟨v, by rw [List.getElem?_set_self (by rw [h.1]; exact hi)], r⟩
    · rw [List.getElem?_eq_none (by simpa using hi)] at e; cases e
  · rw [List.getElem?_set_ne q] at e
    obtain ⟨w, h1, h2⟩ := h.2 j y e
    exact ⟨w, by rw [List.getElem?_set_ne q]; exact h1, h2⟩
theorem Slr.slot (h : Slr K W σ σx) {i : Nat} {x : Xv} (e : slot σx i = some x) : ∃ v, σ[i]? = some (some v) ∧ VX K W v x := by
  unfold G.slot at e
  split at e
  · rename_i y hy
    cases e
    exact h.2 i _ hy
  · cases e
end

/-- a loose object: nobody's -/
structure Loose (W : Wd) (H : Hp) (a : Addr) (u : HO) : Prop where
  at_ : H a = some u
  f : W.F a = none
  g : W.G a = none
  t : a ∉ W.θ
section
variable {K : PySem.W.Frag} {W : Wd} {M : Sto} {H : Hp} {a : Addr} {u : HO}
theorem InvS.loose (I : InvS K W M H) {p : Addr} (hp : H p = none) (u : HO) : InvS K W M (upd H p u) ∧ Loose W (upd H p u) p u := by
  obtain ⟨f0, g0, t0⟩ := I.fresh hp
  exact ⟨I.newLoose hp u, upd_same, f0, g0, t0⟩
theorem InvS.adoptCell (I : InvS K W M H) (L : Loose W H a u) {o : Ob} (ok : ∀ W' : Wd, W.le W' → W'.F a = none → OkOb K W' H a o) :
    InvS K ⟨W.θ ++ [a], W.F, W.G⟩ (M ++ [o]) H ∧ W.le ⟨W.θ ++ [a], W.F, W.G⟩ ∧ VX K ⟨W.θ ++ [a], W.F, W.G⟩ (.ref a) (.c M.length) := by
  have l : W.le ⟨W.θ ++ [a], W.F, W.G⟩ := ⟨⟨fun i b h => get_snoc_old h, SameR.refl _⟩, rfl⟩
  refine ⟨⟨by simp [I.len], ?_, fun i b o' h1 h2 => ?_, I.sf, I.sg, I.fg, fun b hb => ?_, fun b hb => ?_⟩, l, ⟨a, rfl, ?_⟩⟩
  · show (W.θ ++ [a]).Nodup
    rw [List.nodup_append]
    exact ⟨I.nd, by simp, fun b hb c hc => by
      simp at hc; subst hc
      rintro rfl
      exact L.t hb⟩
  · rcases get_snoc h1 with h1 | ⟨e1, rfl⟩
    · rcases get_snoc h2 with h2 | ⟨e2, _⟩
      · exact (I.ob i b o' h1 h2).le l rfl rfl
      · exfalso
        have := (List.getElem?_eq_some_iff.mp h1).1
        rw [I.len] at this
        omega
    · rcases get_snoc h2 with h2 | ⟨_, rfl⟩
      · exfalso
        have := (List.getElem?_eq_some_iff.mp h2).1
        rw [← I.len] at this
        omega
      · exact ok _ l L.f
  · rcases List.mem_append.mp hb with hb | hb
    · exact I.tg b hb
    · simp at hb; subst hb; exact L.g
  · rcases List.mem_append.mp hb with hb | hb
    · exact I.th b hb
    · simp at hb; subst hb; rw [L.at_]; simp
  · show (W.θ ++ [a])[M.length]? = some a
    rw [← I.len]
    simp
theorem InvS.adoptData (I : InvS K W M H) (L : Loose W H a u) : InvS K ⟨W.θ, upd W.F a u, W.G⟩ M H ∧ W.le ⟨W.θ, upd W.F a u, W.G⟩ := by
  have l : W.le ⟨W.θ, upd W.F a u, W.G⟩ := ⟨⟨fun i b h => h, .of (same_new L.f)⟩, rfl⟩
  refine ⟨⟨I.len, I.nd, fun i b o' h1 h2 => ?_, fun b o h => ?_, I.sg, fun b => ?_, I.tg, I.th⟩, l⟩
  · have hb : b ≠ a := fun e => L.t (e ▸ List.mem_of_getElem? h1)
    exact (I.ob i b o' h1 h2).le l rfl (upd_ne hb)
  · have h : upd W.F a u b = some o := h
    by_cases e : b = a
    · subst e; rw [upd_same] at h; cases h; exact L.at_
    · rw [upd_ne e] at h; exact I.sf b o h
  · by_cases e : b = a
    · subst e; exact .inr (.inl L.g)
    · rcases I.fg b with q | q | ⟨xs, q⟩
      · exact .inl (by show upd W.F a u b = none; rw [upd_ne e]; exact q)
      · exact .inr (.inl q)
      · exact .inr (.inr ⟨xs, by show upd W.F a u b = _; rw [upd_ne e]; exact q⟩)
end

def Snd (K : PySem.W.Frag) (t : TE) (r : RE) : Prop := ∀ (W : Wd) (M : Sto) (H : Hp) (σ : St) (σx : Sl) (P : Xv → Sto → Prop) (Q : VK), InvS K W M H → Slr K W σ σx → r σx M P →
  (∀ W' M' H' v x, W.le W' → InvS K W' M' H' → VX K W' v x → P x M' → Q v H') → t σ H Q
def SndF (K : PySem.W.Frag) (t : TE) (r : RF) : Prop := ∀ (W : Wd) (M : Sto) (H : Hp) (σ : St) (σx : Sl) (P : List Xv → Sto → Prop) (Q : VK), InvS K W M H → Slr K W σ σx → r σx M P →
  (∀ W' M' H' a vs xs, W.le W' → InvS K W' M' H' → Loose W' H' a (.lst vs) → VXs K W' vs xs → P xs M' → Q (.ref a) H') → t σ H Q
def SndT (K : PySem.W.Frag) (t : TT) (r : RT) : Prop := ∀ (W : Wd) (M : Sto) (H : Hp) (σ : St) (σx : Sl) (P : Bool → Sto → Prop) (Q : Bool → Hp → Prop), InvS K W M H → Slr K W σ σx → r σx M P →
  (∀ W' M' H' b, W.le W' → InvS K W' M' H' → P b M' → Q b H') → t σ H Q
def SndA (K : PySem.W.Frag) (t : TA) (r : RF) : Prop := ∀ (W : Wd) (M : Sto) (H : Hp) (σ : St) (σx : Sl) (P : List Xv → Sto → Prop) (Q : List V → Hp → Prop), InvS K W M H → Slr K W σ σx → r σx M P →
  (∀ W' M' H' vs xs, W.le W' → InvS K W' M' H' → VXs K W' vs xs → P xs M' → Q vs H') → t σ H Q
def Fin (K : PySem.W.Frag) (W : Wd) (D : Ends) (H : Hp) : Out → Prop
  | .nx σx => ∀ σ, Slr K W σ σx → D.nx σ H
  | .rt x => ∀ v, VX K W v x → D.rt v H
  | .bk σx => ∀ σ, Slr K W σ σx → D.bk σ H
  | .ct σx => ∀ σ, Slr K W σ σx → D.ct σ H
def SndS (K : PySem.W.Frag) (t : TS) (r : RS) : Prop := ∀ (W : Wd) (M : Sto) (H : Hp) (σ : St) (σx : Sl) (P : Out → Sto → Prop) (D : Ends), InvS K W M H → Slr K W σ σx → r σx M P →
  (∀ W' M' H' o, W.le W' → InvS K W' M' H' → P o M' → Fin K W' D H' o) → t D σ H

def SE (X : Cx) (e : Expr) (r : RE) : Prop := ∃ t, PE X e t ∧ Snd X.K t r
def SF (X : Cx) (e : Expr) (r : RF) : Prop := ∃ t, PE X e t ∧ SndF X.K t r
def SC (X : Cx) (e : Expr) (r : RT) : Prop := ∃ t, PT X e t ∧ SndT X.K t r
def SA (X : Cx) (es : List Expr) (r : RF) : Prop := ∃ t, PA X es t ∧ SndA X.K t r
def SS (X : Cx) (st : Stmt) (r : RS) : Prop := ∃ t, PS X st t ∧ SndS X.K t r
def SSs (X : Cx) (st : List Stmt) (r : RS) : Prop := ∃ t, PSs X st t ∧ SndS X.K t r

/-! ### names, constants -/
def rVar (i : Nat) : RE := fun σ M P => ifS (slot σ i) fun x => P x M
def rC (d : PyData) : RE := fun _ M P => P (.d d) M
section
variable {X : Cx}
theorem se_var (i : Nat) {x : Str} {pos : Pos} (hN : X.N[i]? = some x := by rfl) (hv : Vis X.env.scope x := by first | exact Or.inl rfl | exact Or.inr (Or.inl rfl) | exact Or.inr (Or.inr rfl)) (hd : (x == ("__debug__" : Str)) = false := by decide)
    (hcd : (x == ("__classdict__" : Str)) = false := by decide) : SE X (.Name x pos) (rVar i) := by
  refine ⟨tVar i, pe_var hN hv hd hcd, fun W M H σ σx P Q I S h q => ?_⟩
  obtain ⟨x, e, h⟩ := ifS_of h
  obtain ⟨v, h1, h2⟩ := S.slot e
  exact ⟨v, h1, q W M H v x (.refl W) I h2 h⟩
theorem snd_c {K : PySem.W.Frag} {v : V} {d : PyData} (h : ∀ F, Dq K F v d) : Snd K (tC v) (rC d) := fun W M H σ σx P Q I S h' q => q W M H v (.d d) (.refl W) I (h _) h'
theorem se_int {i : Int} {j : Nat} {pos : Pos} : SE X (.Constant (.int i) j pos) (rC (.int i)) := ⟨_, pe_int, snd_c fun _ => .int i⟩
theorem se_bl {b : Bool} {j : Nat} {pos : Pos} : SE X (.Constant (.bool b) j pos) (rC (.bool b)) := ⟨_, pe_bl, snd_c fun _ => .bl b⟩
theorem se_non {j : Nat} {pos : Pos} : SE X (.Constant .none j pos) (rC .none) := ⟨_, pe_non, snd_c fun _ => .non⟩
theorem se_str {x : Str} {j : Nat} {pos : Pos} : SE X (.Constant (.str x) j pos) (rC (.str x)) := ⟨_, pe_str, snd_c fun _ => .str x⟩
/-- an int of the module's top -/
theorem se_gint {x : Str} {pos : Pos} {i : Int} {t : Tok} (hg : Gl X x) (hm : X.mg x = some (.int i t)) (hd : (x == ("__debug__" : Str)) = false := by decide) : SE X (.Name x pos) (rC (.int i)) :=
  ⟨_, pe_glob (v := .int i) hg hm ⟨t, rfl⟩ hd, snd_c fun _ => .int i⟩
end

/-! ### a value's head -/
inductive Hd where
  | sc (d : PyData)
  | lst (xs : List Xv)
  | tup (xs : List Xv)
  | dic (kvs : List (PyData × Xv))
  | dit (kvs : List (List Key × Xv))
  | no
def hdD : PyData → Hd
  | .list ds => .lst (dX ds)
  | .tuple ds => .tup (dX ds)
  | .dict kvs => .dic (kvs.map fun p => (p.1, .d p.2))
  | d => .sc d
def hd (M : Sto) : Xv → Hd
  | .d d => hdD d
  | .c i => match M[i]? with
    | some (.lst xs) => .lst xs
    | some (.tup xs) => .tup xs
    | some (.dic kvs) => .dic (kvs.map fun p => (kD p.1, p.2))
    | some (.dit kvs) => .dit kvs
    | some (.frz d) => hdD d
    | _ => .no
def scV : PyData → V → Prop
  | .none, v => v = .non
  | .bool b, v => v = .bl b
  | .int i, v => v = .int i
  | .str x, v => v = .str x
  | _, _ => False
/-- how a head lies in the heap -/
def HdOk (K : PySem.W.Frag) (W : Wd) (H : Hp) (v : V) : Hd → Prop
  | .sc d => scV d v
  | .lst xs => ∃ a vs, v = .ref a ∧ SqL K H a vs ∧ VXs K W vs xs
  | .tup xs => ∃ a vs, v = .ref a ∧ SqT K H a vs ∧ VXs K W vs xs
  | .dic kvs => ∃ a, v = .ref a ∧ ∃ vs : List (Key × V), Rd H a (.dK vs) ∧ Paired (fun p q => kD p.1 = q.1 ∧ VX K W p.2 q.2) vs kvs
  | .dit kvs => ∃ a, v = .ref a ∧ ∃ vs : List (List Key × V), Rd H a (.dT vs) ∧ KVX K W vs kvs
  | .no => True
section
variable {K : PySem.W.Frag} {W : Wd} {M : Sto} {H : Hp}
theorem pair_zip {κ : Type} {f : κ → PyData} : ∀ {kvs : List (κ × V)} {ds : List PyData}, DqAll K W.F (kvs.map (·.2)) ds →
    Paired (fun (p : κ × V) (q : PyData × Xv) => f p.1 = q.1 ∧ VX K W p.2 q.2) kvs (((kvs.map fun p => f p.1).zip ds).map fun p => (p.1, .d p.2))
  | [], _, h => by cases h; exact .nil
  | p :: kvs, _, h => by
    cases h with
    | cons h1 h2 => exact .cons ⟨rfl, h1⟩ (pair_zip h2)
theorem hdD_ok (I : InvS K W M H) {v : V} {d : PyData} (h : Dq K W.F v d) : HdOk K W H v (hdD d) := by
  cases h with
  | non => exact (rfl : V.non = V.non)
  | bl b => exact (rfl : V.bl b = V.bl b)
  | int i => exact (rfl : V.int i = V.int i)
  | str x => exact (rfl : V.str x = V.str x)
  | lst h1 h2 => exact ⟨_, _, rfl, I.sf.seq h1, VXs.ofD h2⟩
  | tup h1 h2 => exact ⟨_, _, rfl, (SameR.of I.sf).sqT h1, VXs.ofD h2⟩
  | dic h1 h2 => exact ⟨_, rfl, _, (SameR.of I.sf).rd _ _ trivial h1, pair_zip h2⟩
theorem KVX.pair {κ : Type} {f : κ → PyData} : ∀ {vs : List (κ × V)} {xs : List (κ × Xv)}, KVX K W vs xs → Paired (fun p q => f p.1 = q.1 ∧ VX K W p.2 q.2) vs (xs.map fun p => (f p.1, p.2))
  | _, _, .nil => .nil
  | _, _, .cons h r => .cons ⟨congrArg f h.1, h.2⟩ (KVX.pair r)
theorem hd_ok (I : InvS K W M H) {v : V} {x : Xv} (h : VX K W v x) : HdOk K W H v (hd M x) := by
  cases x with
  | d d => exact hdD_ok I h
  | c i =>
    obtain ⟨a, rfl, ha⟩ := h
    cases hm : M[i]? with
    | none => simp only [hd, hm]; trivial
    | some o =>
      have ok := I.ob i a o ha hm
      cases o with
      | lst xs => simp only [hd, hm]; obtain ⟨_, vs, h1, h2⟩ := ok; exact ⟨a, vs, rfl, .of h1, h2⟩
      | tup xs => simp only [hd, hm]; obtain ⟨vs, h1, h2⟩ := ok; exact ⟨a, vs, rfl, .of h1, h2⟩
      | dic kvs => simp only [hd, hm]; obtain ⟨_, vs, h1, h2⟩ := ok; exact ⟨a, rfl, vs, .inl h1, KVX.pair h2⟩
      | dit kvs => simp only [hd, hm]; obtain ⟨_, vs, h1, h2⟩ := ok; exact ⟨a, rfl, vs, .inl h1, h2⟩
      | frz d => simp only [hd, hm]; exact hdD_ok I ok
      | ins C fs => simp only [hd, hm]; trivial
theorem HdOk.le {W' : Wd} (l : W.le W') {v : V} {h : Hd} (q : HdOk K W H v h) : HdOk K W' H v h := by
  cases h with
  | sc d => exact q
  | no => trivial
  | lst xs => obtain ⟨a, vs, e, h1, h2⟩ := q; exact ⟨a, vs, e, h1, h2.le l⟩
  | tup xs => obtain ⟨a, vs, e, h1, h2⟩ := q; exact ⟨a, vs, e, h1, h2.le l⟩
  | dic kvs =>
    obtain ⟨a, e, vs, h1, h2⟩ := q
    exact ⟨a, e, vs, h1, L2.Paired.mapP h2 fun _ _ z => ⟨z.1, z.2.le l⟩⟩
  | dit kvs =>
    obtain ⟨a, e, vs, h1, h2⟩ := q
    exact ⟨a, e, vs, h1, h2.le l⟩
end
@[simp] theorem hd_int (M : Sto) (i : Int) : hd M (.d (.int i)) = .sc (.int i) := rfl
@[simp] theorem hd_str (M : Sto) (i : Str) : hd M (.d (.str i)) = .sc (.str i) := rfl
@[simp] theorem hd_bool (M : Sto) (i : Bool) : hd M (.d (.bool i)) = .sc (.bool i) := rfl
@[simp] theorem hd_none (M : Sto) : hd M (.d .none) = .sc .none := rfl
@[simp] theorem hd_list (M : Sto) (ds : List PyData) : hd M (.d (.list ds)) = .lst (dX ds) := rfl
@[simp] theorem hd_tuple (M : Sto) (ds : List PyData) : hd M (.d (.tuple ds)) = .tup (dX ds) := rfl

/-! ### fresh lists as data, as cells -/
/-- a fresh list as data -/
def rD (r : RF) : RE := fun σ M P => r σ M fun xs M1 => ifS (fzL M1 xs) fun q => P (.d (.list q.1)) q.2
/-- .. as a cell -/
def rCl (r : RF) : RE := fun σ M P => r σ M fun xs M1 => P (.c M1.length) (M1 ++ [.lst xs])
section
variable {K : PySem.W.Frag} {t : TE} {r : RF}
theorem snd_rD (h : SndF K t r) : Snd K t (rD r) := by
  intro W M H σ σx P Q I S hr q
  refine h W M H σ σx _ Q I S hr fun W1 M1 H1 a vs xs l1 I1 L1 v1 p1 => ?_
  obtain ⟨⟨ds, M2⟩, e, p⟩ := ifS_of p1
  obtain ⟨W2, l2, t2, I2, d2⟩ := frzLf_ok (frzN_ok 6) xs W1 M1 M2 vs ds I1 v1 e
  by_cases hf : W2.F a = none
  · have hg : W2.G a = none := by rw [l2.g]; exact L1.g
    have L2 : Loose W2 H1 a (.lst vs) := ⟨L1.at_, hf, hg, by rw [t2]; exact L1.t⟩
    obtain ⟨I3, l3⟩ := I2.adoptData L2
    exact q _ M2 H1 _ (.d (.list ds)) (l1.trans (l2.trans l3)) I3 (show Dq K _ _ _ from .lst (.of upd_same) (d2.same l3.f)) p
  · cases hz : W2.F a with
    | none => exact absurd hz hf
    | some u =>
      have e1 := I2.sf a u hz
      rw [L1.at_] at e1
      cases e1
      exact q _ M2 H1 _ (.d (.list ds)) (l1.trans l2) I2 (show Dq K _ _ _ from .lst (.of hz) d2) p
theorem snd_rCl (h : SndF K t r) : Snd K t (rCl r) := by
  intro W M H σ σx P Q I S hr q
  refine h W M H σ σx _ Q I S hr fun W1 M1 H1 a vs xs l1 I1 L1 v1 p1 => ?_
  obtain ⟨I2, l2, x2⟩ := I1.adoptCell L1 (o := .lst xs) fun W' l' f' => ⟨f', vs, L1.at_, v1.le l'⟩
  exact q _ _ H1 _ _ (l1.trans l2) I2 x2 p1
end
theorem SF.data {X : Cx} {e : Expr} {r : RF} (h : SF X e r) : SE X e (rD r) := let ⟨t, p, s⟩ := h; ⟨t, p, snd_rD s⟩
theorem SF.cell {X : Cx} {e : Expr} {r : RF} (h : SF X e r) : SE X e (rCl r) := let ⟨t, p, s⟩ := h; ⟨t, p, snd_rCl s⟩
/-- what stands as a value is frozen here -/
def rFz (r : RE) : RE := fun σ M P => r σ M fun x M1 => ifS (fz M1 x) fun q => P (.d q.1) q.2
theorem SE.fz {X : Cx} {e : Expr} {r : RE} (h : SE X e r) : SE X e (rFz r) := by
  obtain ⟨t, p, s⟩ := h
  refine ⟨t, p, fun W M H σ σx P Q I S hr q => ?_⟩
  refine s W M H σ σx _ Q I S hr fun W1 M1 H1 v x l1 I1 v1 p1 => ?_
  obtain ⟨⟨d, M2⟩, e, p⟩ := ifS_of p1
  obtain ⟨W2, l2, t2, I2, d2⟩ := frzN_ok 6 x W1 M1 M2 v d I1 v1 e
  exact q W2 M2 H1 v (.d d) (l1.trans l2) I2 d2 p

/-! ### operators by values -/
abbrev G2 := Xv → Xv → Sto → (Xv → Sto → Prop) → Prop
def OpX (X : Cx) (f : Value → Value → Sem Value) (g : G2) : Prop := ∃ r, OpR X f r ∧ ∀ (W : Wd) (M : Sto) (H : Hp) (v u : V) (x y : Xv) (P : Xv → Sto → Prop) (Q : VK), InvS X.K W M H → VX X.K W v x → VX X.K W u y → g x y M P →
  (∀ W' M' H' z zx, W.le W' → InvS X.K W' M' H' → VX X.K W' z zx → P zx M' → Q z H') → r v u H Q
def rBin (g : G2) (ra rb : RE) : RE := fun σ M P => ra σ M fun x M1 => rb σ M1 fun y M2 => g x y M2 P
section
variable {X : Cx} {a b c : Expr} {ra rb rc : RE} {pos : Pos}
theorem snd_bin {K : PySem.W.Frag} {ta tb : TE} {r : R2} {g : G2} (ha : Snd K ta ra) (hb : Snd K tb rb)
    (h : ∀ (W : Wd) (M : Sto) (H : Hp) (v u : V) (x y : Xv) (P : Xv → Sto → Prop) (Q : VK), InvS K W M H → VX K W v x → VX K W u y → g x y M P →
      (∀ W' M' H' z zx, W.le W' → InvS K W' M' H' → VX K W' z zx → P zx M' → Q z H') → r v u H Q) : Snd K (tOp r ta tb) (rBin g ra rb) := by
  intro W M H σ σx P Q I S hr q
  refine ha W M H σ σx _ _ I S hr fun W1 M1 H1 v x l1 I1 v1 p1 => ?_
  refine hb W1 M1 H1 σ σx _ _ I1 (S.le l1) p1 fun W2 M2 H2 u y l2 I2 v2 p2 => ?_
  exact h W2 M2 H2 v u x y P Q I2 (v1.le l2) v2 p2 fun W3 M3 H3 z zx l3 I3 v3 p3 => q W3 M3 H3 z zx (l1.trans (l2.trans l3)) I3 v3 p3
theorem se_bin {op : Operator} {g : G2} (ho : OpX X (binaryOp op) g) (ha : SE X a ra) (hb : SE X b rb) : SE X (.BinOp a op b pos) (rBin g ra rb) := by
  obtain ⟨r, h1, h2⟩ := ho
  obtain ⟨ta, pa, sa⟩ := ha
  obtain ⟨tb, pb, sb⟩ := hb
  exact ⟨_, pe_op h1 pa pb, snd_bin sa sb h2⟩
theorem se_cmp {op : CmpOp} {g : G2} (ho : OpX X (compareOp op) g) (ha : SE X a ra) (hb : SE X b rb) (hm : behindInMarks op b = false := by first | exact nomark _ | rfl) : SE X (.Compare a [op] [b] pos) (rBin g ra rb) := by
  obtain ⟨r, h1, h2⟩ := ho
  obtain ⟨ta, pa, sa⟩ := ha
  obtain ⟨tb, pb, sb⟩ := hb
  exact ⟨_, pe_cmpR h1 pa pb hm, snd_bin sa sb h2⟩
end
end G

set_option Elab.async false
set_option linter.all false
set_option maxRecDepth 100000
set_option maxHeartbeats 4000000
/-! G2: operators, comparisons, subscripts over data and store. -/
namespace G
open PySem PySem.Spec PyProof.Rows L2

/-! ### data that Python compares -/
section
variable {K : PySem.W.Frag} {F : Hp}
mutual
theorem Dq.toDp : ∀ {d : PyData} {v : V}, d.canLay0 = true → Dq K F v d → Dp K F v d
  | _, _, _, .non => .non
  | _, _, _, .bl b => .bl b
  | _, _, _, .int i => .int i
  | _, _, _, .str x => .str x
  | _, _, h, .lst h1 r => .lst h1 (DqAll.toDp (by simpa [PyData.canLay0] using h) r)
  | _, _, h, .tup h1 r => .tup h1 (DqAll.toDp (by simpa [PyData.canLay0] using h) r)
  | _, _, h, .dic _ _ => by simp [PyData.canLay0] at h
theorem DqAll.toDp : ∀ {ds : List PyData} {vs : List V}, PyData.canLayAll0 ds = true → DqAll K F vs ds → DpAll K F vs ds
  | _, _, _, .nil => .nil
  | d :: ds, _, h, .cons h1 r => by
    have h' : d.canLay0 = true ∧ PyData.canLayAll0 ds = true := by simpa [PyData.canLayAll0] using h
    exact .cons (Dq.toDp h'.1 h1) (DqAll.toDp h'.2 r)
end
theorem Dq.dp {d : PyData} {v : V} (h : SeqAt.shaped d = true) (q : Dq K F v d) : Dp K F v d := q.toDp (SeqAt.canLay_of_shaped h)
end

theorem OpX.of1 {X : Cx} {f : Value → Value → Sem Value} {g : G2} {r : R2} (h : OpR X f r) (k : ∀ (W : Wd) (M : Sto) (H : Hp) (v u : V) (x y : Xv) (P : Xv → Sto → Prop) (Q : VK), InvS X.K W M H → VX X.K W v x → VX X.K W u y → g x y M P →
  (∀ W' M' H' z zx, W.le W' → InvS X.K W' M' H' → VX X.K W' z zx → P zx M' → Q z H') → r v u H Q) : OpX X f g := ⟨r, h, k⟩

/-! ### int operators -/
def gI (C : Int → Int → Prop) (f : Int → Int → PyData) : G2 := fun x y M P => match hd M x, hd M y with
  | .sc (.int i), .sc (.int j) => C i j ∧ P (.d (f i j)) M
  | _, _ => False
theorem gI_of {C : Int → Int → Prop} {f : Int → Int → PyData} {x y : Xv} {M : Sto} {P : Xv → Sto → Prop} (h : gI C f x y M P) : ∃ i j, hd M x = .sc (.int i) ∧ hd M y = .sc (.int j) ∧ C i j ∧ P (.d (f i j)) M := by
  unfold gI at h
  split at h
  · rename_i i j e1 e2
    exact ⟨i, j, e1, e2, h.1, h.2⟩
  · exact h.elim
theorem scI {K : PySem.W.Frag} {W : Wd} {M : Sto} {H : Hp} {v : V} {x : Xv} {i : Int} (I : InvS K W M H) (h : VX K W v x) (e : hd M x = .sc (.int i)) : v = .int i := by
  have := hd_ok I h
  rw [e] at this
  exact this
theorem scS {K : PySem.W.Frag} {W : Wd} {M : Sto} {H : Hp} {v : V} {x : Xv} {i : Str} (I : InvS K W M H) (h : VX K W v x) (e : hd M x = .sc (.str i)) : v = .str i := by
  have := hd_ok I h
  rw [e] at this
  exact this
theorem opx_int {X : Cx} {f : Value → Value → Sem Value} {C : Int → Int → Prop} {g : Int → Int → V} {gd : Int → Int → PyData} (h : OpR X f (rI C g)) (hg : ∀ F i j, Dq X.K F (g i j) (gd i j)) : OpX X f (gI C gd) :=
  .of1 h fun W M H v u x y P Q I v1 v2 p q => by
    obtain ⟨i, j, e1, e2, c, p⟩ := gI_of p
    exact ⟨i, j, scI I v1 e1, scI I v2 e2, c, q W M H _ (.d (gd i j)) (.refl W) I (hg _ i j) p⟩
theorem opx_int0 {X : Cx} {f : Value → Value → Sem Value} {g : Int → Int → V} {gd : Int → Int → PyData} (h : OpR X f (rI0 g)) (hg : ∀ F i j, Dq X.K F (g i j) (gd i j)) : OpX X f (gI (fun _ _ => True) gd) :=
  .of1 h fun W M H v u x y P Q I v1 v2 p q => by
    obtain ⟨i, j, e1, e2, c, p⟩ := gI_of p
    exact ⟨i, j, scI I v1 e1, scI I v2 e2, q W M H _ (.d (gd i j)) (.refl W) I (hg _ i j) p⟩
abbrev gSub : G2 := gI (fun _ _ => True) fun i j => .int (i - j)
abbrev gMul : G2 := gI CMul fun i j => .int (i * j)
abbrev gDiv : G2 := gI (fun _ j => 0 < j ∧ j < 1073741824) fun i j => .int (i / j)
abbrev gMod : G2 := gI (fun _ j => 0 < j) fun i j => .int (i % j)
abbrev gPow : G2 := gI CPow fun i j => .int (i ^ j.toNat)
section
variable {X : Cx}
theorem ox_sub : OpX X (binaryOp .Sub) gSub := opx_int0 op_sub fun _ _ _ => .int _
theorem ox_mul : OpX X (binaryOp .Mult) gMul := opx_int op_mul fun _ _ _ => .int _
theorem ox_div : OpX X (binaryOp .FloorDiv) gDiv := opx_int op_fdiv fun _ _ _ => .int _
theorem ox_mod : OpX X (binaryOp .Mod) gMod := opx_int op_mod fun _ _ _ => .int _
theorem ox_pow : OpX X (binaryOp .Pow) gPow := opx_int op_pow fun _ _ _ => .int _
end

/-! ### + -/
def dT : Xv → Option (List PyData)
  | .d (.tuple ds) => some ds
  | _ => none
def gAdd : G2 := fun x y M P => match hd M x, hd M y with
  | .sc (.int i), .sc (.int j) => P (.d (.int (i + j))) M
  | .sc (.str a), .sc (.str b) => a.length + b.length ≤ sizeLine ∧ P (.d (.str (a ++ b))) M
  | .lst xs, .lst ys => xs.length + ys.length ≤ sizeLine ∧ ifS (fzL M (xs ++ ys)) fun q => P (.d (.list q.1)) q.2
  | .tup _, .tup _ => ifS (dT x) fun ds => ifS (dT y) fun es => ds.length + es.length ≤ sizeLine ∧ P (.d (.tuple (ds ++ es))) M
  | _, _ => False
def rCatL (K : PySem.W.Frag) : R2 := fun x y H Q => ∃ l b xs zs, x = .ref l ∧ y = .ref b ∧ SqL K H l xs ∧ SqL K H b zs ∧ xs.length + zs.length ≤ sizeLine ∧ ∀ p, H p = none → Q (.ref p) (upd H p (.lst (xs ++ zs)))
theorem op_catL {X : Cx} : OpR X (binaryOp .Add) (rCatL X.K) := by
  intro pins s σ H x y v u Q I rx ry h
  obtain ⟨l, b, xs, zs, rfl, rfl, hH, hB, hz, q⟩ := h
  cases rx
  cases ry
  obtain ⟨its, r, p1, z⟩ := I.list hH
  obtain ⟨its2, r2, p2, z2⟩ := I.list hB
  have hl := r.length
  have hl2 := r2.length
  obtain ⟨⟨cls, dd, data, sl⟩, ho, hc, n, hd⟩ := id p1.isList
  obtain ⟨⟨cls2, dd2, data2, sl2⟩, ho2, hc2, n2, hd2⟩ := id p2.isList
  simp only at hc hd hc2 hd2
  subst hc hd hc2 hd2
  have e : its.toArray ++ its2.toArray = (its ++ its2).toArray := by simp
  refine concat_meets ⟨_, ho, rfl⟩ ⟨_, ho2, rfl⟩ noFill_list_add seq_list_add PySem.F.slot_list_add PySem.F.entry_list_add (PySem.F.args_list_add_2 _ _) (list_addW l b its.toArray its2.toArray n n2 dd dd2 sl sl2 (by simpa [← hl, ← hl2] using hz)) ⟨ho, ho2, ?_⟩
  rw [e]
  exact ⟨.ref _, _, I.lnew (t' := s.toks) (r.append r2) (by rw [List.length_append]; omega), rfl, q _ I.fresh⟩
/-- a loose list becomes data -/
theorem adopt_frz {K : PySem.W.Frag} {W1 : Wd} {M1 M2 : Sto} {H1 : Hp} {a : Addr} {vs : List V} {xs : List Xv} {ds : List PyData} (I1 : InvS K W1 M1 H1) (L1 : Loose W1 H1 a (.lst vs)) (v1 : VXs K W1 vs xs) (e : fzL M1 xs = some (ds, M2)) :
    ∃ W3, W1.le W3 ∧ InvS K W3 M2 H1 ∧ VX K W3 (.ref a) (.d (.list ds)) := by
  obtain ⟨W2, l2, t2, I2, d2⟩ := frzLf_ok (frzN_ok 6) xs W1 M1 M2 vs ds I1 v1 e
  by_cases hf : W2.F a = none
  · have hg : W2.G a = none := by rw [l2.g]; exact L1.g
    have L2 : Loose W2 H1 a (.lst vs) := ⟨L1.at_, hf, hg, by rw [t2]; exact L1.t⟩
    obtain ⟨I3, l3⟩ := I2.adoptData L2
    exact ⟨_, l2.trans l3, I3, show Dq K _ _ _ from .lst (.of upd_same) (d2.same l3.f)⟩
  · cases hz : W2.F a with
    | none => exact absurd hz hf
    | some u =>
      have e1 := I2.sf a u hz
      rw [L1.at_] at e1
      cases e1
      exact ⟨W2, l2, I2, show Dq K _ _ _ from .lst (.of hz) d2⟩
theorem adopt_tup {K : PySem.W.Frag} {W1 : Wd} {M1 M2 : Sto} {H1 : Hp} {a : Addr} {vs : List V} {xs : List Xv} {ds : List PyData} (I1 : InvS K W1 M1 H1) (L1 : Loose W1 H1 a (.tup vs)) (v1 : VXs K W1 vs xs) (e : fzL M1 xs = some (ds, M2)) :
    ∃ W3, W1.le W3 ∧ InvS K W3 M2 H1 ∧ VX K W3 (.ref a) (.d (.tuple ds)) := by
  obtain ⟨W2, l2, t2, I2, d2⟩ := frzLf_ok (frzN_ok 6) xs W1 M1 M2 vs ds I1 v1 e
  by_cases hf : W2.F a = none
  · have hg : W2.G a = none := by rw [l2.g]; exact L1.g
    have L2 : Loose W2 H1 a (.tup vs) := ⟨L1.at_, hf, hg, by rw [t2]; exact L1.t⟩
    obtain ⟨I3, l3⟩ := I2.adoptData L2
    exact ⟨_, l2.trans l3, I3, show Dq K _ _ _ from .tup (.of upd_same) (d2.same l3.f)⟩
  · cases hz : W2.F a with
    | none => exact absurd hz hf
    | some u =>
      have e1 := I2.sf a u hz
      rw [L1.at_] at e1
      cases e1
      exact ⟨W2, l2, I2, show Dq K _ _ _ from .tup (.of hz) d2⟩
section
variable {K : PySem.W.Frag} {W W' : Wd} {M : Sto} {H : Hp}
theorem InvS.sqL (I : InvS K W M H) {p : Addr} (hp : H p = none) {u : HO} {a : Addr} {vs : List V} (h : SqL K H a vs) : SqL K (upd H p u) a vs := (same_new hp).seq h
end
theorem lstH {K : PySem.W.Frag} {W : Wd} {M : Sto} {H : Hp} {v : V} {x : Xv} {xs : List Xv} (I : InvS K W M H) (h : VX K W v x) (e : hd M x = .lst xs) : ∃ a vs, v = .ref a ∧ SqL K H a vs ∧ VXs K W vs xs := by
  have := hd_ok I h
  rw [e] at this
  exact this
theorem tupH {K : PySem.W.Frag} {W : Wd} {M : Sto} {H : Hp} {v : V} {x : Xv} {xs : List Xv} (I : InvS K W M H) (h : VX K W v x) (e : hd M x = .tup xs) : ∃ a vs, v = .ref a ∧ SqT K H a vs ∧ VXs K W vs xs := by
  have := hd_ok I h
  rw [e] at this
  exact this
theorem dT_of {x : Xv} {ds : List PyData} (h : dT x = some ds) : x = .d (.tuple ds) := by
  unfold dT at h
  split at h
  · cases h; rfl
  · cases h
theorem vx_tup {K : PySem.W.Frag} {W : Wd} {v : V} {ds : List PyData} (h : VX K W v (.d (.tuple ds))) : ∃ a vs, v = .ref a ∧ SqT K W.F a vs ∧ DqAll K W.F vs ds := by
  have h : Dq K W.F v (.tuple ds) := h
  cases h with
  | tup h1 h2 => exact ⟨_, _, rfl, h1, h2⟩
theorem ox_add {X : Cx} : OpX X (binaryOp .Add) gAdd := by
  refine .of1 (op_add.or (op_add_str.or (op_catL.or op_catA))) fun W M H v u x y P Q I v1 v2 p q => ?_
  unfold gAdd at p
  split at p
  · rename_i i j e1 e2
    exact .inl ⟨i, j, scI I v1 e1, scI I v2 e2, q W M H _ (.d (.int (i + j))) (.refl W) I (show Dq _ _ _ _ from .int _) p⟩
  · rename_i i j e1 e2
    exact .inr (.inl ⟨i, j, scS I v1 e1, scS I v2 e2, p.1, q W M H _ (.d (.str (i ++ j))) (.refl W) I (show Dq _ _ _ _ from .str _) p.2⟩)
  · rename_i xs ys e1 e2
    obtain ⟨a, vs, rfl, s1, r1⟩ := lstH I v1 e1
    obtain ⟨b, us, rfl, s2, r2⟩ := lstH I v2 e2
    refine .inr (.inr (.inl ⟨a, b, vs, us, rfl, rfl, s1, s2, by rw [r1.length, r2.length]; exact p.1, fun p' hp => ?_⟩))
    obtain ⟨I2, L2⟩ := I.loose hp (.lst (vs ++ us))
    obtain ⟨⟨ds, M2⟩, e, pp⟩ := ifS_of p.2
    obtain ⟨W3, l3, I3, v3⟩ := adopt_frz I2 L2 (r1.append r2) e
    exact q W3 M2 _ _ _ l3 I3 v3 pp
  · rename_i xs ys e1 e2
    obtain ⟨ds, e3, p⟩ := ifS_of p
    obtain ⟨es, e4, p⟩ := ifS_of p
    have e3 := dT_of e3
    have e4 := dT_of e4
    subst e3 e4
    obtain ⟨a, vs, rfl, s1, r1⟩ := vx_tup v1
    obtain ⟨b, us, rfl, s2, r2⟩ := vx_tup v2
    refine .inr (.inr (.inr ⟨a, b, vs, us, rfl, rfl, (SameR.of I.sf).sqT s1, (SameR.of I.sf).sqT s2, by rw [r1.length, r2.length]; exact p.1, fun ev => ?_, fun _ eu => ?_, fun _ _ p' hp => ?_⟩))
    · subst ev
      cases r1
      exact q W M H _ (.d (.tuple es)) (.refl W) I v2 p.2
    · subst eu
      cases r2
      have p2 := p.2
      rw [List.append_nil] at p2
      exact q W M H _ (.d (.tuple ds)) (.refl W) I v1 p2
    · obtain ⟨I2, l2⟩ := I.newData hp (.tup (vs ++ us))
      exact q _ M _ _ (.d (.tuple (ds ++ es))) l2 I2 (show Dq _ _ _ _ from .tup (.of upd_same) (DqAll.append (r1.same l2.f) (r2.same l2.f))) p.2
  · exact p.elim

/-! ### == and != -/
def scD : PyData → Bool
  | .none | .bool _ | .int _ | .str _ => true
  | _ => false
/-- scalars of kinds that are compared without more -/
def scEq : PyData → PyData → Bool
  | .int _, .int _ => true
  | .str _, .str _ => true
  | .bool _, .bool _ => true
  | .none, .none => true
  | .none, .int _ => true
  | .int _, .none => true
  | .none, .str _ => true
  | .str _, .none => true
  | _, _ => false
def gEq : G2 := fun x y M P => ifS (pk M x) fun d => ifS (pk M y) fun e => (scEq d e = true ∨ (SeqAt.shaped d = true ∧ SeqAt.shaped e = true)) ∧ P (.d (.bool (PyData.eqv d e))) M
def gNe : G2 := fun x y M P => ifS (pk M x) fun d => ifS (pk M y) fun e => (scEq d e = true ∨ (SeqAt.shaped d = true ∧ SeqAt.shaped e = true)) ∧ P (.d (.bool (!PyData.eqv d e))) M
theorem scEq_ok {K : PySem.W.Frag} {F : Hp} {v u : V} {d e : PyData} (h : scEq d e = true) (h1 : Dq K F v d) (h2 : Dq K F u e) : scal v u = true ∧ decide (v = u) = PyData.eqv d e := by
  cases h1 <;> cases h2 <;> first
    | (simp [scEq] at h; done)
    | (refine ⟨rfl, ?_⟩; first | (rw [dec_int]; simp [PyData.eqv]) | (rw [dec_str]; simp [PyData.eqv]) | (rw [dec_bl]; simp [PyData.eqv]) | simp [PyData.eqv])
theorem ox_eq {X : Cx} (hu : X.A.units + 64 < cLine) : OpX X (compareOp .Eq) gEq := by
  refine .of1 (op_eq.or (op_eqD hu)) fun W M H v u x y P Q I v1 v2 p q => ?_
  obtain ⟨d, e1, p⟩ := ifS_of p
  obtain ⟨e, e2, p⟩ := ifS_of p
  have d1 := pkN_ok I 6 x v d v1 e1
  have d2 := pkN_ok I 6 y u e v2 e2
  have fin := q W M H (.bl (PyData.eqv d e)) (.d (.bool (PyData.eqv d e))) (.refl W) I (show Dq _ _ _ _ from .bl _) p.2
  rcases p.1 with h | ⟨h1, h2⟩
  · obtain ⟨z1, z2⟩ := scEq_ok h d1 d2
    exact .inl ⟨z1, by rw [z2]; exact fin⟩
  · exact .inr ⟨d, e, d1.dp h1, d2.dp h2, h1, h2, fin⟩
theorem ox_ne {X : Cx} (hu : X.A.units + 64 < cLine) : OpX X (compareOp .NotEq) gNe := by
  refine .of1 (op_ne.or (op_neD hu)) fun W M H v u x y P Q I v1 v2 p q => ?_
  obtain ⟨d, e1, p⟩ := ifS_of p
  obtain ⟨e, e2, p⟩ := ifS_of p
  have d1 := pkN_ok I 6 x v d v1 e1
  have d2 := pkN_ok I 6 y u e v2 e2
  have fin := q W M H (.bl (!PyData.eqv d e)) (.d (.bool (!PyData.eqv d e))) (.refl W) I (show Dq _ _ _ _ from .bl _) p.2
  rcases p.1 with h | ⟨h1, h2⟩
  · obtain ⟨z1, z2⟩ := scEq_ok h d1 d2
    exact .inl ⟨z1, by rw [z2]; exact fin⟩
  · exact .inr ⟨d, e, d1.dp h1, d2.dp h2, h1, h2, fin⟩

/-! ### < <= > >= of ints and texts -/
def gOrd (fi : Int → Int → Bool) (fs : List Nat → List Nat → Bool) : G2 := fun x y M P => match hd M x, hd M y with
  | .sc (.int i), .sc (.int j) => P (.d (.bool (fi i j))) M
  | .sc (.str a), .sc (.str b) => P (.d (.bool (fs a.cps.toList b.cps.toList))) M
  | _, _ => False
abbrev gLt : G2 := gOrd (fun i j => decide (i < j)) fun a b => decide (a < b)
abbrev gLe : G2 := gOrd (fun i j => decide (i ≤ j)) fun a b => !decide (b < a)
abbrev gGt : G2 := gOrd (fun i j => decide (j < i)) fun a b => decide (b < a)
abbrev gGe : G2 := gOrd (fun i j => decide (j ≤ i)) fun a b => !decide (a < b)
theorem opx_ord {X : Cx} {f : Value → Value → Sem Value} {fi : Int → Int → Bool} {fs : List Nat → List Nat → Bool} (h1 : OpR X f (rI0 fun i j => .bl (fi i j))) (h2 : OpR X f (fun x y H Q => ∃ i j, x = .str i ∧ y = .str j ∧ Q (.bl (fs i.cps.toList j.cps.toList)) H)) :
    OpX X f (gOrd fi fs) := by
  refine .of1 (h1.or h2) fun W M H v u x y P Q I v1 v2 p q => ?_
  unfold gOrd at p
  split at p
  · rename_i i j e1 e2
    exact .inl ⟨i, j, scI I v1 e1, scI I v2 e2, q W M H _ (.d (.bool _)) (.refl W) I (show Dq _ _ _ _ from .bl _) p⟩
  · rename_i i j e1 e2
    exact .inr ⟨i, j, scS I v1 e1, scS I v2 e2, q W M H _ (.d (.bool _)) (.refl W) I (show Dq _ _ _ _ from .bl _) p⟩
  · exact p.elim
section
variable {X : Cx}
theorem ox_lt : OpX X (compareOp .Lt) gLt := opx_ord op_lt op_lt_str
theorem ox_le : OpX X (compareOp .LtE) gLe := opx_ord op_le op_le_str
theorem ox_gt : OpX X (compareOp .Gt) gGt := opx_ord op_gt op_gt_str
theorem ox_ge : OpX X (compareOp .GtE) gGe := opx_ord op_ge op_ge_str
end

/-! ### is None -/
def isN : Xv → Bool
  | .d .none => true
  | _ => false
def gIsN (neg : Bool) : G2 := fun x y M P => match y with
  | .d .none => P (.d (.bool (if neg then !isN x else isN x))) M
  | _ => False
theorem isN_ok {K : PySem.W.Frag} {W : Wd} {v : V} {x : Xv} (h : VX K W v x) : decide (v = .non) = isN x := by
  cases x with
  | c i => obtain ⟨a, rfl, _⟩ := h; rfl
  | d d =>
    have h : Dq K W.F v d := h
    cases h <;> rfl
theorem ox_is {X : Cx} : OpX X (compareOp .Is) (gIsN false) := by
  refine .of1 op_isN fun W M H v u x y P Q I v1 v2 p q => ?_
  unfold gIsN at p
  split at p
  · have z : Dq X.K W.F u .none := v2
    cases z
    refine ⟨rfl, ?_⟩
    rw [isN_ok v1]
    exact q W M H _ (.d (.bool (isN x))) (.refl W) I (show Dq _ _ _ _ from .bl _) p
  · exact p.elim
theorem ox_isnot {X : Cx} : OpX X (compareOp .IsNot) (gIsN true) := by
  refine .of1 op_notN fun W M H v u x y P Q I v1 v2 p q => ?_
  unfold gIsN at p
  split at p
  · have z : Dq X.K W.F u .none := v2
    cases z
    refine ⟨rfl, ?_⟩
    rw [isN_ok v1]
    exact q W M H _ (.d (.bool (!isN x))) (.refl W) I (show Dq _ _ _ _ from .bl _) p
  · exact p.elim

/-! ### dicts by key -/
def keyEq : PyData → PyData → Bool
  | .int i, .int j => decide (i = j)
  | .str a, .str b => decide (a = b)
  | _, _ => false
def isKey : PyData → Bool
  | .int _ => true
  | .str _ => true
  | _ => false
def dget (kvs : List (PyData × Xv)) (k : PyData) : Option Xv := match kvs with
  | [] => none
  | p :: r => if keyEq p.1 k then some p.2 else dget r k
def keyOf : PyData → Option Key
  | .int i => some (.inl i)
  | .str a => some (.inr a)
  | _ => none
theorem keyOf_of {d : PyData} {k : Key} (h : keyOf d = some k) : d = kD k := by
  unfold keyOf at h
  split at h <;> cases h <;> rfl
theorem keyEq_kD (a b : Key) : keyEq (kD a) (kD b) = decide (a = b) := by
  cases a <;> cases b <;> simp [kD, keyEq]
theorem dget_ok {K : PySem.W.Frag} {W : Wd} : ∀ {vs : List (Key × V)} {kvs : List (PyData × Xv)} (k : Key), Paired (fun p q => kD p.1 = q.1 ∧ VX K W p.2 q.2) vs kvs →
    (dget kvs (kD k) = none ∧ valV vs k = none) ∨ ∃ v x, dget kvs (kD k) = some x ∧ valV vs k = some v ∧ VX K W v x
  | _, _, k, .nil => .inl ⟨rfl, rfl⟩
  | p :: vs, q :: kvs, k, .cons h r => by
    by_cases e : p.1 = k
    · refine .inr ⟨p.2, q.2, ?_, valV_pos e, h.2⟩
      unfold dget
      rw [← h.1, keyEq_kD, decide_eq_true e]
      rfl
    · rw [valV_neg e]
      unfold dget
      rw [← h.1, keyEq_kD, decide_eq_false e]
      exact dget_ok k r
theorem dicH {K : PySem.W.Frag} {W : Wd} {M : Sto} {H : Hp} {v : V} {x : Xv} {kvs : List (PyData × Xv)} (I : InvS K W M H) (h : VX K W v x) (e : hd M x = .dic kvs) :
    ∃ a, v = .ref a ∧ ∃ vs : List (Key × V), Rd H a (.dK vs) ∧ Paired (fun p q => kD p.1 = q.1 ∧ VX K W p.2 q.2) vs kvs := by
  have := hd_ok I h
  rw [e] at this
  exact this
theorem keyV {K : PySem.W.Frag} {F : Hp} {v : V} {k : Key} (h : Dq K F v (kD k)) : v = kV k := by
  cases k with
  | inl i => have h : Dq K F v (.int i) := h; cases h; rfl
  | inr x => have h : Dq K F v (.str x) := h; cases h; rfl
/-- d[k] read as what a look-up gives: text and int keys -/
theorem dGet_ok {K : PySem.W.Frag} {W : Wd} {M : Sto} {H : Hp} {v u : V} {x : Xv} {kvs : List (PyData × Xv)} {d : PyData} {k : Key} (I : InvS K W M H) (h : VX K W v x) (e : hd M x = .dic kvs) (hk : VX K W u (.d d)) (ek : keyOf d = some k) :
    ∃ a, v = .ref a ∧ IsD H a ∧ ((dget kvs d = none ∧ DGet H a u none) ∨ ∃ w y, dget kvs d = some y ∧ DGet H a u (some w) ∧ VX K W w y) := by
  have ed := keyOf_of ek
  subst ed
  have eu : u = kV k := keyV (F := W.F) hk
  subst eu
  obtain ⟨a, rfl, vs, h1, h2⟩ := dicH I h e
  refine ⟨a, rfl, .inl ⟨vs, h1⟩, ?_⟩
  rcases dget_ok k h2 with ⟨q1, q2⟩ | ⟨w, y, q1, q2, q3⟩
  · exact .inl ⟨q1, .inl ⟨vs, k, h1, rfl, q2.symm⟩⟩
  · exact .inr ⟨w, y, q1, .inl ⟨vs, k, h1, rfl, q2.symm⟩, q3⟩
end G

set_option Elab.async false
set_option linter.all false
set_option maxRecDepth 100000
set_option maxHeartbeats 4000000
/-! G3: tests, and or not, subscripts, slices, displays over data and store. -/
namespace G
open PySem PySem.Spec PyProof.Rows L2

/-! ### truth -/
def tru (M : Sto) (x : Xv) : Option Bool := match hd M x with
  | .sc .none => some false
  | .sc (.bool b) => some b
  | .sc (.int i) => some (i != 0)
  | .sc (.str s) => if s.length ≤ sizeLine then some ((s.length : Int) != 0) else none
  | .lst xs => some (!xs.isEmpty)
  | .tup xs => some (!xs.isEmpty)
  | _ => none
theorem VXs.empty {K : PySem.W.Frag} {W : Wd} {vs : List V} {xs : List Xv} (h : VXs K W vs xs) : vs.isEmpty = xs.isEmpty := by
  cases h <;> rfl
theorem tru_okX {K : PySem.W.Frag} {W : Wd} {M : Sto} {H : Hp} {v : V} {x : Xv} {b : Bool} (I : InvS K W M H) (h : VX K W v x) (e : tru M x = some b) : TruV K v H b := by
  unfold tru at e
  have ok := hd_ok I h
  split at e
  · rename_i q; rw [q] at ok; have ok : v = .non := ok; subst ok; cases e; rfl
  · rename_i q; rw [q] at ok; have ok : v = .bl _ := ok; subst ok; cases e; rfl
  · rename_i q; rw [q] at ok; have ok : v = .int _ := ok; subst ok; cases e; rfl
  · rename_i s q
    rw [q] at ok
    have ok : v = .str _ := ok
    subst ok
    by_cases hs : s.length ≤ sizeLine
    · rw [if_pos hs] at e; cases e; exact ⟨hs, rfl⟩
    · rw [if_neg hs] at e; cases e
  · rename_i q; rw [q] at ok; obtain ⟨a, vs, rfl, h1, h2⟩ := ok; cases e; exact .inl ⟨vs, h1, by rw [h2.empty]⟩
  · rename_i q; rw [q] at ok; obtain ⟨a, vs, rfl, h1, h2⟩ := ok; cases e; exact .inr (.inl ⟨vs, h1, by rw [h2.empty]⟩)
  · cases e
def rTr (r : RE) : RT := fun σ M P => r σ M fun x M1 => ifS (tru M1 x) fun b => P b M1
def boX : Xv → Option Bool
  | .d (.bool b) => some b
  | _ => none
theorem boX_of {x : Xv} {b : Bool} (h : boX x = some b) : x = .d (.bool b) := by
  unfold boX at h
  split at h <;> cases h
  rfl
theorem boV {K : PySem.W.Frag} {W : Wd} {v : V} {b : Bool} (h : VX K W v (.d (.bool b))) : v = .bl b := by
  have h : Dq K W.F v (.bool b) := h
  cases h; rfl
def rTb (r : RE) : RT := fun σ M P => r σ M fun x M1 => ifS (boX x) fun b => P b M1
section
variable {X : Cx} {a b c : Expr} {ra rb rc : RE} {pos : Pos}
theorem sc_val (ha : SE X a ra) (he : ∀ whole, isTrue a X.env whole = (do let v ← whole; standAt a.pos; holding [v] (truthy v)) := by intro _; rfl) : SC X a (rTr ra) := by
  obtain ⟨ta, pa, sa⟩ := ha
  refine ⟨_, pt_truth pa he, fun W M H σ σx P Q I S hr q => ?_⟩
  refine sa W M H σ σx _ _ I S hr fun W1 M1 H1 v x l1 I1 v1 p1 => ?_
  obtain ⟨b, e, p⟩ := ifS_of p1
  exact ⟨b, tru_okX I1 v1 e, q W1 M1 H1 b l1 I1 p⟩
theorem snd_test {K : PySem.W.Frag} {t : TE} {r : RE} (h : Snd K t r) : SndT K (tTest t) (rTb r) := by
  intro W M H σ σx P Q I S hr q
  refine h W M H σ σx _ _ I S hr fun W1 M1 H1 v x l1 I1 v1 p1 => ?_
  obtain ⟨b, e, p⟩ := ifS_of p1
  have ex := boX_of e
  subst ex
  exact ⟨b, boV v1, q W1 M1 H1 b l1 I1 p⟩
theorem sc_cmp {op : CmpOp} {g : G2} (ho : OpX X (compareOp op) g) (ha : SE X a ra) (hb : SE X b rb) (hm : behindInMarks op b = false := by first | exact nomark _ | rfl) : SC X (.Compare a [op] [b] pos) (rTb (rBin g ra rb)) := by
  obtain ⟨r, h1, h2⟩ := ho
  obtain ⟨ta, pa, sa⟩ := ha
  obtain ⟨tb, pb, sb⟩ := hb
  exact ⟨_, pt_cmpR h1 pa pb hm, snd_test (snd_bin sa sb h2)⟩
/-- a op b op' c -/
def rChain (g g' : G2) (ra rb rc : RE) : RE := fun σ M P => ra σ M fun x M1 => rb σ M1 fun y M2 => g x y M2 fun z M3 => ifS (boX z) fun k => if k = true then rc σ M3 fun w M4 => g' y w M4 P else P (.d (.bool false)) M3
theorem snd_chain {K : PySem.W.Frag} {ta tb tc : TE} {r r' : R2} {g g' : G2} (ha : Snd K ta ra) (hb : Snd K tb rb) (hc : Snd K tc rc)
    (h : ∀ (W : Wd) (M : Sto) (H : Hp) (v u : V) (x y : Xv) (P : Xv → Sto → Prop) (Q : VK), InvS K W M H → VX K W v x → VX K W u y → g x y M P →
      (∀ W' M' H' z zx, W.le W' → InvS K W' M' H' → VX K W' z zx → P zx M' → Q z H') → r v u H Q)
    (h' : ∀ (W : Wd) (M : Sto) (H : Hp) (v u : V) (x y : Xv) (P : Xv → Sto → Prop) (Q : VK), InvS K W M H → VX K W v x → VX K W u y → g' x y M P →
      (∀ W' M' H' z zx, W.le W' → InvS K W' M' H' → VX K W' z zx → P zx M' → Q z H') → r' v u H Q) : Snd K (tChain r r' ta tb tc) (rChain g g' ra rb rc) := by
  intro W M H σ σx P Q I S hr q
  refine ha W M H σ σx _ _ I S hr fun W1 M1 H1 v x l1 I1 v1 p1 => ?_
  refine hb W1 M1 H1 σ σx _ _ I1 (S.le l1) p1 fun W2 M2 H2 u y l2 I2 v2 p2 => ?_
  refine h W2 M2 H2 v u x y _ _ I2 (v1.le l2) v2 p2 fun W3 M3 H3 z zx l3 I3 v3 p3 => ?_
  obtain ⟨k, e, p⟩ := ifS_of p3
  have ex := boX_of e
  subst ex
  refine ⟨k, boV v3, ?_⟩
  cases k with
  | true =>
    rw [if_pos rfl] at p ⊢
    refine hc W3 M3 H3 σ σx _ _ I3 (S.le (l1.trans (l2.trans l3))) p fun W4 M4 H4 w wx l4 I4 v4 p4 => ?_
    exact h' W4 M4 H4 u w y wx P Q I4 (v2.le (l3.trans l4)) v4 p4 fun W5 M5 H5 z zx l5 I5 v5 p5 => q W5 M5 H5 z zx (l1.trans (l2.trans (l3.trans (l4.trans l5)))) I5 v5 p5
  | false =>
    rw [if_neg Bool.false_ne_true] at p ⊢
    exact q W3 M3 H3 _ (.d (.bool false)) (l1.trans (l2.trans l3)) I3 (show Dq _ _ _ _ from .bl _) p
theorem se_chain {op op' : CmpOp} {g g' : G2} (ho : OpX X (compareOp op) g) (ho' : OpX X (compareOp op') g') (ha : SE X a ra) (hb : SE X b rb) (hc : SE X c rc) (hm : lastMarks [op, op'] [b, c] = false := by with_unfolding_all rfl) :
    SE X (.Compare a [op, op'] [b, c] pos) (rChain g g' ra rb rc) := by
  obtain ⟨r, h1, h2⟩ := ho
  obtain ⟨r', h1', h2'⟩ := ho'
  obtain ⟨ta, pa, sa⟩ := ha
  obtain ⟨tb, pb, sb⟩ := hb
  obtain ⟨tc, pc, sc⟩ := hc
  exact ⟨_, pe_chain h1 h1' pa pb pc hm, snd_chain sa sb sc h2 h2'⟩
theorem sc_chain {op op' : CmpOp} {g g' : G2} (ho : OpX X (compareOp op) g) (ho' : OpX X (compareOp op') g') (ha : SE X a ra) (hb : SE X b rb) (hc : SE X c rc) (hm : lastMarks [op, op'] [b, c] = false := by with_unfolding_all rfl) :
    SC X (.Compare a [op, op'] [b, c] pos) (rTb (rChain g g' ra rb rc)) := by
  obtain ⟨r, h1, h2⟩ := ho
  obtain ⟨r', h1', h2'⟩ := ho'
  obtain ⟨ta, pa, sa⟩ := ha
  obtain ⟨tb, pb, sb⟩ := hb
  obtain ⟨tc, pc, sc⟩ := hc
  exact ⟨_, pt_chain h1 h1' pa pb pc hm, snd_test (snd_chain sa sb sc h2 h2')⟩
end

/-! ### and, or, not as tests -/
def SW (X : Cx) (e : Expr) (r : RT) : Prop := ∃ t, PW X e t ∧ SndT X.K t r
def rAnd (r u : RT) : RT := fun σ M P => r σ M fun c M1 => if c = true then u σ M1 P else P false M1
def rOr (r u : RT) : RT := fun σ M P => r σ M fun c M1 => if c = true then P true M1 else u σ M1 P
def rNot (r : RT) : RT := fun σ M P => r σ M fun c M1 => P (!c) M1
section
variable {X : Cx} {a b : Expr} {ra rb : RT} {rest : List Expr} {pos : Pos}
theorem SW.sc {e : Expr} (h : SW X e ra) : SC X e ra := let ⟨t, p, s⟩ := h; ⟨t, p.pt, s⟩
theorem sw_and1 (ha : SC X a ra) : SW X (.BoolOp .And [a] pos) ra := let ⟨t, p, s⟩ := ha; ⟨t, pw_and1 p, s⟩
theorem sw_or1 (ha : SC X a ra) : SW X (.BoolOp .Or [a] pos) ra := let ⟨t, p, s⟩ := ha; ⟨t, pw_or1 p, s⟩
theorem sw_and (ha : SC X a ra) (hb : SW X (.BoolOp .And (b :: rest) pos) rb) : SW X (.BoolOp .And (a :: b :: rest) pos) (rAnd ra rb) := by
  obtain ⟨ta, pa, sa⟩ := ha
  obtain ⟨tb, pb, sb⟩ := hb
  refine ⟨_, pw_and pa pb, fun W M H σ σx P Q I S hr q => ?_⟩
  refine sa W M H σ σx _ _ I S hr fun W1 M1 H1 c l1 I1 p1 => ?_
  cases c with
  | true =>
    rw [if_pos rfl] at p1 ⊢
    exact sb W1 M1 H1 σ σx _ _ I1 (S.le l1) p1 fun W2 M2 H2 d l2 I2 p2 => q W2 M2 H2 d (l1.trans l2) I2 p2
  | false =>
    rw [if_neg Bool.false_ne_true] at p1 ⊢
    exact q W1 M1 H1 false l1 I1 p1
theorem sw_or (ha : SC X a ra) (hb : SW X (.BoolOp .Or (b :: rest) pos) rb) : SW X (.BoolOp .Or (a :: b :: rest) pos) (rOr ra rb) := by
  obtain ⟨ta, pa, sa⟩ := ha
  obtain ⟨tb, pb, sb⟩ := hb
  refine ⟨_, pw_or pa pb, fun W M H σ σx P Q I S hr q => ?_⟩
  refine sa W M H σ σx _ _ I S hr fun W1 M1 H1 c l1 I1 p1 => ?_
  cases c with
  | false =>
    rw [if_neg Bool.false_ne_true] at p1 ⊢
    exact sb W1 M1 H1 σ σx _ _ I1 (S.le l1) p1 fun W2 M2 H2 d l2 I2 p2 => q W2 M2 H2 d (l1.trans l2) I2 p2
  | true =>
    rw [if_pos rfl] at p1 ⊢
    exact q W1 M1 H1 true l1 I1 p1
theorem sc_not (ha : SC X a ra) : SC X (.UnaryOp .Not a pos) (rNot ra) := by
  obtain ⟨ta, pa, sa⟩ := ha
  refine ⟨_, pt_not pa, fun W M H σ σx P Q I S hr q => ?_⟩
  exact sa W M H σ σx _ _ I S hr fun W1 M1 H1 c l1 I1 p1 => q W1 M1 H1 _ l1 I1 p1
end
/-! ### and, or, not as values, by truth -/
def rAndV (ra rb : RE) : RE := fun σ M P => ra σ M fun x M1 => ifS (tru M1 x) fun k => if k = true then rb σ M1 P else P x M1
def rOrV (ra rb : RE) : RE := fun σ M P => ra σ M fun x M1 => ifS (tru M1 x) fun k => if k = true then P x M1 else rb σ M1 P
def rNotV (ra : RE) : RE := fun σ M P => ra σ M fun x M1 => ifS (tru M1 x) fun k => P (.d (.bool (!k))) M1
section
variable {X : Cx} {a b c : Expr} {ra rb : RE} {rc : RT} {rest : List Expr} {pos : Pos}
theorem se_one {op} (h : SE X a ra) : SE X (.BoolOp op [a] pos) ra := let ⟨t, p, s⟩ := h; ⟨t, pe_one p, s⟩
theorem se_and (ha : SE X a ra) (hb : SE X (.BoolOp .And (b :: rest) pos) rb) : SE X (.BoolOp .And (a :: b :: rest) pos) (rAndV ra rb) := by
  obtain ⟨ta, pa, sa⟩ := ha
  obtain ⟨tb, pb, sb⟩ := hb
  refine ⟨_, pe_andT pa pb, fun W M H σ σx P Q I S hr q => ?_⟩
  refine sa W M H σ σx _ _ I S hr fun W1 M1 H1 v x l1 I1 v1 p1 => ?_
  obtain ⟨k, e, p⟩ := ifS_of p1
  refine ⟨k, tru_okX I1 v1 e, ?_⟩
  cases k with
  | true =>
    rw [if_pos rfl] at p ⊢
    exact sb W1 M1 H1 σ σx _ _ I1 (S.le l1) p fun W2 M2 H2 u y l2 I2 v2 p2 => q W2 M2 H2 u y (l1.trans l2) I2 v2 p2
  | false =>
    rw [if_neg Bool.false_ne_true] at p ⊢
    exact q W1 M1 H1 v x l1 I1 v1 p
theorem se_or (ha : SE X a ra) (hb : SE X (.BoolOp .Or (b :: rest) pos) rb) : SE X (.BoolOp .Or (a :: b :: rest) pos) (rOrV ra rb) := by
  obtain ⟨ta, pa, sa⟩ := ha
  obtain ⟨tb, pb, sb⟩ := hb
  refine ⟨_, pe_orT pa pb, fun W M H σ σx P Q I S hr q => ?_⟩
  refine sa W M H σ σx _ _ I S hr fun W1 M1 H1 v x l1 I1 v1 p1 => ?_
  obtain ⟨k, e, p⟩ := ifS_of p1
  refine ⟨k, tru_okX I1 v1 e, ?_⟩
  cases k with
  | false =>
    rw [if_neg Bool.false_ne_true] at p ⊢
    exact sb W1 M1 H1 σ σx _ _ I1 (S.le l1) p fun W2 M2 H2 u y l2 I2 v2 p2 => q W2 M2 H2 u y (l1.trans l2) I2 v2 p2
  | true =>
    rw [if_pos rfl] at p ⊢
    exact q W1 M1 H1 v x l1 I1 v1 p
theorem se_not (ha : SE X a ra) : SE X (.UnaryOp .Not a pos) (rNotV ra) := by
  obtain ⟨ta, pa, sa⟩ := ha
  refine ⟨_, pe_notT pa, fun W M H σ σx P Q I S hr q => ?_⟩
  refine sa W M H σ σx _ _ I S hr fun W1 M1 H1 v x l1 I1 v1 p1 => ?_
  obtain ⟨k, e, p⟩ := ifS_of p1
  exact ⟨k, tru_okX I1 v1 e, q W1 M1 H1 _ (.d (.bool (!k))) l1 I1 (show Dq _ _ _ _ from .bl _) p⟩
def rIf (rc : RT) (ra rb : RE) : RE := fun σ M P => rc σ M fun k M1 => if k = true then ra σ M1 P else rb σ M1 P
theorem se_ifExp (hc : SC X c rc) (ha : SE X a ra) (hb : SE X b rb) : SE X (.IfExp c a b pos) (rIf rc ra rb) := by
  obtain ⟨tc, pc, sc⟩ := hc
  obtain ⟨ta, pa, sa⟩ := ha
  obtain ⟨tb, pb, sb⟩ := hb
  refine ⟨_, pe_ifExp pc pa pb, fun W M H σ σx P Q I S hr q => ?_⟩
  refine sc W M H σ σx _ _ I S hr fun W1 M1 H1 k l1 I1 p1 => ?_
  cases k with
  | true =>
    rw [if_pos rfl] at p1 ⊢
    exact sa W1 M1 H1 σ σx _ _ I1 (S.le l1) p1 fun W2 M2 H2 u y l2 I2 v2 p2 => q W2 M2 H2 u y (l1.trans l2) I2 v2 p2
  | false =>
    rw [if_neg Bool.false_ne_true] at p1 ⊢
    exact sb W1 M1 H1 σ σx _ _ I1 (S.le l1) p1 fun W2 M2 H2 u y l2 I2 v2 p2 => q W2 M2 H2 u y (l1.trans l2) I2 v2 p2
/-- -a -/
def rNeg (ra : RE) : RE := fun σ M P => ra σ M fun x M1 => match hd M1 x with
  | .sc (.int i) => P (.d (.int (-i))) M1
  | _ => False
theorem se_neg (ha : SE X a ra) : SE X (.UnaryOp .USub a pos) (rNeg ra) := by
  obtain ⟨ta, pa, sa⟩ := ha
  refine ⟨_, pe_un un_neg pa, fun W M H σ σx P Q I S hr q => ?_⟩
  refine sa W M H σ σx _ _ I S hr fun W1 M1 H1 v x l1 I1 v1 p1 => ?_
  split at p1
  · rename_i i e
    exact ⟨i, scI I1 v1 e, q W1 M1 H1 _ (.d (.int (-i))) l1 I1 (show Dq _ _ _ _ from .int _) p1⟩
  · exact p1.elim
end

/-! ### subscripts -/
def gIx : G2 := fun x y M P => match hd M x, hd M y with
  | .lst xs, .sc (.int i) => ifS (atI xs i) fun z => P z M
  | .tup xs, .sc (.int i) => ifS (atI xs i) fun z => P z M
  | .sc (.str s), .sc (.int i) => s.length ≤ sizeLine ∧ ifS (atI s.cps.toList i) fun c => P (.d (.str ⟨#[c]⟩)) M
  | .dic kvs, .sc k => ifS (keyOf k) fun _ => ifS (dget kvs k) fun z => P z M
  | _, _ => False
theorem VXs.atI {K : PySem.W.Frag} {W : Wd} {vs : List V} {xs : List Xv} {i : Int} {x : Xv} (h : VXs K W vs xs) (e : L2.atI xs i = some x) : ∃ v, L2.atI vs i = some v ∧ VX K W v x := by
  unfold L2.atI at e ⊢
  rw [h.length]
  cases hj : ixN xs.length i with
  | none => rw [hj] at e; cases e
  | some j => rw [hj] at e; exact VXs.get h e
def rIxD : R2 := fun x y H Q => ∃ a v, x = .ref a ∧ DGet H a y (some v) ∧ Q v H
theorem ix_dic {X : Cx} (hu : X.A.units + 1 < cLine) : IxR X rIxD := by
  intro value slice pins s σ H x y v u Q I rx ry h hs
  obtain ⟨a, z, rfl, g, q⟩ := h
  obtain rfl : v = Value.ref a := rx
  exact tail_any (dict_typeIs I g) PySem.F.slot_dict_getitem.lookup (d_getItem hu I g ry fun w' s3 I3 rw' => ⟨z, H, I3, rw', q⟩) hs
theorem scAny {K : PySem.W.Frag} {W : Wd} {M : Sto} {H : Hp} {v : V} {x : Xv} {d : PyData} (I : InvS K W M H) (h : VX K W v x) (e : hd M x = .sc d) : VX K W v (.d d) := by
  have ok := hd_ok I h
  rw [e] at ok
  have ok : scV d v := ok
  unfold scV at ok
  split at ok
  · subst ok; exact (show Dq _ _ _ _ from .non)
  · subst ok; exact (show Dq _ _ _ _ from .bl _)
  · subst ok; exact (show Dq _ _ _ _ from .int _)
  · subst ok; exact (show Dq _ _ _ _ from .str _)
  · exact ok.elim
theorem ixx {X : Cx} {a b : Expr} {ra rb : RE} {pos : Pos} (hu : X.A.units + 1 < cLine) (ha : SE X a ra) (hb : SE X b rb) (hs : PlainIx b := by intro _ _; rfl) : SE X (.Subscript a b pos) (rBin gIx ra rb) := by
  obtain ⟨ta, pa, sa⟩ := ha
  obtain ⟨tb, pb, sb⟩ := hb
  refine ⟨_, pe_ix (ix_list.or (ix_tup.or (ix_str.or (ix_dic hu)))) pa pb hs, snd_bin sa sb fun W M H v u x y P Q I v1 v2 p q => ?_⟩
  unfold gIx at p
  split at p
  · rename_i xs i e1 e2
    obtain ⟨a, vs, rfl, h1, h2⟩ := lstH I v1 e1
    obtain ⟨z, e3, p⟩ := ifS_of p
    obtain ⟨w, e4, h4⟩ := h2.atI e3
    exact .inl ⟨a, vs, i, w, rfl, scI I v2 e2, h1, e4, q W M H w z (.refl W) I h4 p⟩
  · rename_i xs i e1 e2
    obtain ⟨a, vs, rfl, h1, h2⟩ := tupH I v1 e1
    obtain ⟨z, e3, p⟩ := ifS_of p
    obtain ⟨w, e4, h4⟩ := h2.atI e3
    exact .inr (.inl ⟨a, vs, i, w, rfl, scI I v2 e2, h1, e4, q W M H w z (.refl W) I h4 p⟩)
  · rename_i s i e1 e2
    obtain ⟨c, e3, p2⟩ := ifS_of p.2
    exact .inr (.inr (.inl ⟨s, i, c, scS I v1 e1, scI I v2 e2, p.1, e3, q W M H _ (.d (.str ⟨#[c]⟩)) (.refl W) I (show Dq _ _ _ _ from .str _) p2⟩))
  · rename_i kvs k e1 e2
    obtain ⟨kk, ek, p⟩ := ifS_of p
    obtain ⟨z, e3, p⟩ := ifS_of p
    obtain ⟨a, rfl, _, h⟩ := dGet_ok I v1 e1 (scAny I v2 e2) ek
    rcases h with ⟨h1, _⟩ | ⟨w, y', h1, h2, h3⟩
    · rw [h1] at e3; cases e3
    · rw [h1] at e3; cases e3
      exact .inr (.inr (.inr ⟨a, w, rfl, h2, q W M H w _ (.refl W) I h3 p⟩))
  · exact p.elim

/-! ### slices -/
def SO (X : Cx) (e : Option Expr) (r : Sl → Sto → (Option Int → Sto → Prop) → Prop) : Prop := ∃ t, PO X e t ∧ ∀ (W : Wd) (M : Sto) (H : Hp) (σ : St) (σx : Sl) (P : Option Int → Sto → Prop) (Q : Option Int → Hp → Prop), InvS X.K W M H → Slr X.K W σ σx → r σx M P →
  (∀ W' M' H' o, W.le W' → InvS X.K W' M' H' → P o M' → Q o H') → t σ H Q
def rNoP : Sl → Sto → (Option Int → Sto → Prop) → Prop := fun _ M P => P none M
def rPart (r : RE) : Sl → Sto → (Option Int → Sto → Prop) → Prop := fun σ M P => r σ M fun x M1 => match hd M1 x with
  | .sc (.int i) => P (some i) M1
  | _ => False
theorem so_none {X : Cx} : SO X none rNoP := ⟨_, po_none, fun W M H σ σx P Q I S h q => q W M H none (.refl W) I h⟩
theorem so_some {X : Cx} {e : Expr} {r : RE} (h : SE X e r) : SO X (some e) (rPart r) := by
  obtain ⟨t, p, s⟩ := h
  refine ⟨_, po_some p, fun W M H σ σx P Q I S hr q => ?_⟩
  refine s W M H σ σx _ _ I S hr fun W1 M1 H1 v x l1 I1 v1 p1 => ?_
  split at p1
  · rename_i i e
    exact ⟨i, scI I1 v1 e, q W1 M1 H1 (some i) l1 I1 p1⟩
  · exact p1.elim
def cutX {α : Type} (xs : List α) (lo hi : Option Int) : List α := (xs.drop (HT.sIx xs.length 0 lo)).take (HT.sIx xs.length xs.length hi - HT.sIx xs.length 0 lo)
theorem Paired.dropP {α β : Type} {F : α → β → Prop} : ∀ {l₁ : List α} {l₂ : List β} (n : Nat), Paired F l₁ l₂ → Paired F (l₁.drop n) (l₂.drop n)
  | _, _, 0, h => h
  | _, _, _ + 1, .nil => .nil
  | _, _, n + 1, .cons _ t => Paired.dropP n t
theorem Paired.takeP {α β : Type} {F : α → β → Prop} : ∀ {l₁ : List α} {l₂ : List β} (n : Nat), Paired F l₁ l₂ → Paired F (l₁.take n) (l₂.take n)
  | _, _, 0, _ => .nil
  | _, _, _ + 1, .nil => .nil
  | _, _, n + 1, .cons h t => .cons h (Paired.takeP n t)
theorem VXs.cut {K : PySem.W.Frag} {W : Wd} {vs : List V} {xs : List Xv} (h : VXs K W vs xs) (lo hi : Option Int) : VXs K W (cutV vs lo hi) (cutX xs lo hi) := by
  unfold cutV cutX
  rw [h.length]
  exact Paired.takeP _ (Paired.dropP _ h)
theorem cutX_map {α β : Type} (f : α → β) (xs : List α) (lo hi : Option Int) : cutX (xs.map f) lo hi = (cutX xs lo hi).map f := by
  unfold cutX
  rw [List.length_map, List.map_take, List.map_drop]
/-- a slice: new data (a tuple's whole is itself) -/
def gSl (x : Xv) (lo hi : Option Int) (M : Sto) (P : Xv → Sto → Prop) : Prop := match hd M x with
  | .lst xs => ifS (fzL M (cutX xs lo hi)) fun q => P (.d (.list q.1)) q.2
  | .tup _ => ifS (dT x) fun ds => P (.d (.tuple (cutX ds lo hi))) M
  | .sc (.str s) => s.length ≤ sizeLine ∧ P (.d (.str (cutS s lo hi))) M
  | _ => False
def rSl (re : RE) (rl rh : Sl → Sto → (Option Int → Sto → Prop) → Prop) : RE := fun σ M P => re σ M fun x M1 => rl σ M1 fun l M2 => rh σ M2 fun u M3 => gSl x l u M3 P
/-- a list's slice, fresh -/
def rSlF (re : RE) (rl rh : Sl → Sto → (Option Int → Sto → Prop) → Prop) : RF := fun σ M P => re σ M fun x M1 => rl σ M1 fun l M2 => rh σ M2 fun u M3 => match hd M3 x with
  | .lst xs => P (cutX xs l u) M3
  | _ => False
theorem cutX_whole {α : Type} {xs : List α} {lo hi : Option Int} (h : HT.sIx xs.length 0 lo = 0 ∧ HT.sIx xs.length xs.length hi = xs.length) : cutX xs lo hi = xs := by
  unfold cutX
  rw [h.1, h.2]
  simp
section
variable {X : Cx} {e : Expr} {lo hi : Option Expr} {re : RE} {rl rh : Sl → Sto → (Option Int → Sto → Prop) → Prop} {pos p2 : Pos}
theorem se_slice (he : SE X e re) (hl : SO X lo rl) (hh : SO X hi rh) : SE X (.Subscript e (.Slice lo hi none p2) pos) (rSl re rl rh) := by
  obtain ⟨te, pe, se⟩ := he
  obtain ⟨tl, pl, sl⟩ := hl
  obtain ⟨th, ph, sh⟩ := hh
  refine ⟨_, pe_slice (sl_list.or (sl_tupA.or sl_str)) pe pl ph, fun W M H σ σx P Q I S hr q => ?_⟩
  refine se W M H σ σx _ _ I S hr fun W1 M1 H1 v x l1 I1 v1 p1 => ?_
  refine sl W1 M1 H1 σ σx _ _ I1 (S.le l1) p1 fun W2 M2 H2 l l2 I2 p2 => ?_
  refine sh W2 M2 H2 σ σx _ _ I2 (S.le (l1.trans l2)) p2 fun W3 M3 H3 u l3 I3 p3 => ?_
  have v3 := v1.le (l2.trans l3)
  have l03 := l1.trans (l2.trans l3)
  unfold gSl at p3
  split at p3
  · rename_i xs e1
    obtain ⟨a, vs, rfl, h1, h2⟩ := lstH I3 v3 e1
    obtain ⟨⟨ds, M4⟩, e2, p⟩ := ifS_of p3
    refine .inl ⟨a, vs, rfl, h1, fun p' hp => ?_⟩
    obtain ⟨I4, L4⟩ := I3.loose hp (.lst (cutV vs l u))
    obtain ⟨W5, l5, I5, v5⟩ := adopt_frz I4 L4 (h2.cut l u) e2
    exact q W5 M4 _ _ _ (l03.trans l5) I5 v5 p
  · rename_i xs e1
    obtain ⟨ds, e2, p⟩ := ifS_of p3
    have e2 := dT_of e2
    subst e2
    obtain ⟨a, vs, rfl, h1, h2⟩ := vx_tup v3
    refine .inr (.inl ⟨a, vs, rfl, (SameR.of I3.sf).sqT h1, fun hw => ?_, fun hw p' hp => ?_⟩)
    · rw [h2.length] at hw
      rw [cutX_whole hw] at p
      exact q W3 M3 H3 _ _ l03 I3 v3 p
    · obtain ⟨I4, l4⟩ := I3.newData hp (.tup (cutV vs l u))
      have z := (VXs.ofD h2).cut l u
      rw [cutX_map] at z
      exact q _ M3 _ _ (.d (.tuple (cutX ds l u))) (l03.trans l4) I4 (show Dq _ _ _ _ from .tup (.of upd_same) ((VXs.toD z).same l4.f)) p
  · rename_i s e1
    exact .inr (.inr ⟨s, scS I3 v3 e1, p3.1, q W3 M3 H3 _ (.d (.str (cutS s l u))) l03 I3 (show Dq _ _ _ _ from .str _) p3.2⟩)
  · exact p3.elim
theorem sf_slice (he : SE X e re) (hl : SO X lo rl) (hh : SO X hi rh) : SF X (.Subscript e (.Slice lo hi none p2) pos) (rSlF re rl rh) := by
  obtain ⟨te, pe, se⟩ := he
  obtain ⟨tl, pl, sl⟩ := hl
  obtain ⟨th, ph, sh⟩ := hh
  refine ⟨_, pe_slice sl_list pe pl ph, fun W M H σ σx P Q I S hr q => ?_⟩
  refine se W M H σ σx _ _ I S hr fun W1 M1 H1 v x l1 I1 v1 p1 => ?_
  refine sl W1 M1 H1 σ σx _ _ I1 (S.le l1) p1 fun W2 M2 H2 l l2 I2 p2 => ?_
  refine sh W2 M2 H2 σ σx _ _ I2 (S.le (l1.trans l2)) p2 fun W3 M3 H3 u l3 I3 p3 => ?_
  have v3 := v1.le (l2.trans l3)
  split at p3
  · rename_i xs e1
    obtain ⟨a, vs, rfl, h1, h2⟩ := lstH I3 v3 e1
    refine ⟨a, vs, rfl, h1, fun p' hp => ?_⟩
    obtain ⟨I4, L4⟩ := I3.loose hp (.lst (cutV vs l u))
    exact q W3 M3 _ _ _ _ (l1.trans (l2.trans l3)) I4 L4 (h2.cut l u) p3
  · exact p3.elim
end

/-! ### argument lists, displays -/
def rNil : RF := fun _ M P => P [] M
def rCons (ra : RE) (rr : RF) : RF := fun σ M P => ra σ M fun x M1 => rr σ M1 fun xs M2 => P (x :: xs) M2
section
variable {X : Cx} {e : Expr} {es : List Expr} {re : RE} {rs : RF} {pos : Pos}
theorem sa_nil : SA X [] rNil := ⟨_, pa_nil, fun W M H σ σx P Q I S h q => q W M H [] [] (.refl W) I .nil h⟩
theorem sa_cons (ha : SE X e re) (hr : SA X es rs) (hs : starEach (e :: es) X.env = (false, eval e X.env) :: starEach es X.env := by rfl) : SA X (e :: es) (rCons re rs) := by
  obtain ⟨te, pe, se⟩ := ha
  obtain ⟨tr, pr, sr⟩ := hr
  refine ⟨_, pa_cons pe pr hs, fun W M H σ σx P Q I S h q => ?_⟩
  refine se W M H σ σx _ _ I S h fun W1 M1 H1 v x l1 I1 v1 p1 => ?_
  refine sr W1 M1 H1 σ σx _ _ I1 (S.le l1) p1 fun W2 M2 H2 vs xs l2 I2 v2 p2 => ?_
  exact q W2 M2 H2 (v :: vs) (x :: xs) (l1.trans l2) I2 (.cons (v1.le l2) v2) p2
/-- a tuple: data -/
def rTup (rs : RF) : RE := fun σ M P => rs σ M fun xs M1 => xs.length ≤ sizeLine ∧ ifS (fzL M1 xs) fun q => P (.d (.tuple q.1)) q.2
/-- a tuple that holds cells -/
def rTupC (rs : RF) : RE := fun σ M P => rs σ M fun xs M1 => xs.length ≤ sizeLine ∧ P (.c M1.length) (M1 ++ [.tup xs])
def rLst (rs : RF) : RF := fun σ M P => rs σ M fun xs M1 => xs.length ≤ sizeLine ∧ P xs M1
theorem se_tup {k} (h : SA X es rs) : SE X (.Tuple es k pos) (rTup rs) := by
  obtain ⟨t, p, s⟩ := h
  refine ⟨_, pe_tup p, fun W M H σ σx P Q I S h q => ?_⟩
  refine s W M H σ σx _ _ I S h fun W1 M1 H1 vs xs l1 I1 v1 p1 => ?_
  refine ⟨by rw [v1.length]; exact p1.1, fun p' hp => ?_⟩
  obtain ⟨⟨ds, M2⟩, e, pp⟩ := ifS_of p1.2
  obtain ⟨I4, L4⟩ := I1.loose hp (.tup vs)
  obtain ⟨W5, l5, I5, v5⟩ := adopt_tup I4 L4 v1 e
  exact q W5 M2 _ _ _ (l1.trans l5) I5 v5 pp
theorem se_tupC {k} (h : SA X es rs) : SE X (.Tuple es k pos) (rTupC rs) := by
  obtain ⟨t, p, s⟩ := h
  refine ⟨_, pe_tup p, fun W M H σ σx P Q I S h q => ?_⟩
  refine s W M H σ σx _ _ I S h fun W1 M1 H1 vs xs l1 I1 v1 p1 => ?_
  refine ⟨by rw [v1.length]; exact p1.1, fun p' hp => ?_⟩
  obtain ⟨I4, L4⟩ := I1.loose hp (.tup vs)
  obtain ⟨I2, l2, x2⟩ := I4.adoptCell L4 (o := .tup xs) fun W' l' _ => ⟨vs, L4.at_, v1.le l'⟩
  exact q _ _ _ _ _ (l1.trans l2) I2 x2 p1.2
theorem sf_lst (h : SA X es rs) : SF X (.List es pos) (rLst rs) := by
  obtain ⟨t, p, s⟩ := h
  refine ⟨_, pe_lst p, fun W M H σ σx P Q I S h q => ?_⟩
  refine s W M H σ σx _ _ I S h fun W1 M1 H1 vs xs l1 I1 v1 p1 => ?_
  refine ⟨by rw [v1.length]; exact p1.1, fun p' hp => ?_⟩
  obtain ⟨I4, L4⟩ := I1.loose hp (.lst vs)
  exact q W1 M1 _ _ _ _ l1 I4 L4 v1 p1.2
end
end G

set_option Elab.async false
set_option linter.all false
set_option maxRecDepth 100000
set_option maxHeartbeats 4000000
/-! G4: targets, statements, loops, comprehensions over data and store. -/
namespace G
open PySem PySem.Spec PyProof.Rows L2

/-! ### one reading for all contexts of a kind -/
def tOf (K : PySem.W.Frag) (r : RE) : TE := fun σ H Q => ∃ W M σx P, InvS K W M H ∧ Slr K W σ σx ∧ r σx M P ∧ ∀ W' M' H' v x, W.le W' → InvS K W' M' H' → VX K W' v x → P x M' → Q v H'
theorem snd_tOf {K : PySem.W.Frag} {r : RE} : Snd K (tOf K r) r := fun W M H σ σx P Q I S h q => ⟨W, M, σx, P, I, S, h, q⟩
theorem SE.can {X : Cx} {e : Expr} {r : RE} (h : SE X e r) : PE X e (tOf X.K r) := by
  obtain ⟨t, p, s⟩ := h
  exact ⟨fun pins st σ H Q I ⟨W, M, σx, P, J, S, hr, q⟩ => p.run pins st σ H Q I (s W M H σ σx P Q J S hr q)⟩
def ttOf (K : PySem.W.Frag) (r : RT) : TT := fun σ H Q => ∃ W M σx P, InvS K W M H ∧ Slr K W σ σx ∧ r σx M P ∧ ∀ W' M' H' b, W.le W' → InvS K W' M' H' → P b M' → Q b H'
theorem snd_ttOf {K : PySem.W.Frag} {r : RT} : SndT K (ttOf K r) r := fun W M H σ σx P Q I S h q => ⟨W, M, σx, P, I, S, h, q⟩
theorem SC.can {X : Cx} {e : Expr} {r : RT} (h : SC X e r) : PT X e (ttOf X.K r) := by
  obtain ⟨t, p, s⟩ := h
  exact ⟨fun pins st σ H Q I ⟨W, M, σx, P, J, S, hr, q⟩ => p.run pins st σ H Q I (s W M H σ σx P Q J S hr q)⟩

/-! ### targets -/
abbrev RG := Xv → Sl → Sto → (Sl → Sto → Prop) → Prop
def Wp (σ σ' : St) (js : List Nat) : Prop := ∀ vs, (∀ j ∈ js, j ∈ vs) → wipe σ' vs = wipe σ vs
def SndG (K : PySem.W.Frag) (js : List Nat) (t : TG) (g : RG) : Prop := ∀ (W : Wd) (M : Sto) (H : Hp) (σ : St) (σx : Sl) (v : V) (x : Xv) (P : Sl → Sto → Prop) (Q : St → Hp → Prop), InvS K W M H → Slr K W σ σx → VX K W v x → g x σx M P →
  (∀ W' M' H' σ' σx', W.le W' → InvS K W' M' H' → Slr K W' σ' σx' → Wp σ σ' js → P σx' M' → Q σ' H') → t v σ H Q
def SG (X : Cx) (tg : Expr) (js : List Nat) (g : RG) : Prop := ∃ t, PG X tg t ∧ SndG X.K js t g
def tgOf (K : PySem.W.Frag) (js : List Nat) (g : RG) : TG := fun v σ H Q => ∃ W M σx x P, InvS K W M H ∧ Slr K W σ σx ∧ VX K W v x ∧ g x σx M P ∧ ∀ W' M' H' σ' σx', W.le W' → InvS K W' M' H' → Slr K W' σ' σx' → Wp σ σ' js → P σx' M' → Q σ' H'
theorem snd_tgOf {K : PySem.W.Frag} {js : List Nat} {g : RG} : SndG K js (tgOf K js g) g := fun W M H σ σx v x P Q I S h hg q => ⟨W, M, σx, x, P, I, S, h, hg, q⟩
theorem SG.can {X : Cx} {tg : Expr} {js : List Nat} {g : RG} (h : SG X tg js g) : PG X tg (tgOf X.K js g) := by
  obtain ⟨t, p, s⟩ := h
  exact ⟨fun pins st σ H v u Q I r ⟨W, M, σx, x, P, J, S, h1, hr, q⟩ => p.run pins st σ H v u Q I r (s W M H σ σx v x P Q J S h1 hr q)⟩
def rgName (i : Nat) : RG := fun x σ M P => P (σ.set i (some x)) M
theorem wipe_get (σ : St) (vs : List Nat) (j : Nat) : (wipe σ vs)[j]? = if j ∈ vs then (if j < σ.length then some none else none) else σ[j]? := by
  induction vs with
  | nil => simp [wipe]
  | cons v vs ih =>
    unfold wipe
    by_cases e : v = j
    · subst e
      rw [if_pos List.mem_cons_self]
      by_cases hl : v < σ.length
      · rw [if_pos hl, List.getElem?_set_self (by rw [wipe_length]; exact hl)]
      · rw [if_neg hl, List.getElem?_eq_none (by rw [List.length_set, wipe_length]; omega)]
    · rw [List.getElem?_set_ne e, ih]
      have : (j ∈ v :: vs) ↔ j ∈ vs := by
        simp only [List.mem_cons]
        exact ⟨fun h => h.elim (fun h => absurd h.symm e) id, .inr⟩
      by_cases hm : j ∈ vs
      · rw [if_pos hm, if_pos (this.mpr hm)]
      · rw [if_neg hm, if_neg (fun z => hm (this.mp z))]
theorem wp_set (σ : St) (i : Nat) (v : Option V) : Wp σ (σ.set i v) [i] := fun vs h => by
  have hi := h i (List.mem_singleton.mpr rfl)
  apply List.ext_getElem?
  intro j
  rw [wipe_get, wipe_get, List.length_set]
  by_cases hj : j ∈ vs
  · rw [if_pos hj, if_pos hj]
  · rw [if_neg hj, if_neg hj, List.getElem?_set_ne (show i ≠ j from fun e => hj (e ▸ hi))]
theorem Wp.refl (σ : St) (js : List Nat) : Wp σ σ js := fun _ _ => rfl
section
variable {X : Cx} {pos : Pos}
theorem sg_name {i : Nat} {x : Str} (hN : X.N.Nodup) (hi : X.N[i]? = some x := by rfl) (hx : Loc X.env.scope x := by first | exact Or.inl rfl | exact Or.inr rfl) (hf : X.fn x = true ∨ X.env.scope.names.lookup x = some .local := by first | exact .inl rfl | exact .inr rfl | assumption) : SG X (.Name x pos) [i] (rgName i) :=
  ⟨_, pg_name hN hi hx hf, fun W M H σ σx v x P Q I S h hg q => q W M H _ _ (.refl W) I (S.set i h) (wp_set σ i _) hg⟩
abbrev RGs := List Xv → Sl → Sto → (Sl → Sto → Prop) → Prop
def SGs (X : Cx) (ts : List Expr) (js : List Nat) (g : RGs) : Prop := ∃ t, PGs X ts t ∧ ∀ (W : Wd) (M : Sto) (H : Hp) (σ : St) (σx : Sl) (vs : List V) (xs : List Xv) (P : Sl → Sto → Prop) (Q : St → Hp → Prop), InvS X.K W M H → Slr X.K W σ σx → VXs X.K W vs xs → g xs σx M P →
  (∀ W' M' H' σ' σx', W.le W' → InvS X.K W' M' H' → Slr X.K W' σ' σx' → Wp σ σ' js → P σx' M' → Q σ' H') → t vs σ H Q
def rgNil : RGs := fun xs σ M P => match xs with
  | [] => P σ M
  | _ :: _ => False
def rgCons (g : RG) (gs : RGs) : RGs := fun xs σ M P => match xs with
  | [] => False
  | x :: xs => g x σ M fun σ1 M1 => gs xs σ1 M1 P
theorem sgs_nil : SGs X [] [] rgNil := ⟨_, pgs_nil, fun W M H σ σx vs xs P Q I S h hg q => by
  cases h with
  | nil => exact ⟨rfl, q W M H σ σx (.refl W) I S (.refl σ _) hg⟩
  | cons _ _ => exact hg.elim⟩
theorem Wp.trans {σ σ1 σ2 : St} {js ks : List Nat} (a : Wp σ σ1 js) (b : Wp σ1 σ2 ks) : Wp σ σ2 (js ++ ks) := fun vs h =>
  (b vs fun j hj => h j (List.mem_append_right _ hj)).trans (a vs fun j hj => h j (List.mem_append_left _ hj))
theorem sgs_cons {e : Expr} {es : List Expr} {js ks : List Nat} {g : RG} {gs : RGs} (h1 : SG X e js g) (h2 : SGs X es ks gs) (hs : (assignEach (e :: es) X.env).map (·.2) = assign e X.env :: (assignEach es X.env).map (·.2) := by rfl) : SGs X (e :: es) (js ++ ks) (rgCons g gs) := by
  obtain ⟨t, p, s⟩ := h1
  obtain ⟨ts, ps, ss⟩ := h2
  refine ⟨_, pgs_cons p ps hs, fun W M H σ σx vs xs P Q I S h hg q => ?_⟩
  cases h with
  | nil => exact hg.elim
  | cons a r =>
    refine ⟨_, _, rfl, ?_⟩
    refine s W M H σ σx _ _ _ _ I S a hg fun W1 M1 H1 σ1 σx1 l1 I1 S1 w1 p1 => ?_
    exact ss W1 M1 H1 σ1 σx1 _ _ _ _ I1 S1 (VXs.le l1 r) p1 fun W2 M2 H2 σ2 σx2 l2 I2 S2 w2 p2 => q W2 M2 H2 σ2 σx2 (l1.trans l2) I2 S2 (w1.trans w2) p2
def rgTup (n : Nat) (gs : RGs) : RG := fun x σ M P => match hd M x with
  | .tup xs => xs.length = n ∧ gs xs σ M P
  | _ => False
theorem sg_tup {es : List Expr} {k : Nat} {js : List Nat} {gs : RGs} {n : Nat} (hc : X.calm = true) (h : SGs X es js gs) (hn : (assignEach es X.env).length = n := by rfl) (hst : (assignEach es X.env).findIdx? (·.1) = none := by rfl) : SG X (.Tuple es k pos) js (rgTup n gs) := by
  obtain ⟨ts, ps, ss⟩ := h
  refine ⟨_, pg_tup hc ps hn hst, fun W M H σ σx v x P Q I S h hg q => ?_⟩
  unfold rgTup at hg
  split at hg
  · rename_i xs e
    obtain ⟨a, vs, rfl, h1, h2⟩ := tupH I h e
    exact ⟨a, vs, rfl, h1, h2.length.trans hg.1, ss W M H σ σx vs xs P Q I S h2 hg.2 q⟩
  · exact hg.elim
end

/-! ### stores into lists and dicts -/
def putX {κ : Type} [DecidableEq κ] (kvs : List (κ × Xv)) (k : κ) (x : Xv) : List (κ × Xv) :=
  if (kvs.any fun kv => decide (kv.1 = k)) = true then kvs.map (fun kv => if kv.1 = k then (kv.1, x) else kv) else kvs ++ [(k, x)]
theorem KVX.any {κ : Type} [DecidableEq κ] {K : PySem.W.Frag} {W : Wd} (k : κ) : ∀ {vs : List (κ × V)} {xs : List (κ × Xv)}, KVX K W vs xs → (vs.any fun kv => decide (kv.1 = k)) = xs.any fun kv => decide (kv.1 = k)
  | _, _, .nil => rfl
  | _, _, .cons h r => by
    rw [List.any_cons, List.any_cons, h.1, KVX.any k r]
theorem KVX.app {κ : Type} {K : PySem.W.Frag} {W : Wd} : ∀ {vs ws : List (κ × V)} {xs ys : List (κ × Xv)}, KVX K W vs xs → KVX K W ws ys → KVX K W (vs ++ ws) (xs ++ ys)
  | _, _, _, _, .nil, h => h
  | _, _, _, _, .cons h r, q => .cons h (KVX.app r q)
theorem KVX.mapPut {κ : Type} [DecidableEq κ] {K : PySem.W.Frag} {W : Wd} {k : κ} {v : V} {x : Xv} (hv : VX K W v x) : ∀ {vs : List (κ × V)} {xs : List (κ × Xv)}, KVX K W vs xs →
    KVX K W (vs.map fun kv => if kv.1 = k then (kv.1, v) else kv) (xs.map fun kv => if kv.1 = k then (kv.1, x) else kv)
  | _, _, .nil => .nil
  | p :: _, q :: _, .cons h r => by
    refine .cons ?_ (KVX.mapPut hv r)
    show (if p.1 = k then (p.1, v) else p).1 = (if q.1 = k then (q.1, x) else q).1 ∧ VX K W (if p.1 = k then (p.1, v) else p).2 (if q.1 = k then (q.1, x) else q).2
    by_cases e : p.1 = k
    · rw [if_pos e, if_pos (h.1 ▸ e)]; exact ⟨h.1, hv⟩
    · rw [if_neg e, if_neg (fun z => e (h.1.trans z))]; exact h
theorem KVX.put {κ : Type} [DecidableEq κ] {K : PySem.W.Frag} {W : Wd} {k : κ} {v : V} {x : Xv} {vs : List (κ × V)} {xs : List (κ × Xv)} (h : KVX K W vs xs) (hv : VX K W v x) : KVX K W (putK vs k v) (putX xs k x) := by
  unfold putK putX
  rw [KVX.any k h]
  by_cases c : (xs.any fun kv => decide (kv.1 = k)) = true
  · rw [if_pos c, if_pos c]; exact KVX.mapPut hv h
  · rw [if_neg c, if_neg c]; exact KVX.app h (.cons ⟨rfl, hv⟩ .nil)
theorem KVX.length {κ : Type} {K : PySem.W.Frag} {W : Wd} {vs : List (κ × V)} {xs : List (κ × Xv)} (h : KVX K W vs xs) : vs.length = xs.length := Paired.length h
def tupKeys : Xv → Option (List Key)
  | .d (.tuple ds) => ds.mapM keyOf
  | _ => none
/-- o[i] = x -/
def gSet (o i x : Xv) (M : Sto) (P : Sto → Prop) : Prop := match o with
  | .c j => match M[j]? with
    | some (.lst xs) => match hd M i with
      | .sc (.int k) => ifS (ixN xs.length k) fun n => P (M.set j (.lst (xs.set n x)))
      | _ => False
    | some (.dic kvs) => match hd M i with
      | .sc d => ifS (keyOf d) fun k => kvs.length < sizeLine ∧ P (M.set j (.dic (putX kvs k x)))
      | _ => False
    | _ => False
  | _ => False
def rSetD : V → V → V → Hp → (Hp → Prop) → Prop := fun o i v H Q => ∃ a H', o = .ref a ∧ DPut H a i v H' ∧ Q H'
theorem set_dic {X : Cx} (hu : X.A.units + 1 < cLine) : PSet X rSetD := by
  intro pins s σ H o i v ov iv u Q I ro ri rv h
  obtain ⟨a, H', rfl, g, q⟩ := h
  obtain rfl : ov = Value.ref a := ro
  exact d_setItem hu I g ri rv fun s4 I4 => ⟨H', I4, q⟩
theorem PSet.or {X : Cx} {r r' : TSet} (h : PSet X r) (h' : PSet X r') : PSet X (fun o i v H Q => r o i v H Q ∨ r' o i v H Q) := by
  intro pins s σ H o i v ov iv u Q I ro ri rv q
  rcases q with q | q
  · exact h pins s σ H o i v ov iv u Q I ro ri rv q
  · exact h' pins s σ H o i v ov iv u Q I ro ri rv q
def rgSub (ro ri : RE) : RG := fun x σ M P => ro σ M fun o M1 => ri σ M1 fun i M2 => gSet o i x M2 fun M3 => P σ M3
section
variable {X : Cx} {o i : Expr} {ro ri : RE} {pos : Pos}
theorem sg_sub (hu : X.A.units + 1 < cLine) (ho : SE X o ro) (hi : SE X i ri) (ha : ∀ v, assign (.Subscript o i pos) X.env v = (do
      let ov ← holding [v] (eval o X.env)
      let iv ← holding [v, ov] (eval i X.env)
      standAt pos
      holding [v, ov, iv] (setItem ov iv v)
      release [v, ov, iv] []) := by intro _; rfl) : SG X (.Subscript o i pos) [] (rgSub ro ri) := by
  obtain ⟨to, po, so⟩ := ho
  obtain ⟨ti, pi, si⟩ := hi
  refine ⟨_, pg_sub po pi (PSet.or set_list (set_dic hu)) ha, fun W M H σ σx v x P Q I S h hg q => ?_⟩
  refine so W M H σ σx _ _ I S hg fun W1 M1 H1 ov ox l1 I1 v1 p1 => ?_
  refine si W1 M1 H1 σ σx _ _ I1 (S.le l1) p1 fun W2 M2 H2 iv ix l2 I2 v2 p2 => ?_
  have vo := v1.le l2
  have vx := h.le (l1.trans l2)
  have S2 := S.le (l1.trans l2)
  unfold gSet at p2
  split at p2
  · rename_i _ j
    obtain ⟨a, rfl, ha⟩ := vo
    split at p2
    · rename_i xs em
      split at p2
      · rename_i k e
        obtain ⟨n, e2, p⟩ := ifS_of p2
        obtain ⟨f0, vs, h1, h2⟩ := I2.ob j a _ ha em
        refine .inl ⟨a, vs, k, n, rfl, scI I2 v2 e, h1, by rw [h2.length]; exact e2, ?_⟩
        have I3 := I2.write (u := .lst (vs.set n v)) (o := .lst (xs.set n x)) ha f0 ⟨f0, _, upd_same, VXs.set vx n h2⟩
        exact q W2 _ _ σ σx (l1.trans l2) I3 S2 (.refl σ _) p
      · exact p2.elim
    · rename_i kvs em
      split at p2
      · rename_i d e
        obtain ⟨k, e2, hl, p⟩ := ifS_of p2
        obtain ⟨f0, vs, h1, h2⟩ := I2.ob j a _ ha em
        have ed := keyOf_of e2
        subst ed
        have ek : iv = kV k := keyV (F := W2.F) (scAny I2 v2 e)
        subst ek
        refine .inr ⟨a, _, rfl, .k h1 (by rw [h2.length]; exact hl), ?_⟩
        have I3 := I2.write (u := .dK (putK vs k v)) (o := .dic (putX kvs k x)) ha f0 ⟨f0, _, upd_same, KVX.put h2 vx⟩
        exact q W2 _ _ σ σx (l1.trans l2) I3 S2 (.refl σ _) p
      · exact p2.elim
    · exact p2.elim
  · exact p2.elim
end

/-! ### statements -/
def rSeq (a b : RS) : RS := fun σ M P => a σ M fun o M1 => match o with
  | .nx σ1 => b σ1 M1 P
  | o => P o M1
def rNx : RS := fun σ M P => P (.nx σ) M
def rBk : RS := fun σ M P => P (.bk σ) M
def rCt : RS := fun σ M P => P (.ct σ) M
def rDrop (r : RE) : RS := fun σ M P => r σ M fun _ M1 => P (.nx σ) M1
def rRet (r : RE) : RS := fun σ M P => r σ M fun x M1 => P (.rt x) M1
def rRetN : RS := fun _ M P => P (.rt (.d .none)) M
def rIfS (c : RT) (a b : RS) : RS := fun σ M P => c σ M fun k M1 => if k = true then a σ M1 P else b σ M1 P
def rAsg (r : RE) (g : RG) : RS := fun σ M P => r σ M fun x M1 => g x σ M1 fun σ1 M2 => P (.nx σ1) M2
section
variable {X : Cx} {st : Stmt} {rest : List Stmt} {a b : RS} {e : Expr} {re : RE} {pos : Pos}
theorem sss_nil : SSs X [] rNx := ⟨_, pss_nil, fun W M H σ σx P D I S h q => q W M H (.nx σx) (.refl W) I h σ S⟩
theorem Fin.le {K : PySem.W.Frag} {W : Wd} {D : Ends} {H : Hp} {o : Out} {f : St → Hp → Prop} (h : Fin K W D H o) (n : ∀ σ, o ≠ .nx σ) : Fin K W { D with nx := f } H o := by
  cases o with
  | nx σ => exact absurd rfl (n σ)
  | rt x => exact h
  | bk σ => exact h
  | ct σ => exact h
theorem sss_cons (h1 : SS X st a) (h2 : SSs X rest b) : SSs X (st :: rest) (rSeq a b) := by
  obtain ⟨t, p, s⟩ := h1
  obtain ⟨u, pu, su⟩ := h2
  refine ⟨_, pss_cons p pu, fun W M H σ σx P D I S h q => ?_⟩
  refine s W M H σ σx _ { D with nx := u D } I S h fun W1 M1 H1 o l1 I1 p1 => ?_
  cases o with
  | nx σ1 => exact fun σ' S1 => su W1 M1 H1 σ' σ1 P D I1 S1 p1 fun W2 M2 H2 o l2 I2 p2 => q W2 M2 H2 o (l1.trans l2) I2 p2
  | rt x => exact (q W1 M1 H1 (.rt x) l1 I1 p1 : Fin _ _ _ _ _)
  | bk x => exact (q W1 M1 H1 (.bk x) l1 I1 p1 : Fin _ _ _ _ _)
  | ct x => exact (q W1 M1 H1 (.ct x) l1 I1 p1 : Fin _ _ _ _ _)
theorem sss_one (h1 : SS X st a) : SSs X [st] a := let ⟨t, p, s⟩ := h1; ⟨t, pss_one p, s⟩
theorem ss_pass : SS X (.Pass pos) rNx := ⟨_, ps_pass, fun W M H σ σx P D I S h q => q W M H (.nx σx) (.refl W) I h σ S⟩
theorem ss_break : SS X (.Break pos) rBk := ⟨_, ps_break, fun W M H σ σx P D I S h q => q W M H (.bk σx) (.refl W) I h σ S⟩
theorem ss_continue : SS X (.Continue pos) rCt := ⟨_, ps_continue, fun W M H σ σx P D I S h q => q W M H (.ct σx) (.refl W) I h σ S⟩
theorem ss_expr (he : SE X e re) (hs : swapsWith e none pos.line X.env = pure false := by rfl) : SS X (.Expr e pos) (rDrop re) := by
  obtain ⟨t, p, s⟩ := he
  refine ⟨_, ps_expr p hs, fun W M H σ σx P D I S h q => ?_⟩
  exact s W M H σ σx _ _ I S h fun W1 M1 H1 v x l1 I1 v1 p1 => q W1 M1 H1 (.nx σx) l1 I1 p1 σ (S.le l1)
theorem ss_ret (he : SE X e re) : SS X (.Return (some e) pos) (rRet re) := by
  obtain ⟨t, p, s⟩ := he
  refine ⟨_, ps_ret p, fun W M H σ σx P D I S h q => ?_⟩
  exact s W M H σ σx _ _ I S h fun W1 M1 H1 v x l1 I1 v1 p1 => q W1 M1 H1 (.rt x) l1 I1 p1 v v1
theorem ss_retN : SS X (.Return none pos) rRetN := ⟨_, ps_retN, fun W M H σ σx P D I S h q => q W M H (.rt (.d .none)) (.refl W) I h _ (show Dq _ _ _ _ from .non)⟩
theorem ss_if {c : Expr} {p q : List Stmt} {rc : RT} (hc : SC X c rc) (ha : SSs X p a) (hb : SSs X q b) : SS X (.If c p q pos) (rIfS rc a b) := by
  obtain ⟨tc, pc, sc⟩ := hc
  obtain ⟨ta, pa, sa⟩ := ha
  obtain ⟨tb, pb, sb⟩ := hb
  refine ⟨_, ps_if pc pa pb, fun W M H σ σx P D I S h q => ?_⟩
  refine sc W M H σ σx _ _ I S h fun W1 M1 H1 k l1 I1 p1 => ?_
  cases k with
  | true =>
    rw [if_pos rfl] at p1 ⊢
    exact sa W1 M1 H1 σ σx _ _ I1 (S.le l1) p1 fun W2 M2 H2 o l2 I2 p2 => q W2 M2 H2 o (l1.trans l2) I2 p2
  | false =>
    rw [if_neg Bool.false_ne_true] at p1 ⊢
    exact sb W1 M1 H1 σ σx _ _ I1 (S.le l1) p1 fun W2 M2 H2 o l2 I2 p2 => q W2 M2 H2 o (l1.trans l2) I2 p2
theorem ss_asg {tg : Expr} {js : List Nat} {g : RG} (he : SE X e re) (hg : SG X tg js g) (hs : swapsWithSole [tg] e pos.line X.env = pure false := by rfl) (hw : swappedStores [tg] e X.env = pure none := by rfl)
    (h1 : (assignEach [tg] X.env).map (·.2) = [assign tg X.env] := by rfl) : SS X (.Assign [tg] e pos) (rAsg re g) := by
  obtain ⟨t, p, s⟩ := he
  obtain ⟨tg, pg, sg⟩ := hg
  refine ⟨_, ps_asg p pg hs hw h1, fun W M H σ σx P D I S h q => ?_⟩
  refine s W M H σ σx _ _ I S h fun W1 M1 H1 v x l1 I1 v1 p1 => ?_
  exact sg W1 M1 H1 σ σx v x _ _ I1 (S.le l1) v1 p1 fun W2 M2 H2 σ2 σx2 l2 I2 S2 _ p2 => q W2 M2 H2 (.nx σx2) (l1.trans l2) I2 p2 σ2 S2
theorem ss_set {i : Nat} {x : Str} {pos' : Pos} (hN : X.N.Nodup) (he : SE X e re) (hi : X.N[i]? = some x := by rfl) (hx : Loc X.env.scope x := by first | exact Or.inl rfl | exact Or.inr rfl) (hs : swapsWith e (some (.Name x pos')) pos.line X.env = pure false := by rfl) (hf : X.fn x = true ∨ X.env.scope.names.lookup x = some .local := by first | exact .inl rfl | exact .inr rfl | assumption) :
    SS X (.Assign [.Name x pos'] e pos) (rAsg re (rgName i)) := by
  obtain ⟨t, p, s⟩ := he
  refine ⟨_, ps_set hN hi hx p hs hf, fun W M H σ σx P D I S h q => ?_⟩
  refine s W M H σ σx _ _ I S h fun W1 M1 H1 v x l1 I1 v1 p1 => ?_
  exact q W1 M1 H1 (.nx (σx.set i (some x))) l1 I1 p1 _ ((S.le l1).set i v1)
/-- a, b = e1, e2 with plain local names -/
def rPar (i j : Nat) (rs : RF) : RS := fun σ M P => rs σ M fun xs M1 => match xs with
  | [x, y] => P (.nx ((σ.set i (some x)).set j (some y))) M1
  | _ => False
theorem ss_par {i j : Nat} {x y : Str} {a b : Expr} {rs : RF} {px py pt : Pos} {kt k2 pt2} (hc : X.calm = true) (hN : X.N.Nodup) (ha : SA X [a, b] rs) (hi : X.N[i]? = some x := by rfl) (hj : X.N[j]? = some y := by rfl) (hij : i ≠ j := by decide)
    (hx : X.env.scope.names.lookup x = some .local := by rfl) (hy : X.env.scope.names.lookup y = some .local := by rfl)
    (hw : swappedStores [.Tuple [.Name x px, .Name y py] kt pt] (.Tuple [a, b] k2 pt2) X.env = pure (some [x, y]) := by rfl)
    (hs : swapsWithSole [.Tuple [.Name x px, .Name y py] kt pt] (.Tuple [a, b] k2 pt2) pos.line X.env = pure false := by rfl) :
    SS X (.Assign [.Tuple [.Name x px, .Name y py] kt pt] (.Tuple [a, b] k2 pt2) pos) (rPar i j rs) := by
  obtain ⟨t, p, s⟩ := ha
  refine ⟨_, ps_par hc hN hi hj hij hx hy p hw hs, fun W M H σ σx P D I S h q => ?_⟩
  refine s W M H σ σx _ _ I S h fun W1 M1 H1 vs xs l1 I1 v1 p1 => ?_
  split at p1
  · rename_i x y
    cases v1 with
    | cons a1 r1 =>
      cases r1 with
      | cons a2 r2 =>
        cases r2
        exact ⟨_, _, rfl, q W1 M1 H1 (.nx _) l1 I1 p1 _ (((S.le l1).set i a1).set j a2)⟩
  · exact p1.elim
end

/-! ### while -/
def whileW (c : RT) (rb : RS) (P : Out → Sto → Prop) : Nat → Sl → Sto → Prop
  | 0, _, _ => False
  | n + 1, σ, M => c σ M fun k M1 => if k = true then rb σ M1 fun o M2 => match o with
      | .nx σ2 => whileW c rb P n σ2 M2
      | .ct σ2 => whileW c rb P n σ2 M2
      | .bk σ2 => P (.nx σ2) M2
      | .rt x => P (.rt x) M2
    else P (.nx σ) M1
def rWhile (c : RT) (rb : RS) : RS := fun σ M P => ∃ n, whileW c rb P n σ M
section
variable {X : Cx} {c : Expr} {body : List Stmt} {rc : RT} {rb : RS} {pos : Pos}
theorem ss_while (hp : PassesOwn (model X.prog X.w) X.A X.env X.xe) (hc : SC X c rc) (hb : SSs X body rb) : SS X (.While c body [] pos) (rWhile rc rb) := by
  obtain ⟨tc, pc, sc⟩ := hc
  obtain ⟨tb, pb, sb⟩ := hb
  refine ⟨_, ps_while hp pc pb, fun W M H σ σx P D I S h q => ?_⟩
  obtain ⟨n, h⟩ := h
  refine ⟨fun m σ' H' => ∃ W' M' σx', W.le W' ∧ InvS X.K W' M' H' ∧ Slr X.K W' σ' σx' ∧ whileW rc rb P m σx' M', ⟨n, W, M, σx, .refl W, I, S, h⟩, ?_⟩
  rintro m σ' H' ⟨W', M', σx', l', I', S', h'⟩
  cases m with
  | zero => exact h'.elim
  | succ m =>
    refine sc W' M' H' σ' σx' _ _ I' S' h' fun W1 M1 H1 k l1 I1 p1 => ?_
    cases k with
    | false =>
      rw [if_neg Bool.false_ne_true] at p1 ⊢
      exact q W1 M1 H1 (.nx σx') (l'.trans l1) I1 p1 σ' (S'.le l1)
    | true =>
      rw [if_pos rfl] at p1 ⊢
      refine ⟨fun σ2 H2 => ∃ W' M' σx', W.le W' ∧ InvS X.K W' M' H2 ∧ Slr X.K W' σ2 σx' ∧ whileW rc rb P m σx' M', fun σ2 H2 h2 => ⟨m, Nat.lt_succ_self m, h2⟩, ?_⟩
      refine sb W1 M1 H1 σ' σx' _ _ I1 (S'.le l1) p1 fun W2 M2 H2 o l2 I2 p2 => ?_
      cases o with
      | nx σ2 => exact fun σ3 S3 => ⟨W2, M2, σ2, (l'.trans l1).trans l2, I2, S3, p2⟩
      | ct σ2 => exact fun σ3 S3 => ⟨W2, M2, σ2, (l'.trans l1).trans l2, I2, S3, p2⟩
      | bk σ2 => exact (q W2 M2 H2 (.nx σ2) ((l'.trans l1).trans l2) I2 p2 : Fin _ _ _ _ _)
      | rt x => exact (q W2 M2 H2 (.rt x) ((l'.trans l1).trans l2) I2 p2 : Fin _ _ _ _ _)
end

/-! ### what is walked -/
/-- the iterator J yields the items, as long as keep holds of the store -/
def ItX (K : PySem.W.Frag) (W : Wd) (J : It) (items : List Xv) (keep : Sto → Prop) : Prop := ∀ (W2 : Wd) (M2 : Sto) (H2 : Hp) (i : Nat), W.lf W2 → InvS K W2 M2 H2 → keep M2 →
  (items.length ≤ i → J.stop i H2) ∧ ∀ x, items[i]? = some x → J.go i H2 ∧ ∀ v H3, J.yld i H2 v H3 → ∃ W3, W2.le W3 ∧ InvS K W3 M2 H3 ∧ VX K W3 v x
abbrev RI := Sl → Sto → (List Xv → (Sto → Prop) → Sto → Prop) → Prop
def SndI (K : PySem.W.Frag) (wi : TI) (r : RI) : Prop := ∀ (W : Wd) (M : Sto) (H : Hp) (σ : St) (σx : Sl) (P : List Xv → (Sto → Prop) → Sto → Prop) (R : It → Hp → Prop), InvS K W M H → Slr K W σ σx → r σx M P →
  (∀ W' M' H' J items keep, W.le W' → InvS K W' M' H' → ItX K W' J items keep → P items keep M' → R J H') → wi σ H R
def SI (X : Cx) (tg iter : Expr) (r : RI) : Prop := ∃ wi, PI X tg iter wi ∧ SndI X.K wi r
def kp (x : Xv) (M : Sto) (M2 : Sto) : Prop := match x with
  | .d _ => True
  | .c j => M2[j]? = M[j]?
theorem hd_kp {x : Xv} {M M2 : Sto} (h : kp x M M2) : hd M2 x = hd M x := by
  cases x with
  | d d => rfl
  | c j =>
    have h : M2[j]? = M[j]? := h
    simp only [hd, h]
section
variable {K : PySem.W.Frag} {W : Wd} {M : Sto} {H : Hp} {a : Addr} {x : Xv} {xs : List Xv}
theorem itx_list (I : InvS K W M H) (h : VX K W (.ref a) x) (e : hd M x = .lst xs) : ItX K W (Itl K a) xs (kp x M) := by
  intro W2 M2 H2 i l I2 k
  obtain ⟨b, vs, eb, h1, h2⟩ := lstH I2 (h.lf l) ((hd_kp k).trans e)
  cases eb
  refine ⟨fun hi => ⟨vs, h1, by rw [h2.length]; exact hi⟩, fun z hz => ?_⟩
  obtain ⟨v, hv, hx⟩ := h2.get hz
  refine ⟨⟨vs, v, h1, hv⟩, fun w H3 y => ?_⟩
  obtain ⟨e3, f3⟩ := y
  subst e3
  have := f3 vs h1
  rw [hv] at this
  cases this
  exact ⟨W2, .refl W2, I2, hx⟩
theorem itx_tup (I : InvS K W M H) (h : VX K W (.ref a) x) (e : hd M x = .tup xs) : ItX K W (Itt K a) xs (kp x M) := by
  intro W2 M2 H2 i l I2 k
  obtain ⟨b, vs, eb, h1, h2⟩ := tupH I2 (h.lf l) ((hd_kp k).trans e)
  cases eb
  refine ⟨fun hi => ⟨vs, h1, by rw [h2.length]; exact hi⟩, fun z hz => ?_⟩
  obtain ⟨v, hv, hx⟩ := h2.get hz
  refine ⟨⟨vs, v, h1, hv⟩, fun w H3 y => ?_⟩
  obtain ⟨e3, f3⟩ := y
  subst e3
  have := f3 vs h1
  rw [hv] at this
  cases this
  exact ⟨W2, .refl W2, I2, hx⟩
def rangeX (lo : Int) (n : Nat) : List Xv := (List.range n).map fun i : Nat => .d (.int (lo + (i : Int)))
theorem itx_range (W : Wd) (lo : Int) (n : Nat) : ItX K W (Itr lo n) (rangeX lo n) fun _ => True := by
  intro W2 M2 H2 i l I2 _
  refine ⟨fun hi => show n ≤ i by simpa [rangeX] using hi, fun z hz => ?_⟩
  unfold rangeX at hz
  rw [List.getElem?_map] at hz
  by_cases hi : i < n
  · rw [List.getElem?_range hi] at hz
    cases hz
    refine ⟨hi, fun w H3 y => ?_⟩
    obtain ⟨e1, e2⟩ := y
    subst e1 e2
    exact ⟨W2, .refl W2, I2, show Dq _ _ _ _ from .int _⟩
  · rw [List.getElem?_eq_none (by simpa using hi)] at hz; cases hz
end
/-- a list or tuple walked -/
def iSeq (K : PySem.W.Frag) (te : TE) : TI := fun σ H R => te σ H fun x H1 => ∃ a, x = .ref a ∧ (((∃ xs, SqL K H1 a xs) ∧ R (Itl K a) H1) ∨ ((∃ xs, SqT K H1 a xs) ∧ R (Itt K a) H1))
theorem pi_seq {X : Cx} {tg l : Expr} {tl : TE} (hl : PE X l tl) : PI X tg l (iSeq X.K tl) := by
  refine ⟨fun pins s σ H R I h => ?_⟩
  refine thn (hl.run pins s σ H _ I h) fun v s1 ⟨x, H1, I1, r1, q1⟩ => ?_
  obtain ⟨a, e, ⟨⟨xs, hq⟩, q⟩ | ⟨⟨xs, hq⟩, q⟩⟩ := q1
  · subst e
    cases r1
    obtain ⟨its, rv, p, hz⟩ := I1.list hq
    refine wpAny_pyIter_list p.isList ?_
    refine ⟨s1.heap.objs.size, [s1.heap.objs.size], _, _, H1, rfl, I1.kept (t' := s1.toks) fun b o e => Heap.get?_push_of_some _ e, turn_list a _, ⟨_, Heap.get?_push_size _ rfl, rfl, rfl⟩, fun b hb => ?_, q⟩
    have e : b = s1.heap.objs.size := by simpa using hb
    subst e
    exact I1.fpOk (Nat.le_refl _) (I1.hok.fresh (Nat.le_refl _))
  · subst e
    cases r1
    obtain ⟨its, rv, p, hz⟩ := I1.tuple hq
    refine wpAny_pyIter_tuple (show s1.heap.IsTuple a its.toArray from p) ?_
    refine ⟨s1.heap.objs.size, [s1.heap.objs.size], _, _, H1, rfl, I1.kept (t' := s1.toks) fun b o e => Heap.get?_push_of_some _ e, turn_tuple a _, ⟨_, Heap.get?_push_size _ rfl, rfl, rfl⟩, fun b hb => ?_, q⟩
    have e : b = s1.heap.objs.size := by simpa using hb
    subst e
    exact I1.fpOk (Nat.le_refl _) (I1.hok.fresh (Nat.le_refl _))
def riSeq (r : RE) : RI := fun σ M P => r σ M fun x M1 => match hd M1 x with
  | .lst xs => P xs (kp x M1) M1
  | .tup xs => P xs (kp x M1) M1
  | _ => False
theorem si_seq {X : Cx} {tg e : Expr} {r : RE} (h : SE X e r) : SI X tg e (riSeq r) := by
  obtain ⟨t, p, s⟩ := h
  refine ⟨_, pi_seq p, fun W M H σ σx P R I S hr q => ?_⟩
  refine s W M H σ σx _ _ I S hr fun W1 M1 H1 v x l1 I1 v1 p1 => ?_
  split at p1
  · rename_i xs e
    obtain ⟨a, vs, rfl, h1, h2⟩ := lstH I1 v1 e
    exact ⟨a, rfl, .inl ⟨⟨vs, h1⟩, q W1 M1 H1 _ xs _ l1 I1 (itx_list I1 v1 e) p1⟩⟩
  · rename_i xs e
    obtain ⟨a, vs, rfl, h1, h2⟩ := tupH I1 v1 e
    exact ⟨a, rfl, .inr ⟨⟨vs, h1⟩, q W1 M1 H1 _ xs _ l1 I1 (itx_tup I1 v1 e) p1⟩⟩
  · exact p1.elim
def riRng1 (rs : RF) : RI := fun σ M P => rs σ M fun xs M1 => match xs with
  | [x] => match hd M1 x with
    | .sc (.int j) => -(2 ^ 62) ≤ j ∧ j < 2 ^ 62 ∧ P (rangeX 0 j.toNat) (fun _ => True) M1
    | _ => False
  | _ => False
def riRng2 (rs : RF) : RI := fun σ M P => rs σ M fun xs M1 => match xs with
  | [x, y] => match hd M1 x, hd M1 y with
    | .sc (.int i), .sc (.int j) => (-(2 ^ 62) ≤ i ∧ i < 2 ^ 62 ∧ -(2 ^ 62) ≤ j ∧ j < 2 ^ 62) ∧ P (rangeX i (j - i).toNat) (fun _ => True) M1
    | _, _ => False
  | _ => False
section
variable {X : Cx} {tg a b : Expr} {rs : RF} {p pos : Pos}
theorem si_range1 (hm : X.mg "range" = none) (ha : SA X [a] rs) (hg : Gl X "range" := by rfl) (hs : starEach [a] X.env = [(false, eval a X.env)] := by rfl) : SI X tg (.Call (.Name "range" p) [a] [] pos) (riRng1 rs) := by
  obtain ⟨t, pa, s⟩ := ha
  refine ⟨_, pi_range1 hg hm pa hs, fun W M H σ σx P R I S hr q => ?_⟩
  refine s W M H σ σx _ _ I S hr fun W1 M1 H1 vs xs l1 I1 v1 p1 => ?_
  split at p1
  · rename_i x
    split at p1
    · rename_i j e
      cases v1 with
      | cons a1 r1 =>
        cases r1
        refine ⟨j, by rw [scI I1 a1 e], p1.1, p1.2.1, q W1 M1 H1 _ _ _ l1 I1 (itx_range W1 0 j.toNat) p1.2.2⟩
    · exact p1.elim
  · exact p1.elim
theorem si_range2 (hm : X.mg "range" = none) (ha : SA X [a, b] rs) (hg : Gl X "range" := by rfl) (hs : starEach [a, b] X.env = [(false, eval a X.env), (false, eval b X.env)] := by rfl) (hs2 : starEach [b] X.env = [(false, eval b X.env)] := by rfl) :
    SI X tg (.Call (.Name "range" p) [a, b] [] pos) (riRng2 rs) := by
  obtain ⟨t, pa, s⟩ := ha
  refine ⟨_, pi_range2 hg hm pa hs hs2, fun W M H σ σx P R I S hr q => ?_⟩
  refine s W M H σ σx _ _ I S hr fun W1 M1 H1 vs xs l1 I1 v1 p1 => ?_
  split at p1
  · rename_i x y
    split at p1
    · rename_i i j e1 e2
      cases v1 with
      | cons a1 r1 =>
        cases r1 with
        | cons a2 r2 =>
          cases r2
          refine ⟨i, j, by rw [scI I1 a1 e1, scI I1 a2 e2], p1.1, q W1 M1 H1 _ _ _ l1 I1 (itx_range W1 i (j - i).toNat) p1.2⟩
    · exact p1.elim
  · exact p1.elim
end

/-! ### for -/
def loopW (g : RG) (rb : RS) (keep : Sto → Prop) (P : Out → Sto → Prop) : List Xv → Sl → Sto → Prop
  | [], σ, M => keep M ∧ P (.nx σ) M
  | x :: xs, σ, M => keep M ∧ g x σ M fun σ1 M1 => rb σ1 M1 fun o M2 => match o with
      | .nx σ2 => loopW g rb keep P xs σ2 M2
      | .ct σ2 => loopW g rb keep P xs σ2 M2
      | .bk σ2 => P (.nx σ2) M2
      | .rt v => P (.rt v) M2
def rFor (ri : RI) (g : RG) (rb : RS) : RS := fun σ M P => ri σ M fun items keep M1 => loopW g rb keep P items σ M1
section
variable {X : Cx} {tg iter : Expr} {body : List Stmt} {ri : RI} {g : RG} {rb : RS} {js : List Nat} {pos : Pos}
theorem ss_for (hp : PassesOwn (model X.prog X.w) X.A X.env X.xe) (hc : X.calm = true) (hi : SI X tg iter ri) (hg : SG X tg js g) (hb : SSs X body rb) (hs : ∀ x, foldedSetIterable iter X.env x = pure x := by intro _; rfl) :
    SS X (.For tg iter body [] pos) (rFor ri g rb) := by
  obtain ⟨wi, pi, si⟩ := hi
  obtain ⟨tg', pg, sg⟩ := hg
  obtain ⟨tb, pb, sb⟩ := hb
  refine ⟨_, ps_for hp hc pi pg pb hs, fun W M H σ σx P D I S h q => ?_⟩
  refine si W M H σ σx _ _ I S h fun W1 M1 H1 J items keep l1 I1 T p1 => ?_
  refine ⟨fun i m σ' H' => m = items.length - i ∧ ∃ W' M' σx', W1.le W' ∧ InvS X.K W' M' H' ∧ Slr X.K W' σ' σx' ∧ loopW g rb keep P (items.drop i) σx' M', ⟨_, rfl, W1, M1, σx, .refl W1, I1, S.le l1, p1⟩, ?_⟩
  rintro i m σ' H' ⟨rfl, W', M', σx', l', I', S', h'⟩
  by_cases hi : i < items.length
  · rw [List.drop_eq_getElem_cons hi] at h'
    obtain ⟨hk, h'⟩ := h'
    obtain ⟨_, T2⟩ := T W' M' H' i l'.tolf I' hk
    obtain ⟨go, T3⟩ := T2 items[i] (List.getElem?_eq_getElem hi)
    refine .inr ⟨go, fun σ2 H2 => ∃ W' M' σx', W1.le W' ∧ InvS X.K W' M' H2 ∧ Slr X.K W' σ2 σx' ∧ loopW g rb keep P (items.drop (i + 1)) σx' M', fun σ2 H2 h2 => ⟨items.length - (i + 1), by omega, rfl, h2⟩, fun v H3 y => ?_⟩
    obtain ⟨W3, l3, I3, v3⟩ := T3 v H3 y
    refine sg W3 M' H3 σ' σx' v items[i] _ _ I3 (S'.le l3) v3 h' fun W4 M4 H4 σ4 σx4 l4 I4 S4 _ p4 => ?_
    refine sb W4 M4 H4 σ4 σx4 _ _ I4 S4 p4 fun W5 M5 H5 o l5 I5 p5 => ?_
    have lall := (l'.trans l3).trans (l4.trans l5)
    cases o with
    | nx σ2 => exact fun σ3 S3 => ⟨W5, M5, σ2, lall, I5, S3, p5⟩
    | ct σ2 => exact fun σ3 S3 => ⟨W5, M5, σ2, lall, I5, S3, p5⟩
    | bk σ2 => exact (q W5 M5 H5 (.nx σ2) (l1.trans lall) I5 p5 : Fin _ _ _ _ _)
    | rt x => exact (q W5 M5 H5 (.rt x) (l1.trans lall) I5 p5 : Fin _ _ _ _ _)
  · rw [List.drop_of_length_le (by omega)] at h'
    obtain ⟨hk, h'⟩ := h'
    exact .inl ⟨(T W' M' H' i l'.tolf I' hk).1 (by omega), q W' M' H' (.nx σx') (l1.trans l') I' h' σ' S'⟩
end

/-! ### list comprehensions -/
def wipeX (σ : Sl) : List Nat → Sl
  | [] => σ
  | v :: vs => (wipeX σ vs).set v none
theorem wipeX_length (σ : Sl) : ∀ vs : List Nat, (wipeX σ vs).length = σ.length
  | [] => rfl
  | v :: vs => by unfold wipeX; rw [List.length_set, wipeX_length σ vs]
theorem slr_wipe {K : PySem.W.Frag} {W : Wd} {σ : St} {σx : Sl} (h : Slr K W σ σx) : ∀ vs, Slr K W (wipe σ vs) (wipeX σx vs)
  | [] => h
  | v :: vs => by
    obtain ⟨h1, h2⟩ := slr_wipe h vs
    refine ⟨by unfold wipe wipeX; rw [List.length_set, List.length_set, h1], fun i x e => ?_⟩
    unfold wipeX at e
    by_cases q : v = i
    · subst q
      by_cases hi : v < (wipeX σx vs).length
      · rw [List.getElem?_set_self hi] at e; cases e
      · rw [List.getElem?_eq_none (by simpa using hi)] at e; cases e
    · rw [List.getElem?_set_ne q] at e
      obtain ⟨w, e1, e2⟩ := h2 i x e
      exact ⟨w, by unfold wipe; rw [List.getElem?_set_ne q]; exact e1, e2⟩
def lcW (g : RG) (rt : RT) (re : RE) (keep : Sto → Prop) (σw : Sl) (P : List Xv → Sto → Prop) : List Xv → List Xv → Sto → Prop
  | [], acc, M => keep M ∧ P acc M
  | x :: xs, acc, M => keep M ∧ g x σw M fun σ1 M1 => rt σ1 M1 fun b M2 => if b = true then re σ1 M2 fun y M3 => acc.length < sizeLine ∧ lcW g rt re keep σw P xs (acc ++ [y]) M3 else lcW g rt re keep σw P xs acc M2
def rLc (ri : RI) (g : RG) (rt : RT) (re : RE) (vs : List Nat) : RF := fun σ M P => ri σ M fun items keep M1 => lcW g rt re keep (wipeX σ vs) P items [] M1
def rYes : RT := fun _ M P => P true M
/-! guarded objects -/
section
variable {K : PySem.W.Frag} {W : Wd} {M : Sto} {H : Hp} {D : Addr} {u u' : HO}
theorem InvS.guard (I : InvS K W M H) (h : H D = none) : InvS K ⟨W.θ, W.F, upd W.G D u⟩ M (upd H D u) := by
  obtain ⟨f0, g0, t0⟩ := I.fresh h
  have I1 := I.newLoose h u
  refine ⟨I1.len, I1.nd, fun i a o h1 h2 => (I1.ob i a o h1 h2).lf ⟨fun _ _ z => z, SameR.refl _⟩ rfl rfl, I1.sf, fun b o e => ?_, fun a => ?_, fun a ha => ?_, I1.th⟩
  · have e : upd W.G D u b = some o := e
    by_cases q : b = D
    · subst q; rw [upd_same] at e ⊢; exact e
    · rw [upd_ne q] at e; exact I1.sg b o e
  · by_cases q : a = D
    · subst q; exact .inl f0
    · rcases I.fg a with z | z | z
      · exact .inl z
      · exact .inr (.inl (by show upd W.G D u a = none; rw [upd_ne q]; exact z))
      · exact .inr (.inr z)
  · show upd W.G D u a = none
    rw [upd_ne (show a ≠ D from fun e => t0 (e ▸ ha))]
    exact I.tg a ha
theorem InvS.reguard (I : InvS K W M H) (h : W.G D = some u) (hu : ∀ xs, u ≠ .tup xs := by nofun) : InvS K ⟨W.θ, W.F, upd W.G D u'⟩ M (upd H D u') := by
  have f0 : W.F D = none := I.fD h hu
  have t0 : D ∉ W.θ := fun z => by rw [I.tg D z] at h; cases h
  have ne : ∀ {i : Nat} {a : Addr}, W.θ[i]? = some a → a ≠ D := fun h1 e => t0 (e ▸ List.mem_of_getElem? h1)
  refine ⟨I.len, I.nd, fun i a o h1 h2 => (I.ob i a o h1 h2).lf ⟨fun _ _ z => z, SameR.refl _⟩ (upd_ne (ne h1)).symm rfl, fun b o e => ?_, fun b o e => ?_, fun a => ?_, fun a ha => ?_, fun a ha => ?_⟩
  · rw [upd_ne (ne_of_none e f0)]; exact I.sf b o e
  · have e : upd W.G D u' b = some o := e
    by_cases q : b = D
    · subst q; rw [upd_same] at e ⊢; exact e
    · rw [upd_ne q] at e ⊢; exact I.sg b o e
  · by_cases q : a = D
    · subst q; exact .inl f0
    · rcases I.fg a with z | z | z
      · exact .inl z
      · exact .inr (.inl (by show upd W.G D u' a = none; rw [upd_ne q]; exact z))
      · exact .inr (.inr z)
  · show upd W.G D u' a = none
    rw [upd_ne (show a ≠ D from fun e => t0 (e ▸ ha))]
    exact I.tg a ha
  · rw [upd_ne (show a ≠ D from fun e => t0 (e ▸ ha))]; exact I.th a ha
theorem InvS.dropG (I : InvS K W M H) {G0 : Hp} (h : Same G0 W.G) : InvS K ⟨W.θ, W.F, G0⟩ M H := by
  refine ⟨I.len, I.nd, fun i a o h1 h2 => (I.ob i a o h1 h2).lf ⟨fun _ _ z => z, SameR.refl _⟩ rfl rfl, I.sf, h.trans I.sg, fun a => ?_, fun a ha => ?_, I.th⟩
  · rcases I.fg a with z | z | z
    · exact .inl z
    · exact .inr (.inl (h.free z))
    · exact .inr (.inr z)
  · exact h.free (I.tg a ha)
end
def SLc (X : Cx) (elt : Expr) (ifs : List Expr) (tg : Expr) (scope : Scope) (js : List Nat) (g : RG) (rt : RT) (re : RE) : Prop :=
  ∀ (s : Shared) (H : Hp) (C : Addr) (cl : List (Str × Addr)) (fp : List Addr),
    SG (X.blk s H scope (compEnvC scope cl C X.env) fp) tg js g ∧ (∃ t, PTs (X.blk s H scope (compEnvC scope cl C X.env) fp) ifs t ∧ SndT X.K t rt) ∧ SE (X.blk s H scope (compEnvC scope cl C X.env) fp) elt re
theorem pts_can {X : Cx} {ifs : List Expr} {r : RT} (h : ∃ t, PTs X ifs t ∧ SndT X.K t r) : PTs X ifs (ttOf X.K r) := by
  obtain ⟨t, p, s⟩ := h
  exact ⟨fun pins st σ H Q I ⟨W, M, σx, P, J, S, hr, q⟩ => p.run pins st σ H Q I (s W M H σ σx P Q J S hr q)⟩
theorem sts_nil {X : Cx} : ∃ t, PTs X [] t ∧ SndT X.K t rYes := ⟨_, pts_nil, fun W M H σ σx P Q I S h q => q W M H true (.refl W) I h⟩
theorem sts_one {X : Cx} {c : Expr} {r : RT} (h : SC X c r) : ∃ t, PTs X [c] t ∧ SndT X.K t r := let ⟨t, p, s⟩ := h; ⟨t, pts_one p, s⟩
theorem sndF_lc {K : PySem.W.Frag} {wi : TI} {ri : RI} {js vs : List Nat} {g : RG} {rt : RT} {re : RE} (hi : SndI K wi ri) (hj : ∀ j ∈ js, j ∈ vs) : SndF K (tLc wi (tgOf K js g) (ttOf K rt) (tOf K re) vs) (rLc ri g rt re vs) := by
  intro W M H σ σx P Q I S h q
  refine hi W M H σ σx _ _ I S h fun W1 M1 H1 J items keep l1 I1 T p1 => ?_
  intro D hD
  have S1 := slr_wipe (S.le l1) vs
  have gD : W1.G D = none := (I1.fresh hD).2.1
  refine ⟨fun i m H' => m = items.length - i ∧ ∃ (W' : Wd) (M' : Sto) (acc : List Xv) (va : List V), W1.le W' ∧ InvS K ⟨W'.θ, W'.F, upd W1.G D (.lst va)⟩ M' H' ∧ VXs K W' va acc ∧ lcW g rt re keep (wipeX σx vs) P (items.drop i) acc M',
    ⟨_, rfl, W1, M1, [], [], .refl W1, I1.guard hD, .nil, p1⟩, ?_⟩
  rintro i m H' ⟨rfl, W', M', acc, va, l', I', va', h'⟩
  have W'0 : ∀ u, W1.lf ⟨W'.θ, W'.F, u⟩ := fun u => ⟨l'.th, l'.f⟩
  by_cases hi' : i < items.length
  · rw [List.drop_eq_getElem_cons hi'] at h'
    obtain ⟨hk, h'⟩ := h'
    obtain ⟨_, T2⟩ := T _ M' H' i (W'0 _) I' hk
    obtain ⟨go, T3⟩ := T2 items[i] (List.getElem?_eq_getElem hi')
    refine .inr ⟨go, fun H2 => ∃ (W' : Wd) (M' : Sto) (acc : List Xv) (va : List V), W1.le W' ∧ InvS K ⟨W'.θ, W'.F, upd W1.G D (.lst va)⟩ M' H2 ∧ VXs K W' va acc ∧ lcW g rt re keep (wipeX σx vs) P (items.drop (i + 1)) acc M',
      fun H2 h2 => ⟨items.length - (i + 1), by omega, rfl, h2⟩, fun v H3 y => ?_⟩
    obtain ⟨W3, l3, I3, v3⟩ := T3 v H3 y
    have S3 : Slr K W3 (wipe σ vs) (wipeX σx vs) := (S1.lf (W'0 _)).le l3
    refine ⟨_, M', _, _, _, I3, S3, v3, h', fun W4 M4 H4 σ4 σx4 l4 I4 S4 w4 p4 => ⟨?_, ?_⟩⟩
    · rw [w4 vs hj]
      apply List.ext_getElem?
      intro j
      rw [wipe_get, wipe_get, wipe_length]
      by_cases hm : j ∈ vs
      · rw [if_pos hm, if_pos hm]
      · rw [if_neg hm, if_neg hm]
    refine ⟨_, M4, _, _, I4, S4, p4, fun W5 M5 H5 b l5 I5 p5 => ?_⟩
    have g5 : W5.G = upd W1.G D (.lst va) := by rw [l5.g, l4.g, l3.g]
    have l15 : W1.lf W5 := ((W'0 _).trans l3.tolf).trans (l4.trans l5).tolf
    have va5 : VXs K W5 va acc := VXs.lf (l3.trans (l4.trans l5)).tolf va'
    cases b with
    | false =>
      rw [if_neg Bool.false_ne_true] at p5
      show (if false = true then _ else _)
      rw [if_neg Bool.false_ne_true]
      refine ⟨⟨W5.θ, W5.F, W1.G⟩, M5, acc, va, ⟨⟨l15.th, l15.f⟩, rfl⟩, ?_, va5, p5⟩
      show InvS K ⟨W5.θ, W5.F, upd W1.G D (.lst va)⟩ M5 H5
      rw [← g5]
      exact I5
    | true =>
      rw [if_pos rfl] at p5
      show (if true = true then _ else _)
      rw [if_pos rfl]
      refine ⟨_, M5, _, _, I5, S4.le l5, p5, fun W6 M6 H6 w x l6 I6 v6 p6 => ?_⟩
      have g6 : W6.G = upd W1.G D (.lst va) := by rw [l6.g, g5]
      have gd : W6.G D = some (.lst va) := by rw [g6]; exact upd_same
      have va6 : VXs K W6 va acc := VXs.lf l6.tolf va5
      refine ⟨va, I6.sg D _ gd, by rw [va6.length]; exact p6.1, ?_⟩
      have l16 := l15.trans l6.tolf
      refine ⟨⟨W6.θ, W6.F, W1.G⟩, M6, acc ++ [x], va ++ [w], ⟨⟨l16.th, l16.f⟩, rfl⟩, ?_, va6.append (.cons v6 .nil), p6.2⟩
      have := I6.reguard (u' := .lst (va ++ [w])) gd
      rw [g6, upd_upd] at this
      exact this
  · rw [List.drop_of_length_le (by omega)] at h'
    obtain ⟨hk, h'⟩ := h'
    refine .inl ⟨(T _ M' H' i (W'0 _) I' hk).1 (by omega), ?_⟩
    have I2 := I'.dropG (G0 := W1.G) (same_new gD)
    have hg : (upd W1.G D (.lst va)) D = some (.lst va) := upd_same
    refine q ⟨W'.θ, W'.F, W1.G⟩ M' H' D va acc (l1.trans ⟨⟨l'.th, l'.f⟩, rfl⟩) I2 ⟨I'.sg D _ hg, ?_, gD, fun z => ?_⟩ va' h'
    · exact I'.fD hg nofun
    · have := I'.tg D z
      have this : upd W1.G D (.lst va) D = none := this
      rw [upd_same] at this; cases this
section
variable {X : Cx} {elt tg iter : Expr} {ifs : List Expr} {scope : Scope} {own : List (Str × Nat)} {pos : Pos} {ri : RI} {js : List Nat} {g : RG} {rt : RT} {re : RE}
theorem sf_lc (hc : X.calm = true) (hN : X.N.Nodup) (hi : SI X tg iter ri) (ok : BlkOk X.N X.env.scope scope own) (hb : SLc X elt ifs tg scope js g rt re) (hj : (js.all fun j => (own.map (·.2)).contains j) = true := by rfl) (hs : ∀ x, foldedSetIterable iter X.env x = pure x := by intro _; rfl) :
    SF X (.ListComp elt [⟨tg, iter, ifs, 0⟩] scope pos) (rLc ri g rt re (own.map (·.2))) := by
  obtain ⟨wi, pi, si⟩ := hi
  exact ⟨_, pe_lc (te := tOf X.K re) (tt := ttOf X.K rt) (g := tgOf X.K js g) hc hN pi ok (fun s H C cl fp => (hb s H C cl fp).1.can) (fun s H C cl fp => pts_can (hb s H C cl fp).2.1) (fun s H C cl fp => (hb s H C cl fp).2.2.can) hs,
    sndF_lc si fun j hm => by simpa using List.all_eq_true.mp hj j hm⟩
/-- name = [..] on one line -/
theorem ss_setLc {i : Nat} {y : Str} {py : Pos} {spos : Pos} (hc : X.calm = true) (hN : X.N.Nodup) (hi : SI X tg iter ri) (ok : BlkOk X.N X.env.scope scope own) (hb : SLc X elt ifs tg scope js g rt re)
    (hsw : swapsWith (.ListComp elt [⟨tg, iter, ifs, 0⟩] scope pos) (some (.Name y py)) spos.line X.env = pure true) (hy : X.N[i]? = some y := by rfl) (hyl : X.env.scope.names.lookup y = some .local := by rfl)
    (hj : (js.all fun j => (own.map (·.2)).contains j) = true := by rfl) (hs : ∀ x, foldedSetIterable iter X.env x = pure x := by intro _; rfl) :
    SS X (.Assign [.Name y py] (.ListComp elt [⟨tg, iter, ifs, 0⟩] scope pos) spos) (rAsg (rD (rLc ri g rt re (own.map (·.2)))) (rgName i)) := by
  obtain ⟨wi, pi, si⟩ := hi
  refine ⟨_, ps_setLc (te := tOf X.K re) (tt := ttOf X.K rt) (g := tgOf X.K js g) hc hN hy hyl hsw pi ok (fun s H C cl fp => (hb s H C cl fp).1.can) (fun s H C cl fp => pts_can (hb s H C cl fp).2.1) (fun s H C cl fp => (hb s H C cl fp).2.2.can) hs, fun W M H σ σx P D I S h q => ?_⟩
  refine snd_rD (sndF_lc si fun j hm => by simpa using List.all_eq_true.mp hj j hm) W M H σ σx _ _ I S h fun W1 M1 H1 v x l1 I1 v1 p1 => ?_
  exact q W1 M1 H1 (.nx (σx.set i (some x))) l1 I1 p1 _ ((S.le l1).set i v1)
theorem ss_setLcC {i : Nat} {y : Str} {py : Pos} {spos : Pos} (hc : X.calm = true) (hN : X.N.Nodup) (hi : SI X tg iter ri) (ok : BlkOk X.N X.env.scope scope own) (hb : SLc X elt ifs tg scope js g rt re)
    (hsw : swapsWith (.ListComp elt [⟨tg, iter, ifs, 0⟩] scope pos) (some (.Name y py)) spos.line X.env = pure true) (hy : X.N[i]? = some y := by rfl) (hyl : X.env.scope.names.lookup y = some .local := by rfl)
    (hj : (js.all fun j => (own.map (·.2)).contains j) = true := by rfl) (hs : ∀ x, foldedSetIterable iter X.env x = pure x := by intro _; rfl) :
    SS X (.Assign [.Name y py] (.ListComp elt [⟨tg, iter, ifs, 0⟩] scope pos) spos) (rAsg (rCl (rLc ri g rt re (own.map (·.2)))) (rgName i)) := by
  obtain ⟨wi, pi, si⟩ := hi
  refine ⟨_, ps_setLc (te := tOf X.K re) (tt := ttOf X.K rt) (g := tgOf X.K js g) hc hN hy hyl hsw pi ok (fun s H C cl fp => (hb s H C cl fp).1.can) (fun s H C cl fp => pts_can (hb s H C cl fp).2.1) (fun s H C cl fp => (hb s H C cl fp).2.2.can) hs, fun W M H σ σx P D I S h q => ?_⟩
  refine snd_rCl (sndF_lc si fun j hm => by simpa using List.all_eq_true.mp hj j hm) W M H σ σx _ _ I S h fun W1 M1 H1 v x l1 I1 v1 p1 => ?_
  exact q W1 M1 H1 (.nx (σx.set i (some x))) l1 I1 p1 _ ((S.le l1).set i v1)
end
end G

set_option Elab.async false
set_option linter.all false
set_option maxRecDepth 100000
set_option maxHeartbeats 4000000
/-! G5: defs: what a def promises over data and store, its call, its body. The guards of the stack are known to be none. -/
namespace G
open PySem PySem.Spec PyProof.Rows L2

abbrev PF := List Xv → Sto → (Xv → Sto → Prop) → Prop
def spG (K : PySem.W.Frag) (pf : PF) (vs : List V) (H : Hp) (Q : VK) : Prop := ∃ (W : Wd) (M : Sto) (xs : List Xv) (P : Xv → Sto → Prop), InvS K W M H ∧ VXs K W vs xs ∧ pf xs M P ∧
  ∀ W' M' H' v x, W.le W' → InvS K W' M' H' → VX K W' v x → P x M' → Q v H'
/-- a def at f keeps the promise pf -/
structure FnG (P : Program) (w : World) (K : PySem.W.Frag) (mg : Str → Option Value) (base : Heap) (k : Nat) (f : Addr) (fd : FuncData) (ps : List Str) (pf : PF) : Prop where
  len : ∀ xs M R, pf xs M R → xs.length = ps.length
  run : ∀ (A : Around) (outer : List Env) (s : Shared) (H : Hp) (args : Args) (us : List Value) (vs : List V) (Q : VK), Room k A → A.guards = some [] → Env0 P w K mg base A outer s H → BindsTo s fd args (ps.zip us) → Vals vs us → spG K pf vs H Q →
    codeAny (model P w) A (.call (.ref f) args) (CR CX0 outer P w H s Q E0) s
theorem FnG.mono {P : Program} {w : World} {K : PySem.W.Frag} {mg : Str → Option Value} {base : Heap} {j k : Nat} {f : Addr} {fd : FuncData} {ps : List Str} {pf : PF} (F : FnG P w K mg base j f fd ps pf) (h : j ≤ k) : FnG P w K mg base k f fd ps pf :=
  ⟨F.len, fun A outer s H args us vs Q hr => F.run A outer s H args us vs Q (hr.mono h)⟩
/-- a promise that asks more -/
theorem FnG.imp {P : Program} {w : World} {K : PySem.W.Frag} {mg : Str → Option Value} {base : Heap} {k : Nat} {f : Addr} {fd : FuncData} {ps : List Str} {pf pf' : PF} (F : FnG P w K mg base k f fd ps pf) (h : ∀ xs M R, pf' xs M R → pf xs M R) : FnG P w K mg base k f fd ps pf' :=
  ⟨fun xs M R q => F.len xs M R (h xs M R q), fun A outer s H args us vs Q hr hg he hb hv ⟨W, M, xs, R, I, v, p, q⟩ => F.run A outer s H args us vs Q hr hg he hb hv ⟨W, M, xs, R, I, v, h xs M R p, q⟩⟩

/-- what follows from what is promised -/
theorem FnG.up {P : Program} {w : World} {K : PySem.W.Frag} {mg : Str → Option Value} {base : Heap} {k : Nat} {f : Addr} {fd : FuncData} {ps : List Str} {pf : PF} (F : FnG P w K mg base k f fd ps pf) :
    FnG P w K mg base k f fd ps fun xs M R => ∃ R', pf xs M R' ∧ ∀ x M', R' x M' → R x M' :=
  ⟨fun xs M R ⟨R', q, _⟩ => F.len xs M R' q, fun A outer s H args us vs Q hr hg he hb hv ⟨W, M, xs, R, I, v, ⟨R', p, i⟩, q⟩ =>
    F.run A outer s H args us vs Q hr hg he hb hv ⟨W, M, xs, R', I, v, p, fun W' M' H' v' x l I' hv' hp => q W' M' H' v' x l I' hv' (i x M' hp)⟩⟩

/-- the room and the guards of a place in a body -/
structure Rm (k : Nat) (X : Cx) : Prop where
  room : Room k X.A
  gd : X.A.guards = some []
  calm : X.calm = true
theorem Rm.hu {k : Nat} {X : Cx} (r : Rm k X) : X.A.units + 1 < cLine := hu_of r.room
theorem Rm.hu64 {k : Nat} {X : Cx} (r : Rm k X) : X.A.units + 64 < cLine := r.room.units
theorem Rm.hu65 {k : Nat} {X : Cx} (r : Rm k X) : X.A.units + 65 < cLine := by have := r.room.un; omega
theorem Rm.mono {j k : Nat} {X : Cx} (r : Rm k X) (h : j ≤ k) : Rm j X := ⟨r.room.mono h, r.gd, r.calm⟩
theorem Rm.blk {k : Nat} {X : Cx} (r : Rm k X) {s : Shared} {H : Hp} {scope : Scope} {e : Env} {fp : List Addr} : Rm k (X.blk s H scope e fp) := ⟨r.room, r.gd, r.calm⟩

def rCall (pf : PF) (rs : RF) : RE := fun σ M P => rs σ M fun xs M1 => pf xs M1 P
section
variable {X : Cx} {k : Nat} {f : Addr} {fd : FuncData} {ps : List Str} {pf : PF} {x : Str} {p pos : Pos} {e : Expr} {es : List Expr} {rs : RF}
theorem runG {pins : List (Addr × Obj)} {σ : St} {H : Hp} {s : Shared} {Q : VK} {us : List Value} {vs : List V} (F : FnG X.prog X.w X.K X.mg X.base k f fd ps pf) (hr : Rm k X) (hb : L2.Binds X.K fd ps []) (I : Inv X pins σ H s) (r : Vals vs us) (h : spG X.K pf vs H Q) :
    wpAny (model X.prog X.w) X.A (call (.ref f) us) (EP X pins σ Q) X.xe s := by
  obtain ⟨W, M, xs, R, J, hv, hp, hq⟩ := id h
  have hl : (us ++ []).length = ps.length := by rw [List.append_nil, ← r.length, hv.length]; exact F.len xs M R hp
  have bb := hb s us I.kIn hl
  rw [List.append_nil] at bb
  refine wpAny_call (codeAny_mono (F.run X.A X.stack s H ⟨us, []⟩ us vs Q hr.room hr.gd I.env0 bb r h) fun res s' hc => ?_)
  cases res with
  | error e => exact False.elim hc
  | ok fl =>
    cases fl with
    | ret u => exact I.after hc
    | next => exact False.elim hc
    | brk => exact False.elim hc
    | cont => exact False.elim hc
/-- f(e, ..) of a def of the module -/
theorem se_call (F : FnG X.prog X.w X.K X.mg X.base k f fd ps pf) (hr : Rm k X) (hm : X.mg x = some (.ref f)) (hk : PySem.W.keepIn X.K (.ref f) = true) (hb : L2.Binds X.K fd ps []) (ha : SA X (e :: es) rs)
    (hg : Gl X x := by rfl) (hdb : (x == ("__debug__" : Str)) = false := by decide) (he : starEach (e :: es) X.env = (false, eval e X.env) :: starEach es X.env := by rfl) (hpl : (backTo pos (starEach es X.env)).any (·.1) = false := by rfl) :
    SE X (.Call (.Name x p) (e :: es) [] pos) (rCall pf rs) := by
  obtain ⟨t, pa, sa⟩ := ha
  refine ⟨fun σ H Q => t σ H fun vs H1 => spG X.K pf vs H1 Q, ⟨fun pins s σ H Q I h => ?_⟩, fun W M H σ σx P Q I S h q => ?_⟩
  · refine wpAny_Call_Name_kw (ld_glob I hg hm ?_ hdb)
    refine PySem.W.callWith_K (h₀ := X.base) I.ok.mod.kin hk (thn (pa.run pos pins s σ H _ I h) fun us s1 ⟨vs, H1, I1, r, qq⟩ => ⟨I1.kIn, ?_⟩) he hpl
    exact runG F hr hb I1 r qq
  · exact sa W M H σ σx _ _ I S h fun W1 M1 H1 vs xs l1 I1 v1 p1 => ⟨W1, M1, xs, P, I1, v1, p1, fun W2 M2 H2 v x l2 I2 v2 p2 => q W2 M2 H2 v x (l1.trans l2) I2 v2 p2⟩
/-- f() -/
theorem se_call0 (F : FnG X.prog X.w X.K X.mg X.base k f fd [] pf) (hr : Rm k X) (hm : X.mg x = some (.ref f)) (hk : PySem.W.keepIn X.K (.ref f) = true) (hb : L2.Binds X.K fd [] [])
    (hg : Gl X x := by rfl) (hdb : (x == ("__debug__" : Str)) = false := by decide) : SE X (.Call (.Name x p) [] [] pos) (rCall pf rNil) := by
  refine ⟨fun σ H Q => spG X.K pf [] H Q, ⟨fun pins s σ H Q I h => ?_⟩, fun W M H σ σx P Q I S h q => ?_⟩
  · refine wpAny_Call_Name_kw (ld_glob I hg hm ?_ hdb)
    exact PySem.W.callWith_K0 I.kIn hk (runG (us := []) F hr hb I .nil h)
  · exact ⟨W, M, [], P, I, .nil, h, q⟩
end

/-! ### a body -/
abbrev cxG (P : Program) (w : World) (K : PySem.W.Frag) (mg : Str → Option Value) (base : Heap) (N : List Str) (qual : Str) (sc : Scope) (f : Addr) (cdv : Value) (A : Around) (outer : List Env) (s : Shared) (H : Hp) : Cx := (cxOf CX0 P w K mg base N qual sc f cdv A outer s H E0).nox
def startX (N : List Str) (xs : List Xv) : Sl := xs.map some ++ List.replicate (N.length - xs.length) none
def oret : Out → Xv
  | .rt x => x
  | _ => .d .none
/-- how a body ends: behind its last statement or by a return -/
def Ends0 (R : Xv → Sto → Prop) : Out → Sto → Prop
  | .nx _, M => R (.d .none) M
  | .rt x, M => R x M
  | _, _ => False
theorem slr_start {K : PySem.W.Frag} {W : Wd} {N : List Str} {vs : List V} {xs : List Xv} (h : VXs K W vs xs) : Slr K W (L2.start N vs) (startX N xs) := by
  refine ⟨by simp [L2.start, startX, h.length], fun i x e => ?_⟩
  unfold startX at e
  unfold L2.start
  by_cases hi : i < xs.length
  · rw [List.getElem?_append_left (by simpa using hi), List.getElem?_map] at e
    cases hx : xs[i]? with
    | none => rw [hx] at e; cases e
    | some y =>
      rw [hx] at e
      cases e
      obtain ⟨v, h1, h2⟩ := h.get hx
      exact ⟨v, by rw [List.getElem?_append_left (by simpa [h.length] using hi), List.getElem?_map, h1]; rfl, h2⟩
  · rw [List.getElem?_append_right (by simpa using hi), List.getElem?_replicate] at e
    split at e <;> cases e
section
variable {P : Program} {w : World} {K : PySem.W.Frag} {mg : Str → Option Value} {base : Heap}
/-- a def, by its body: every store of the caller is the body's -/
theorem FnG.mk_ {x qual : Str} {params : Arguments} {body : List Stmt} {scope : Scope} {f : Addr} {fd : FuncData} {N ps : List Str} {k : Nat} {pf : PF} {rb : RS} (F : FunD K x qual params body scope [] [] f fd) (S : FnScope N ps scope) (len : ∀ xs M R, pf xs M R → xs.length = ps.length)
    (hb : ∀ (cdv : Value) (A : Around) (outer : List Env) (s : Shared) (H : Hp), Rm k (cxG P w K mg base N qual scope f cdv A outer s H) → SSs (cxG P w K mg base N qual scope f cdv A outer s H) body rb)
    (spec : ∀ xs M R, pf xs M R → rb (startX N xs) M (Ends0 R)) : FnG P w K mg base (k + 1) f fd ps pf := by
  obtain ⟨oc, od, dV, kV, doc, pm, an, cdv, ct, osl, rfl, lk, hcd, _, _⟩ := F.ex
  refine ⟨len, fun A outer s H args us vs Q hr hgd e0 hbd r hsp => ?_⟩
  obtain ⟨W, M, xs, R, I, hv, hp, hq⟩ := hsp
  have hl : vs.length = ps.length := hv.length.trans (len xs M R hp)
  have bk : ∀ b o, base.get? b = some o → s.heap.get? b = some o := fun b o e => (e0.bs b o e).1
  have KX : K.In s.heap := e0.mod.kin.keeps bk
  have lim : s.heap.NoLimit := e0.mod.nolimit.keeps bk
  refine codeAny_call_function hr.depth (KX _ _ lk) rfl S.co S.gen rfl (PySem.W.codeRec_of KX hcd) (hbd _ _ _ _ ?_)
  refine wpAny_newFunctionEnv_cells S.kind (fun y hy => ?_) fun env he s1 xx => ?_
  · obtain ⟨n, v⟩ := y
    have hn : n ∈ ps := (List.of_mem_zip hy).1
    exact (S.par n hn).elim .inl fun z => .inr ⟨z, PySem.W.cellsFrom_some _ _ _ (.inl z)⟩
  subst he
  refine ⟨lim.keeps xx.toInCall.keep, codeAny_func ?_⟩
  have rm : Rm k (cxG P w K mg base N qual scope f cdv A outer s H) := ⟨hr.deeper _, hgd, rfl⟩
  obtain ⟨t, pt, sn⟩ := hb cdv A outer s H rm
  have J : Inv (cxOf CX0 P w K mg base N qual scope f cdv A outer s H E0) [] (L2.start N vs) H s1 := inv_start S hr.hd e0 hl r xx
  have ht : t { nx := fun _ H' => Q .non H', rt := Q } (L2.start N vs) H := by
    refine sn W M H (L2.start N vs) (startX N xs) _ _ I (slr_start hv) (spec xs M R hp) fun W1 M1 H1 o l1 I1 p1 => ?_
    cases o with
    | nx σ => exact fun _ _ => hq W1 M1 H1 _ (.d .none) l1 I1 (show Dq _ _ _ _ from .non) p1
    | rt y => exact fun v hv => hq W1 M1 H1 v y l1 I1 hv p1
    | bk _ => exact p1.elim
    | ct _ => exact p1.elim
  have go := (pt.nox).run [] s1 (L2.start N vs) H { nx := fun _ H' => Q .non H', rt := Q } J ht
  have close : ∀ {σ' : St} {H' : Hp} {s' : Shared} {v : V} {u : Value}, Inv (cxOf CX0 P w K mg base N qual scope f cdv A outer s H E0) [] σ' H' s' → RelV v u → Q v H' → CE outer P w H s Q u s' :=
    fun {σ' H' s' v u} Z rv q => ⟨v, H', Z.os, Z.bare, Z.base, Z.hok, rv, q⟩
  refine wpAny_mono go (fun fl s' hs => ?_) fun e s' hs => hs
  cases fl with
  | ret u => obtain ⟨v, σ', H', Z, rv, q⟩ := hs; exact close Z rv q
  | next => obtain ⟨σ', H', Z, q⟩ := hs; exact close (v := V.non) Z rfl q
  | brk => obtain ⟨_, _, _, q⟩ := hs; exact False.elim q
  | cont => obtain ⟨_, _, _, q⟩ := hs; exact False.elim q
end

/-! ### a callee that sees the first k cells alone -/
def belowX (k : Nat) : Xv → Bool
  | .d _ => true
  | .c i => decide (i < k)
def belowO (k : Nat) : Ob → Bool
  | .lst xs => xs.all (belowX k)
  | .tup xs => xs.all (belowX k)
  | .dic kvs => kvs.all fun p => belowX k p.2
  | .dit kvs => kvs.all fun p => belowX k p.2
  | .ins _ fs => fs.all fun p => belowX k p.2
  | .frz _ => true
def belowM (k : Nat) (M : Sto) : Bool := M.all (belowO k)
section
variable {K : PySem.W.Frag} {W W' : Wd} {k : Nat}
theorem VX.below {v : V} {x : Xv} (hf : SameR W.F W'.F) (ht : ∀ i a, i < k → W.θ[i]? = some a → W'.θ[i]? = some a) (b : belowX k x = true) (h : VX K W v x) : VX K W' v x := by
  cases x with
  | d d => exact Dq.same hf h
  | c i =>
    obtain ⟨a, e, q⟩ := h
    exact ⟨a, e, ht i a (of_decide_eq_true b) q⟩
theorem VXs.below (hf : SameR W.F W'.F) (ht : ∀ i a, i < k → W.θ[i]? = some a → W'.θ[i]? = some a) : ∀ {vs : List V} {xs : List Xv}, xs.all (belowX k) = true → Paired (VX K W) vs xs → Paired (VX K W') vs xs
  | _, _, _, .nil => .nil
  | _, x :: xs, b, .cons h r => by
    rw [List.all_cons, Bool.and_eq_true] at b
    exact .cons (h.below hf ht b.1) (VXs.below hf ht b.2 r)
theorem KVX.below {κ : Type} (hf : SameR W.F W'.F) (ht : ∀ i a, i < k → W.θ[i]? = some a → W'.θ[i]? = some a) : ∀ {vs : List (κ × V)} {xs : List (κ × Xv)}, (xs.all fun p => belowX k p.2) = true → KVX K W vs xs → KVX K W' vs xs
  | _, _, _, .nil => .nil
  | _, x :: xs, b, .cons h r => by
    rw [List.all_cons, Bool.and_eq_true] at b
    exact .cons ⟨h.1, h.2.below hf ht b.1⟩ (KVX.below hf ht b.2 r)
theorem OkOb.below {H H' : Hp} {a : Addr} {o : Ob} (hf : SameR W.F W'.F) (ht : ∀ i a, i < k → W.θ[i]? = some a → W'.θ[i]? = some a) (b : belowO k o = true) (s : H' a = H a) (f : W.F a = none → W'.F a = none) (h : OkOb K W H a o) : OkOb K W' H' a o := by
  cases o with
  | lst xs => obtain ⟨h0, vs, h1, h2⟩ := h; exact ⟨f h0, vs, s.trans h1, VXs.below hf ht b h2⟩
  | tup xs => obtain ⟨vs, h1, h2⟩ := h; exact ⟨vs, s.trans h1, VXs.below hf ht b h2⟩
  | dic xs => obtain ⟨h0, vs, h1, h2⟩ := h; exact ⟨f h0, vs, s.trans h1, KVX.below hf ht b h2⟩
  | dit xs => obtain ⟨h0, vs, h1, h2⟩ := h; exact ⟨f h0, vs, s.trans h1, KVX.below hf ht b h2⟩
  | ins C fs => obtain ⟨h0, dx, vs, h1, h2⟩ := h; exact ⟨f h0, dx, vs, s.trans h1, KVX.below hf ht b h2⟩
  | frz d => exact Dq.same hf h
end
/-- f over the first k cells; the others stay, and what the callee has made beside is forgotten -/
def pfPre (k : Nat) (f : PF) : PF := fun xs M P => k ≤ M.length ∧ xs.all (belowX k) = true ∧ belowM k (M.take k) = true ∧ f xs (M.take k) fun x Mr => Mr.length = k ∧ belowX k x = true ∧ belowM k Mr = true ∧ P x (Mr ++ M.drop k)
/-- .. as the callee's body is to show it -/
def EndsPre (k : Nat) (R : Xv → Sto → Prop) : Out → Sto → Prop := Ends0 fun x M => k ≤ M.length ∧ R x (M.take k)
open Classical in
theorem spG_pre {K : PySem.W.Frag} {k : Nat} {f f' : PF} (hf : ∀ xs M R, f xs M R → f' xs M fun x M' => k ≤ M'.length ∧ R x (M'.take k)) {vs : List V} {H : Hp} {Q : VK} (h : spG K (pfPre k f) vs H Q) : spG K f' vs H Q := by
  obtain ⟨W, M, xs, P, I, hv, ⟨hk, bx, bM, hp⟩, hq⟩ := h
  -- the callee's world
  have hG : ∀ a, W.F a = none ∨ (if a ∈ W.θ.drop k ∧ W.F a = none then H a else W.G a) = none ∨ ∃ xs, W.F a = some (.tup xs) := fun a => by
    by_cases hF : W.F a = none
    · exact .inl hF
    · rw [if_neg (fun z => hF z.2)]
      exact I.fg a
  have hk' : k ≤ W.θ.length := by rw [I.len]; exact hk
  have tk : ∀ i a, i < k → (W.θ.take k)[i]? = some a → W.θ[i]? = some a := fun i a hi h => by rw [List.getElem?_take_of_lt hi] at h; exact h
  have tk' : ∀ i a, i < k → W.θ[i]? = some a → (W.θ.take k)[i]? = some a := fun i a hi h => by rw [List.getElem?_take_of_lt hi]; exact h
  have disj : ∀ a, a ∈ W.θ.take k → a ∉ W.θ.drop k := fun a h1 h2 => by
    have nd := I.nd
    rw [← List.take_append_drop k W.θ, List.nodup_append] at nd
    exact nd.2.2 a h1 a h2 rfl
  refine ⟨⟨W.θ.take k, W.F, fun a => if a ∈ W.θ.drop k ∧ W.F a = none then H a else W.G a⟩, M.take k, xs, _, ?_, ?_, hf xs (M.take k) _ hp, ?_⟩
  · refine ⟨by simp [I.len], I.nd.sublist (List.take_sublist _ _), fun i a o h1 h2 => ?_, I.sf, fun b o e => ?_, hG, fun a ha => ?_, fun a ha => I.th a (List.mem_of_mem_take ha)⟩
    · have hi : i < k := by
        have := (List.getElem?_eq_some_iff.mp h1).1
        rw [List.length_take] at this
        omega
      have h2' : M[i]? = some o := by rw [List.getElem?_take_of_lt hi] at h2; exact h2
      refine OkOb.below (W := W) (k := k) (SameR.refl _) (fun j b hj hb => tk' j b hj hb) ?_ rfl id (I.ob i a o (tk i a hi h1) h2')
      have := List.all_eq_true.mp bM o (List.mem_of_getElem? h2)
      exact this
    · have e : (if b ∈ W.θ.drop k ∧ W.F b = none then H b else W.G b) = some o := e
      split at e
      · exact e
      · exact I.sg b o e
    · show (if a ∈ W.θ.drop k ∧ W.F a = none then H a else W.G a) = none
      rw [if_neg (fun z => disj a ha z.1)]
      exact I.tg a (List.mem_of_mem_take ha)
  · exact VXs.below (W := W) (W' := ⟨W.θ.take k, W.F, fun a => if a ∈ W.θ.drop k ∧ W.F a = none then H a else W.G a⟩) (k := k) (SameR.refl _) (fun j b hj hb => tk' j b hj hb) bx hv
  · intro W1 M1 H1 v x l1 I1 v1 ⟨hl1, hl2, bx1, bM1, p1⟩
    have th1 : ∀ i a, i < k → W.θ[i]? = some a → W1.θ[i]? = some a := fun i a hi h => l1.th i a (tk' i a hi h)
    have th2 : ∀ i a, i < k → W1.θ[i]? = some a → W.θ[i]? = some a := fun i a hi h => by
      have hi' : i < W.θ.length := by omega
      have e := th1 i _ hi (List.getElem?_eq_getElem hi')
      rw [h] at e
      cases e
      exact List.getElem?_eq_getElem hi'
    have kept0 : ∀ a, a ∈ W.θ.drop k → W.F a = none → H1 a = H a ∧ ((∀ xs, H a ≠ some (.tup xs)) → W1.F a = none) := fun a ha hF => by
      have hne := I.th a (List.mem_of_mem_drop ha)
      cases hH : H a with
      | none => exact absurd hH hne
      | some o =>
        have g1 : W1.G a = some o := by
          rw [l1.g]
          show (if a ∈ W.θ.drop k ∧ W.F a = none then H a else W.G a) = some o
          rw [if_pos ⟨ha, hF⟩]; exact hH
        exact ⟨I1.sg a o g1, fun n => I1.fD g1 fun xs e => n xs (congrArg some e)⟩
    have kept : ∀ a, a ∈ W.θ.drop k → W.F a = none → (∀ xs, H a ≠ some (.tup xs)) → H1 a = H a ∧ W1.F a = none := fun a ha hF n => ⟨(kept0 a ha hF).1, (kept0 a ha hF).2 n⟩
    have gOld : ∀ b o, W.G b = some o → W1.G b = some o := fun b o e => by
      rw [l1.g]
      show (if b ∈ W.θ.drop k ∧ W.F b = none then H b else W.G b) = some o
      rw [if_neg]
      · exact e
      · intro z
        rw [I.tg b (List.mem_of_mem_drop z.1)] at e; cases e
    have l2 : W.le ⟨W.θ, W1.F, W.G⟩ := ⟨⟨fun _ _ h => h, l1.f⟩, rfl⟩
    refine hq ⟨W.θ, W1.F, W.G⟩ (M1.take k ++ M.drop k) H1 v x l2 ?_ (VX.below (W := W1) (k := k) (SameR.refl _) th2 bx1 v1) p1
    refine ⟨?_, I.nd, fun i a o h1 h2 => ?_, I1.sf, fun b o e => I1.sg b o (gOld b o e), fun a => ?_, I.tg, fun a ha => ?_⟩
    · show W.θ.length = _
      rw [List.length_append, List.length_take, List.length_drop, I.len]
      omega
    · have h1 : W.θ[i]? = some a := h1
      by_cases hi : i < k
      · rw [List.getElem?_append_left (by rw [List.length_take]; omega), List.getElem?_take_of_lt hi] at h2
        refine OkOb.below (W := W1) (k := k) (SameR.refl _) th2 ?_ rfl id (I1.ob i a o (th1 i a hi h1) h2)
        exact List.all_eq_true.mp bM1 o (List.mem_of_getElem? (by rw [List.getElem?_take_of_lt hi]; exact h2))
      · have hlk : (M1.take k).length = k := by rw [List.length_take]; omega
        rw [List.getElem?_append_right (by omega), hlk, List.getElem?_drop] at h2
        have e : k + (i - k) = i := by omega
        rw [e] at h2
        have ha : a ∈ W.θ.drop k := by
          refine List.mem_of_getElem? (i := i - k) ?_
          rw [List.getElem?_drop, e]; exact h1
        have ok := I.ob i a o h1 h2
        cases o with
        | lst xs => obtain ⟨h0, vs, q1, q2⟩ := ok; obtain ⟨z1, z2⟩ := kept a ha h0 (by rw [q1]; nofun); exact ⟨z2, vs, z1.trans q1, VXs.le l2 q2⟩
        | tup xs =>
          obtain ⟨vs, q1, q2⟩ := ok
          refine ⟨vs, ?_, VXs.le l2 q2⟩
          by_cases h0 : W.F a = none
          · exact (kept0 a ha h0).1.trans q1
          · cases hf : W.F a with
            | none => exact absurd hf h0
            | some o =>
              have e1 := I.sf a o hf
              rw [q1] at e1; cases e1
              exact I1.sf _ _ (l1.f.tp _ _ hf)
        | dic xs => obtain ⟨h0, vs, q1, q2⟩ := ok; obtain ⟨z1, z2⟩ := kept a ha h0 (by rw [q1]; nofun); exact ⟨z2, vs, z1.trans q1, q2.le l2⟩
        | dit xs => obtain ⟨h0, vs, q1, q2⟩ := ok; obtain ⟨z1, z2⟩ := kept a ha h0 (by rw [q1]; nofun); exact ⟨z2, vs, z1.trans q1, q2.le l2⟩
        | ins C fs => obtain ⟨h0, dx, vs, q1, q2⟩ := ok; obtain ⟨z1, z2⟩ := kept a ha h0 (by rw [q1]; nofun); exact ⟨z2, dx, vs, z1.trans q1, q2.le l2⟩
        | frz d => exact Dq.same l1.f ok
    · show W1.F a = none ∨ W.G a = none ∨ ∃ xs, W1.F a = some (.tup xs)
      cases hg : W.G a with
      | none => exact .inr (.inl rfl)
      | some o =>
        rcases I1.fg a with z | z | z
        · exact .inl z
        · rw [gOld a o hg] at z; cases z
        · exact .inr (.inr z)
    · by_cases hF : W.F a = none
      · by_cases hd : a ∈ W.θ.drop k
        · rw [(kept0 a hd hF).1]; exact I.th a ha
        · obtain ⟨i, hi, e⟩ := List.getElem_of_mem ha
          have hik : i < k := by
            rcases Nat.lt_or_ge i k with z | z
            · exact z
            · exfalso
              apply hd
              refine List.mem_of_getElem? (i := i - k) ?_
              rw [List.getElem?_drop, show k + (i - k) = i by omega]
              exact e ▸ List.getElem?_eq_getElem hi
          exact I1.th a (List.mem_of_getElem? (th1 i a hik (e ▸ List.getElem?_eq_getElem hi)))
      · intro z
        exact l1.f.dom a hF (I1.sf.free z)
section
variable {P : Program} {w : World} {K : PySem.W.Frag} {mg : Str → Option Value} {base : Heap}
theorem FnG.pre {j k : Nat} {f : Addr} {fd : FuncData} {ps : List Str} {pf pf' : PF} (F : FnG P w K mg base j f fd ps pf') (h : ∀ xs M R, pf xs M R → pf' xs M fun x M' => k ≤ M'.length ∧ R x (M'.take k)) : FnG P w K mg base j f fd ps (pfPre k pf) :=
  ⟨fun xs M R q => F.len xs _ _ (h xs _ _ q.2.2.2), fun A outer s H args us vs Q hr hg he hb hv hs => F.run A outer s H args us vs Q hr hg he hb hv (spG_pre h hs)⟩
/-- a def, by its body over the first k cells -/
theorem FnG.mkPre {x qual : Str} {params : Arguments} {body : List Stmt} {scope : Scope} {f : Addr} {fd : FuncData} {N ps : List Str} {j k : Nat} {pf : PF} {rb : RS} (F : FunD K x qual params body scope [] [] f fd) (S : FnScope N ps scope) (len : ∀ xs M R, pf xs M R → xs.length = ps.length)
    (hb : ∀ (cdv : Value) (A : Around) (outer : List Env) (s : Shared) (H : Hp), Rm j (cxG P w K mg base N qual scope f cdv A outer s H) → SSs (cxG P w K mg base N qual scope f cdv A outer s H) body rb)
    (spec : ∀ xs M R, pf xs M R → rb (startX N xs) M (EndsPre k R)) : FnG P w K mg base (j + 1) f fd ps (pfPre k pf) := by
  refine FnG.pre (pf' := fun xs M R => xs.length = ps.length ∧ rb (startX N xs) M (Ends0 R)) (FnG.mk_ F S (fun xs M R h => h.1) hb fun xs M R h => h.2) fun xs M R h => ⟨len xs M R h, spec xs M R h⟩
end
/-! ### defs over data alone -/
abbrev PD := List PyData → (PyData → Prop) → Prop
def pfD (f : PD) : PF := fun xs M P => ∃ ds, xs = dX ds ∧ f ds fun d => P (.d d) M
def EndsD (R : PyData → Prop) : Out → Sto → Prop := Ends0 fun x _ => match x with
  | .d d => R d
  | .c _ => False
theorem belowX_dX (k : Nat) : ∀ ds : List PyData, (dX ds).all (belowX k) = true
  | [] => rfl
  | d :: ds => by
    show (belowX k (.d d) && (dX ds).all (belowX k)) = true
    rw [belowX_dX k ds]; rfl
section
variable {P : Program} {w : World} {K : PySem.W.Frag} {mg : Str → Option Value} {base : Heap}
theorem FnG.mkD {x qual : Str} {params : Arguments} {body : List Stmt} {scope : Scope} {f : Addr} {fd : FuncData} {N ps : List Str} {j : Nat} {pd : PD} {rb : RS} (F : FunD K x qual params body scope [] [] f fd) (S : FnScope N ps scope) (len : ∀ ds R, pd ds R → ds.length = ps.length)
    (hb : ∀ (cdv : Value) (A : Around) (outer : List Env) (s : Shared) (H : Hp), Rm j (cxG P w K mg base N qual scope f cdv A outer s H) → SSs (cxG P w K mg base N qual scope f cdv A outer s H) body rb)
    (spec : ∀ ds R, pd ds R → rb (startX N (dX ds)) [] (EndsD R)) (mono : ∀ ds R R', (∀ d, R d → R' d) → pd ds R → pd ds R') : FnG P w K mg base (j + 1) f fd ps (pfD pd) := by
  have F0 : FnG P w K mg base (j + 1) f fd ps (fun xs M R => M = [] ∧ ∃ ds R', xs = dX ds ∧ pd ds R' ∧ R = fun x _ => match x with | .d d => R' d | .c _ => False) :=
    FnG.mk_ F S (fun xs M R ⟨_, ds, R', e, h, _⟩ => by rw [e, List.length_map]; exact len ds _ h) hb fun xs M R ⟨e0, ds, R', e, h, eR⟩ => by
      subst e0 e eR
      exact spec ds R' h
  refine FnG.imp (pf := pfPre 0 fun xs M R => M = [] ∧ ∃ ds, xs = dX ds ∧ pd ds fun d => R (.d d) []) (F0.up.pre fun xs M R ⟨e0, ds, e, h⟩ => ?_) fun xs M R ⟨ds, e, h⟩ => ?_
  · refine ⟨_, ⟨e0, ds, _, e, h, rfl⟩, fun x M' q => ⟨Nat.zero_le _, ?_⟩⟩
    cases x with
    | d d => exact q
    | c _ => exact q.elim
  · exact ⟨Nat.zero_le _, by rw [e]; exact belowX_dX 0 ds, rfl, rfl, ds, e, mono ds _ _ (fun d hd => ⟨rfl, rfl, rfl, hd⟩) h⟩
end

/-! ### a def of the module: where it stands, what it promises -/
structure DefOk (K : PySem.W.Frag) (mg : Str → Option Value) (x : Str) (ps : List Str) (params : Arguments) (body : List Stmt) (scope : Scope) : Prop where
  ex : ∃ f fd, mg x = some (.ref f) ∧ FunD K x x params body scope [] [] f fd ∧ L2.Binds K fd ps []
structure Cal (P : Program) (w : World) (K : PySem.W.Frag) (mg : Str → Option Value) (base : Heap) (k : Nat) (x : Str) (ps : List Str) (pf : PF) : Prop where
  ex : ∃ f fd, mg x = some (.ref f) ∧ PySem.W.keepIn K (.ref f) = true ∧ L2.Binds K fd ps [] ∧ FnG P w K mg base k f fd ps pf
section
variable {P : Program} {w : World} {K : PySem.W.Frag} {mg : Str → Option Value} {base : Heap} {k : Nat} {x : Str} {ps N : List Str} {pf : PF} {params : Arguments} {body : List Stmt} {scope : Scope} {rb : RS} {j : Nat}
theorem Cal.mono (C : Cal P w K mg base j x ps pf) (h : j ≤ k) : Cal P w K mg base k x ps pf := let ⟨f, fd, a, b, c, d⟩ := C.ex; ⟨f, fd, a, b, c, d.mono h⟩
theorem Cal.imp {pf' : PF} (C : Cal P w K mg base k x ps pf) (h : ∀ xs M R, pf' xs M R → pf xs M R) : Cal P w K mg base k x ps pf' := let ⟨f, fd, a, b, c, d⟩ := C.ex; ⟨f, fd, a, b, c, d.imp h⟩
abbrev BodyOk (P : Program) (w : World) (K : PySem.W.Frag) (mg : Str → Option Value) (base : Heap) (k : Nat) (x : Str) (N : List Str) (body : List Stmt) (scope : Scope) (rb : RS) : Prop :=
  ∀ (f : Addr) (cdv : Value) (A : Around) (outer : List Env) (s : Shared) (H : Hp), Rm k (cxG P w K mg base N x scope f cdv A outer s H) → SSs (cxG P w K mg base N x scope f cdv A outer s H) body rb
theorem Cal.mk_ (D : DefOk K mg x ps params body scope) (S : FnScope N ps scope) (hb : BodyOk P w K mg base k x N body scope rb) (len : ∀ xs M R, pf xs M R → xs.length = ps.length) (spec : ∀ xs M R, pf xs M R → rb (startX N xs) M (Ends0 R)) : Cal P w K mg base (k + 1) x ps pf := by
  obtain ⟨f, fd, a, F, c⟩ := D.ex
  exact ⟨f, fd, a, F.kp, c, FnG.mk_ F S len (fun cdv A outer s H => hb f cdv A outer s H) spec⟩
theorem Cal.mkPre {i : Nat} (D : DefOk K mg x ps params body scope) (S : FnScope N ps scope) (hb : BodyOk P w K mg base k x N body scope rb) (len : ∀ xs M R, pf xs M R → xs.length = ps.length) (spec : ∀ xs M R, pf xs M R → rb (startX N xs) M (EndsPre i R)) : Cal P w K mg base (k + 1) x ps (pfPre i pf) := by
  obtain ⟨f, fd, a, F, c⟩ := D.ex
  exact ⟨f, fd, a, F.kp, c, FnG.mkPre F S len (fun cdv A outer s H => hb f cdv A outer s H) spec⟩
theorem Cal.mkD {pd : PD} (D : DefOk K mg x ps params body scope) (S : FnScope N ps scope) (hb : BodyOk P w K mg base k x N body scope rb) (len : ∀ ds R, pd ds R → ds.length = ps.length) (spec : ∀ ds R, pd ds R → rb (startX N (dX ds)) [] (EndsD R)) (mono : ∀ ds R R', (∀ d, R d → R' d) → pd ds R → pd ds R') : Cal P w K mg base (k + 1) x ps (pfD pd) := by
  obtain ⟨f, fd, a, F, c⟩ := D.ex
  exact ⟨f, fd, a, F.kp, c, FnG.mkD F S len (fun cdv A outer s H => hb f cdv A outer s H) spec mono⟩
end
section
variable {X : Cx} {k : Nat} {ps : List Str} {pf : PF} {x : Str} {p pos : Pos} {e : Expr} {es : List Expr} {rs : RF}
theorem se_cal (C : Cal X.prog X.w X.K X.mg X.base k x ps pf) (hr : Rm k X) (ha : SA X (e :: es) rs)
    (hg : Gl X x := by rfl) (hdb : (x == ("__debug__" : Str)) = false := by decide) (he : starEach (e :: es) X.env = (false, eval e X.env) :: starEach es X.env := by rfl) (hpl : (backTo pos (starEach es X.env)).any (·.1) = false := by rfl) :
    SE X (.Call (.Name x p) (e :: es) [] pos) (rCall pf rs) := by
  obtain ⟨f, fd, a, b, c, F⟩ := C.ex
  exact se_call F hr a b c ha hg hdb he hpl
theorem se_cal0 (C : Cal X.prog X.w X.K X.mg X.base k x [] pf) (hr : Rm k X) (hg : Gl X x := by rfl) (hdb : (x == ("__debug__" : Str)) = false := by decide) : SE X (.Call (.Name x p) [] [] pos) (rCall pf rNil) := by
  obtain ⟨f, fd, a, b, c, F⟩ := C.ex
  exact se_call0 F hr a b c hg hdb
theorem se_gi {i : Int} (h : ∃ t, X.mg x = some (.int i t)) (hg : Gl X x := by rfl) (hd : (x == ("__debug__" : Str)) = false := by decide) : SE X (.Name x p) (rC (.int i)) := by
  obtain ⟨t, h⟩ := h
  exact se_gint hg h hd
end
end G

set_option Elab.async false
set_option linter.all false
set_option maxRecDepth 100000
set_option maxHeartbeats 4000000
/-! G6: the end of a law's row: from the promise of the law's def over data. -/
namespace G
open PySem PySem.Spec PyProof.Rows L2

theorem dq_ints {K : PySem.W.Frag} {F : Hp} : ∀ ns : List Int, DqAll K F (ns.map V.int) (ns.map PyData.int)
  | [] => .nil
  | n :: ns => .cons (.int n) (dq_ints ns)
/-- the promise of a law: True of every script -/
def pfLaw (n : Nat) : PF := fun xs M R => ∃ ns : List Int, xs = [.d (.list (ns.map .int))] ∧ M = [] ∧ ns.length ≤ n ∧ ∀ M', R (.d (.bool true)) M'
section
variable {P : Program} {w : World} {K : PySem.W.Frag} {mg mb : Str → Option Value} {k n : Nat} {fa a : Addr} {x x0 : Str} {t : Shared} {vs : List Value} {ns : List Int}
/-- what is tracked as a law begins: the script, where it is none of the module's own -/
def H_0 (K : PySem.W.Frag) (a : Addr) (ob : Obj) (ns : List Int) : Hp := fun b => if b = a ∧ K.lookup a = none then some (.frz ob (.lst (ns.map V.int))) else none
theorem H0_cases (K : PySem.W.Frag) (a : Addr) (ob : Obj) (ns : List Int) (b : Addr) : H_0 K a ob ns b = none ∨ (b = a ∧ K.lookup a = none ∧ H_0 K a ob ns b = some (.frz ob (.lst (ns.map V.int)))) := by
  unfold H_0
  by_cases h : b = a ∧ K.lookup a = none
  · exact .inr ⟨h.1, h.2, if_pos h⟩
  · exact .inl (if_neg h)
theorem law_G (KX : K.In t.heap) (hns : t.heap.Ns mainGlobals mg) (hb : t.heap.Ns builtinsNs mb) (hbb : ∀ x : Str, x ≠ "__name__" → mb x = bootBuiltins x) (hlim : t.heap.NoLimit) (hg : t.gens = #[])
    (ha : t.heap.get? a = some { cls := .type "list", data := .seq vs.toArray }) (hi : IntsAre vs ns) (hn : ns.length ≤ n) (hl : n ≤ sizeLine) (hr : Room k callerA)
    (hsm : ∃ m, t.heap.Ns sysModules m) (F : ∀ base : Heap, K.In base → base.Ns mainGlobals mg → (∃ m, base.Ns sysModules m) → Cal P w K mg base k x [x0] (pfLaw n)) (hmg : mg x = some (.ref fa)) :
    codeAny (model P w) callerA (.call (.ref fa) ⟨[.ref a], []⟩) (fun r s' => r = .ok (.ret (.bool true)) ∧ OldK t.heap s'.heap ∧ s'.os = t.os ∧ AllBare s'.gens) t := by
  generalize hH : H_0 K a { cls := .type "list", data := .seq vs.toArray } ns = H
  have rv := vals_ints hi
  have hc : ∀ b, H b = none ∨ (b = a ∧ K.lookup a = none ∧ H b = some (.frz { cls := .type "list", data := .seq vs.toArray } (.lst (ns.map V.int)))) := fun b => hH ▸ H0_cases K a _ ns b
  have lz : (ns.map V.int).length ≤ sizeLine := by rw [List.length_map]; omega
  have ok : HOk P w H t.heap := fun b o e => by
    rcases hc b with z | ⟨z1, _, z⟩
    · rw [z] at e; cases e
    · rw [z] at e; cases e
      subst z1
      exact ⟨ha, lz, vs, _, rv, ha⟩
  -- an object of the written part, a namespace: they are not tracked
  have keepO : ∀ {b : Addr} {o : Obj}, t.heap.get? b = some o → (b = a → False) → (hidT t.heap H).get? b = some o := fun {b o} e ne => hidT_get e ((hc b).elim id fun z => (ne z.1).elim)
  have keepN : ∀ {b : Addr} {m : Str → Option Value}, t.heap.Ns b m → (hidT t.heap H).Ns b m := fun {b m} ⟨o, es, ep, e, d, r⟩ => ⟨o, es, ep, keepO e (fun z => by
    subst z; rw [ha] at e; cases e; cases d), d, r⟩
  have keepK : K.In (hidT t.heap H) := fun b o e => by
    have e2 := KX b o e
    rcases hc b with z | ⟨z1, z2, _⟩
    · exact hidT_get e2 z
    · subst z1; rw [z2] at e; cases e
  have md : Mod K mg (hidT t.heap H) := ⟨keepK, keepN hns, ⟨mb, keepN hb, hbb⟩, let ⟨mc, h1, h2⟩ := hlim; ⟨mc, keepN h1, h2⟩⟩
  have nof : ∀ b, b ∉ frs ([] : List Env) := fun b z => by simp [frs] at z
  have e0 : Env0 P w K mg (hidT t.heap H) callerA [] t H := ⟨rfl, md, fun b o e => of_hidT e, Nat.le_of_eq (hidT_size _ _), trivial, fun b z => (nof b z).elim, ok, .of_eq hg⟩
  have sq : SqL K H a (ns.map V.int) := by
    cases hk : K.lookup a with
    | none => exact .inl (.inr ⟨{ cls := .type "list", data := .seq vs.toArray }, by rw [← hH]; exact if_pos ⟨rfl, hk⟩⟩)
    | some o =>
      have e := KX a o hk
      rw [ha] at e
      cases e
      have := hi.length
      exact .inr ⟨_, vs.toArray, _, hk, rfl, rfl, rfl, by rw [List.size_toArray]; omega, by simpa using rv⟩
  have inv : InvS K ⟨[], H, fun _ => none⟩ [] H := ⟨rfl, List.nodup_nil, fun i a o h1 _ => by simp at h1, fun _ _ e => e, fun _ _ e => (by cases e), fun _ => .inr (.inl rfl), fun _ h => by simp at h, fun _ h => by simp at h⟩
  have hsys : ∃ m, (hidT t.heap H).Ns sysModules m := let ⟨m, hm⟩ := hsm; ⟨m, keepN hm⟩
  obtain ⟨f, fd, z1, _, hbind, FF⟩ := (F _ keepK (keepN hns) hsys).ex
  obtain rfl : f = fa := by rw [hmg] at z1; cases z1; rfl
  have hbd : BindsTo t fd ⟨[.ref a], []⟩ ([x0].zip [.ref a]) := hbind t [.ref a] KX rfl
  refine codeAny_mono (FF.run callerA [] t H ⟨[.ref a], []⟩ [.ref a] [.ref a] (fun v _ => v = .bl true) hr rfl e0 hbd (.cons rfl .nil)
    ⟨⟨[], H, fun _ => none⟩, [], [.d (.list (ns.map .int))], fun x _ => x = .d (.bool true), inv, .cons (show Dq _ _ _ _ from .lst sq (dq_ints ns)) .nil, ⟨ns, rfl, rfl, hn, fun _ => rfl⟩, fun W' M' H' v x _ _ hv hx => by subst hx; exact boV hv⟩) fun r s' h => ?_
  cases r with
  | error e => exact False.elim h
  | ok fl =>
    cases fl with
    | next => exact False.elim h
    | brk => exact False.elim h
    | cont => exact False.elim h
    | ret u =>
      obtain ⟨v, H', os, bare, un, ok', r', q⟩ := h
      have q : v = .bl true := q
      subst q
      obtain rfl : u = Value.bool true := r'
      refine ⟨rfl, OldK.of_keep fun b o e => ?_, os, bare⟩
      rcases hc b with z | ⟨z1, _, z⟩
      · exact un.keep b o e z (nof b) (by simp)
      · obtain ⟨e1, _⟩ := ok b _ z
        obtain ⟨e2, _⟩ := ok' b _ (un.frzs b _ _ z)
        rw [e] at e1; cases e1
        exact e2
end
/-- the goal that the head leaves, from the law's promise over data -/
theorem walk_G {l : PySem.W.OpenLaw} {n k : Nat} {q : Program} {loose : List Str} {XP : (Str → Option Value) → Heap → Prop} {YP : World → Heap → Prop} {d : DefRec} {x : Str}
    (hn : l.most = some n) (hn2 : n ≤ sizeLine) (hdf : d.params.defaults = []) (hr : Room k callerA) (hq : importsNone q = true)
    (F : ∀ (w : World) (mg : Str → Option Value) (fa : Addr) (h : Heap), YP w h → h.Ns mainGlobals mg → mg d.name = some (.ref fa) →
      ∃ (K : PySem.W.Frag), K.In h ∧ ∀ base : Heap, K.In base → base.Ns mainGlobals mg → (∃ m, base.Ns sysModules m) → Cal l.prog w K mg base k d.name [x] (pfLaw n)) :
    PySem.W.WalkO q loose XP YP l.row.toRowW d [] (fun f vs => PySem.call f vs) := by
  refine Att.attach_call hn hdf fun w _ t mg mb fa _ _ _ _ a vs ns gr Y _ _ _ hmg hobj hints hlen hgens => ?_
  obtain ⟨K, KX, hF⟩ := F w mg fa _ Y gr.T.g hmg
  obtain ⟨m, hm, _⟩ := (gr.T.seer hq).mods
  exact law_G KX gr.T.g gr.T.b gr.T.builtins gr.T.nolimit hgens hobj hints hlen hn2 hr ⟨m, hm⟩ hF hmg
end G

set_option Elab.async false
set_option linter.all false
set_option maxRecDepth 100000
set_option maxHeartbeats 4000000
/-! G7: built-ins over data and store. -/
namespace G
open PySem PySem.Spec PyProof.Rows L2

/-! ### data as the kit's Reads -/
section
variable {X : Cx} {pins : List (Addr × Obj)} {σ : St} {H F : Hp} {s : Shared}
theorem Inv.list_ne (I : Inv X pins σ H s) (hB : ∃ m, X.base.Ns sysModules m) {a : Addr} {xs : List V} (h : SqL X.K H a xs) : a ≠ sysModules := by
  rintro rfl
  obtain ⟨m, ob, es, ep, e, hd, _⟩ := hB
  rcases h with h | ⟨o, its, n, h, _, _, hq, _⟩
  · have hn : H sysModules = none := (I.bs _ _ e).2
    rcases h with h | ⟨o, h⟩
    · rw [hn] at h; cases h
    · rw [hn] at h; cases h
  · have e2 := I.mod.kin _ _ h
    rw [e] at e2
    cases e2
    rw [hd] at hq; cases hq
theorem kreads {P : Program} {w : World} {h : Heap} : ∀ {kvs : List (Key × V)} {vs : List (Key × Value)} {es : List DictEntry}, KV kvs vs → Pairs (mixKind P w) es vs → ReadsAll h (es.map (·.key)) (kvs.map fun p => kD p.1) [] ∧ Vals (kvs.map (·.2)) (es.map (·.val))
  | _, _, _, .nil, .nil => ⟨.nil, .nil⟩
  | p :: _, _, _, .cons a r, .cons (e := e) b c t => by
    obtain ⟨h1, h2⟩ := kreads (h := h) r t
    refine ⟨?_, ?_⟩
    · rw [List.map_cons, List.map_cons]
      refine ReadsAll.cons (as := []) (bs := []) ?_ h1
      rw [← a.1] at b
      rcases keyIs_shape b with ⟨i, t, e1, e2⟩ | ⟨x, t, e1, e2⟩
      · rw [e1, e2]; exact .int i t
      · rw [e1, e2]; exact .str x t
    · rw [List.map_cons, List.map_cons]
      exact .cons (c ▸ a.2) h2
mutual
theorem Dq.reads (I : Inv X pins σ H s) (hB : ∃ m, X.base.Ns sysModules m) (sf : SameR F H) : ∀ (d : PyData) (v : V) (u : Value), Dq X.K F v d → RelV v u → ∃ as, Reads s.heap u d as ∧ sysModules ∉ as
  | .none, _, _, h, r => by
    cases h
    cases r
    exact ⟨_, Reads.none, by simp⟩
  | .bool b, _, _, h, r => by
    cases h
    cases r
    exact ⟨_, Reads.bool b, by simp⟩
  | .int i, _, _, h, r => by
    cases h
    obtain ⟨t, rfl⟩ := r
    exact ⟨_, Reads.int i t, by simp⟩
  | .str x, _, _, h, r => by
    cases h
    obtain ⟨t, rfl⟩ := r
    exact ⟨_, Reads.str x t, by simp⟩
  | .list ds, _, _, h, r => by
    cases h with
    | lst hs ha =>
      cases r
      have hne := Inv.list_ne I hB (sf.sqL hs)
      obtain ⟨its, rv, ⟨o, n, ho, hc, _, hd⟩, _⟩ := I.list (sf.sqL hs)
      obtain ⟨as, hr, hn⟩ := DqAll.reads I hB sf ds _ its ha rv
      exact ⟨_, Reads.list ho hc hd hr, by simp only [List.mem_cons, not_or]; exact ⟨fun z => hne z.symm, hn⟩⟩
  | .tuple ds, _, _, h, r => by
    cases h with
    | tup hs ha =>
      cases r
      obtain ⟨its, rv, ⟨o, ho, hc, n, hd⟩, _⟩ := I.tuple (sf.sqT hs)
      obtain ⟨as, hr, hn⟩ := DqAll.reads I hB sf ds _ its ha rv
      exact ⟨_, Reads.tuple ho hc hd hr, hn⟩
  | .dict ps, v, u, h, r => by
    generalize hd : PyData.dict ps = d at h
    cases h with
    | dic h1 h2 =>
      rename_i a kvs ds
      cases r
      obtain ⟨_, ne, vs, rk, o, es, ep, ho, ex, hdt, _, pr, _⟩ := dk_rd I.hok (sf.rd _ _ trivial h1)
      obtain ⟨k1, k2⟩ := kreads (h := s.heap) rk pr
      have hl : kvs.length = ds.length := by have := DqAll.length h2; rwa [List.length_map] at this
      have hd : ps = (kvs.map fun p => kD p.1).zip ds := by injection hd
      have em : ps.map (·.2) = ds := by
        rw [hd, List.map_snd_zip]
        rw [List.length_map]; omega
      have ek : ps.map (·.1) = kvs.map fun p => kD p.1 := by
        rw [hd, List.map_fst_zip]
        rw [List.length_map]; omega
      obtain ⟨bs, hr, hn⟩ := DqKv.reads I hB sf ps _ _ (em.symm ▸ h2) k2
      rw [← hd]
      refine ⟨_, Reads.dict ho ex.1 hdt (ek.symm ▸ k1) hr, ?_⟩
      simp only [List.cons_append, List.nil_append, List.mem_cons, not_or]
      exact ⟨fun z => by rw [← z] at ne; simp at ne, hn⟩
    | _ => cases hd
theorem DqKv.reads (I : Inv X pins σ H s) (hB : ∃ m, X.base.Ns sysModules m) (sf : SameR F H) : ∀ (ps : List (PyData × PyData)) (vs : List V) (us : List Value), DqAll X.K F vs (ps.map (·.2)) → Vals vs us → ∃ as, ReadsAll s.heap us (ps.map (·.2)) as ∧ sysModules ∉ as
  | [], _, _, h, r => by
    cases h
    cases r
    exact ⟨_, ReadsAll.nil, by simp⟩
  | (_, d) :: ds, _, _, h, r => by
    cases h with
    | cons h1 h2 =>
      cases r with
      | cons r1 r2 =>
        obtain ⟨as, q1, n1⟩ := Dq.reads I hB sf d _ _ h1 r1
        obtain ⟨bs, q2, n2⟩ := DqKv.reads I hB sf ds _ _ h2 r2
        exact ⟨_, ReadsAll.cons q1 q2, fun z => (List.mem_append.mp z).elim n1 n2⟩
theorem DqAll.reads (I : Inv X pins σ H s) (hB : ∃ m, X.base.Ns sysModules m) (sf : SameR F H) : ∀ (ds : List PyData) (vs : List V) (us : List Value), DqAll X.K F vs ds → Vals vs us → ∃ as, ReadsAll s.heap us ds as ∧ sysModules ∉ as
  | [], _, _, h, r => by
    cases h
    cases r
    exact ⟨_, ReadsAll.nil, by simp⟩
  | d :: ds, _, _, h, r => by
    cases h with
    | cons h1 h2 =>
      cases r with
      | cons r1 r2 =>
        obtain ⟨as, q1, n1⟩ := Dq.reads I hB sf d _ _ h1 r1
        obtain ⟨bs, q2, n2⟩ := DqAll.reads I hB sf ds _ _ h2 r2
        exact ⟨_, ReadsAll.cons q1 q2, fun z => (List.mem_append.mp z).elim n1 n2⟩
end
end

/-! ### calls of built-ins -/
abbrev GL := List Xv → Sto → (Xv → Sto → Prop) → Prop
def BX (X : Cx) (f : Value) (g : GL) : Prop := ∃ r, CallR X f r ∧ ∀ (W : Wd) (M : Sto) (H : Hp) (vs : List V) (xs : List Xv) (P : Xv → Sto → Prop) (Q : VK), InvS X.K W M H → VXs X.K W vs xs → g xs M P →
  (∀ W' M' H' v x, W.le W' → InvS X.K W' M' H' → VX X.K W' v x → P x M' → Q v H') → r vs H Q
abbrev GLF := List Xv → Sto → (List Xv → Sto → Prop) → Prop
def BXF (X : Cx) (f : Value) (g : GLF) : Prop := ∃ r, CallR X f r ∧ ∀ (W : Wd) (M : Sto) (H : Hp) (vs : List V) (xs : List Xv) (P : List Xv → Sto → Prop) (Q : VK), InvS X.K W M H → VXs X.K W vs xs → g xs M P →
  (∀ W' M' H' a vs xs, W.le W' → InvS X.K W' M' H' → Loose W' H' a (.lst vs) → VXs X.K W' vs xs → P xs M' → Q (.ref a) H') → r vs H Q
def rApp (g : GL) (rs : RF) : RE := fun σ M P => rs σ M fun xs M1 => g xs M1 P
def rAppF (g : GLF) (rs : RF) : RF := fun σ M P => rs σ M fun xs M1 => g xs M1 P
section
variable {X : Cx} {x : Str} {p pos : Pos} {e : Expr} {es : List Expr} {rs : RF} {id T : String} {g : GL} {gf : GLF}
theorem se_bi (hc : BX X (.builtin id) g) (hg : Gl X x) (hm : X.mg x = none) (hv : bootBuiltins x = some (.builtin id)) (ha : SA X (e :: es) rs) (hn : x ≠ "__name__" := by decide) (hdb : (x == ("__debug__" : Str)) = false := by decide)
    (he : starEach (e :: es) X.env = (false, eval e X.env) :: starEach es X.env := by rfl) (hpl : (backTo pos (starEach es X.env)).any (·.1) = false := by rfl) : SE X (.Call (.Name x p) (e :: es) [] pos) (rApp g rs) := by
  obtain ⟨r, h1, h2⟩ := hc
  obtain ⟨ta, pa, sa⟩ := ha
  refine ⟨_, pe_callB h1 hg hm hv pa hn hdb he hpl, fun W M H σ σx P Q I S hr q => ?_⟩
  refine sa W M H σ σx _ _ I S hr fun W1 M1 H1 vs xs l1 I1 v1 p1 => ?_
  exact h2 W1 M1 H1 vs xs P Q I1 v1 p1 fun W2 M2 H2 v x l2 I2 v2 p2 => q W2 M2 H2 v x (l1.trans l2) I2 v2 p2
theorem se_ty (hc : BX X (.type T) g) (hg : Gl X x) (hm : X.mg x = none) (hv : bootBuiltins x = some (.type T)) (ha : SA X (e :: es) rs) (hn : x ≠ "__name__" := by decide) (hdb : (x == ("__debug__" : Str)) = false := by decide)
    (he : starEach (e :: es) X.env = (false, eval e X.env) :: starEach es X.env := by rfl) (hpl : (backTo pos (starEach es X.env)).any (·.1) = false := by rfl) : SE X (.Call (.Name x p) (e :: es) [] pos) (rApp g rs) := by
  obtain ⟨r, h1, h2⟩ := hc
  obtain ⟨ta, pa, sa⟩ := ha
  refine ⟨_, pe_callTy h1 hg hm hv pa hn hdb he hpl, fun W M H σ σx P Q I S hr q => ?_⟩
  refine sa W M H σ σx _ _ I S hr fun W1 M1 H1 vs xs l1 I1 v1 p1 => ?_
  exact h2 W1 M1 H1 vs xs P Q I1 v1 p1 fun W2 M2 H2 v x l2 I2 v2 p2 => q W2 M2 H2 v x (l1.trans l2) I2 v2 p2
theorem sf_bi (hc : BXF X (.builtin id) gf) (hg : Gl X x) (hm : X.mg x = none) (hv : bootBuiltins x = some (.builtin id)) (ha : SA X (e :: es) rs) (hn : x ≠ "__name__" := by decide) (hdb : (x == ("__debug__" : Str)) = false := by decide)
    (he : starEach (e :: es) X.env = (false, eval e X.env) :: starEach es X.env := by rfl) (hpl : (backTo pos (starEach es X.env)).any (·.1) = false := by rfl) : SF X (.Call (.Name x p) (e :: es) [] pos) (rAppF gf rs) := by
  obtain ⟨r, h1, h2⟩ := hc
  obtain ⟨ta, pa, sa⟩ := ha
  refine ⟨_, pe_callB h1 hg hm hv pa hn hdb he hpl, fun W M H σ σx P Q I S hr q => ?_⟩
  refine sa W M H σ σx _ _ I S hr fun W1 M1 H1 vs xs l1 I1 v1 p1 => ?_
  exact h2 W1 M1 H1 vs xs P Q I1 v1 p1 fun W2 M2 H2 a vs xs l2 I2 L2 v2 p2 => q W2 M2 H2 a vs xs (l1.trans l2) I2 L2 v2 p2
theorem sf_ty (hc : BXF X (.type T) gf) (hg : Gl X x) (hm : X.mg x = none) (hv : bootBuiltins x = some (.type T)) (ha : SA X (e :: es) rs) (hn : x ≠ "__name__" := by decide) (hdb : (x == ("__debug__" : Str)) = false := by decide)
    (he : starEach (e :: es) X.env = (false, eval e X.env) :: starEach es X.env := by rfl) (hpl : (backTo pos (starEach es X.env)).any (·.1) = false := by rfl) : SF X (.Call (.Name x p) (e :: es) [] pos) (rAppF gf rs) := by
  obtain ⟨r, h1, h2⟩ := hc
  obtain ⟨ta, pa, sa⟩ := ha
  refine ⟨_, pe_callTy h1 hg hm hv pa hn hdb he hpl, fun W M H σ σx P Q I S hr q => ?_⟩
  refine sa W M H σ σx _ _ I S hr fun W1 M1 H1 vs xs l1 I1 v1 p1 => ?_
  exact h2 W1 M1 H1 vs xs P Q I1 v1 p1 fun W2 M2 H2 a vs xs l2 I2 L2 v2 p2 => q W2 M2 H2 a vs xs (l1.trans l2) I2 L2 v2 p2
end
theorem CallR.or {X : Cx} {f : Value} {r r' : List V → Hp → VK → Prop} (h : CallR X f r) (h' : CallR X f r') : CallR X f (fun xs H Q => r xs H Q ∨ r' xs H Q) := by
  intro pins s σ H xs us Q I rv q
  rcases q with q | q
  · exact h pins s σ H xs us Q I rv q
  · exact h' pins s σ H xs us Q I rv q
theorem vxs1 {K : PySem.W.Frag} {W : Wd} {vs : List V} {x : Xv} (h : VXs K W vs [x]) : ∃ v, vs = [v] ∧ VX K W v x := by
  cases h with
  | cons a r => cases r; exact ⟨_, rfl, a⟩
theorem vxs2 {K : PySem.W.Frag} {W : Wd} {vs : List V} {x y : Xv} (h : VXs K W vs [x, y]) : ∃ v u, vs = [v, u] ∧ VX K W v x ∧ VX K W u y := by
  cases h with
  | cons a r =>
    cases r with
    | cons b r => cases r; exact ⟨_, _, rfl, a, b⟩
/-! ### len -/
def gLen : GL := fun xs M P => match xs with
  | [x] => match hd M x with
    | .lst ys => P (.d (.int ys.length)) M
    | .tup ys => P (.d (.int ys.length)) M
    | .sc (.str s) => s.length ≤ sizeLine ∧ P (.d (.int s.length)) M
    | .dic kvs => P (.d (.int kvs.length)) M
    | _ => False
  | _ => False
theorem call_lenR {X : Cx} : CallR X (.builtin "len") (fun xs H Q => ∃ a kvs, xs = [V.ref a] ∧ Rd H a (.dK kvs) ∧ Q (.int kvs.length) H) := by
  intro pins s σ H xs us Q I r h
  obtain ⟨a, kvs, rfl, ha, q⟩ := h
  obtain ⟨u, rfl, ru⟩ := vals1 r
  cases ru
  exact d_len I ha fun t s' I' => ⟨.int kvs.length, H, I', ⟨t, rfl⟩, q⟩
theorem bx_len {X : Cx} : BX X (.builtin "len") gLen := by
  refine ⟨_, CallR.or call_len call_lenR, fun W M H vs xs P Q I hv hg q => ?_⟩
  unfold gLen at hg
  split at hg
  · rename_i x
    obtain ⟨v, rfl, v1⟩ := vxs1 hv
    split at hg
    · rename_i ys e
      obtain ⟨a, us, rfl, h1, h2⟩ := lstH I v1 e
      exact .inl ⟨_, ys.length, rfl, .inl ⟨us, h1, h2.length.symm⟩, q W M H _ (.d (.int ys.length)) (.refl W) I (show Dq _ _ _ _ from .int _) hg⟩
    · rename_i ys e
      obtain ⟨a, us, rfl, h1, h2⟩ := tupH I v1 e
      exact .inl ⟨_, ys.length, rfl, .inr ⟨us, h1, h2.length.symm⟩, q W M H _ (.d (.int ys.length)) (.refl W) I (show Dq _ _ _ _ from .int _) hg⟩
    · rename_i s e
      have := scS I v1 e
      subst this
      exact .inl ⟨_, s.length, rfl, ⟨hg.1, rfl⟩, q W M H _ (.d (.int s.length)) (.refl W) I (show Dq _ _ _ _ from .int _) hg.2⟩
    · rename_i kvs e
      have ok := hd_ok I v1
      rw [e] at ok
      obtain ⟨a, rfl, us, h1, h2⟩ := ok
      refine .inr ⟨a, us, rfl, h1, ?_⟩
      rw [Paired.length h2]
      exact q W M H _ (.d (.int kvs.length)) (.refl W) I (show Dq _ _ _ _ from .int _) hg
    · exact hg.elim
  · exact hg.elim
/-! ### ints -/
def gInt1 (C : Int → Prop) (f : Int → PyData) : GL := fun xs M P => match xs with
  | [x] => match hd M x with
    | .sc (.int i) => C i ∧ P (.d (f i)) M
    | _ => False
  | _ => False
abbrev gAbs : GL := gInt1 (fun _ => True) fun i => .int (if i < 0 then -i else i)
abbrev gStr : GL := gInt1 (fun i => i.natAbs.log2 < 1920) fun i => .str (toString i)
theorem bx_abs {X : Cx} : BX X (.builtin "abs") gAbs := by
  refine ⟨_, call_abs, fun W M H vs xs P Q I hv hg q => ?_⟩
  unfold gAbs gInt1 at hg
  split at hg
  · obtain ⟨v, rfl, v1⟩ := vxs1 hv
    split at hg
    · rename_i i e
      have := scI I v1 e
      subst this
      exact ⟨i, rfl, q W M H _ (.d (.int _)) (.refl W) I (show Dq _ _ _ _ from .int _) hg.2⟩
    · exact hg.elim
  · exact hg.elim
theorem bx_str {X : Cx} : BX X (.type "str") gStr := by
  refine ⟨_, call_str_int, fun W M H vs xs P Q I hv hg q => ?_⟩
  unfold gStr gInt1 at hg
  split at hg
  · obtain ⟨v, rfl, v1⟩ := vxs1 hv
    split at hg
    · rename_i i e
      have := scI I v1 e
      subst this
      exact ⟨i, rfl, hg.1, q W M H _ (.d (.str _)) (.refl W) I (show Dq _ _ _ _ from .str _) hg.2⟩
    · exact hg.elim
  · exact hg.elim
def gInt : GL := fun xs M P => match xs with
  | [x] => match hd M x with
    | .sc (.int i) => P (.d (.int i)) M
    | .sc (.bool b) => P (.d (.int (if b then 1 else 0))) M
    | _ => False
  | _ => False
theorem bx_int {X : Cx} : BX X (.type "int") gInt := by
  refine ⟨_, call_int1, fun W M H vs xs P Q I hv hg q => ?_⟩
  unfold gInt at hg
  split at hg
  · obtain ⟨v, rfl, v1⟩ := vxs1 hv
    split at hg
    · rename_i i e
      have := scI I v1 e
      subst this
      exact .inl ⟨i, rfl, q W M H _ (.d (.int _)) (.refl W) I (show Dq _ _ _ _ from .int _) hg⟩
    · rename_i i e
      have := hd_ok I v1
      rw [e] at this
      have : _ = V.bl i := this
      subst this
      exact .inr ⟨i, rfl, q W M H _ (.d (.int _)) (.refl W) I (show Dq _ _ _ _ from .int _) hg⟩
    · exact hg.elim
  · exact hg.elim
def gInt2 (f : Int → Int → Int) : GL := fun xs M P => match xs with
  | [x, y] => match hd M x, hd M y with
    | .sc (.int i), .sc (.int j) => P (.d (.int (f i j))) M
    | _, _ => False
  | _ => False
/-! ### lists of ints -/
def intsX : List Xv → Option (List Int)
  | [] => some []
  | .d (.int i) :: xs => (intsX xs).map (i :: ·)
  | _ :: _ => none
theorem intsX_of : ∀ {xs : List Xv} {ns : List Int}, intsX xs = some ns → xs = ns.map fun i => .d (.int i)
  | [], _, h => by cases h; rfl
  | .d (.int i) :: xs, ns, h => by
    unfold intsX at h
    cases e : intsX xs with
    | none => rw [e] at h; cases h
    | some m => rw [e] at h; cases h; rw [intsX_of e]; rfl
  | .c _ :: _, _, h => by cases h
  | .d .none :: _, _, h => by cases h
  | .d (.bool _) :: _, _, h => by cases h
  | .d (.str _) :: _, _, h => by cases h
  | .d (.list _) :: _, _, h => by cases h
  | .d (.tuple _) :: _, _, h => by cases h
  | .d (.dict _) :: _, _, h => by cases h
theorem intsX_map (ns : List Int) : intsX (ns.map fun i => .d (.int i)) = some ns := by
  induction ns with
  | nil => rfl
  | cons n ns ih => show (intsX (ns.map fun i => .d (.int i))).map (n :: ·) = _; rw [ih]; rfl
theorem VXs.ints {K : PySem.W.Frag} {W : Wd} : ∀ {ns : List Int} {vs : List V}, VXs K W vs (ns.map fun i => .d (.int i)) → vs = ns.map V.int
  | [], _, h => by cases h; rfl
  | n :: ns, _, h => by
    cases h with
    | cons a r =>
      have a : Dq K W.F _ (.int n) := a
      cases a
      rw [VXs.ints r]; rfl
theorem ints_X {K : PySem.W.Frag} {W : Wd} : ∀ ns : List Int, VXs K W (ns.map V.int) (ns.map fun i => .d (.int i))
  | [] => .nil
  | n :: ns => .cons (show Dq K W.F _ _ from .int n) (ints_X ns)
def gMM (two : Int → Int → Int) (one : List Int → Int) : GL := fun xs M P => match xs with
  | [x, y] => match hd M x, hd M y with
    | .sc (.int i), .sc (.int j) => P (.d (.int (two i j))) M
    | _, _ => False
  | [x] => match hd M x with
    | .lst ys => ifS (intsX ys) fun ns => 0 < ns.length ∧ P (.d (.int (one ns))) M
    | _ => False
  | _ => False
def maxL (ns : List Int) : Int := ns.tail.foldl max (ns.headD 0)
def minL (ns : List Int) : Int := ns.tail.foldl min (ns.headD 0)
theorem fold_max (ns : List Int) : ∀ a : Int, (ns.foldl max a = a ∨ ns.foldl max a ∈ ns) ∧ a ≤ ns.foldl max a ∧ ∀ y ∈ ns, y ≤ ns.foldl max a := by
  induction ns with
  | nil => intro a; simp
  | cons n ns ih =>
    intro a
    obtain ⟨h1, h2, h3⟩ := ih (max a n)
    rw [List.foldl_cons]
    refine ⟨?_, by omega, fun y hy => ?_⟩
    · rcases h1 with h1 | h1
      · rw [h1]
        by_cases e : a ≤ n
        · rw [Int.max_eq_right e]; exact .inr (by simp)
        · rw [Int.max_eq_left (by omega)]; exact .inl rfl
      · exact .inr (List.mem_cons_of_mem _ h1)
    · rcases List.mem_cons.mp hy with e | e
      · subst e; omega
      · exact h3 y e
theorem fold_min (ns : List Int) : ∀ a : Int, (ns.foldl min a = a ∨ ns.foldl min a ∈ ns) ∧ ns.foldl min a ≤ a ∧ ∀ y ∈ ns, ns.foldl min a ≤ y := by
  induction ns with
  | nil => intro a; simp
  | cons n ns ih =>
    intro a
    obtain ⟨h1, h2, h3⟩ := ih (min a n)
    rw [List.foldl_cons]
    refine ⟨?_, by omega, fun y hy => ?_⟩
    · rcases h1 with h1 | h1
      · rw [h1]
        by_cases e : a ≤ n
        · rw [Int.min_eq_left e]; exact .inl rfl
        · rw [Int.min_eq_right (by omega)]; exact .inr (by simp)
      · exact .inr (List.mem_cons_of_mem _ h1)
    · rcases List.mem_cons.mp hy with e | e
      · subst e; omega
      · exact h3 y e
theorem maxL_spec {ns : List Int} (h : 0 < ns.length) : maxL ns ∈ ns ∧ ∀ y ∈ ns, y ≤ maxL ns := by
  cases ns with
  | nil => simp at h
  | cons n ns =>
    obtain ⟨h1, h2, h3⟩ := fold_max ns n
    refine ⟨?_, fun y hy => ?_⟩
    · rcases h1 with h1 | h1
      · show ns.foldl max n ∈ _; rw [h1]; simp
      · exact List.mem_cons_of_mem _ h1
    · rcases List.mem_cons.mp hy with e | e
      · subst e; exact h2
      · exact h3 y e
theorem minL_spec {ns : List Int} (h : 0 < ns.length) : minL ns ∈ ns ∧ ∀ y ∈ ns, minL ns ≤ y := by
  cases ns with
  | nil => simp at h
  | cons n ns =>
    obtain ⟨h1, h2, h3⟩ := fold_min ns n
    refine ⟨?_, fun y hy => ?_⟩
    · rcases h1 with h1 | h1
      · show ns.foldl min n ∈ _; rw [h1]; simp
      · exact List.mem_cons_of_mem _ h1
    · rcases List.mem_cons.mp hy with e | e
      · subst e; exact h2
      · exact h3 y e
abbrev gMax : GL := gMM (fun i j => max i j) maxL
abbrev gMin : GL := gMM (fun i j => min i j) minL
theorem bx_max {X : Cx} (hc : X.calm = true) : BX X (.builtin "max") gMax := by
  refine ⟨_, CallR.or (call_max2 hc) (cr_max hc), fun W M H vs xs P Q I hv hg q => ?_⟩
  unfold gMax gMM at hg
  split at hg
  · obtain ⟨v, u, rfl, v1, v2⟩ := vxs2 hv
    split at hg
    · rename_i i j e1 e2
      have := scI I v1 e1
      have := scI I v2 e2
      subst_vars
      refine .inl ⟨i, j, rfl, ?_⟩
      rw [show (if j > i then j else i) = max i j by omega]
      exact q W M H _ (.d (.int _)) (.refl W) I (show Dq _ _ _ _ from .int _) hg
    · exact hg.elim
  · obtain ⟨v, rfl, v1⟩ := vxs1 hv
    split at hg
    · rename_i ys e
      obtain ⟨a, us, rfl, h1, h2⟩ := lstH I v1 e
      obtain ⟨ns, e2, h3, p⟩ := ifS_of hg
      have := intsX_of e2
      subst this
      have := h2.ints
      subst this
      refine .inr ⟨a, ns, rfl, h1, h3, fun m hm hy => ?_⟩
      obtain ⟨s1, s2⟩ := maxL_spec h3
      have : m = maxL ns := Int.le_antisymm (s2 m hm) (hy _ s1)
      subst this
      exact q W M H _ (.d (.int _)) (.refl W) I (show Dq _ _ _ _ from .int _) p
    · exact hg.elim
  · exact hg.elim
theorem bx_min {X : Cx} (hc : X.calm = true) : BX X (.builtin "min") gMin := by
  refine ⟨_, CallR.or (call_min2 hc) (cr_min hc), fun W M H vs xs P Q I hv hg q => ?_⟩
  unfold gMin gMM at hg
  split at hg
  · obtain ⟨v, u, rfl, v1, v2⟩ := vxs2 hv
    split at hg
    · rename_i i j e1 e2
      have := scI I v1 e1
      have := scI I v2 e2
      subst_vars
      refine .inl ⟨i, j, rfl, ?_⟩
      rw [show (if j < i then j else i) = min i j by omega]
      exact q W M H _ (.d (.int _)) (.refl W) I (show Dq _ _ _ _ from .int _) hg
    · exact hg.elim
  · obtain ⟨v, rfl, v1⟩ := vxs1 hv
    split at hg
    · rename_i ys e
      obtain ⟨a, us, rfl, h1, h2⟩ := lstH I v1 e
      obtain ⟨ns, e2, h3, p⟩ := ifS_of hg
      have := intsX_of e2
      subst this
      have := h2.ints
      subst this
      refine .inr ⟨a, ns, rfl, h1, h3, fun m hm hy => ?_⟩
      obtain ⟨s1, s2⟩ := minL_spec h3
      have : m = minL ns := Int.le_antisymm (hy _ s1) (s2 m hm)
      subst this
      exact q W M H _ (.d (.int _)) (.refl W) I (show Dq _ _ _ _ from .int _) p
    · exact hg.elim
  · exact hg.elim
def gSum : GL := fun xs M P => match xs with
  | [x] => match hd M x with
    | .lst ys => ifS (intsX ys) fun ns => P (.d (.int ns.sum)) M
    | _ => False
  | _ => False
theorem bx_sum {X : Cx} (hc : X.calm = true) : BX X (.builtin "sum") gSum := by
  refine ⟨_, cr_sum hc, fun W M H vs xs P Q I hv hg q => ?_⟩
  unfold gSum at hg
  split at hg
  · obtain ⟨v, rfl, v1⟩ := vxs1 hv
    split at hg
    · rename_i ys e
      obtain ⟨a, us, rfl, h1, h2⟩ := lstH I v1 e
      obtain ⟨ns, e2, p⟩ := ifS_of hg
      have := intsX_of e2
      subst this
      have := h2.ints
      subst this
      exact ⟨a, ns, rfl, h1, q W M H _ (.d (.int _)) (.refl W) I (show Dq _ _ _ _ from .int _) p⟩
    · exact hg.elim
  · exact hg.elim

/-! ### repr -/
def gRepr : GL := fun xs M P => match xs with
  | [x] => ifS (pk M x) fun d => (match d with | .list _ | .tuple _ | .dict _ => True | _ => False) ∧ d.showable = true ∧ d.depth ≤ 60 ∧ d.shown.length ≤ sizeLine ∧ P (.d (.str d.shown)) M
  | _ => False
def rRepr (K : PySem.W.Frag) : List V → Hp → VK → Prop := fun xs H Q => ∃ (F : Hp) (a : Addr) (d : PyData), xs = [.ref a] ∧ SameR F H ∧ Dq K F (.ref a) d ∧ d.showable = true ∧ d.depth ≤ 60 ∧ d.shown.length ≤ sizeLine ∧ Q (.str d.shown) H
theorem call_reprG {X : Cx} {k : Nat} (hr : Rm k X) (hB : ∃ m, X.base.Ns sysModules m) : CallR X (.builtin "repr") (rRepr X.K) := by
  intro pins s σ H xs us Q I r h
  obtain ⟨F, a, d, rfl, sf, hd, h1, h2, h3, q⟩ := h
  obtain ⟨u, rfl, ru⟩ := vals1 r
  cases ru
  obtain ⟨as, rd, hn⟩ := Dq.reads I hB sf d _ _ hd rfl
  have := hr.hu64
  exact repr_of_reads' rd h1 (fun _ => hn) hr.gd (by omega) (fun _ _ e => e) (fun h' u tk k => ⟨.str d.shown, H, I.kept k, ⟨u, rfl⟩, q⟩) h3
theorem bx_repr {X : Cx} {k : Nat} (hr : Rm k X) (hB : ∃ m, X.base.Ns sysModules m) : BX X (.builtin "repr") gRepr := by
  refine ⟨_, call_reprG hr hB, fun W M H vs xs P Q I hv hg q => ?_⟩
  unfold gRepr at hg
  split at hg
  · obtain ⟨v, rfl, v1⟩ := vxs1 hv
    obtain ⟨d, e, h0, h1, h2, h3, p⟩ := ifS_of hg
    have hd := pkN_ok I 6 _ v d v1 e
    have : ∃ a, v = .ref a := by
      cases hd <;> first | exact ⟨_, rfl⟩ | exact h0.elim
    obtain ⟨a, rfl⟩ := this
    exact ⟨H, a, d, rfl, SameR.refl _, hd, h1, h2, h3, q W M H _ (.d (.str d.shown)) (.refl W) I (show Dq _ _ _ _ from .str _) p⟩
  · exact hg.elim

/-! ### isinstance(x, T) -/
def tyH : Hd → Option String
  | .sc .none => some "NoneType"
  | .sc (.bool _) => some "bool"
  | .sc (.int _) => some "int"
  | .sc (.str _) => some "str"
  | .lst _ => some "list"
  | .tup _ => some "tuple"
  | .dic _ => some "dict"
  | _ => none
/-- the answers, by names of types -/
def isiT (t c : String) : Option Bool :=
  if t = c then some true
  else if (t = "bool" ∨ t = "int" ∨ t = "str" ∨ t = "list" ∨ t = "tuple" ∨ t = "dict") ∧ (c = "bool" ∨ c = "str" ∨ c = "list" ∨ c = "tuple" ∨ c = "dict") then some false
  else if t = "bool" ∧ c = "int" then some true
  else if (t = "str" ∨ t = "list" ∨ t = "tuple" ∨ t = "dict") ∧ c = "int" then some false
  else if t = "NoneType" ∧ (c = "bool" ∨ c = "int" ∨ c = "str" ∨ c = "list" ∨ c = "tuple" ∨ c = "dict") then some false
  else none
theorem isiT_ok (K : PySem.W.Frag) {t c : String} {b : Bool} (h : isiT t c = some b) : PySem.W.kitOne K (.type t) (.type c) = some b := by
  unfold isiT at h
  split at h
  · rename_i e; subst e; cases h; simp [PySem.W.kitOne]
  · split at h
    · rename_i e
      cases h
      rcases e with ⟨e1 | e1 | e1 | e1 | e1 | e1, e2 | e2 | e2 | e2 | e2⟩ <;> subst e1 <;> subst e2 <;> first | (exfalso; contradiction) | rfl | decide
    · split at h
      · rename_i e
        cases h
        obtain ⟨e1, e2⟩ := e
        subst e1 e2
        rfl
      · split at h
        · rename_i e
          cases h
          rcases e with ⟨e1 | e1 | e1 | e1, e2⟩ <;> subst e1 <;> subst e2 <;> rfl
        · split at h
          · rename_i e
            cases h
            rcases e with ⟨e1, e2 | e2 | e2 | e2 | e2 | e2⟩ <;> subst e1 <;> subst e2 <;> rfl
          · cases h
end G

set_option Elab.async false
set_option linter.all false
set_option maxRecDepth 100000
set_option maxHeartbeats 4000000
/-! G8: isinstance, in, list methods. -/
namespace G
open PySem PySem.Spec PyProof.Rows L2

def rIsiX (c : String) (ra : RE) : RE := fun σ M P => ra σ M fun x M1 => ifS (tyH (hd M1 x)) fun t => ifS (isiT t c) fun b => P (.d (.bool b)) M1
theorem tyx {K : PySem.W.Frag} {W : Wd} {M : Sto} {H : Hp} {v : V} {x : Xv} {t : String} (I : InvS K W M H) (h : VX K W v x) (e : tyH (hd M x) = some t) : TyX K H v (.type t) := by
  have ok := hd_ok I h
  generalize hd M x = hx at ok e
  cases hx with
  | sc d =>
    have ok : scV d v := ok
    cases d <;> first | (cases e; done) | (cases e; have ok := ok; simp only [scV] at ok; subst ok; exact .base (by constructor)) | skip
  | lst xs =>
    cases e
    obtain ⟨a, vs, rfl, h1, _⟩ := ok
    rcases h1 with h1 | ⟨o, its, n, h1, h2, _⟩
    · rcases h1 with h1 | ⟨o, h1⟩
      · exact .base (.lst h1)
      · exact .base (.frz h1)
    · exact .kList h1 h2
  | tup xs =>
    cases e
    obtain ⟨a, vs, rfl, h1, _⟩ := ok
    rcases h1 with h1 | ⟨o, its, n, h1, h2, _⟩
    · rcases h1 with h1 | ⟨o, h1⟩
      · exact .base (.tup h1)
      · exact .fTuple h1
    · exact .kTuple h1 h2
  | dic kvs =>
    cases e
    obtain ⟨a, rfl, vs, h1, _⟩ := ok
    rcases h1 with h1 | ⟨o, h1⟩
    · exact .base (.dK h1)
    · exact .fDict h1
  | dit kvs => cases e
  | no => cases e
section
variable {X : Cx} {a : Expr} {ra : RE} {x c : Str} {cn : String} {p p2 pos : Pos}
theorem se_isi (hg : Gl X "isinstance") (hm : X.mg "isinstance" = none) (hg2 : Gl X c) (hm2 : X.mg c = none) (hv : bootBuiltins c = some (.type cn)) (ha : SE X a ra) (hn : c ≠ "__name__" := by decide) (hdb : (c == ("__debug__" : Str)) = false := by decide)
    (he : starEach [a, .Name c p2] X.env = (false, eval a X.env) :: starEach [.Name c p2] X.env := by rfl) (he2 : starEach [.Name c p2] X.env = (false, eval (.Name c p2) X.env) :: starEach [] X.env := by rfl)
    (hpl : (backTo pos (starEach [.Name c p2] X.env)).any (·.1) = false := by rfl) : SE X (.Call (.Name "isinstance" p) [a, .Name c p2] [] pos) (rIsiX cn ra) := by
  obtain ⟨ta, pa, sa⟩ := ha
  refine ⟨_, pe_callB call_isi hg hm PyProof.Rows.boot_isinstance (pa_cons pa (pa_cons (pe_bltn (v := .ty cn) hg2 hm2 hv rfl hn hdb) pa_nil he2) he) (by decide) (by decide) he hpl, fun W M H σ σx P Q I S hr q => ?_⟩
  refine sa W M H σ σx _ _ I S hr fun W1 M1 H1 v x l1 I1 v1 p1 => ?_
  obtain ⟨t, e1, p1⟩ := ifS_of p1
  obtain ⟨b, e2, p1⟩ := ifS_of p1
  exact ⟨v, .ty cn, .type t, .type cn, b, rfl, .ty cn, tyx I1 v1 e1, isiT_ok X.K e2, q W1 M1 H1 _ (.d (.bool b)) l1 I1 (show Dq _ _ _ _ from .bl _) p1⟩
end

/-! ### in -/
def rInL (K : PySem.W.Frag) (neg : Bool) : R2 := fun x y H Q => ∃ d ds, Dp K H x d ∧ (Dp K H y (.list ds) ∨ Dp K H y (.tuple ds)) ∧ SeqAt.shaped d = true ∧ PyData.canLayAll0 ds = true ∧ Q (.bl (xor neg (ds.any fun z => PyData.eqv z d))) H
theorem op_inL {X : Cx} (hu : X.A.units + 65 < cLine) : OpR X (compareOp .In) (rInL X.K false) := by
  intro pins s σ H x y v u Q I rx ry h
  obtain ⟨d, ds, hd, he, sd, se, q⟩ := h
  obtain ⟨as, r1⟩ := Dp.reads I d x v hd rx
  rw [Bool.false_xor] at q
  rcases he with he | he
  · obtain ⟨bs, r2⟩ := Dp.reads I (.list ds) y u he ry
    exact SeqAt.in_list_reads r2 r1 se (SeqAt.canLay_of_shaped sd) (room_in_shaped sd hu) ⟨.bl _, H, I, rfl, q⟩
  · obtain ⟨bs, r2⟩ := Dp.reads I (.tuple ds) y u he ry
    exact SeqAt.in_tuple_reads r2 r1 se (SeqAt.canLay_of_shaped sd) (room_in_shaped sd hu) ⟨.bl _, H, I, rfl, q⟩
theorem op_notInL {X : Cx} (hu : X.A.units + 65 < cLine) : OpR X (compareOp .NotIn) (rInL X.K true) := by
  intro pins s σ H x y v u Q I rx ry h
  obtain ⟨d, ds, hd, he, sd, se, q⟩ := h
  obtain ⟨as, r1⟩ := Dp.reads I d x v hd rx
  rw [Bool.true_xor] at q
  rcases he with he | he
  · obtain ⟨bs, r2⟩ := Dp.reads I (.list ds) y u he ry
    exact SeqAt.notIn_list_reads r2 r1 se (SeqAt.canLay_of_shaped sd) (room_in_shaped sd hu) ⟨.bl _, H, I, rfl, q⟩
  · obtain ⟨bs, r2⟩ := Dp.reads I (.tuple ds) y u he ry
    exact SeqAt.notIn_tuple_reads r2 r1 se (SeqAt.canLay_of_shaped sd) (room_in_shaped sd hu) ⟨.bl _, H, I, rfl, q⟩
def rInDi (neg : Bool) : R2 := fun x y H Q => ∃ a o, y = .ref a ∧ DGet H a x o ∧ Q (.bl (xor neg o.isSome)) H
theorem op_inDi {X : Cx} (hu : X.A.units + 1 < cLine) : OpR X (compareOp .In) (rInDi false) := by
  intro pins s σ H x y v u Q I rx ry h
  obtain ⟨a, o, rfl, g, q⟩ := h
  obtain rfl : u = Value.ref a := ry
  rw [Bool.false_xor] at q
  exact d_in hu I g rx fun s' I' => ⟨.bl o.isSome, H, I', rfl, q⟩
theorem op_notInDi {X : Cx} (hu : X.A.units + 1 < cLine) : OpR X (compareOp .NotIn) (rInDi true) := by
  intro pins s σ H x y v u Q I rx ry h
  obtain ⟨a, o, rfl, g, q⟩ := h
  obtain rfl : u = Value.ref a := ry
  rw [Bool.true_xor] at q
  exact d_notIn hu I g rx fun s' I' => ⟨.bl (!o.isSome), H, I', rfl, q⟩
def seqOf : PyData → Option (List PyData)
  | .list ds => some ds
  | .tuple ds => some ds
  | _ => none
def gIn (neg : Bool) : G2 := fun x y M P => match hd M y with
  | .dic kvs => match hd M x with
    | .sc d => ifS (keyOf d) fun _ => P (.d (.bool (xor neg (dget kvs d).isSome))) M
    | _ => False
  | .sc (.str b) => match hd M x with
    | .sc (.str a) => P (.d (.bool (xor neg (!(Builtin.Str.occurrences b a 0 b.length 1).isEmpty)))) M
    | _ => False
  | _ => ifS (pk M x) fun d => ifS (pk M y) fun e => ifS (seqOf e) fun ds => SeqAt.shaped d = true ∧ PyData.canLayAll0 ds = true ∧ P (.d (.bool (xor neg (ds.any fun z => PyData.eqv z d)))) M
theorem canLay_seq {ds : List PyData} (h : PyData.canLayAll0 ds = true) : (PyData.list ds).canLay0 = true ∧ (PyData.tuple ds).canLay0 = true := by
  constructor <;> simpa [PyData.canLay0] using h
theorem opx_in {X : Cx} {f : Value → Value → Sem Value} {neg : Bool} (h1 : OpR X f (rInL X.K neg)) (h2 : OpR X f (rInDi neg)) (h3 : OpR X f (fun x y H Q => ∃ i j, x = .str i ∧ y = .str j ∧ Q (.bl (xor neg (!(Builtin.Str.occurrences j i 0 j.length 1).isEmpty))) H)) :
    OpX X f (gIn neg) := by
  refine .of1 (h1.or (h2.or h3)) fun W M H v u x y P Q I v1 v2 p q => ?_
  unfold gIn at p
  split at p
  · rename_i kvs e
    split at p
    · rename_i d e2
      obtain ⟨k, ek, p⟩ := ifS_of p
      obtain ⟨a, rfl, _, h⟩ := dGet_ok I v2 e (scAny I v1 e2) ek
      rcases h with ⟨z1, z2⟩ | ⟨w, z, z1, z2, _⟩
      · rw [z1] at p
        exact .inr (.inl ⟨a, none, rfl, z2, q W M H _ (.d (.bool _)) (.refl W) I (show Dq _ _ _ _ from .bl _) p⟩)
      · rw [z1] at p
        exact .inr (.inl ⟨a, some w, rfl, z2, q W M H _ (.d (.bool _)) (.refl W) I (show Dq _ _ _ _ from .bl _) p⟩)
    · exact p.elim
  · rename_i b e
    split at p
    · rename_i a e2
      exact .inr (.inr ⟨a, b, scS I v1 e2, scS I v2 e, q W M H _ (.d (.bool _)) (.refl W) I (show Dq _ _ _ _ from .bl _) p⟩)
    · exact p.elim
  · obtain ⟨d, e1, p⟩ := ifS_of p
    obtain ⟨e, e2, p⟩ := ifS_of p
    obtain ⟨ds, e3, sd, se, p⟩ := ifS_of p
    have d1 := pkN_ok I 6 x v d v1 e1
    have d2 := pkN_ok I 6 y u e v2 e2
    refine .inl ⟨d, ds, d1.dp sd, ?_, sd, se, q W M H _ (.d (.bool _)) (.refl W) I (show Dq _ _ _ _ from .bl _) p⟩
    unfold seqOf at e3
    split at e3
    · cases e3; exact .inl (d2.toDp (canLay_seq se).1)
    · cases e3; exact .inr (d2.toDp (canLay_seq se).2)
    · cases e3
theorem ox_in {X : Cx} (hu : X.A.units + 65 < cLine) : OpX X (compareOp .In) (gIn false) :=
  opx_in (op_inL hu) (op_inDi (by omega)) (by simpa only [Bool.false_xor] using op_in_str)
theorem ox_notin {X : Cx} (hu : X.A.units + 65 < cLine) : OpX X (compareOp .NotIn) (gIn true) :=
  opx_in (op_notInL hu) (op_notInDi (by omega)) (by simpa only [Bool.true_xor] using L2.op_notin_str)

/-! ### methods of lists -/
def gApd (o y : Xv) (M : Sto) (P : Xv → Sto → Prop) : Prop := match o with
  | .c j => match M[j]? with
    | some (.lst xs) => xs.length < sizeLine ∧ P (.d .none) (M.set j (.lst (xs ++ [y])))
    | _ => False
  | _ => False
def isLst (M : Sto) (o : Xv) : Prop := match hd M o with
  | .lst _ => True
  | _ => False
theorem isLst_ok {K : PySem.W.Frag} {W : Wd} {M : Sto} {H : Hp} {v : V} {x : Xv} (I : InvS K W M H) (h : VX K W v x) (e : isLst M x) : tyV K "list" v H := by
  unfold isLst at e
  split at e
  · rename_i xs e1
    obtain ⟨a, vs, rfl, h1, _⟩ := lstH I h e1
    exact .inl ⟨rfl, vs, h1⟩
  · exact e.elim
def rApd (ro re : RE) : RE := fun σ M P => ro σ M fun o M1 => isLst M1 o ∧ re σ M1 fun y M2 => gApd o y M2 P
def rExt (ro : RE) (re : RF) : RE := fun σ M P => ro σ M fun o M1 => isLst M1 o ∧ re σ M1 fun ys M2 => match o with
  | .c j => match M2[j]? with
    | some (.lst xs) => xs.length + ys.length ≤ sizeLine ∧ P (.d .none) (M2.set j (.lst (xs ++ ys)))
    | _ => False
  | _ => False
def rPopL (ro : RE) : RE := fun σ M P => ro σ M fun o M1 => match o with
  | .c j => match M1[j]? with
    | some (.lst xs) => ifS xs[xs.length - 1]? fun y => P y (M1.set j (.lst xs.dropLast))
    | _ => False
  | _ => False
theorem VXs.dropLast {K : PySem.W.Frag} {W : Wd} : ∀ {vs : List V} {xs : List Xv}, VXs K W vs xs → VXs K W vs.dropLast xs.dropLast
  | _, _, .nil => .nil
  | _, _, .cons _ .nil => .nil
  | _ :: _ :: _, _ :: _ :: _, .cons h (.cons a r) => .cons h (VXs.dropLast (.cons a r))
section
variable {X : Cx} {o e : Expr} {ro re : RE} {rf : RF} {apos cpos : Pos}
theorem se_append (ho : SE X o ro) (he : SE X e re) (hbase : attributeBase o "append" X.env (eval o X.env) = eval o X.env := by rfl)
    (hfew : ((backTo cpos (starEach (e :: []) X.env)).all (fun x => !x.1) && (backToKw cpos (keywordEach [] X.env)).all (fun x => x.1.isSome)
      && decide ((e :: ([] : List Expr)).length + ([] : List Keyword).length + (if ([] : List Keyword).isEmpty then 0 else 1) < 30)) = true := by rfl)
    (hline : (apos.endLine == cpos.line) = true := by rfl) (hs : starEach (e :: []) X.env = (false, eval e X.env) :: starEach [] X.env := by rfl) (hplain : (backTo cpos (starEach [] X.env)).any (·.1) = false := by rfl) :
    SE X (.Call (.Attribute o "append" apos) [e] [] cpos) (rApd ro re) := by
  obtain ⟨to, po, so⟩ := ho
  obtain ⟨te, pe, se⟩ := he
  refine ⟨_, pe_bm PySem.F.plainAttrs_list PySem.F.slot_list_append PySem.F.type_list_append mt_append po (pa_cons pe pa_nil hs) hbase hfew hline hs hplain, fun W M H σ σx P Q I S hr q => ?_⟩
  refine so W M H σ σx _ _ I S hr fun W1 M1 H1 v x l1 I1 v1 p1 => ⟨isLst_ok I1 v1 p1.1, ?_⟩
  refine se W1 M1 H1 σ σx _ _ I1 (S.le l1) p1.2 fun W2 M2 H2 u y l2 I2 v2 p2 => ?_
  unfold gApd at p2
  split at p2
  · rename_i j
    have v1' := v1.le l2
    obtain ⟨a, rfl, ha⟩ := v1'
    split at p2
    · rename_i xs em
      obtain ⟨f0, vs, h1, h2⟩ := I2.ob j a _ ha em
      refine ⟨a, vs, u, rfl, rfl, h1, by rw [h2.length]; exact p2.1, ?_⟩
      have I3 := I2.write (u := .lst (vs ++ [u])) (o := .lst (xs ++ [y])) ha f0 ⟨f0, _, upd_same, h2.append (.cons v2 .nil)⟩
      exact q W2 _ _ _ (.d .none) (l1.trans l2) I3 (show Dq _ _ _ _ from .non) p2.2
    · exact p2.elim
  · exact p2.elim
theorem se_extend (ho : SE X o ro) (he : SF X e rf) (hbase : attributeBase o "extend" X.env (eval o X.env) = eval o X.env := by rfl)
    (hfew : ((backTo cpos (starEach (e :: []) X.env)).all (fun x => !x.1) && (backToKw cpos (keywordEach [] X.env)).all (fun x => x.1.isSome)
      && decide ((e :: ([] : List Expr)).length + ([] : List Keyword).length + (if ([] : List Keyword).isEmpty then 0 else 1) < 30)) = true := by rfl)
    (hline : (apos.endLine == cpos.line) = true := by rfl) (hs : starEach (e :: []) X.env = (false, eval e X.env) :: starEach [] X.env := by rfl) (hplain : (backTo cpos (starEach [] X.env)).any (·.1) = false := by rfl) :
    SE X (.Call (.Attribute o "extend" apos) [e] [] cpos) (rExt ro rf) := by
  obtain ⟨to, po, so⟩ := ho
  obtain ⟨te, pe, se⟩ := he
  refine ⟨_, pe_bm PySem.F.plainAttrs_list PySem.F.slot_list_extend PySem.F.type_list_extend mt_extend po (pa_cons pe pa_nil hs) hbase hfew hline hs hplain, fun W M H σ σx P Q I S hr q => ?_⟩
  refine so W M H σ σx _ _ I S hr fun W1 M1 H1 v x l1 I1 v1 p1 => ⟨isLst_ok I1 v1 p1.1, ?_⟩
  refine se W1 M1 H1 σ σx _ _ I1 (S.le l1) p1.2 fun W2 M2 H2 b us ys l2 I2 L2 v2 p2 => ?_
  split at p2
  · rename_i j
    have v1' := v1.le l2
    obtain ⟨a, rfl, ha⟩ := v1'
    split at p2
    · rename_i xs em
      obtain ⟨f0, vs, h1, h2⟩ := I2.ob j a _ ha em
      refine ⟨a, b, vs, us, rfl, rfl, h1, L2.at_, by rw [h2.length, v2.length]; exact p2.1, ?_⟩
      have I3 := I2.write (u := .lst (vs ++ us)) (o := .lst (xs ++ ys)) ha f0 ⟨f0, _, upd_same, h2.append v2⟩
      exact q W2 _ _ _ (.d .none) (l1.trans l2) I3 (show Dq _ _ _ _ from .non) p2.2
    · exact p2.elim
  · exact p2.elim
theorem se_pop (ho : SE X o ro) (hbase : attributeBase o "pop" X.env (eval o X.env) = eval o X.env := by rfl) (hline : (apos.endLine == cpos.line) = true := by rfl) :
    SE X (.Call (.Attribute o "pop" apos) [] [] cpos) (rPopL ro) := by
  obtain ⟨to, po, so⟩ := ho
  refine ⟨_, pe_bm0 PySem.F.plainAttrs_list PySem.F.slot_list_pop PySem.F.type_list_pop mt_pop po hbase hline, fun W M H σ σx P Q I S hr q => ?_⟩
  refine so W M H σ σx _ _ I S hr fun W1 M1 H1 v x l1 I1 v1 p1 => ?_
  split at p1
  · rename_i j
    obtain ⟨a, rfl, ha⟩ := v1
    split at p1
    · rename_i xs em
      obtain ⟨f0, vs, h1, h2⟩ := I1.ob j a _ ha em
      obtain ⟨y, e, p⟩ := ifS_of p1
      obtain ⟨v, e2, v2⟩ := h2.get e
      refine ⟨.inl ⟨rfl, vs, .of h1⟩, a, vs, v, rfl, rfl, h1, by rw [h2.length]; exact e2, ?_⟩
      have I3 := I1.write (u := .lst vs.dropLast) (o := .lst xs.dropLast) ha f0 ⟨f0, _, upd_same, h2.dropLast⟩
      exact q W1 _ _ _ y l1 I3 v2 p
    · exact p1.elim
  · exact p1.elim
end
end G

set_option Elab.async false
set_option linter.all false
set_option maxRecDepth 100000
set_option maxHeartbeats 4000000
/-! G9: sorted, sets of ints and texts as they are made on the way. -/
namespace G
open PySem PySem.Spec PyProof.Rows L2
open PySem.W (EachIs)

abbrev dLe : PyData → PyData → Bool := PySem.W.dataLe false id
abbrev sortD (ds : List PyData) : List PyData := ds.mergeSort dLe
def RDq (K : PySem.W.Frag) (F : Hp) (u : Value) (d : PyData) : Prop := ∃ v, RelV v u ∧ Dq K F v d
section
variable {K : PySem.W.Frag} {F : Hp}
theorem each_of : ∀ {vs : List V} {us : List Value} {ds : List PyData}, Vals vs us → DqAll K F vs ds → EachIs (RDq K F) us ds
  | _, _, _, .nil, .nil => .nil
  | _, _, _, .cons a r, .cons b t => .cons ⟨_, a, b⟩ (each_of r t)
theorem each_to : ∀ {us : List Value} {ds : List PyData}, EachIs (RDq K F) us ds → ∃ vs, Vals vs us ∧ DqAll K F vs ds
  | _, _, .nil => ⟨[], .nil, .nil⟩
  | _, _, .cons ⟨v, h1, h2⟩ t => let ⟨vs, a, b⟩ := each_to t; ⟨v :: vs, .cons h1 a, .cons h2 b⟩
end
/-- what may be sorted -/
structure Srt (ds : List PyData) : Prop where
  al : PySem.W.AllAlike ds
  so : PySem.W.Sortable ds
  dp : ∀ d ∈ ds, d.depth ≤ 60
  ln : ds.length ≤ sizeLine
section
variable {X : Cx} {pins : List (Addr × Obj)} {σ : St} {H F : Hp} {s : Shared}
mutual
theorem Dq.reads0 (I : Inv X pins σ H s) (sf : SameR F H) : ∀ (d : PyData) (v : V) (u : Value), PySem.W.alike d d = true → Dq X.K F v d → RelV v u → ∃ as, Reads s.heap u d as
  | .none, _, _, _, h, r => by
    cases h
    cases r
    exact ⟨_, Reads.none⟩
  | .bool b, _, _, _, h, r => by
    cases h
    cases r
    exact ⟨_, Reads.bool b⟩
  | .int i, _, _, _, h, r => by
    cases h
    obtain ⟨t, rfl⟩ := r
    exact ⟨_, Reads.int i t⟩
  | .str x, _, _, _, h, r => by
    cases h
    obtain ⟨t, rfl⟩ := r
    exact ⟨_, Reads.str x t⟩
  | .list ds, _, _, al, h, r => by
    cases h with
    | lst hs ha =>
      cases r
      obtain ⟨its, rv, ⟨o, n, ho, hc, _, hd⟩, _⟩ := I.list (sf.sqL hs)
      obtain ⟨as, hr⟩ := DqAll.reads0 I sf ds _ its (by simpa [PySem.W.alike] using al) ha rv
      exact ⟨_, Reads.list ho hc hd hr⟩
  | .tuple ds, _, _, al, h, r => by
    cases h with
    | tup hs ha =>
      cases r
      obtain ⟨its, rv, ⟨o, ho, hc, n, hd⟩, _⟩ := I.tuple (sf.sqT hs)
      obtain ⟨as, hr⟩ := DqAll.reads0 I sf ds _ its (by simpa [PySem.W.alike] using al) ha rv
      exact ⟨_, Reads.tuple ho hc hd hr⟩
  | .dict _, _, _, al, _, _ => by simp [PySem.W.alike] at al
theorem DqAll.reads0 (I : Inv X pins σ H s) (sf : SameR F H) : ∀ (ds : List PyData) (vs : List V) (us : List Value), PySem.W.alikeAll ds ds = true → DqAll X.K F vs ds → Vals vs us → ∃ as, ReadsAll s.heap us ds as
  | [], _, _, _, h, r => by
    cases h
    cases r
    exact ⟨_, ReadsAll.nil⟩
  | d :: ds, _, _, al, h, r => by
    have al : PySem.W.alike d d = true ∧ PySem.W.alikeAll ds ds = true := by simpa [PySem.W.alikeAll] using al
    cases h with
    | cons h1 h2 =>
      cases r with
      | cons r1 r2 =>
        obtain ⟨as, q1⟩ := Dq.reads0 I sf d _ _ al.1 h1 r1
        obtain ⟨bs, q2⟩ := DqAll.reads0 I sf ds _ _ al.2 h2 r2
        exact ⟨_, ReadsAll.cons q1 q2⟩
end
theorem each_reads (I : Inv X pins σ H s) (sf : SameR F H) {us : List Value} {ds : List PyData} (h : ∀ d ∈ ds, PySem.W.alike d d = true) (e : EachIs (RDq X.K F) us ds) : EachIs (fun v b => ∃ as, Reads s.heap v (id b) as) us ds := by
  induction e with
  | nil => exact .nil
  | @cons a b as bs h1 t ih =>
    obtain ⟨v, h1, h2⟩ := h1
    exact .cons (Dq.reads0 I sf b v _ (h _ List.mem_cons_self) h2 h1) (ih fun d hd => h d (List.mem_cons_of_mem _ hd))
end
def rSortG (K : PySem.W.Frag) : List V → Hp → VK → Prop := fun xs H Q => ∃ (F : Hp) (a : Addr) (vs : List V) (ds : List PyData), xs = [.ref a] ∧ SqL K H a vs ∧ SameR F H ∧ DqAll K F vs ds ∧ Srt ds ∧
  ∀ p out, H p = none → DqAll K F out (sortD ds) → Q (.ref p) (upd H p (.lst out))
theorem call_sortG {X : Cx} {k : Nat} (hr : Rm k X) : CallR X (.builtin "sorted") (rSortG X.K) := by
  intro pins s σ H xs us Q I r h
  obtain ⟨F, a, vs, ds, rfl, hs, sf, hd, st, q⟩ := h
  obtain ⟨u, rfl, ru⟩ := vals1 r
  cases ru
  obtain ⟨its, rv, hl, _⟩ := I.list hs
  have e1 := each_of rv hd
  have hu := hr.hu64
  refine PySem.W.sorted_data (enc := id) (R := RDq X.K F) hl.isList e1 (each_reads I sf (fun d hd => st.al d hd d hd) e1) (by rw [List.map_id]; exact st.al) (by rw [List.map_id]; exact st.so) st.ln (fun d hd => by have := st.dp d hd; show X.A.units + 2 + d.depth < cLine; omega) fun out h1 h2 => ?_
  obtain ⟨os, r1, r2⟩ := each_to h2
  obtain ⟨ep, he'⟩ := PyProof.Rows.sortedAll_at s.heap its out.toArray
  have hlen : os.length ≤ sizeLine := by rw [r1.length, h1]; exact st.ln
  exact ⟨.ref _, upd H (s.heap.objs.size + 1) (.lst os), I.laid (t' := s.toks) (fun _ _ => PyProof.Rows.sortedAll_old) (Nat.le_succ _) ⟨hlen, out, ep, r1, he'⟩, rfl, q _ os (I.hok.fresh (Nat.le_succ _)) r2⟩
def datX : List Xv → Option (List PyData)
  | [] => some []
  | .d d :: xs => (datX xs).map (d :: ·)
  | .c _ :: _ => none
theorem datX_of : ∀ {xs : List Xv} {ds : List PyData}, datX xs = some ds → xs = dX ds
  | [], _, h => by cases h; rfl
  | .d d :: xs, ds, h => by
    unfold datX at h
    cases e : datX xs with
    | none => rw [e] at h; cases h
    | some m => rw [e] at h; cases h; rw [datX_of e]; rfl
  | .c _ :: _, _, h => by cases h
theorem datX_dX (ds : List PyData) : datX (dX ds) = some ds := by
  induction ds with
  | nil => rfl
  | cons n ns ih => show (datX (dX ns)).map (n :: ·) = _; rw [ih]; rfl
def gSort : GLF := fun xs M P => match xs with
  | [x] => match hd M x with
    | .lst ys => ifS (datX ys) fun ds => Srt ds ∧ P (dX (sortD ds)) M
    | _ => False
  | _ => False
theorem bxf_sorted {X : Cx} {k : Nat} (hr : Rm k X) : BXF X (.builtin "sorted") gSort := by
  refine ⟨_, call_sortG hr, fun W M H vs xs P Q I hv hg q => ?_⟩
  unfold gSort at hg
  split at hg
  · obtain ⟨v, rfl, v1⟩ := vxs1 hv
    split at hg
    · rename_i ys e
      obtain ⟨a, us, rfl, h1, h2⟩ := lstH I v1 e
      obtain ⟨ds, e2, st, p⟩ := ifS_of hg
      have := datX_of e2
      subst this
      refine ⟨W.F, a, us, ds, rfl, h1, SameR.of I.sf, VXs.toD h2, st, fun p' out hp ho => ?_⟩
      obtain ⟨I2, L2⟩ := I.loose hp (.lst out)
      exact q W M _ p' out _ (.refl W) I2 L2 (VXs.ofD ho) p
    · exact hg.elim
  · exact hg.elim
/-- list(x), tuple(x) -/
def gList : GLF := fun xs M P => match xs with
  | [x] => match hd M x with
    | .lst ys => P ys M
    | .tup ys => P ys M
    | _ => False
  | _ => False
theorem bxf_list {X : Cx} : BXF X (.type "list") gList := by
  refine ⟨_, call_list_of, fun W M H vs xs P Q I hv hg q => ?_⟩
  unfold gList at hg
  split at hg
  · obtain ⟨v, rfl, v1⟩ := vxs1 hv
    split at hg
    · rename_i ys e
      obtain ⟨a, us, rfl, h1, h2⟩ := lstH I v1 e
      refine ⟨a, us, rfl, .inl h1, fun p' hp => ?_⟩
      obtain ⟨I2, L2⟩ := I.loose hp (.lst us)
      exact q W M _ p' us _ (.refl W) I2 L2 h2 hg
    · rename_i ys e
      obtain ⟨a, us, rfl, h1, h2⟩ := tupH I v1 e
      refine ⟨a, us, rfl, .inr h1, fun p' hp => ?_⟩
      obtain ⟨I2, L2⟩ := I.loose hp (.lst us)
      exact q W M _ p' us _ (.refl W) I2 L2 h2 hg
    · exact hg.elim
  · exact hg.elim
end G

set_option Elab.async false
set_option linter.all false
set_option maxRecDepth 100000
set_option maxHeartbeats 8000000
/-! G10: sorted(set(xs)) of ints and texts, any length below the scan's bound. -/
namespace G
open PySem PySem.Spec PyProof.Rows L2
open PySem.W (EachIs)

def keyM (e : Int × Value) : Key := match e.2 with
  | .int i _ => .inl i
  | .str x _ => .inr x
  | _ => .inl 0
theorem keyM_of {e : Int × Value} {k : Key} (h : keyIs k e.2 = true) : keyM e = k := by
  rcases keyIs_shape h with ⟨i, t, e1, e2⟩ | ⟨x, t, e1, e2⟩
  · unfold keyM; rw [e2, e1]
  · unfold keyM; rw [e2, e1]
/-- the set of the keys ks, as it lies -/
def SetM (P : Program) (w : World) (h : Heap) (a : Addr) (ks : List Key) : Prop :=
  ∃ o es ep t, h.get? a = some o ∧ o.ExactSet ∧ o.data = .set es ep t ∧ ElemsOf (mixKind P w) es.toList ∧ (es.toList.map keyM).Perm ks ∧ ks.Nodup ∧
    es.size < scanBound ∧ t.fits es.size = true ∧ Ris t.place.toList ∧ (w.params.followText "set-order" = true ∨ t.led = true)
section
variable {P : Program} {w : World} {h h' : Heap} {a : Addr} {ks : List Key}
theorem SetM.at (R : SetM P w h a ks) (k : ∀ o, h.get? a = some o → h'.get? a = some o) : SetM P w h' a ks := by
  obtain ⟨o, es, ep, t, ho, r⟩ := R
  exact ⟨o, es, ep, t, k o ho, r⟩
theorem elem_is {es : List (Int × Value)} (g : ElemsOf (mixKind P w) es) {e : Int × Value} (he : e ∈ es) (k : Key) : (mixKind P w).is k e.2 = true ↔ keyM e = k := by
  obtain ⟨⟨k0, h1, _⟩, _⟩ := g e he
  have h1 : keyIs k0 e.2 = true := h1
  constructor
  · intro z; exact keyM_of z
  · intro z
    rw [keyM_of h1] at z
    subst z; exact h1
end
def addK (ks : List Key) (k : Key) : List Key := if (ks.any fun j => decide (j = k)) = true then ks else k :: ks
theorem any_key {ks : List Key} {k : Key} : (ks.any fun j => decide (j = k)) = true ↔ k ∈ ks := by
  rw [List.any_eq_true]
  exact ⟨fun ⟨x, h1, h2⟩ => of_decide_eq_true h2 ▸ h1, fun h => ⟨k, h, decide_eq_true rfl⟩⟩
theorem addK_len (ks : List Key) (k : Key) : (addK ks k).length ≤ ks.length + 1 := by
  unfold addK; split <;> simp
theorem addK_mem {ks : List Key} {k j : Key} : j ∈ addK ks k ↔ j ∈ ks ∨ j = k := by
  unfold addK
  split
  · rename_i h
    have := any_key.mp h
    exact ⟨.inl, fun z => z.elim id fun e => e ▸ this⟩
  · rw [List.mem_cons]; exact Or.comm
theorem addK_all : ∀ {ns ks : List Key} {j : Key}, j ∈ ns.foldl addK ks ↔ j ∈ ks ∨ j ∈ ns
  | [], ks, j => by simp
  | n :: ns, ks, j => by
    rw [List.foldl_cons, addK_all, addK_mem, List.mem_cons]
    exact or_assoc
section
variable {P : Program} {w : World} {A : Around} {E : Value → Shared → Prop} {s : Shared} {a : Addr} {ks : List Key}
theorem setM_tail {g : Bool → Sem Unit} (hg : ∀ (b : Bool) (s₁ : Shared) (Q' : Unit → Shared → Prop), Q' () s₁ → wpAny (model P w) A (g b) Q' E s₁)
    {o : Obj} {es : Array (Int × Value)} {ep : Nat} {t : SetTable} (ho : s.heap.get? a = some o) (hex : o.ExactSet) (hd : o.data = .set es ep t)
    {es1 : Array (Int × Value)} {t2 : SetTable} {ks1 : List Key} (g1 : ElemsOf (mixKind P w) es1.toList) (p1 : (es1.toList.map keyM).Perm ks1) (nd1 : ks1.Nodup)
    (hb1 : es1.size < scanBound) (hf2 : t2.fits es1.size = true) (hr : Ris t2.place.toList) (hl : w.params.followText "set-order" = true ∨ t2.led = true) {wasDummy : Bool} {R : Option Bool → Shared → Prop}
    (hR : ∀ h', Heap.SameBut a s.heap h' → SetM P w h' a ks1 → R (some true) { s with heap := h' }) :
    wpAny (model P w) A (do
        storeSet a es1 t2
        if (!wasDummy && t2.tooFull) = true then do
            g (relayAll t2 es1 (SetTable.grown es1.size)).2.2
            storeSet a (relayAll t2 es1 (SetTable.grown es1.size)).1 (relayAll t2 es1 (SetTable.grown es1.size)).2.1
            pure (some true)
          else pure (some true)) R E s := by
  refine wpAny_bind (wpAny_storeSet_of ho hd ?_ (fits_of_scanBound hb1))
  have sb1 := Heap.SameBut.update s.heap a (Obj.putSet es1 t2)
  have ho1 := L2.store_at (es' := es1) (t' := t2) ho hd
  split
  · have z1 := relayAll_perm t2 es1 (SetTable.grown es1.size)
    have z2 := relayAll_fits t2 es1 (SetTable.grown es1.size)
    have z3 := relayAll_ris t2 es1 (SetTable.grown es1.size)
    have z4 := relayAll_led t2 es1 (SetTable.grown es1.size)
    generalize relayAll t2 es1 (SetTable.grown es1.size) = Z at z1 z2 z3 z4 ⊢
    obtain ⟨es2, t3, gave⟩ := Z
    dsimp only at z1 z2 z3 z4 ⊢
    have hb2 : es2.size < scanBound := by
      have : es2.size = es1.size := by rw [← Array.length_toList, z1.length_eq, Array.length_toList]
      omega
    refine wpAny_bind (hg _ _ _ ?_)
    refine wpAny_bind (wpAny_storeSet_of ho1 rfl ?_ (fits_of_scanBound hb2))
    refine wpAny_pure (hR _ (sb1.trans (Heap.SameBut.update _ a _)) ?_)
    exact ⟨_, es2, _, t3, L2.store_at (es' := es2) (t' := t3) ho1 rfl, hex, rfl, fun e he => g1 e (z1.mem_iff.mp he), (z1.map keyM).trans p1, nd1, hb2, z2, z3, hl.imp id fun z => by rw [z4]; exact z⟩
  · exact wpAny_pure (hR _ sb1 ⟨_, es1, _, t2, ho1, hex, rfl, g1, p1, nd1, hb1, hf2, hr, hl⟩)

theorem setM_hashed {k : Key} {u : Value} {Q : Bool → Shared → Prop} (hk : keyIs k u = true) (R : SetM P w s.heap a ks) (room : ks.length + 1 < scanBound)
    (hQ : ∀ h' b, Heap.SameBut a s.heap h' → SetM P w h' a (addK ks k) → Q b { s with heap := h' }) :
    wpAny (model P w) A (setAddHashed a u ((mixKind P w).hash k)) Q E s := by
  obtain ⟨o, es, ep, t, ho, hex, hd, g, pm0, nd, hb, hf, hr, hl⟩ := R
  have hsc : u.scannable = true := by
    rcases keyIs_shape hk with ⟨i, t, e1, e2⟩ | ⟨x, t, e1, e2⟩ <;> rw [e2] <;> rfl
  unfold setAddHashed setAddHashedIn
  refine wpAny_holding (wpAny_bind (wpAny_setState_of ho hd hf ?_))
  dsimp only
  rw [byScan_of hsc hb g]
  simp only [↓reduceIte]
  unfold setAddByScan
  refine wpAny_bind ?_
  refine wpAny_bind (wpAny_rule ?_)
  refine wpAny_bind (wpAny_setScan_of (knd := mixKind P w) hk ho hd hf g ?_)
  cases hfi : List.findIdx? (fun e => (mixKind P w).is k e.2) es.toList with
  | some j =>
    dsimp only
    obtain ⟨hj, pj, _⟩ := List.findIdx?_eq_some_iff_getElem.mp hfi
    have hm : k ∈ ks := pm0.mem_iff.mp (List.mem_map.mpr ⟨es.toList[j], List.getElem_mem hj, (elem_is g (List.getElem_mem hj) k).mp pj⟩)
    refine wpAny_pure (wpAny_pure ?_)
    have q := hQ s.heap false (Heap.SameBut.refl a s.heap) (by rw [show addK ks k = ks from if_pos (any_key.mpr hm)]; exact ⟨o, es, ep, t, ho, hex, hd, g, pm0, nd, hb, hf, hr, hl⟩)
    exact q
  | none =>
    dsimp only
    have hnk : k ∉ ks := fun z => by
      obtain ⟨e, he, q⟩ := List.mem_map.mp (pm0.mem_iff.mpr z)
      have c := List.findIdx?_eq_none_iff.mp hfi e he
      rw [(elem_is g he k).mpr q] at c
      cases c
    have hgw : ∀ (b : Bool) {s₁ : Shared} {Q' : Unit → Shared → Prop}, Q' () s₁ → wpAny (model P w) A (match b with | true => rule "set.scan.the-table-gave-way" | false => pure ()) Q' E s₁ :=
      fun b s₁ Q' q => by cases b <;> first | exact wpAny_pure q | exact wpAny_rule q
    have pm := layNew_perm t es ((mixKind P w).hash k) u
    have hf1 := layNew_fits t es ((mixKind P w).hash k) u
    have hr1 := layNew_ris t es ((mixKind P w).hash k) u hr
    have hl1 := layNew_led t es ((mixKind P w).hash k) u
    generalize layNew t es ((mixKind P w).hash k) u = Z at pm hf1 hr1 hl1 ⊢
    obtain ⟨es1, t1, wasDummy, gave⟩ := Z
    dsimp only at pm hf1 hr1 hl1 ⊢
    rw [Array.toList_push] at pm
    have pc : es1.toList.Perm (((mixKind P w).hash k, u) :: es.toList) := pm.trans (List.perm_append_singleton _ _)
    have pk : (es1.toList.map keyM).Perm (k :: ks) := by
      refine (pc.map keyM).trans ?_
      rw [List.map_cons, keyM_of (e := ((mixKind P w).hash k, u)) hk]
      exact pm0.cons k
    have g1 : ElemsOf (mixKind P w) es1.toList := fun e he => by
      rcases List.mem_cons.mp (pc.mem_iff.mp he) with z | z
      · rw [z]; exact ⟨⟨k, hk, rfl⟩, hsc⟩
      · exact g e z
    have nd1 : (k :: ks).Nodup := List.nodup_cons.mpr ⟨hnk, nd⟩
    have hb1 : es1.size < scanBound := by
      have e1 := pk.length_eq
      rw [List.length_map, Array.length_toList, List.length_cons] at e1
      omega
    have hled : w.params.followText "set-order" = true ∨ t1.led = true := hl.imp id fun z => by rw [hl1]; exact z
    have fin : ∀ h', Heap.SameBut a s.heap h' → SetM P w h' a (k :: ks) → Q true { s with heap := h' } := fun h' sb r => hQ h' true sb (by rw [show addK ks k = k :: ks from if_neg (fun z => hnk (any_key.mp z))]; exact r)
    refine wpAny_bind (hgw _ ?_)
    split
    · refine wpAny_bind ?_
      rw [hashByValue_scannable 8 hsc]
      refine wpAny_pure ?_
      refine setM_tail ?_ ho hex hd g1 pk nd1 hb1 ?_ ?_ ?_ ?_
      · intro b s₁ Q' q; cases b <;> first | exact wpAny_pure q | exact wpAny_rule q
      · first | (split <;> first | exact hf1 | exact SetTable.fits_plain_off hf1) | exact hf1
      · first | (split <;> exact hr1) | exact hr1
      · first | (split <;> exact hled) | exact hled
      · intro h' sb r; dsimp only; exact wpAny_pure (fin h' sb r)
    · refine wpAny_bind (wpAny_pure ?_)
      simp only [↓reduceIte]
      refine setM_tail ?_ ho hex hd g1 pk nd1 hb1 hf1 hr1 hled ?_
      · intro b s₁ Q' q; cases b <;> first | exact wpAny_pure q | exact wpAny_rule q
      · intro h' sb r; dsimp only; exact wpAny_pure (fin h' sb r)
theorem setM_new {h : Heap} (ho : h.get? a = some { cls := .type "set", dict := none, data := .set #[] 0 (.fresh 0 0 (!w.params.followText "set-order")) }) : SetM P w h a [] :=
  ⟨_, #[], 0, _, ho, ⟨rfl, rfl, rfl⟩, rfl, (fun e he => by simp at he), by simp, List.nodup_nil, (by decide), (by rfl), List.Pairwise.nil, by
    show _ ∨ (!w.params.followText "set-order") = true
    cases w.params.followText "set-order"
    · exact .inr rfl
    · exact .inl rfl⟩
theorem setM_loop {I : Addr} {fp wr : List Addr} {G : Array GenState → Array GenState → Prop} {n : Nat} {Pv : Nat → Value → Prop} {St : Nat → Shared → Prop} {R : Result → Shared → Prop}
    (W : WalksS P w A.in1 I fp wr G n Pv St) (S : Addr) (hSf : S ∉ fp) (ns : List Key) (hn : n = ns.length) (hb : ns.length + 1 < scanBound) (hval : ∀ i v, Pv i v → ∃ k, ns[i]? = some k ∧ keyIs k v = true) :
    ∀ (k i : Nat) (s : Shared), n - i = k → i ≤ n → St i s → SetM P w s.heap S ((ns.take i).foldl addK []) → ((ns.take i).foldl addK []).length ≤ i →
      (∀ s', Moved (S :: wr) G s s' → SetM P w s'.heap S (ns.foldl addK []) → R (.ok (.ret .none)) s') →
      codeAny (model P w) A (.builtin "set.update.loop" ⟨[.ref S, .ref I], []⟩) R s := by
  have hSw : S ∉ wr := fun h => hSf (W.sub _ h)
  have hsub : ∀ b ∈ wr, b ∈ S :: wr := fun b hb => List.mem_cons_of_mem _ hb
  intro k
  induction k with
  | zero =>
    intro i s hk' hi hst hS hle hR
    have hin : i = n := by omega
    subst hin
    refine codeAny_builtin F.entry_set_update_loop ?_
    rw [Around.under_plainId F.plain_set_update_loop _]
    show wpAny _ A.in1 (pyNext (.ref I) >>= _) _ _ s
    refine wpAny_bind (W.done s _ _ hst fun s' hm => ?_)
    show wpAny _ A.in1 (ret Value.none) _ _ s'
    rw [List.take_of_length_le (by omega)] at hS
    exact wpAny_pure (hR s' (hm.mono hsub) (hS.at fun o e => hm.heap S o hSw e))
  | succ k ih =>
    intro i s hk' hi hst hS hle hR
    have hlt : i < n := by omega
    refine codeAny_builtin F.entry_set_update_loop ?_
    rw [Around.under_plainId F.plain_set_update_loop _]
    show wpAny _ A.in1 (pyNext (.ref I) >>= _) _ _ s
    refine wpAny_bind (W.item i s _ _ hlt hst fun v s' hP hst' hm => ?_)
    obtain ⟨z, hz, kz⟩ := hval i v hP
    have hS' := hS.at (h' := s'.heap) fun o e => hm.heap S o hSw e
    show wpAny _ A.in1 (holding [v] (setAdd S v) >>= _) _ _ s'
    refine wpAny_bind (wpAny_holding ?_)
    unfold setAdd
    refine wpAny_holding ?_
    refine wpAny_bind ((mixKind P w).pyHash (k := z) kz ?_)
    refine setM_hashed (s := { s' with toks := s'.toks + 1 }) kz hS' (by omega) fun h' b hsb hS2 => ?_
    have e3 : (ns.take (i + 1)).foldl addK [] = addK ((ns.take i).foldl addK []) z := by
      rw [List.take_add_one, hz, List.foldl_append]; rfl
    have hl3 : ((ns.take (i + 1)).foldl addK []).length ≤ i + 1 := by
      rw [e3]; have := addK_len ((ns.take i).foldl addK []) z; omega
    have hS3 : SetM P w h' S ((ns.take (i + 1)).foldl addK []) := by rw [e3]; exact hS2
    refine wpAny_pure ⟨plainId_quiet F.plain_set_update_loop _, ih (i + 1) _ (by omega) hlt (W.frame _ s' _ _ hst' (Nat.le_succ _) fun b hb o e => ?_) hS3 hl3 fun s'' hm'' hS'' => ?_⟩
    · rw [hsb.2 b (fun h : b = S => hSf (by rw [← h]; exact hb))]; exact e
    · refine hR s'' (Moved.trans W.gtrans ((hm.mono hsub).then_heap (Nat.le_succ _) fun b o hb e => ?_) hm'') hS''
      rw [hsb.2 b (fun h : b = S => hb (by rw [h]; exact List.mem_cons_self))]; exact e

def setObj (w : World) : Obj := { cls := .type "set", dict := none, data := .set #[] 0 (.fresh 0 0 (!w.params.followText "set-order")) }
set_option maxHeartbeats 6400000 in
theorem call_setM {l : Addr} {items : Array Value} (ns : List Key) {Q : Value → Shared → Prop} (hh : A.handled = none) (hl : s.heap.IsList l items) (hisz : items.size = ns.length) (hval : ∀ (i : Nat) (v : Value), items[i]? = some v → ∃ k, ns[i]? = some k ∧ keyIs k v = true) (hb : ns.length + 1 < scanBound)
    (h : ∀ (h' : Heap) (tk : Nat), SetM P w h' s.heap.objs.size (ns.foldl addK []) → (∀ b o, s.heap.get? b = some o → h'.get? b = some o) → Q (.ref s.heap.objs.size) { s with heap := h', toks := tk }) :
    wpAny (model P w) A (call (.type "set") [.ref l]) Q E s := by
  obtain ⟨c, tl, hmro⟩ := F.called_set.mro
  have hmade := F.called_set.made
  have hsub := F.called_set.sub
  refine wpAny_call (codeAny_of_tree ?_)
  show wpAny _ _ (callAny (.type "set") _) _ _ _
  refine wpAny_pure ⟨Code.quiet_builtin _ (by decide +kernel), codeAny_builtin F.entry_type_call ?_⟩
  rw [Around.under_plain (weight_type_call_type "set" [.ref l] []) rfl]
  have h1 := F.called_set.notType
  have h2 := F.called_set.canCreate
  have hct := F.typeCall_set_1 (.ref l)
  repeat (any_goals (first | assumption | wp_step))
  refine codeAny_mono (L2.code_set_led1 (.ref l) (E := E) (Q₁ := fun obj s₁ => obj = .ref s.heap.objs.size ∧ s₁ = { s with heap := s.heap.push (setObj w) }) ⟨rfl, rfl⟩) fun r s₁ hr => ?_
  cases r with
  | error e => exact hr
  | ok fl =>
    cases fl with
    | ret obj =>
      obtain ⟨rfl, rfl⟩ := hr
      have hS : (s.heap.push (setObj w)).get? s.heap.objs.size = some (setObj w) := Heap.get?_push_size _ rfl
      have hT : Shared.TypeIs { s with heap := s.heap.push (setObj w) } (.ref s.heap.objs.size) "set" := ⟨_, hS, rfl⟩
      have hli := F.called_set.init.lookup
      have hbi := F.called_set.init.bind (.ref s.heap.objs.size)
      repeat (any_goals (first | assumption | wp_step))
      refine codeAny_mono (codeAny_call_builtin (R := wants (fun r s₂ => r = .none ∧ ∃ h' tk, s₂ = { s with heap := h', toks := tk } ∧ SetM P w h' s.heap.objs.size (ns.foldl addK []) ∧
          (∀ b o, s.heap.get? b = some o → h'.get? b = some o)) E) F.called_set.init.plain F.entry_set_init (check_set_init_1 hT ?_)) fun r₂ s₂ hr₂ => ?_
      · obtain ⟨ol, hol, hcl, nl, hdl⟩ := hl
        obtain ⟨ocls, odict, odata, oslots⟩ := ol
        simp only at hcl hdl
        subst hcl; subst hdl
        have hol' : (s.heap.push (setObj w)).get? l = some { cls := .type "list", dict := odict, data := .seq items nl, slots := oslots } := Heap.get?_push_of_some _ hol
        have hsls := F.sub_list_set
        have hslf := F.sub_list_frozenset
        have hne : (Value.type "list" == Value.type "dict") = false := by decide
        have hl1 : (s.heap.push (setObj w)).IsList l items := ⟨_, hol', rfl, nl, rfl⟩
        unfold Builtin.«set.__init__» noKeywords Builtin.Frozenset.updateFrom
        generalize hPI : pyIter = PI
        wp_walk
        subst hPI
        refine wpAny_pyIter_list hl1 ?_
        refine wpAny_bind (wpAny_runValue ?_)
        have hlS : l < s.heap.objs.size := Heap.lt_size hol
        have hh3 : A.in1.in1.in1.handled = none := by simp [hh]
        have hneI : l ≠ (s.heap.push (setObj w)).objs.size := by
          rw [Heap.size_push]; exact Nat.ne_of_lt (Nat.lt_succ_of_lt hlS)
        have hSf : s.heap.objs.size ∉ [(s.heap.push (setObj w)).objs.size, l] := by
          rw [Heap.size_push]; simp only [List.mem_cons, List.mem_singleton, List.not_mem_nil, or_false, not_or]
          exact ⟨Nat.ne_of_lt (Nat.lt_succ_self _), Nat.ne_of_gt hlS⟩
        refine setM_loop ((Walks.list hh3 _ l hneI items).toS) s.heap.objs.size
          hSf ns hisz hb hval (items.size - 0) 0 _ (by omega) (Nat.zero_le _)
          ⟨⟨_, Heap.get?_push_size _ rfl, rfl, rfl⟩, (hl1.push _)⟩ ?hS0 (Nat.le_refl _) ?hR
        case hS0 =>
          exact setM_new (Heap.get?_push_of_some _ hS)
        case hR =>
          intro s' hm hS'
          obtain ⟨h', g2, d', tk', os'⟩ := s'
          have eg : g2 = s.gens := hm.gens
          have ed : d' = s.drawn := hm.drawn
          have eo : os' = s.os := hm.os
          subst eg; subst ed; subst eo
          show wpAny _ _ _ _ _ _
          refine wpAny_pure ?_
          show wpAny _ _ (ret Value.none) _ _ _
          refine wpAny_pure ⟨rfl, h', tk', rfl, hS', fun b o e => ?_⟩
          have hb0 : b < s.heap.objs.size := Heap.lt_size e
          have hb1 : b ≠ s.heap.objs.size := Nat.ne_of_lt hb0
          have hb2 : b ≠ (s.heap.push (setObj w)).objs.size := by
            rw [Heap.size_push]; exact Nat.ne_of_lt (Nat.lt_succ_of_lt hb0)
          exact hm.heap b o (by simp only [List.mem_cons, List.mem_singleton, List.not_mem_nil, or_false, not_or]; exact ⟨hb1, hb2⟩) (Heap.get?_push_of_some _ (Heap.get?_push_of_some _ e))
      · cases r₂ with
        | error e => exact hr₂
        | ok fl₂ =>
          cases fl₂ with
          | ret r =>
            obtain ⟨rfl, h', tk, rfl, hS', hk'⟩ := hr₂
            repeat (any_goals (first | assumption | wp_step))
            exact h _ _ hS' hk'
          | _ => exact hr₂.elim
    | _ => exact hr.elim
end
end G

set_option Elab.async false
set_option linter.all false
set_option maxRecDepth 100000
set_option maxHeartbeats 8000000
/-! G11: one sorted list for all orders; sorted(set(xs)). -/
namespace G
open PySem PySem.Spec PyProof.Rows L2
open PySem.W (EachIs)

mutual
theorem toks_inj : ∀ (x y : PyData) (l m : List (Int ⊕ List Nat)), PySem.W.alike x y = true → PySem.W.keyToks x ++ l = PySem.W.keyToks y ++ m → x = y ∧ l = m
  | .none, y, l, m, h, e => by
    cases y <;> first | (simp [PySem.W.alike] at h; done) | skip
    simpa [PySem.W.keyToks] using e
  | .bool a, y, l, m, h, e => by
    cases y <;> first | (simp [PySem.W.alike] at h; done) | skip
    rename_i b
    simp only [PySem.W.keyToks, List.cons_append, List.nil_append, List.cons.injEq] at e
    refine ⟨?_, e.2⟩
    have := Sum.inl.inj e.1
    cases a <;> cases b <;> simp_all
  | .int a, y, l, m, h, e => by
    cases y <;> first | (simp [PySem.W.alike] at h; done) | skip
    simp only [PySem.W.keyToks, List.cons_append, List.nil_append, List.cons.injEq] at e
    exact ⟨congrArg PyData.int (Sum.inl.inj e.1), e.2⟩
  | .str a, y, l, m, h, e => by
    cases y <;> first | (simp [PySem.W.alike] at h; done) | skip
    simp only [PySem.W.keyToks, List.cons_append, List.nil_append, List.cons.injEq] at e
    exact ⟨congrArg PyData.str (PySem.W.str_of_cps (Sum.inr.inj e.1)), e.2⟩
  | .list xs, y, l, m, h, e => by
    cases y <;> first | (simp [PySem.W.alike] at h; done) | skip
    simp only [PySem.W.keyToks] at e
    obtain ⟨a, b⟩ := toksAll_inj xs _ l m (by simpa [PySem.W.alike] using h) e
    exact ⟨congrArg PyData.list a, b⟩
  | .tuple xs, y, l, m, h, e => by
    cases y <;> first | (simp [PySem.W.alike] at h; done) | skip
    simp only [PySem.W.keyToks] at e
    obtain ⟨a, b⟩ := toksAll_inj xs _ l m (by simpa [PySem.W.alike] using h) e
    exact ⟨congrArg PyData.tuple a, b⟩
  | .dict _, y, l, m, h, e => by cases y <;> simp [PySem.W.alike] at h
theorem toksAll_inj : ∀ (xs ys : List PyData) (l m : List (Int ⊕ List Nat)), PySem.W.alikeAll xs ys = true → PySem.W.keyToksAll xs ++ l = PySem.W.keyToksAll ys ++ m → xs = ys ∧ l = m
  | [], [], l, m, h, e => by
    simp only [PySem.W.keyToksAll, List.cons_append, List.nil_append, List.cons.injEq] at e
    exact ⟨rfl, e.2⟩
  | [], y :: ys, l, m, h, e => by
    simp [PySem.W.keyToksAll] at e
  | x :: xs, [], l, m, h, e => by
    simp [PySem.W.keyToksAll] at e
  | x :: xs, y :: ys, l, m, h, e => by
    have h : PySem.W.alike x y = true ∧ PySem.W.alikeAll xs ys = true := by simpa [PySem.W.alikeAll] using h
    simp only [PySem.W.keyToksAll, List.cons_append, List.cons.injEq, true_and, List.append_assoc] at e
    obtain ⟨a, b⟩ := toks_inj x y _ _ h.1 e
    obtain ⟨c, d⟩ := toksAll_inj xs ys _ _ h.2 b
    exact ⟨by rw [a, c], d⟩
end
theorem dLe_anti {x y : PyData} (h : PySem.W.alike x y = true) (h1 : dLe x y = true) (h2 : dLe y x = true) : x = y := by
  have e : PySem.W.keyToks x = PySem.W.keyToks y := by
    refine (listOrd itemOrd).total _ _ ?_ ?_
    · have : (!(listOrd itemOrd).blt (PySem.W.keyToks x) (PySem.W.keyToks y)) = true := h2
      simpa using this
    · have : (!(listOrd itemOrd).blt (PySem.W.keyToks y) (PySem.W.keyToks x)) = true := h1
      simpa using this
  exact (toks_inj x y [] [] h (by rw [e])).1
theorem dLe_total : PySem.W.TotalLe dLe := PySem.W.sortLe_total _ _ _
theorem sorted_perm : ∀ {l m : List PyData}, l.Pairwise (fun a b => dLe a b = true) → m.Pairwise (fun a b => dLe a b = true) → l.Perm m → PySem.W.AllAlike l → l = m
  | [], m, _, _, p, _ => (List.nil_perm.mp p).symm ▸ rfl
  | x :: l, [], _, _, p, _ => by simp at p
  | x :: l, y :: m, h1, h2, p, al => by
    have hx : x ∈ y :: m := p.mem_iff.mp List.mem_cons_self
    have hy : y ∈ x :: l := p.mem_iff.mpr List.mem_cons_self
    have e : x = y := by
      refine dLe_anti (al x List.mem_cons_self y hy) ?_ ?_
      · rcases List.mem_cons.mp hy with z | z
        · rw [z]; exact dLe_total.refl x
        · exact (List.pairwise_cons.mp h1).1 y z
      · rcases List.mem_cons.mp hx with z | z
        · rw [z]; exact dLe_total.refl y
        · exact (List.pairwise_cons.mp h2).1 x z
    subst e
    rw [sorted_perm (List.pairwise_cons.mp h1).2 (List.pairwise_cons.mp h2).2 ((List.perm_cons x).mp p) fun a ha b hb => al a (List.mem_cons_of_mem _ ha) b (List.mem_cons_of_mem _ hb)]
theorem sortD_perm {l m : List PyData} (p : l.Perm m) (al : PySem.W.AllAlike l) : sortD l = sortD m :=
  sorted_perm (PySem.W.sort_pairwise dLe_total l) (PySem.W.sort_pairwise dLe_total m) ((List.mergeSort_perm l dLe).trans (p.trans (List.mergeSort_perm m dLe).symm)) fun a ha b hb => al a ((List.mergeSort_perm l dLe).mem_iff.mp ha) b ((List.mergeSort_perm l dLe).mem_iff.mp hb)

/-! ### sorted(set) -/
section
variable {P : Program} {w : World} {A : Around} {E : Value → Shared → Prop} {s : Shared} {a : Addr} {ks : List Key}
def RKd (u : Value) (d : PyData) : Prop := ∃ k, keyIs k u = true ∧ d = kD k
theorem kd_reads {h : Heap} {u : Value} {d : PyData} (r : RKd u d) : Reads h u d [] := by
  obtain ⟨k, h1, rfl⟩ := r
  rcases keyIs_shape h1 with ⟨i, t, e1, e2⟩ | ⟨x, t, e1, e2⟩
  · rw [e1, e2]; exact .int i t
  · rw [e1, e2]; exact .str x t
theorem kd_each : ∀ {es : List (Int × Value)}, ElemsOf (mixKind P w) es → EachIs RKd (es.map (·.2)) ((es.map keyM).map kD)
  | [], _ => .nil
  | e :: es, g => by
    obtain ⟨⟨k, h1, _⟩, _⟩ := g e List.mem_cons_self
    exact .cons ⟨k, h1, by rw [keyM_of h1]⟩ (kd_each fun x hx => g x (List.mem_cons_of_mem _ hx))
theorem each_perm {R : Value → PyData → Prop} {vs us : List Value} (p : vs.Perm us) : ∀ {ds : List PyData}, EachIs R us ds → ∃ es, EachIs R vs es ∧ es.Perm ds := by
  induction p with
  | nil => intro ds h; exact ⟨ds, h, .refl _⟩
  | cons x p ih =>
    intro ds h
    cases h with
    | cons a r =>
      obtain ⟨es, h1, h2⟩ := ih r
      exact ⟨_ :: es, .cons a h1, h2.cons _⟩
  | swap x y l =>
    intro ds h
    cases h with
    | cons a r =>
      cases r with
      | cons b r => exact ⟨_, .cons b (.cons a r), .swap _ _ _⟩
  | trans p q ih1 ih2 =>
    intro ds h
    obtain ⟨es, h1, h2⟩ := ih2 h
    obtain ⟨fs, h3, h4⟩ := ih1 h1
    exact ⟨fs, h3, h4.trans h2⟩
theorem sorted_setM {Q : Value → Shared → Prop} (R : SetM P w s.heap a ks) (hh : A.handled = none) (hu : A.units + 64 < cLine) (al : PySem.W.AllAlike (ks.map kD))
    (hQ : ∀ s' p (out : List Value) (c : Nat), (∀ b o, s.heap.get? b = some o → s'.heap.get? b = some o) → s'.gens = s.gens → s'.os = s.os → s.heap.objs.size ≤ p →
      s'.heap.get? p = some (seqObj "list" out.toArray c) → EachIs RKd out (sortD (ks.map kD)) → Q (.ref p) s') :
    wpAny (model P w) A (call (.builtin "sorted") [.ref a]) Q E s := by
  obtain ⟨o, es, ep, t, ho, hex, hd, g, pk, nd, hb, hf, hr, hl⟩ := R
  refine Calls.call_function_entry kind_sorted plain_sorted entry_sorted (args_sorted1 _) ?_
  unfold Builtin.«sorted»
  refine wpAny_bind (m := checkCount "sorted" 1 1 _) (wpAny_pure ?_)
  refine wpAny_bind (L2.collect_set (A := A.in1) hh ⟨o, ho, hex.1, hd⟩ hf hb hr hl fun s1 vs k1 hz g1 o1 pm => ?_)
  obtain ⟨ds, hds, pds⟩ := each_perm pm (kd_each g)
  have pds2 : ds.Perm (ks.map kD) := pds.trans (pk.map kD)
  have al2 : PySem.W.AllAlike ds := fun x hx y hy => al x (pds2.mem_iff.mp hx) y (pds2.mem_iff.mp hy)
  have hn : vs.length ≤ sizeLine := by
    rw [pm.length_eq, List.length_map, Array.length_toList]; exact fits_of_scanBound hb
  have hn2 : ds.length ≤ sizeLine := by
    have : vs.length = ds.length := PySem.W.EachIs.length hds
    omega
  have dep : ∀ d ∈ ds, ∃ k, d = kD k := fun d hd => by
    obtain ⟨k, _, e⟩ := List.mem_map.mp (pds2.mem_iff.mp hd)
    exact ⟨k, e.symm⟩
  refine wpAny_bind (wpAny_newList ?_ hn)
  have hoL : (s1.heap.push (seqObj "list" vs.toArray 0)).get? s1.heap.objs.size = some (seqObj "list" vs.toArray 0) := Heap.get?_push_size _ rfl
  have er : EachIs (fun v b => ∃ as, Reads (s1.heap.push (seqObj "list" vs.toArray 0)) v (id b) as ∧ s1.heap.objs.size ∉ as) vs ds := hds.mono fun u d r => ⟨[], kd_reads r, by simp⟩
  refine wpAny_bind (wpAny_holding (PySem.W.list_sort_data (enc := id) (R := RKd) (s := { s1 with heap := s1.heap.push (seqObj "list" vs.toArray 0) }) hoL hds er (by rw [List.map_id]; exact al2) (by
      rw [List.map_id]
      refine .inr fun d hd => ?_
      obtain ⟨k, rfl⟩ := dep d hd
      cases k <;> exact ⟨nofun, fun _ => nofun⟩) hn2 (fun d hd => by
      obtain ⟨k, rfl⟩ := dep d hd
      have : (kD k).depth ≤ 1 := by cases k <;> simp [kD, PyData.depth]
      show A.in1.units + 1 + (kD k).depth < cLine
      have e : A.in1.units = A.units + 1 := rfl
      omega) fun out h1 h2 => ?_))
  obtain ⟨c, hc⟩ := sortedHeap_at (vs := vs) (out := out.toArray) hoL
  refine wpAny_pure ⟨_, rfl, hQ _ s1.heap.objs.size out c (fun b u e => ?_) g1 o1 hz hc (by rw [← sortD_perm pds2 al2]; exact h2)⟩
  have q := k1 b u e
  have hlt := Heap.lt_size q
  show (sortedHeap (s1.heap.push (seqObj "list" vs.toArray 0)) s1.heap.objs.size vs out.toArray).get? b = some u
  rw [sortedHeap_old (Nat.ne_of_lt hlt) (by rw [size_push']; exact Nat.lt_succ_of_lt hlt)]
  exact Heap.get?_push_of_some _ q
end
end G

set_option Elab.async false
set_option linter.all false
set_option maxRecDepth 100000
set_option maxHeartbeats 8000000
/-! G12: sorted(set(xs)) as a reading. -/
namespace G
open PySem PySem.Spec PyProof.Rows L2
open PySem.W (EachIs)
def uniqK (ks : List Key) : List PyData := (ks.foldl addK []).map kD
def rSetK (X : Cx) : List V → Hp → VK → Prop := fun xs H Q => ∃ (a : Addr) (ks : List Key), xs = [.ref a] ∧ SqL X.K H a (ks.map kV) ∧ ks.length + 1 < scanBound ∧
  ∀ p, H p = none → Q (.ref p) (upd H p (.ext fun h => SetM X.prog X.w h p (ks.foldl addK [])))
def rSortSet (X : Cx) : List V → Hp → VK → Prop := fun xs H Q => ∃ (a : Addr) (ks : List Key), xs = [.ref a] ∧ H a = some (.ext fun h => SetM X.prog X.w h a ks) ∧ PySem.W.AllAlike (ks.map kD) ∧
  ∀ p out, H p = none → (∀ F, DqAll X.K F out (sortD (ks.map kD))) → Q (.ref p) (upd H p (.lst out))
theorem keyIs_kV {k : Key} {u : Value} (r : RelV (kV k) u) : keyIs k u = true := by
  cases k with
  | inl i => obtain ⟨t, e⟩ := (show ∃ t, u = Value.int i t from r); subst e; exact keyIs_int i t
  | inr x => obtain ⟨t, e⟩ := (show ∃ t, u = Value.str x t from r); subst e; exact keyIs_str x t
theorem vals_key : ∀ {ks : List Key} {us : List Value}, Vals (ks.map kV) us → us.length = ks.length ∧ ∀ (i : Nat) v, us[i]? = some v → ∃ k, ks[i]? = some k ∧ keyIs k v = true
  | [], _, h => by cases h; exact ⟨rfl, fun i v h => by simp at h⟩
  | k :: ks, _, h => by
    rw [List.map_cons] at h
    cases h with
    | cons a r =>
      obtain ⟨h1, h2⟩ := vals_key r
      refine ⟨by simp [h1], fun i v h => ?_⟩
      cases i with
      | zero =>
        have h := Option.some.inj (show some _ = some v from h)
        exact ⟨k, rfl, h ▸ keyIs_kV a⟩
      | succ i => exact h2 i v (by simpa using h)
section
variable {X : Cx} {k : Nat}
theorem call_setK (hr : Rm k X) : CallR X (.type "set") (rSetK X) := by
  intro pins s σ H xs us Q I r h
  obtain ⟨a, ks, rfl, hs, hb, q⟩ := h
  obtain ⟨u, rfl, ru⟩ := vals1 r
  cases ru
  obtain ⟨its, rv, hl, _⟩ := I.list hs
  obtain ⟨h1, h2⟩ := vals_key rv
  refine call_setM ks (I.ok.hd hr.calm) hl.isList (by rw [List.size_toArray]; exact h1) (fun i v hv => h2 i v (by simpa using hv)) hb fun h' tk R k' => ?_
  refine ⟨.ref _, upd H s.heap.objs.size (.ext fun h => SetM X.prog X.w h s.heap.objs.size (ks.foldl addK [])), I.laid (t' := tk) k' (Nat.le_refl _) ?_, rfl, q _ (I.hok.fresh (Nat.le_refl _))⟩
  have ⟨o, _, _, _, ho, _⟩ := R
  exact ⟨R, ⟨o, ho⟩, fun h1 h2 p k => SetM.at p k⟩
theorem rkd_dq {K : PySem.W.Frag} : ∀ {us : List Value} {ds : List PyData}, EachIs RKd us ds → ∃ vs, Vals vs us ∧ ∀ F, DqAll K F vs ds
  | _, _, .nil => ⟨[], .nil, fun _ => .nil⟩
  | _, _, .cons ⟨k, h1, h2⟩ t => by
    obtain ⟨vs, a, b⟩ := rkd_dq (K := K) t
    subst h2
    rcases keyIs_shape h1 with ⟨i, t, e1, e2⟩ | ⟨x, t, e1, e2⟩
    · subst e1 e2; exact ⟨.int i :: vs, .cons ⟨t, rfl⟩ a, fun F => .cons (.int i) (b F)⟩
    · subst e1 e2; exact ⟨.str x :: vs, .cons ⟨t, rfl⟩ a, fun F => .cons (.str x) (b F)⟩
theorem call_sortSet (hr : Rm k X) : CallR X (.builtin "sorted") (rSortSet X) := by
  intro pins s σ H xs us Q I r h
  obtain ⟨a, ks, rfl, ha, al, q⟩ := h
  obtain ⟨u, rfl, ru⟩ := vals1 r
  cases ru
  have R : SetM X.prog X.w s.heap a ks := (I.hok a _ ha).1
  refine sorted_setM R (I.ok.hd hr.calm) hr.hu64 al fun s' p out c k' g o hp hg he => ?_
  obtain ⟨vs, rv, hd⟩ := rkd_dq (K := X.K) he
  have hn : H p = none := I.hok.fresh hp
  have hlen : vs.length ≤ sizeLine := by
    have e1 : vs.length = (sortD (ks.map kD)).length := DqAll.length (hd fun _ => none)
    rw [e1, List.length_mergeSort, List.length_map]
    obtain ⟨_, es, _, _, _, _, _, _, pk, _, hb, _⟩ := R
    have := fits_of_scanBound hb
    rw [← pk.length_eq, List.length_map, Array.length_toList]; exact this
  have J : Inv X pins σ (upd H p (.lst vs)) { s with heap := s'.heap, gens := s'.gens, drawn := s'.drawn, toks := s'.toks } :=
    I.call (ch := []) (Un.laid k' hp hn) (I.hok.laid k' hp ⟨hlen, out, c, rv, hg⟩) (by rw [g]; exact I.bare) (fun _ z => nomatch z)
  have e : s' = { s with heap := s'.heap, gens := s'.gens, drawn := s'.drawn, toks := s'.toks } := by
    cases s'
    cases s
    cases o
    rfl
  rw [e]
  exact ⟨.ref p, _, J, rfl, q p vs hn hd⟩
end
def keysX : List Xv → Option (List Key)
  | [] => some []
  | .d d :: xs => (keyOf d).bind fun k => (keysX xs).map (k :: ·)
  | .c _ :: _ => none
theorem keysX_ok {K : PySem.W.Frag} {W : Wd} : ∀ {xs : List Xv} {ks : List Key} {vs : List V}, keysX xs = some ks → VXs K W vs xs → vs = ks.map kV
  | [], _, _, h, v => by cases h; cases v; rfl
  | .d d :: xs, ks, _, h, v => by
    cases v with
    | cons a r =>
      unfold keysX at h
      cases e : keyOf d with
      | none => rw [e] at h; cases h
      | some k =>
        rw [e] at h
        cases e2 : keysX xs with
        | none => rw [e2] at h; cases h
        | some m =>
          rw [e2] at h; cases h
          have ed := keyOf_of e
          subst ed
          rw [keyV (F := W.F) a, keysX_ok e2 r]; rfl
  | .c _ :: _, _, _, h, v => by cases h
def rSSet (ra : RE) : RF := fun σ M P => ra σ M fun x M1 => match hd M1 x with
  | .lst ys => ifS (keysX ys) fun ks => ks.length + 1 < scanBound ∧ PySem.W.AllAlike (ks.map kD) ∧ P (dX (sortD (uniqK ks))) M1
  | _ => False
theorem uniqK_mem {ks : List Key} {d : PyData} : d ∈ uniqK ks ↔ d ∈ ks.map kD := by
  unfold uniqK
  simp only [List.mem_map]
  constructor
  · rintro ⟨k, h1, h2⟩; exact ⟨k, by simpa using addK_all.mp h1, h2⟩
  · rintro ⟨k, h1, h2⟩; exact ⟨k, addK_all.mpr (.inr h1), h2⟩
section
variable {X : Cx} {k : Nat} {a : Expr} {ra : RE} {p p2 pos pos2 : Pos}
theorem sf_sset (hr : Rm k X) (hg : Gl X "sorted") (hm : X.mg "sorted" = none) (hg2 : Gl X "set") (hm2 : X.mg "set" = none) (ha : SE X a ra)
    (he2 : starEach (a :: []) X.env = (false, eval a X.env) :: starEach [] X.env := by rfl) (hpl2 : (backTo pos2 (starEach [] X.env)).any (·.1) = false := by rfl)
    (he : starEach (.Call (.Name "set" p2) [a] [] pos2 :: []) X.env = (false, eval (.Call (.Name "set" p2) [a] [] pos2) X.env) :: starEach [] X.env := by rfl) (hpl : (backTo pos (starEach [] X.env)).any (·.1) = false := by rfl) :
    SF X (.Call (.Name "sorted" p) [.Call (.Name "set" p2) [a] [] pos2] [] pos) (rSSet ra) := by
  obtain ⟨ta, pa, sa⟩ := ha
  refine ⟨_, pe_callB (call_sortSet hr) hg hm boot_sorted (pa_cons (pe_callTy (call_setK hr) hg2 hm2 boot_set (pa_cons pa pa_nil he2) (by decide) (by decide) he2 hpl2) pa_nil he) (by decide) (by decide) he hpl, fun W M H σ σx P Q I S hr q => ?_⟩
  refine sa W M H σ σx _ _ I S hr fun W1 M1 H1 v x l1 I1 v1 p1 => ?_
  split at p1
  · rename_i ys e
    obtain ⟨a, us, rfl, h1, h2⟩ := lstH I1 v1 e
    obtain ⟨ks, e2, hb, al, p⟩ := ifS_of p1
    have := keysX_ok e2 h2
    subst this
    refine ⟨a, ks, rfl, h1, hb, fun p1 hp1 => ⟨p1, _, rfl, upd_same, fun x hx y hy => al x (uniqK_mem.mp hx) y (uniqK_mem.mp hy), fun p3 out hp3 hd => ?_⟩⟩
    have I2 := I1.newLoose hp1 (.ext fun h => SetM X.prog X.w h p1 (ks.foldl addK []))
    obtain ⟨I3, L3⟩ := I2.loose hp3 (.lst out)
    exact q W1 M1 _ p3 out _ l1 I3 L3 (VXs.ofD (hd _)) p
  · exact p1.elim
end
end G

set_option Elab.async false
set_option linter.all false
set_option maxRecDepth 100000
set_option maxHeartbeats 8000000
/-! G13: dict displays of 18 to 32 pairs: seventeen straight in, the others by a second dict. -/
namespace G
open PySem PySem.Spec PyProof.Rows L2

abbrev Itm := Sem Value × Sem Value
theorem gatherG (main : Option Addr) (tl : List (Option (Sem Value) × Sem Value)) (f : (Option (Sem Value) × Sem Value) → (Option Addr × List Itm) → Sem (ForInStep (Option Addr × List Itm)))
    (hf : ∀ (p : Itm) (run : List Itm), run.length + 1 < 17 → f (some p.1, p.2) (main, run) = pure (.yield (main, run ++ [p]))) :
    ∀ (items run : List Itm), run.length + items.length < 17 → forIn ((items.map fun p => (some p.1, p.2)) ++ tl) (main, run) f = forIn tl (main, run ++ items) f
  | [], run, _ => by simp
  | p :: rest, run, h => by
    rw [List.map_cons, List.cons_append, List.forIn_cons, hf p run (by simp at h; omega), pure_bind]
    have := gatherG main tl f hf rest (run ++ [p]) (by simp at h ⊢; omega)
    simpa using this
theorem display2 (a b : List Itm) (p : Itm) (ha : a.length = 16) (h0 : b ≠ []) (hb : b.length < 17) :
    dictDisplay ((a ++ p :: b).map fun p => (some p.1, p.2)) = (do
      let d ← subDict (a ++ [p])
      let sub ← holding [.ref d] (subDict b)
      (holding [.ref d, .ref sub] (mergeMapping d (.ref sub) false)).onRaise fun x => do let _ ← holding [.ref d, x] (runValue (.builtin "proto.let_go" {}))
      pure (.ref d)) := by
  unfold dictDisplay
  dsimp only
  rw [List.map_append, gatherG none _ _ (fun p run h => by
    have hne : ((run ++ [(p.1, p.2)]).length == 17) = false := by simp; omega
    simp only [hne, Bool.false_eq_true, if_false]) a [] (by simp; omega)]
  rw [List.map_cons, List.forIn_cons]
  have h17 : (([] ++ a ++ [(p.1, p.2)]).length == 17) = true := by simp [ha]
  simp only [h17, if_true]
  have he : ([] ++ a ++ [(p.1, p.2)]).isEmpty = false := by simp
  simp only [he, Bool.false_eq_true, if_false, bind_assoc, pure_bind]
  congr 1
  funext d
  have hl := List.append_nil (b.map fun p : Itm => (some p.1, p.2))
  rw [← hl, gatherG (some d) [] _ (fun p run h => by
    have hne : ((run ++ [(p.1, p.2)]).length == 17) = false := by simp; omega
    simp only [hne, Bool.false_eq_true, if_false]) b [] (by simp; omega)]
  have hb2 : b.isEmpty = false := by simpa using h0
  simp only [List.forIn_nil, pure_bind, List.nil_append, hb2, Bool.false_eq_true, if_false, bind_assoc]
section
variable {prog : Program} {w : World} {K : Type} [DecidableEq K] {knd : KeyKind prog w K} {A : Around} {E : Value → Shared → Prop} {s : Shared}
theorem dictPut_pairs {d : Addr} {kvs : List (K × Value)} {k : K} {key v : Value} {Q : Unit → Shared → Prop} (hkey : knd.is k key = true) (hm : s.heap.DictOf knd d kvs)
    (hQ : ∀ h', h'.DictOf knd d (stored kvs k v) → Heap.SameBut d s.heap h' → Q () { s with heap := h' })
    (hsz : kvs.length ≤ sizeLine) :
    wpAny (model prog w) A (dictPut d (knd.hash k) key v) Q E s := by
  obtain ⟨o, es, ep, ho, hc, hd, hk, hp, hn⟩ := hm
  have hes : es.size ≤ sizeLine := by
    have e1 := hp.length
    have e2 : es.toList.length = es.size := by simp
    omega
  unfold dictPut
  refine wpAny_bind (wpAny_dictFind_of hkey ho hd hk ?_)
  have hidx : (es.findIdx? fun e => knd.is k e.key) = kvs.findIdx? fun kv => decide (kv.1 = k) := by
    rw [← hp.findIdx k]; obtain ⟨l⟩ := es; simp
  cases hi : es.findIdx? fun e => knd.is k e.key with
  | some i =>
    refine wpAny_updateDict ho hd (hQ _ ⟨_, _, ep, Heap.get?_update_self _ ho (Obj.isFreed_of_dict (Obj.data_mapDict hd _)), hc.mapDict _, Obj.data_mapDict hd _, hk.modify _ _, ?_, ?_⟩ (Heap.SameBut.update ..))
    · rw [stored, if_pos (any_of_findIdx_some (hidx ▸ hi))]
      have hl : (es.toList.findIdx? fun e => knd.is k e.key) = some i := by rw [← hi]; obtain ⟨l⟩ := es; simp
      have := hp.modify hn hl v
      obtain ⟨l⟩ := es
      simpa using this
    · rw [stored, if_pos (any_of_findIdx_some (hidx ▸ hi)), keys_map_store]; exact hn
  | none =>
    have hnot : k ∉ kvs.map (·.1) := not_mem_of_findIdx_none (hidx ▸ hi)
    have hany : ¬ (kvs.any fun kv => decide (kv.1 = k)) = true := by
      rw [List.any_eq_true]; rintro ⟨kv, hkv, he⟩
      exact hnot (List.mem_map.mpr ⟨kv, hkv, of_decide_eq_true he⟩)
    refine wpAny_updateDictKeys (hz := hes) ho hd (hQ _ ⟨_, _, ep + 1, Heap.get?_update_self _ ho (Obj.isFreed_of_dict (Obj.data_mapDictKeys hd _)),
      hc.mapDictKeys _, Obj.data_mapDictKeys hd _, hk.push hkey _, ?_, ?_⟩ (Heap.SameBut.update ..))
    · rw [stored, if_neg hany]
      have := hp.append hkey (knd.hash k) v
      obtain ⟨l⟩ := es
      simpa using this
    · rw [stored, if_neg hany, List.map_append, List.nodup_append]
      refine ⟨hn, by simp, ?_⟩
      intro a ha b hb
      simp only [List.map_cons, List.map_nil, List.mem_singleton] at hb
      subst hb
      exact fun e => hnot (e ▸ ha)

theorem forIn_inv {α : Type} (f : α → PUnit → Sem (ForInStep PUnit)) (J : List α → Shared → Prop) (hf : ∀ (x : α) (rest : List α) (s : Shared), J (x :: rest) s → wpAny (model prog w) A (f x PUnit.unit) (fun r s' => r = .yield PUnit.unit ∧ J rest s') E s) :
    ∀ (l : List α) (s : Shared) (Q : PUnit → Shared → Prop), J l s → (∀ s', J [] s' → Q PUnit.unit s') → wpAny (model prog w) A (forIn l PUnit.unit f) Q E s
  | [], s, Q, h, q => by
    rw [List.forIn_nil]
    exact wpAny_pure (q s h)
  | x :: l, s, Q, h, q => by
    rw [List.forIn_cons]
    refine wpAny_bind (wpAny_mono (hf x l s h) (fun r s' h' => ?_) fun _ _ e => e)
    obtain ⟨rfl, h'⟩ := h'
    exact forIn_inv f J hf l s' Q h' q
theorem merged_snoc (acc kvs : List (K × Value)) (p : K × Value) : merged acc (kvs ++ [p]) = stored (merged acc kvs) p.1 p.2 := by
  simp [merged]
theorem merged_len : ∀ (kvs acc : List (K × Value)), (merged acc kvs).length ≤ acc.length + kvs.length
  | [], acc => by simp [merged]
  | p :: kvs, acc => by
    have h1 := merged_len kvs (stored acc p.1 p.2)
    have h2 := stored_length_le acc p.1 p.2
    have e : merged acc (p :: kvs) = merged (stored acc p.1 p.2) kvs := rfl
    rw [e, List.length_cons]; omega
theorem Pairs.at {es : List DictEntry} {kvs : List (K × Value)} (h : Pairs knd es kvs) : ∀ {i : Nat} {e : DictEntry}, es[i]? = some e → ∃ p, kvs[i]? = some p ∧ knd.is p.1 e.key = true ∧ e.val = p.2 := by
  induction h with
  | nil => intro i e h; simp at h
  | @cons e kv es kvs h1 h2 _ ih =>
    intro i e' h
    cases i with
    | zero =>
      have h := Option.some.inj (show some _ = some e' from h)
      subst h
      exact ⟨kv, rfl, h1, h2⟩
    | succ i => exact ih (i := i) (by simpa using h)
theorem merge_pairs {d a : Addr} {acc kvs : List (K × Value)} {Q : Unit → Shared → Prop} (hd : s.heap.DictOf knd d acc) (ha : s.heap.DictOf knd a kvs) (hne : a ≠ d) (hsys : (a == sysModules) = false) (h0 : acc ≠ []) (hsz : acc.length + kvs.length ≤ sizeLine)
    (hQ : ∀ h', h'.DictOf knd d (merged acc kvs) → Heap.SameBut d s.heap h' → Q () { s with heap := h' }) :
    wpAny (model prog w) A (mergeMapping d (.ref a) false) Q E s := by
  obtain ⟨od, esd, epd, hod, hcd, hdd, hkd, hpd, hnd⟩ := id hd
  obtain ⟨o, es, ep, ho, hc, hdt, hk, hp, hn⟩ := id ha
  have hT : s.TypeIs (.ref a) "dict" := ⟨o, ho, hc.1⟩
  unfold mergeMapping
  refine wpAny_bind (wpAny_isInstance (b := true) hT isSubtype_dict_dict ?_)
  rw [if_pos rfl]
  refine wpAny_bind (wpAny_specialOf hT F.slot_dict_iter.lookup ?_)
  refine wpAny_bind (wpAny_pure ?_)
  simp only [beq_self_eq_true]
  show wpAny _ _ (ite ((a == sysModules) = true) _ _) _ _ _
  rw [if_neg (by rw [hsys]; exact Bool.false_ne_true)]
  refine wpAny_bind (wpAny_dictEntries hod hdd ?_)
  have hed : esd.isEmpty = false := by
    cases h : esd.isEmpty with
    | false => rfl
    | true =>
      have h1 : esd = #[] := Array.isEmpty_iff.mp h
      have h2 := hpd.length
      rw [h1] at h2
      exact absurd (List.length_eq_zero_iff.mp (by simpa using h2.symm)) h0
  simp only [hed, Bool.false_eq_true, if_false]
  refine wpAny_bind (wpAny_dictEntries ho hdt ?_)
  refine wpAny_bind (wpAny_dictEpoch ho hdt ?_)
  have hlen : es.size = kvs.length := by have := hp.length; simpa using this
  refine wpAny_bind ?_
  refine forIn_inv _ (fun rest s' => ∃ h' i, s' = { s with heap := h' } ∧ rest = List.range' i (es.size - i) ∧ i ≤ es.size ∧ h'.DictOf knd d (merged acc (kvs.take i)) ∧ h'.get? a = some o ∧ Heap.SameBut d s.heap h') ?_ _ _ _ ⟨s.heap, 0, rfl, by simp [List.range_eq_range'], Nat.zero_le _, by simpa [merged] using hd, ho, Heap.SameBut.refl _ _⟩ ?_
  · rintro x rest s' ⟨h', i, rfl, hr, hi, hd', ho', hs'⟩
    have hlt : i < es.size := by
      rcases Nat.lt_or_ge i es.size with h | h
      · exact h
      · rw [Nat.sub_eq_zero_of_le h] at hr; simp at hr
    obtain ⟨rfl, hrest⟩ : x = i ∧ rest = List.range' (i + 1) (es.size - (i + 1)) := by
      have e : es.size - i = (es.size - (i + 1)) + 1 := by omega
      rw [e, List.range'_succ] at hr
      injection hr with h1 h2
      exact ⟨h1, h2⟩
    refine wpAny_bind (wpAny_dictEntries ho' hdt ?_)
    rw [Array.getElem?_eq_getElem hlt]
    obtain ⟨⟨k, v⟩, hkv, hkey, hval⟩ := Pairs.at hp (i := x) (e := es[x]) (by simp [hlt])
    obtain ⟨k', hkey', hhash⟩ := hk es[x] (Array.getElem_mem hlt)
    obtain rfl : k' = k := knd.inj _ _ _ hkey' hkey
    have hval : es[x].val = v := hval
    simp only [Bool.false_eq_true, if_false]
    show wpAny _ _ (holding [es[x].key, es[x].val] (dictPut d es[x].hash es[x].key es[x].val) >>= _) _ _ _
    rw [hhash, hval]
    have hmx : (merged acc (kvs.take x)).length ≤ sizeLine := by
      have e1 := merged_len (kvs.take x) acc
      have e2 : (kvs.take x).length ≤ kvs.length := by rw [List.length_take]; omega
      omega
    refine wpAny_bind (wpAny_holding (dictPut_pairs hkey hd' (fun h'' hd'' hs'' => ?_) hmx))
    have ho'' : h''.get? a = some o := (hs''.2 a hne).trans ho'
    refine wpAny_bind (wpAny_dictEpoch ho'' hdt ?_)
    rw [if_neg (by simp)]
    exact wpAny_pure ⟨rfl, h'', x + 1, rfl, hrest, hlt, by rw [merged_take_succ acc kvs x (k', v) hkv]; exact hd'', ho'', hs'.trans hs''⟩
  · rintro s' ⟨h', i, rfl, hr, hi, hd', ho', hs'⟩
    have hin : i = es.size := by
      rcases Nat.lt_or_ge i es.size with h | h
      · have e : es.size - i = (es.size - (i + 1)) + 1 := by omega
        rw [e, List.range'_succ] at hr; exact nomatch hr
      · exact Nat.le_antisymm hi h
    refine wpAny_pure (hQ h' ?_ hs')
    rw [hin, hlen, List.take_length] at hd'; exact hd'
end
end G

set_option Elab.async false
set_option linter.all false
set_option maxRecDepth 100000
set_option maxHeartbeats 8000000
/-! G14: dict displays. -/
namespace G
open PySem PySem.Spec PyProof.Rows L2

/-! ### the pairs that go straight in -/
def tLong (p : Addr) : List (TE × TE) → St → Hp → (Hp → Prop) → Prop
  | [], _, H, Q => Q H
  | (tk, tv) :: r, σ, H, Q => tk σ H fun x H1 => tv σ H1 fun y H2 => ∃ acc k, H2 p = some (.dK acc) ∧ x = kV k ∧ acc.length < sizeLine ∧ tLong p r σ (upd H2 p (.dK (putK acc k y))) Q
def longStep (d : Addr) (x : Itm) (_ : PUnit) : Sem (ForInStep PUnit) := do
  let kv ← x.1
  let vv ← holding [kv] x.2
  holding [kv, vv] (dictSet d kv vv)
  pure (.yield PUnit.unit)
theorem subDict_long {pairs : List Itm} (h : 15 < pairs.length) : subDict pairs = (do
    let d ← alloc { cls := .type "dict", data := .dict #[] }
    holding [.ref d] (do rule "dict.display.long"; let _ ← forIn pairs PUnit.unit (longStep d); pure ())
    pure d) := by
  unfold subDict
  congr 1
  funext d
  simp only [show ¬ pairs.length ≤ 15 by omega, if_false]
  rfl
structure PLs (X : Cx) (pos : Pos) (keys : List (Option Expr)) (values : List Expr) (trs : List (TE × TE)) : Prop where
  run : ∀ (pins : List (Addr × Obj)) (s : Shared) (σ : St) (H : Hp) (p : Addr) (Q : Hp → Prop), Inv X pins σ H s → tLong p trs σ H Q →
    wpAny (model X.prog X.w) X.A (forIn (pairTrees keys values X.env pos) PUnit.unit (longStep p)) (fun _ s' => ∃ H', Inv X pins σ H' s' ∧ Q H') X.xe s
theorem pls_nil {X : Cx} {pos : Pos} : PLs X pos [] [] [] := ⟨fun pins s σ H p Q I h => by
  show wpAny _ _ (forIn [] _ _) _ _ _
  rw [List.forIn_nil]
  exact wpAny_pure ⟨H, I, h⟩⟩
theorem pls_cons {X : Cx} {pos : Pos} {k v : Expr} {ks : List (Option Expr)} {vs : List Expr} {tk tv : TE} {trs : List (TE × TE)} (hk : PE X k tk) (hv : PE X v tv) (hr : PLs X pos ks vs trs) :
    PLs X pos (some k :: ks) (v :: vs) ((tk, tv) :: trs) := ⟨fun pins s σ H p Q I h => by
  show wpAny _ _ (forIn ((eval k X.env, do let x ← eval v X.env; standAt pos; pure x) :: pairTrees ks vs X.env pos) _ _) _ _ _
  rw [List.forIn_cons]
  refine wpAny_bind ?_
  unfold longStep
  refine wpAny_bind (thn (hk.run pins s σ H _ I h) fun u s1 ⟨x, H1, I1, rx, q1⟩ => ?_)
  refine wpAny_bind (wpAny_holding (wpAny_bind (thn (hv.run pins s1 σ H1 _ I1 q1) fun w2 s2 ⟨y, H2, I2, ry, acc, kk, e, ek, hl, q2⟩ => ?_)))
  refine wpAny_bind (wpAny_standAt (wpAny_pure ?_))
  subst ek
  obtain ⟨z, hd, vs0, rel, dd⟩ := dk_of I2.hok e
  have hz : vs0.length ≤ sizeLine := by rw [← rel.length]; exact z
  have hl2 : (putK acc kk y).length ≤ sizeLine := by have := length_putK acc kk y; omega
  refine wpAny_bind (wpAny_holding (wpAny_dictSet_pairs (hsz := hz) (kV_is rx) dd fun h' dd' hs => ?_))
  have he : ∃ q, h'.get? p = some q := let ⟨q, _, _, hq, _⟩ := dd'; ⟨q, hq⟩
  have I3 := d_write (t' := s2.toks + 1) I2 (ob := .dK (putK acc kk y)) (by rw [e]; exact True.intro) hs he (dk_new hl2 hd (rel.put kk ry) dd')
  refine wpAny_pure ?_
  exact hr.run pins _ σ _ p Q I3 q2⟩
def tDisp2 (t1 t2 : List (TE × TE)) : TE := fun σ H Q => ∀ p, H p = none → tLong p t1 σ (upd H p (.dK [])) fun H1 => ∀ p2, H1 p2 = none → tPairs t2 σ (upd H1 p2 (.dK [])) fun ps H2 =>
  ∃ (acc kvs : List (Key × V)), H2 p = some (.dK acc) ∧ acc ≠ [] ∧ H2 p2 = some (.dK []) ∧ ps = kvs.map (fun kv => (kV kv.1, kv.2)) ∧ kvs.length ≤ 15 ∧ acc.length + kvs.length ≤ sizeLine ∧
    Q (.ref p) (upd (upd H2 p2 (.dK (mergeK [] kvs))) p (.dK (mergeK acc (mergeK [] kvs))))
theorem pe_disp2 {X : Cx} {pos : Pos} {keys k1 k2 : List (Option Expr)} {values v1 v2 : List Expr} {t1 t2 : List (TE × TE)} (h1 : PLs X pos k1 v1 t1) (h2 : PPs X pos k2 v2 t2) (hall : keys.all (·.isSome) = true) (hl : keys.length = values.length)
    (hs : pairTrees keys values X.env pos = pairTrees k1 v1 X.env pos ++ pairTrees k2 v2 X.env pos) (n1 : (pairTrees k1 v1 X.env pos).length = 17) (n2 : (pairTrees k2 v2 X.env pos).length ≤ 15) (n3 : pairTrees k2 v2 X.env pos ≠ []) :
    PE X (.Dict keys values pos) (tDisp2 t1 t2) := by
  refine ⟨fun pins s σ H Q I q => ?_⟩
  rw [arm_eval_Dict, zip_pairTrees keys values X.env pos hall hl, hs]
  generalize hA : pairTrees k1 v1 X.env pos = a at n1
  generalize hB : pairTrees k2 v2 X.env pos = b at n2 n3
  obtain ⟨a', pp, rfl⟩ : ∃ a' pp, a = a' ++ [pp] := ⟨a.dropLast, a.getLast (by intro z; rw [z] at n1; simp at n1), (List.dropLast_concat_getLast _).symm⟩
  have ha' : a'.length = 16 := by simpa using n1
  rw [List.append_assoc, List.singleton_append, display2 a' b pp ha' n3 (by omega)]
  refine wpAny_bind (wpAny_standAt ?_)
  rw [subDict_long (by simp; omega)]
  have hn := I.hok.fresh (Nat.le_refl s.heap.objs.size)
  have I1 := I.laid (a := s.heap.objs.size) (o := .dK []) (h' := s.heap.push { cls := .type "dict", data := .dict #[] }) (t' := s.toks) (fun _ _ q => Heap.get?_push_of_some _ q) (Nat.le_refl _) (dk_empty s.heap I.big)
  refine wpAny_bind (wpAny_bind (wpAny_alloc (wpAny_bind (wpAny_holding (wpAny_bind (wpAny_rule (wpAny_bind ?_)))))))
  have r1 := h1.run pins _ σ _ s.heap.objs.size _ I1 (q _ hn)
  rw [hA] at r1
  refine thn r1 fun _ s1 ⟨H1, J1, q1⟩ => wpAny_pure (wpAny_pure ?_)
  refine wpAny_bind (wpAny_holding ?_)
  have hn2 := J1.hok.fresh (Nat.le_refl s1.heap.objs.size)
  have J2 := J1.laid (a := s1.heap.objs.size) (o := .dK []) (h' := s1.heap.push { cls := .type "dict", data := .dict #[] }) (t' := s1.toks) (fun _ _ q => Heap.get?_push_of_some _ q) (Nat.le_refl _) (dk_empty s1.heap J1.big)
  have r2 := h2.run pins _ σ _ _ J2 (q1 _ hn2)
  rw [hB] at r2
  refine wpAny_subDict (knd := mixKind X.prog X.w) n2 (thn r2 fun ws s2 ⟨ps, H2, J3, rel, acc, kvs, e1, ne, e2, ep, lk, lz, q2⟩ => ?_)
  subst ep
  obtain ⟨rs, c, rk⟩ := carries_of (P := X.prog) (w := X.w) rel
  obtain ⟨z, hd, vs0, r0, dd⟩ := dk_of J3.hok e2
  cases r0
  refine ⟨rs, c, dd, fun h' dd' hs => ?_⟩
  have hz : (mergeK [] kvs).length ≤ sizeLine := by
    have h1 := length_mergeK kvs []
    rw [List.length_nil] at h1
    rw [sizeLine_eq]; omega
  have he : ∃ q, h'.get? s1.heap.objs.size = some q := let ⟨q, _, _, hq, _⟩ := dd'; ⟨q, hq⟩
  have J4 := d_write (t' := s2.toks + ws.length) J3 (by rw [e2]; exact True.intro) hs he (dk_new hz hd (rk.merge .nil) dd')
  have hne : s1.heap.objs.size ≠ s.heap.objs.size := fun z => by
    rw [z] at hn2
    rw [z] at e2
    rw [e2] at e1
    cases e1
    exact ne rfl
  have e1' : upd H2 s1.heap.objs.size (.dK (mergeK [] kvs)) s.heap.objs.size = some (.dK acc) := by rw [upd_ne hne.symm]; exact e1
  obtain ⟨z3, hd3, vs3, r3, dd3⟩ := dk_of J4.hok e1'
  refine wpAny_bind (wpAny_onRaise (wpAny_holding ?_))
  have lm : (mergeK [] kvs).length ≤ kvs.length := by have := length_mergeK kvs []; simpa using this
  have lr : (merged [] rs).length = (mergeK [] kvs).length := ((rk.merge .nil).length).symm
  refine merge_pairs (knd := mixKind X.prog X.w) dd3 dd' hne hd ?_ ?_ fun h'' dd'' hs'' => ?_
  · intro z
    subst z
    cases r3
    exact ne rfl
  · rw [lr, ← r3.length]; omega
  have he2 : ∃ q, h''.get? s.heap.objs.size = some q := let ⟨q, _, _, hq, _⟩ := dd''; ⟨q, hq⟩
  have l2 : (mergeK acc (mergeK [] kvs)).length ≤ sizeLine := by have := length_mergeK (mergeK [] kvs) acc; omega
  have J5 := d_write (t' := s2.toks + ws.length) J4 (by rw [e1']; exact True.intro) hs'' he2 (dk_new l2 hd3 ((rk.merge .nil).merge r3) dd'')
  exact wpAny_pure ⟨.ref _, _, J5, rfl, q2⟩
end G

set_option Elab.async false
set_option linter.all false
set_option maxRecDepth 100000
set_option maxHeartbeats 8000000
/-! G15: dict displays as readings. -/
namespace G
open PySem PySem.Spec PyProof.Rows L2

abbrev RPs := Sl → Sto → (List (Key × Xv) → Sto → Prop) → Prop
def keyX : Xv → Option Key
  | .d d => keyOf d
  | .c _ => none
def rpNil : RPs := fun _ M P => P [] M
def rpCons (rk rv : RE) (rr : RPs) : RPs := fun σ M P => rk σ M fun x M1 => rv σ M1 fun y M2 => ifS (keyX x) fun k => rr σ M2 fun kvs M3 => P ((k, y) :: kvs) M3
def mergeX (acc kvs : List (Key × Xv)) : List (Key × Xv) := kvs.foldl (fun a kv => putX a kv.1 kv.2) acc
def SndP (K : PySem.W.Frag) (trs : List (TE × TE)) (rp : RPs) : Prop := ∀ (W : Wd) (M : Sto) (H : Hp) (σ : St) (σx : Sl) (P : List (Key × Xv) → Sto → Prop) (Q : List (V × V) → Hp → Prop), InvS K W M H → Slr K W σ σx → rp σx M P →
  (∀ W' M' H' vs kvs, W.le W' → InvS K W' M' H' → KVX K W' vs kvs → P kvs M' → Q (vs.map fun kv => (kV kv.1, kv.2)) H') → tPairs trs σ H Q
def SndL (K : PySem.W.Frag) (trs : List (TE × TE)) (rp : RPs) : Prop := ∀ (W : Wd) (M : Sto) (H : Hp) (σ : St) (σx : Sl) (D : Addr) (va : List (Key × V)) (acc : List (Key × Xv)) (P : List (Key × Xv) → Sto → Prop) (Q : Hp → Prop), W.G D = some (.dK va) → InvS K W M H → Slr K W σ σx →
  KVX K W va acc → va.length + trs.length ≤ sizeLine → rp σx M (fun kvs M' => P (mergeX acc kvs) M') →
  (∀ W' M' H' va' acc', W.lf W' → (∃ u, W'.G = upd W.G D u) → W'.G D = some (.dK va') → InvS K W' M' H' → KVX K W' va' acc' → va'.length ≤ va.length + trs.length → P acc' M' → Q H') → tLong D trs σ H Q
def SPs (X : Cx) (pos : Pos) (keys : List (Option Expr)) (values : List Expr) (rp : RPs) : Prop := ∃ trs, trs.length = keys.length ∧ PPs X pos keys values trs ∧ PLs X pos keys values trs ∧ SndP X.K trs rp ∧ SndL X.K trs rp
theorem keyX_ok {K : PySem.W.Frag} {W : Wd} {v : V} {x : Xv} {k : Key} (h : VX K W v x) (e : keyX x = some k) : v = kV k := by
  cases x with
  | d d =>
    have ed := keyOf_of (show keyOf d = some k from e)
    subst ed
    exact keyV (F := W.F) h
  | c i => cases e
theorem upd_self {H : Hp} {a : Addr} {o : HO} (h : H a = some o) : upd H a o = H := by
  funext b
  unfold upd
  split
  · rename_i e; rw [e, h]
  · rfl
section
variable {X : Cx} {pos : Pos}
theorem sps_nil : SPs X pos [] [] rpNil := ⟨[], rfl, pps_nil, pls_nil, fun W M H σ σx P Q I S h q => q W M H [] [] (.refl W) I .nil h, fun W M H σ σx D va acc P Q g I S kx hl h q => q W M H va acc (.refl W) ⟨.dK va, (upd_self g).symm⟩ g I kx (Nat.le_add_right _ _) h⟩
theorem sps_cons {k v : Expr} {ks : List (Option Expr)} {vs : List Expr} {rk rv : RE} {rr : RPs} (hk : SE X k rk) (hv : SE X v rv) (hr : SPs X pos ks vs rr) : SPs X pos (some k :: ks) (v :: vs) (rpCons rk rv rr) := by
  obtain ⟨tk, pk, sk⟩ := hk
  obtain ⟨tv, pv, sv⟩ := hv
  obtain ⟨trs, ln, p1, p2, s1, s2⟩ := hr
  refine ⟨(tk, tv) :: trs, by simp [ln], pps_cons pk pv p1, pls_cons pk pv p2, fun W M H σ σx P Q I S h q => ?_, fun W M H σ σx D va acc P Q g I S kx hl h q => ?_⟩
  · refine sk W M H σ σx _ _ I S h fun W1 M1 H1 x xx l1 I1 v1 h1 => ?_
    refine sv W1 M1 H1 σ σx _ _ I1 (S.le l1) h1 fun W2 M2 H2 y yx l2 I2 v2 h2 => ?_
    obtain ⟨kk, e, h2⟩ := ifS_of h2
    refine s1 W2 M2 H2 σ σx _ _ I2 (S.le (l1.trans l2)) h2 fun W3 M3 H3 us kvs l3 I3 v3 h3 => ?_
    have := keyX_ok v1 e
    subst this
    exact q W3 M3 H3 ((kk, y) :: us) ((kk, yx) :: kvs) (l1.trans (l2.trans l3)) I3 (.cons ⟨rfl, v2.le l3⟩ v3) h3
  · rw [List.length_cons] at hl
    refine sk W M H σ σx _ _ I S h fun W1 M1 H1 x xx l1 I1 v1 h1 => ?_
    refine sv W1 M1 H1 σ σx _ _ I1 (S.le l1) h1 fun W2 M2 H2 y yx l2 I2 v2 h2 => ?_
    obtain ⟨kk, e, h2⟩ := ifS_of h2
    have l12 := l1.trans l2
    have g2 : W2.G D = some (.dK va) := by rw [l12.g]; exact g
    refine ⟨va, kk, I2.sg _ _ g2, keyX_ok v1 e, by omega, ?_⟩
    have I3 := I2.reguard (u' := .dK (putK va kk y)) g2
    have l3 : W2.lf ⟨W2.θ, W2.F, upd W2.G D (.dK (putK va kk y))⟩ := ⟨fun _ _ z => z, SameR.refl _⟩
    have kx3 : KVX X.K W2 (putK va kk y) (putX acc kk yx) := KVX.put (kx.le l12) v2
    refine s2 _ M2 _ σ σx D (putK va kk y) (putX acc kk yx) P Q upd_same I3 ((S.le l12).lf l3) (kx3.lf l3) (by have := length_putK va kk y; omega) h2 fun W4 M4 H4 va4 acc4 l4 ⟨u, g4⟩ e4 I4 k4 n4 h4 => ?_
    refine q W4 M4 H4 va4 acc4 (l12.tolf.trans (l3.trans l4)) ⟨u, ?_⟩ e4 I4 k4 (by rw [List.length_cons]; have := length_putK va kk y; omega) h4
    rw [g4]
    show upd (upd W2.G D _) D u = _
    rw [upd_upd, l12.g]
/-- a dict as a cell -/
def rDic (rp : RPs) : RE := fun σ M P => rp σ M fun kvs M1 => kvs.length ≤ 15 ∧ P (.c M1.length) (M1 ++ [.dic (mergeX [] kvs)])
def rDic2 (r1 r2 : RPs) : RE := fun σ M P => r1 σ M fun k1 M1 => mergeX [] k1 ≠ [] ∧ r2 σ M1 fun k2 M2 => k2.length ≤ 15 ∧ P (.c M2.length) (M2 ++ [.dic (mergeX (mergeX [] k1) (mergeX [] k2))])
def rDicE : RE := fun _ M P => P (.c M.length) (M ++ [.dic []])
theorem KVX.merge {K : PySem.W.Frag} {W : Wd} {vs : List (Key × V)} {xs : List (Key × Xv)} (h : KVX K W vs xs) : ∀ {va : List (Key × V)} {acc : List (Key × Xv)}, KVX K W va acc → KVX K W (mergeK va vs) (mergeX acc xs) := by
  unfold KVX at h
  induction h with
  | nil => intro va acc q; exact q
  | @cons p x ps xs h t ih =>
    intro va acc q
    have e : KVX K W (putK va p.1 p.2) (putX acc x.1 x.2) := by rw [← h.1]; exact KVX.put q h.2
    exact ih e
theorem se_dicE : SE X (.Dict [] [] pos) rDicE := by
  refine ⟨_, pe_dnewK, fun W M H σ σx P Q I S h q => fun p hp => ?_⟩
  obtain ⟨I1, L1⟩ := I.loose hp (.dK [])
  obtain ⟨I2, l2, x2⟩ := I1.adoptCell L1 (o := .dic []) fun W' l' f' => ⟨f', [], L1.at_, .nil⟩
  exact q _ _ _ _ _ l2 I2 x2 h
theorem se_dic {keys : List (Option Expr)} {values : List Expr} {rp : RPs} (h : SPs X pos keys values rp) (hall : keys.all (·.isSome) = true := by rfl) (hl : keys.length = values.length := by rfl) (h0 : keys ≠ [] := by nofun) (h15 : keys.length ≤ 15 := by decide) : SE X (.Dict keys values pos) (rDic rp) := by
  obtain ⟨trs, ln, p1, _, s1, _⟩ := h
  refine ⟨_, pe_disp p1 hall hl h0 h15, fun W M H σ σx P Q I S h q => fun p hp => ?_⟩
  have I1 := I.guard (u := .dK []) hp
  have l1 : W.lf ⟨W.θ, W.F, upd W.G p (.dK [])⟩ := ⟨fun _ _ z => z, SameR.refl _⟩
  refine s1 _ M _ σ σx _ _ I1 (S.lf l1) h fun W2 M2 H2 us kvs l2 I2 v2 h2 => ?_
  have g2 : W2.G p = some (.dK []) := by rw [l2.g]; exact upd_same
  have e2 : H2 p = some (.dK []) := I2.sg _ _ g2
  refine ⟨e2, us, rfl, by rw [KVX.length v2]; exact h2.1, ?_⟩
  have I3 := I2.reguard (u' := .dK (mergeK [] us)) g2
  have I4 := I3.dropG (G0 := W.G) (fun b o e => by
    have hne : b ≠ p := fun z => by subst z; rw [(I.fresh hp).2.1] at e; cases e
    show upd W2.G p _ b = some o
    rw [upd_ne hne, l2.g]
    show upd W.G p _ b = some o
    rw [upd_ne hne]; exact e)
  have f2 : W2.F p = none := I2.fD g2 nofun
  have t2 : p ∉ W2.θ := fun z => by rw [I2.tg p z] at g2; cases g2
  have L4 : Loose ⟨W2.θ, W2.F, W.G⟩ (upd H2 p (.dK (mergeK [] us))) p (.dK (mergeK [] us)) := ⟨upd_same, f2, (I.fresh hp).2.1, t2⟩
  have l4 : W.le ⟨W2.θ, W2.F, W.G⟩ := ⟨⟨fun i a z => l2.th i a z, l2.f⟩, rfl⟩
  have kx : KVX X.K ⟨W2.θ, W2.F, W.G⟩ (mergeK [] us) (mergeX [] kvs) := (KVX.merge v2 .nil).lf ⟨fun _ _ z => z, SameR.refl _⟩
  obtain ⟨I5, l5, x5⟩ := I4.adoptCell L4 (o := .dic (mergeX [] kvs)) fun W' l' f' => ⟨f', _, L4.at_, kx.le l'⟩
  exact q _ _ _ _ _ (l4.trans l5) I5 x5 h2.2
theorem pairTrees_len {keys : List (Option Expr)} {values : List Expr} (env : Env) (hall : keys.all (·.isSome) = true) (hl : keys.length = values.length) : (pairTrees keys values env pos).length = keys.length := pairTrees_length keys values env pos hall hl
theorem se_dic2 {keys k1 k2 : List (Option Expr)} {values v1 v2 : List Expr} {r1 r2 : RPs} (h1 : SPs X pos k1 v1 r1) (h2 : SPs X pos k2 v2 r2) (hs : pairTrees keys values X.env pos = pairTrees k1 v1 X.env pos ++ pairTrees k2 v2 X.env pos := by rfl)
    (hall : keys.all (·.isSome) = true := by rfl) (hl : keys.length = values.length := by rfl) (ha1 : k1.all (·.isSome) = true := by rfl) (hl1 : k1.length = v1.length := by rfl) (ha2 : k2.all (·.isSome) = true := by rfl) (hl2 : k2.length = v2.length := by rfl)
    (n1 : k1.length = 17 := by rfl) (n2 : k2.length ≤ 15 := by decide) (n3 : k2 ≠ [] := by nofun) : SE X (.Dict keys values pos) (rDic2 r1 r2) := by
  obtain ⟨t1, ln1, _, p1, _, s1⟩ := h1
  obtain ⟨t2, ln2, p2, _, s2, _⟩ := h2
  have e1 := pairTrees_length k1 v1 X.env pos ha1 hl1
  have e2 := pairTrees_length k2 v2 X.env pos ha2 hl2
  refine ⟨_, pe_disp2 p1 p2 hall hl hs (e1.trans n1) (by omega) (fun z => n3 (List.length_eq_zero_iff.mp (by rw [← e2, z]; rfl))), fun W M H σ σx P Q I S h q => fun p hp => ?_⟩
  have hz := sizeLine_eq
  have I1 := I.guard (u := .dK []) hp
  have l1 : W.lf ⟨W.θ, W.F, upd W.G p (.dK [])⟩ := ⟨fun _ _ z => z, SameR.refl _⟩
  refine s1 _ M _ σ σx p [] [] (fun a M1 => a ≠ [] ∧ r2 σx M1 fun k2 M2 => k2.length ≤ 15 ∧ P (.c M2.length) (M2 ++ [Ob.dic (mergeX a (mergeX [] k2))])) _ upd_same I1 (S.lf l1) .nil (by rw [ln1, n1]; simp; omega) (show rDic2 r1 r2 σx M P from h) fun W2 M2 H2 va acc l2 ⟨u2, g2⟩ gp I2 kx nv h2 => ?_
  intro pp hpp
  have hne : pp ≠ p := fun z => by
    subst z
    rw [I2.sg _ _ gp] at hpp; cases hpp
  have J1 := I2.guard (u := .dK []) hpp
  have m1 : W2.lf ⟨W2.θ, W2.F, upd W2.G pp (.dK [])⟩ := ⟨fun _ _ z => z, SameR.refl _⟩
  have l12 : W.lf ⟨W2.θ, W2.F, upd W2.G pp (.dK [])⟩ := (l1.trans l2).trans m1
  refine s2 _ M2 _ σ σx _ _ J1 (S.lf l12) h2.2 fun W3 M3 H3 us kvs l3 I3 v3 h3 => ?_
  have g3 : W3.G = upd W2.G pp (.dK []) := l3.g
  have gp3 : W3.G p = some (.dK va) := by rw [g3, upd_ne hne.symm]; exact gp
  have gq3 : W3.G pp = some (.dK []) := by rw [g3, upd_same]
  have kl : us.length ≤ 15 := by rw [KVX.length v3]; exact h3.1
  have nv' : va.length ≤ 17 := by have := nv; rw [ln1, n1] at this; simpa using this
  refine ⟨va, us, I3.sg _ _ gp3, fun z => ?_, I3.sg _ _ gq3, rfl, kl, by omega, ?_⟩
  · subst z
    have : acc = [] := by cases kx; rfl
    exact h2.1 this
  have I4 := I3.reguard (u' := .dK (mergeK [] us)) gq3
  have I5 := I4.reguard (D := p) (u := .dK va) (u' := .dK (mergeK va (mergeK [] us))) (by show upd W3.G pp _ p = _; rw [upd_ne hne.symm]; exact gp3)
  have gW : ∀ b o, W.G b = some o → b ≠ p ∧ b ≠ pp := fun b o e => by
    have hb : b ≠ p := fun z => by subst z; rw [(I.fresh hp).2.1] at e; cases e
    refine ⟨hb, fun z => ?_⟩
    have : W2.G b = some o := by
      rw [g2]
      show upd (upd W.G p _) p u2 b = some o
      rw [upd_ne hb, upd_ne hb]; exact e
    have e3 := I2.sg _ _ this
    subst z
    rw [hpp] at e3; cases e3
  have I6 := I5.dropG (G0 := W.G) (fun b o e => by
    obtain ⟨n1, n2⟩ := gW b o e
    show upd (upd W3.G pp _) p _ b = some o
    rw [upd_ne n1, upd_ne n2, g3, upd_ne n2, g2]
    show upd (upd W.G p _) p u2 b = some o
    rw [upd_ne n1, upd_ne n1]; exact e)
  have f3 : W3.F p = none := I3.fD gp3 nofun
  have t3 : p ∉ W3.θ := fun z => by rw [I3.tg p z] at gp3; cases gp3
  have L6 : Loose ⟨W3.θ, W3.F, W.G⟩ (upd (upd H3 pp (.dK (mergeK [] us))) p (.dK (mergeK va (mergeK [] us)))) p (.dK (mergeK va (mergeK [] us))) := ⟨upd_same, f3, (I.fresh hp).2.1, t3⟩
  have lW : W.le ⟨W3.θ, W3.F, W.G⟩ := ⟨⟨fun i a z => l3.th i a (l12.th i a z), l12.f.trans l3.f⟩, rfl⟩
  have kx3 : KVX X.K ⟨W3.θ, W3.F, W.G⟩ (mergeK va (mergeK [] us)) (mergeX acc (mergeX [] kvs)) :=
    (KVX.merge (KVX.merge v3 .nil) ((kx.lf m1).le l3)).lf ⟨fun _ _ z => z, SameR.refl _⟩
  obtain ⟨I7, l7, x7⟩ := I6.adoptCell L6 (o := .dic (mergeX acc (mergeX [] kvs))) fun W' l' f' => ⟨f', _, L6.at_, kx3.le l'⟩
  exact q _ _ _ _ _ (lW.trans l7) I7 x7 h3.2
end
end G

set_option Elab.async false
set_option linter.all false
set_option maxRecDepth 100000
set_option maxHeartbeats 8000000
/-! G16: a block's scope, looked at by a computation. -/
namespace G
open PySem PySem.Spec PyProof.Rows L2
def blkB (N : List Str) (sc scope : Scope) (own : List (Str × Nat)) : Bool :=
  decide (scope.kind = .function) && (scope.names.all fun y => decide (scope.names.lookup y.1 = some y.2)) && (own.all fun p => decide (N[p.2]? = some p.1)) &&
  (scope.names.all fun y => !decide (y.2 = .free) || decide (sc.names.lookup y.1 = some .cell) || decide (sc.names.lookup y.1 = some .free)) &&
  (scope.names.all fun y => !(decide (y.2 = .local) || decide (y.2 = .cell)) || ((own.map (·.1)).any fun z => decide (z = y.1)) || !(N.any fun z => decide (z = y.1)))
theorem blkB_ok {N : List Str} {sc scope : Scope} {own : List (Str × Nat)} (h : blkB N sc scope own = true) : BlkOk N sc scope own := by
  unfold blkB at h
  simp only [Bool.and_eq_true, decide_eq_true_eq, List.all_eq_true, Bool.or_eq_true, Bool.not_eq_true', decide_eq_false_iff_not, Bool.or_eq_false_iff, List.any_eq_true, List.any_eq_false] at h
  obtain ⟨⟨⟨⟨h1, h2⟩, h3⟩, h4⟩, h5⟩ := h
  refine ⟨h1, h2, h3, fun y hy e => ?_, fun y hy e => ?_⟩
  · rcases h4 y hy with (z | z) | z
    · exact absurd e z
    · exact .inl z
    · exact .inr z
  · rcases h5 y hy with (z | ⟨x, hx, z⟩) | z
    · rcases e with e | e
      · exact absurd e z.1
      · exact absurd e z.2
    · exact .inl (z ▸ hx)
    · exact .inr fun hm => z _ hm rfl
/-- a display of 18 to 32 pairs, by its first seventeen and the others -/
theorem se_dic17 {X : Cx} {pos : Pos} {keys : List (Option Expr)} {values : List Expr} {r1 r2 : RPs} (h1 : SPs X pos (keys.take 17) (values.take 17) r1) (h2 : SPs X pos (keys.drop 17) (values.drop 17) r2)
    (hs : pairTrees keys values X.env pos = pairTrees (keys.take 17) (values.take 17) X.env pos ++ pairTrees (keys.drop 17) (values.drop 17) X.env pos := by rfl)
    (hall : keys.all (·.isSome) = true := by rfl) (hl : keys.length = values.length := by rfl) (n : 17 < keys.length := by decide) (n2 : keys.length ≤ 32 := by decide) : SE X (.Dict keys values pos) (rDic2 r1 r2) := by
  refine se_dic2 h1 h2 hs hall hl ?_ ?_ ?_ ?_ ?_ ?_ ?_
  · exact List.all_eq_true.mpr fun x hx => List.all_eq_true.mp hall x (List.mem_of_mem_take hx)
  · rw [List.length_take, List.length_take, hl]
  · exact List.all_eq_true.mpr fun x hx => List.all_eq_true.mp hall x (List.mem_of_mem_drop hx)
  · rw [List.length_drop, List.length_drop, hl]
  · rw [List.length_take]; omega
  · rw [List.length_drop]; omega
  · intro z
    have := congrArg List.length z
    rw [List.length_drop, List.length_nil] at this
    omega
end G

set_option Elab.async false
set_option linter.all false
set_option maxRecDepth 100000
set_option maxHeartbeats 8000000
/-! G17: reckoning with readings over data. -/
namespace G
open PySem PySem.Spec PyProof.Rows L2

theorem ifS_mk {α : Type} {o : Option α} {a : α} {P : α → Prop} (h : o = some a) (p : P a) : ifS o P := by rw [h]; exact p
theorem slot_z (x : Xv) (σ : Sl) : slot (some x :: σ) 0 = some x := rfl
theorem slot_s (a : Option Xv) (σ : Sl) (n : Nat) : slot (a :: σ) (n + 1) = slot σ n := rfl
theorem set_z {α : Type} (a b : α) (l : List α) : (a :: l).set 0 b = b :: l := rfl
theorem set_s {α : Type} (a b : α) (l : List α) (n : Nat) : (a :: l).set (n + 1) b = a :: l.set n b := rfl
theorem at0 {α : Type} (a : α) (l : List α) : atI (a :: l) 0 = some a := L2.atI_nat (j := 0) rfl
theorem at1 {α : Type} (a b : α) (l : List α) : atI (a :: b :: l) 1 = some b := L2.atI_nat (j := 1) rfl
theorem at2 {α : Type} (a b c : α) (l : List α) : atI (a :: b :: c :: l) 2 = some c := L2.atI_nat (j := 2) rfl
theorem at3 {α : Type} (a b c d : α) (l : List α) : atI (a :: b :: c :: d :: l) 3 = some d := L2.atI_nat (j := 3) rfl
theorem at4 {α : Type} (a b c d e : α) (l : List α) : atI (a :: b :: c :: d :: e :: l) 4 = some e := L2.atI_nat (j := 4) rfl
theorem at5 {α : Type} (a b c d e f : α) (l : List α) : atI (a :: b :: c :: d :: e :: f :: l) 5 = some f := L2.atI_nat (j := 5) rfl
theorem at6 {α : Type} (a b c d e f g : α) (l : List α) : atI (a :: b :: c :: d :: e :: f :: g :: l) 6 = some g := L2.atI_nat (j := 6) rfl
/-- a field of a dict -/
def lkD : List (PyData × PyData) → Str → Option PyData
  | [], _ => none
  | p :: r, k => if keyEq p.1 (.str k) then some p.2 else lkD r k
def fldD : PyData → Str → Option PyData
  | .dict kvs, k => lkD kvs k
  | _, _ => none
theorem dget_lk (kvs : List (PyData × PyData)) (k : Str) : dget (kvs.map fun p => (p.1, Xv.d p.2)) (.str k) = (lkD kvs k).map .d := by
  induction kvs with
  | nil => rfl
  | cons p r ih =>
    show (if keyEq p.1 (.str k) then some (Xv.d p.2) else dget (r.map fun p => (p.1, Xv.d p.2)) (.str k)) = (if keyEq p.1 (.str k) then some p.2 else lkD r k).map .d
    split
    · rfl
    · exact ih
theorem gIx_fld {s d : PyData} {k : Str} {M : Sto} {P : Xv → Sto → Prop} (h : fldD s k = some d) : gIx (.d s) (.d (.str k)) M P = P (.d d) M := by
  cases s with
  | dict kvs =>
    have h : lkD kvs k = some d := h
    show ifS (keyOf (.str k)) (fun _ => ifS (dget (kvs.map fun p => (p.1, Xv.d p.2)) (.str k)) fun z => P z M) = _
    rw [dget_lk, h]
    rfl
  | _ => cases h
theorem gIx_tup (ds : List PyData) (i : Int) (M : Sto) (P : Xv → Sto → Prop) : gIx (.d (.tuple ds)) (.d (.int i)) M P = ifS (atI (dX ds) i) fun z => P z M := rfl
theorem gIx_lst (ds : List PyData) (i : Int) (M : Sto) (P : Xv → Sto → Prop) : gIx (.d (.list ds)) (.d (.int i)) M P = ifS (atI (dX ds) i) fun z => P z M := rfl
theorem dX_c (d : PyData) (ds : List PyData) : dX (d :: ds) = .d d :: dX ds := rfl
theorem dX_n : dX [] = [] := rfl
theorem gEq_ii (i j : Int) (M : Sto) (P : Xv → Sto → Prop) : gEq (.d (.int i)) (.d (.int j)) M P = P (.d (.bool (decide (i = j)))) M := by
  show ((_ ∨ _) ∧ _) = _
  rw [show PyData.eqv (.int i) (.int j) = decide (i = j) by simp [PyData.eqv, Bool.beq_eq_decide_eq]]
  simp [scEq]
theorem gNe_ii (i j : Int) (M : Sto) (P : Xv → Sto → Prop) : gNe (.d (.int i)) (.d (.int j)) M P = P (.d (.bool (!decide (i = j)))) M := by
  show ((_ ∨ _) ∧ _) = _
  rw [show PyData.eqv (.int i) (.int j) = decide (i = j) by simp [PyData.eqv, Bool.beq_eq_decide_eq]]
  simp [scEq]
theorem eqv_str (a b : Str) : PyData.eqv (.str a) (.str b) = decide (a = b) := by
  simp only [PyData.eqv]
  by_cases h : a = b
  · subst h; simp
  · rw [decide_eq_false h]; simpa using h
theorem eqv_int (a b : Int) : PyData.eqv (.int a) (.int b) = decide (a = b) := by simp [PyData.eqv, Bool.beq_eq_decide_eq]
theorem gEq_ss (i j : Str) (M : Sto) (P : Xv → Sto → Prop) : gEq (.d (.str i)) (.d (.str j)) M P = P (.d (.bool (decide (i = j)))) M := by
  show ((_ ∨ _) ∧ _) = _
  rw [eqv_str]
  simp [scEq]
theorem gNe_ss (i j : Str) (M : Sto) (P : Xv → Sto → Prop) : gNe (.d (.str i)) (.d (.str j)) M P = P (.d (.bool (!decide (i = j)))) M := by
  show ((_ ∨ _) ∧ _) = _
  rw [eqv_str]
  simp [scEq]
theorem gAdd_ii (i j : Int) (M : Sto) (P : Xv → Sto → Prop) : gAdd (.d (.int i)) (.d (.int j)) M P = P (.d (.int (i + j))) M := rfl
theorem gSub_ii (i j : Int) (M : Sto) (P : Xv → Sto → Prop) : gSub (.d (.int i)) (.d (.int j)) M P = P (.d (.int (i - j))) M := by
  show (True ∧ _) = _
  simp
theorem gLt_ii (i j : Int) (M : Sto) (P : Xv → Sto → Prop) : gLt (.d (.int i)) (.d (.int j)) M P = P (.d (.bool (decide (i < j)))) M := rfl
theorem gLe_ii (i j : Int) (M : Sto) (P : Xv → Sto → Prop) : gLe (.d (.int i)) (.d (.int j)) M P = P (.d (.bool (decide (i ≤ j)))) M := rfl
theorem gGt_ii (i j : Int) (M : Sto) (P : Xv → Sto → Prop) : gGt (.d (.int i)) (.d (.int j)) M P = P (.d (.bool (decide (j < i)))) M := rfl
theorem gGe_ii (i j : Int) (M : Sto) (P : Xv → Sto → Prop) : gGe (.d (.int i)) (.d (.int j)) M P = P (.d (.bool (decide (j ≤ i)))) M := rfl
theorem gMul_l (i j : Int) (M : Sto) (P : Xv → Sto → Prop) (h : -(2 ^ 64) < i ∧ i < 2 ^ 64) : gMul (.d (.int i)) (.d (.int j)) M P = P (.d (.int (i * j))) M := by
  show (CMul i j ∧ _) = _
  have : CMul i j := .inl h
  simp [this]
theorem gMul_r (i j : Int) (M : Sto) (P : Xv → Sto → Prop) (h : -(2 ^ 64) < j ∧ j < 2 ^ 64) : gMul (.d (.int i)) (.d (.int j)) M P = P (.d (.int (i * j))) M := by
  show (CMul i j ∧ _) = _
  have : CMul i j := .inr h
  simp [this]
theorem gMod_ii (i j : Int) (M : Sto) (P : Xv → Sto → Prop) (h : 0 < j) : gMod (.d (.int i)) (.d (.int j)) M P = P (.d (.int (i % j))) M := by
  show (0 < j ∧ _) = _
  simp [h]
theorem gDiv_ii (i j : Int) (M : Sto) (P : Xv → Sto → Prop) (h : 0 < j ∧ j < 1073741824) : gDiv (.d (.int i)) (.d (.int j)) M P = P (.d (.int (i / j))) M := by
  show ((0 < j ∧ j < 1073741824) ∧ _) = _
  simp [h]
theorem gIsN_d (neg : Bool) (x : Xv) (M : Sto) (P : Xv → Sto → Prop) : gIsN neg x (.d .none) M P = P (.d (.bool (if neg then !isN x else isN x))) M := rfl
theorem boX_b (b : Bool) : boX (.d (.bool b)) = some b := rfl
theorem tru_l (M : Sto) (ds : List PyData) : tru M (.d (.list ds)) = some (!ds.isEmpty) := by
  show some (!(dX ds).isEmpty) = _
  cases ds <;> rfl
theorem fzL_dX (M : Sto) (ds : List PyData) : fzL M (dX ds) = some (ds, M) := frzL_d 6 M ds
theorem fzL_n (M : Sto) : fzL M [] = some ([], M) := rfl
theorem fzL_cd (M : Sto) (d : PyData) (xs : List Xv) : fzL M (.d d :: xs) = (fzL M xs).map fun q => (d :: q.1, q.2) := by
  have e : fzL M (.d d :: xs) = (match frzN 6 M (.d d) with
    | some (d, M') => match frzLf (frzN 6) M' xs with
      | some (ds, M'') => some (d :: ds, M'')
      | none => none
    | none => none) := rfl
  have e2 : fzL M xs = frzLf (frzN 6) M xs := rfl
  rw [e, e2, frzN_d]
  dsimp only
  cases frzLf (frzN 6) M xs <;> rfl
theorem fz_d (M : Sto) (d : PyData) : fz M (.d d) = some (d, M) := frzN_d 6 M d
theorem pk_d (M : Sto) (d : PyData) : pk M (.d d) = some d := pkN_d 6 M d
theorem gLen_l (ds : List PyData) (M : Sto) (P : Xv → Sto → Prop) : gLen [.d (.list ds)] M P = P (.d (.int ds.length)) M := by
  show P (.d (.int (dX ds).length)) M = _
  rw [List.length_map]
theorem dX_ints (ns : List Int) : dX (ns.map .int) = ns.map fun i => .d (.int i) := by rw [dX, List.map_map]; rfl
theorem gMin_l (ns : List Int) (M : Sto) (P : Xv → Sto → Prop) (h : 0 < ns.length) : gMin [.d (.list (ns.map .int))] M P = P (.d (.int (minL ns))) M := by
  show ifS (intsX (dX (ns.map .int))) _ = _
  rw [dX_ints, intsX_map]
  show (0 < ns.length ∧ _) = _
  simp [h]
theorem gMax_l (ns : List Int) (M : Sto) (P : Xv → Sto → Prop) (h : 0 < ns.length) : gMax [.d (.list (ns.map .int))] M P = P (.d (.int (maxL ns))) M := by
  show ifS (intsX (dX (ns.map .int))) _ = _
  rw [dX_ints, intsX_map]
  show (0 < ns.length ∧ _) = _
  simp [h]
theorem gMax_ii (i j : Int) (M : Sto) (P : Xv → Sto → Prop) : gMax [.d (.int i), .d (.int j)] M P = P (.d (.int (max i j))) M := rfl
theorem gMin_ii (i j : Int) (M : Sto) (P : Xv → Sto → Prop) : gMin [.d (.int i), .d (.int j)] M P = P (.d (.int (min i j))) M := rfl
theorem gInt_b (b : Bool) (M : Sto) (P : Xv → Sto → Prop) : gInt [.d (.bool b)] M P = P (.d (.int (if b then 1 else 0))) M := rfl
theorem gInt_i (i : Int) (M : Sto) (P : Xv → Sto → Prop) : gInt [.d (.int i)] M P = P (.d (.int i)) M := rfl
theorem gAbs_i (i : Int) (M : Sto) (P : Xv → Sto → Prop) : gAbs [.d (.int i)] M P = P (.d (.int (if i < 0 then -i else i))) M := by
  show (True ∧ _) = _
  simp
theorem last_get {α : Type} (M : List α) (o : α) : (M ++ [o])[M.length]? = some o := by simp
theorem last_set {α : Type} (M : List α) (o o' : α) : (M ++ [o]).set M.length o' = M ++ [o'] := by simp
theorem gApd_last (M : Sto) (xs : List Xv) (y : Xv) (P : Xv → Sto → Prop) : gApd (.c M.length) y (M ++ [.lst xs]) P = (xs.length < sizeLine ∧ P (.d .none) (M ++ [.lst (xs ++ [y])])) := by
  unfold gApd
  simp only [last_get, last_set]
theorem isLst_last (M : Sto) (xs : List Xv) : isLst (M ++ [.lst xs]) (.c M.length) = True := by
  unfold isLst hd
  simp only [last_get]
/-! ### comprehensions over data -/
theorem lcW_map {α : Type} {g : RG} {rt : RT} {re : RE} {keep : Sto → Prop} {σw : Sl} {P : List Xv → Sto → Prop} {M : Sto} (enc : α → PyData) (p : α → Bool) (f : α → PyData) (hk : keep M) :
    ∀ (xs : List α) (acc : List Xv), acc.length + xs.length ≤ sizeLine →
    (∀ a ∈ xs, ∀ (Kt : Xv → Sto → Prop) (Kf : Sto → Prop), (p a = true → Kt (.d (f a)) M) → (p a = false → Kf M) → g (.d (enc a)) σw M fun σ1 M1 => rt σ1 M1 fun b M2 => if b = true then re σ1 M2 Kt else Kf M2) →
    P (acc ++ dX ((xs.filter p).map f)) M → lcW g rt re keep σw P (dX (xs.map enc)) acc M
  | [], acc, _, _, q => by
    rw [List.filter_nil, List.map_nil, dX_n, List.append_nil] at q
    exact ⟨hk, q⟩
  | x :: xs, acc, hl, h, q => by
    rw [List.length_cons] at hl
    refine ⟨hk, ?_⟩
    refine h x List.mem_cons_self (fun y M3 => acc.length < sizeLine ∧ lcW g rt re keep σw P (dX (xs.map enc)) (acc ++ [y]) M3) (fun M2 => lcW g rt re keep σw P (dX (xs.map enc)) acc M2) (fun e => ⟨by omega, ?_⟩) fun e => ?_
    · refine lcW_map enc p f hk xs _ (by simp; omega) (fun a ha => h a (List.mem_cons_of_mem _ ha)) ?_
      rw [List.filter_cons_of_pos e] at q
      simpa using q
    · refine lcW_map enc p f hk xs _ (by omega) (fun a ha => h a (List.mem_cons_of_mem _ ha)) ?_
      rw [List.filter_cons_of_neg (by rw [e]; nofun)] at q
      exact q
/-! ### loops -/
theorem loopW_inv {g : RG} {rb : RS} {keep : Sto → Prop} {P : Out → Sto → Prop} (J : List Xv → Sl → Sto → Prop)
    (hs : ∀ x xs σ M, J (x :: xs) σ M → ∀ C : Sl → Sto → Prop, (∀ σ2 M2, J xs σ2 M2 → C σ2 M2) → keep M ∧ g x σ M fun σ1 M1 => rb σ1 M1 fun o M2 => match o with
      | .nx σ2 => C σ2 M2
      | .ct σ2 => C σ2 M2
      | .bk σ2 => P (.nx σ2) M2
      | .rt v => P (.rt v) M2)
    (he : ∀ σ M, J [] σ M → keep M ∧ P (.nx σ) M) : ∀ (xs : List Xv) (σ : Sl) (M : Sto), J xs σ M → loopW g rb keep P xs σ M
  | [], σ, M, h => he σ M h
  | x :: xs, σ, M, h => hs x xs σ M h (loopW g rb keep P xs) fun σ2 M2 h2 => loopW_inv J hs he xs σ2 M2 h2
theorem while_inv {c : RT} {rb : RS} {P : Out → Sto → Prop} (J : Nat → Sl → Sto → Prop)
    (hs : ∀ n σ M, J n σ M → ∀ C : Sl → Sto → Prop, (∀ m σ2 M2, m < n → J m σ2 M2 → C σ2 M2) → c σ M fun k M1 => if k = true then rb σ M1 fun o M2 => match o with
      | .nx σ2 => C σ2 M2
      | .ct σ2 => C σ2 M2
      | .bk σ2 => P (.nx σ2) M2
      | .rt x => P (.rt x) M2
    else P (.nx σ) M1) (n : Nat) (σ : Sl) (M : Sto) (h : J n σ M) : rWhile c rb σ M P := by
  refine ⟨n + 1, ?_⟩
  have key : ∀ (f m : Nat) (σ : Sl) (M : Sto), m < f → J m σ M → whileW c rb P f σ M := by
    intro f
    induction f with
    | zero => intro m σ M h; omega
    | succ f ih =>
      intro m σ M hm hj
      exact hs m σ M hj (whileW c rb P f) fun m2 σ2 M2 h2 j2 => ih m2 σ2 M2 (by omega) j2
  exact key (n + 1) n σ M (Nat.lt_succ_self n) h
/-! ### a fresh list, as data or as a cell, as the proof likes -/
def rCh (r : RF) : RE := fun σ M P => r σ M fun xs M1 => (ifS (fzL M1 xs) fun q => P (.d (.list q.1)) q.2) ∨ P (.c M1.length) (M1 ++ [.lst xs])
theorem snd_rCh {K : PySem.W.Frag} {t : TE} {r : RF} (h : SndF K t r) : Snd K t (rCh r) := by
  intro W M H σ σx P Q I S hr q
  refine h W M H σ σx _ Q I S hr fun W1 M1 H1 a vs xs l1 I1 L1 v1 p1 => ?_
  rcases p1 with p1 | p1
  · obtain ⟨⟨ds, M2⟩, e, p⟩ := ifS_of p1
    obtain ⟨W3, l3, I3, v3⟩ := adopt_frz I1 L1 v1 e
    exact q W3 M2 H1 _ _ (l1.trans l3) I3 v3 p
  · obtain ⟨I2, l2, x2⟩ := I1.adoptCell L1 (o := .lst xs) fun W' l' f' => ⟨f', vs, L1.at_, v1.le l'⟩
    exact q _ _ H1 _ _ (l1.trans l2) I2 x2 p1
theorem SF.ch {X : Cx} {e : Expr} {r : RF} (h : SF X e r) : SE X e (rCh r) := let ⟨t, p, s⟩ := h; ⟨t, p, snd_rCh s⟩
section
variable {X : Cx} {elt tg iter : Expr} {ifs : List Expr} {scope : Scope} {own : List (Str × Nat)} {pos : Pos} {ri : RI} {js : List Nat} {g : RG} {rt : RT} {re : RE}
theorem ss_setLcH {i : Nat} {y : Str} {py : Pos} {spos : Pos} (hc : X.calm = true) (hN : X.N.Nodup) (hi : SI X tg iter ri) (ok : BlkOk X.N X.env.scope scope own) (hb : SLc X elt ifs tg scope js g rt re)
    (hsw : swapsWith (.ListComp elt [⟨tg, iter, ifs, 0⟩] scope pos) (some (.Name y py)) spos.line X.env = pure true) (hy : X.N[i]? = some y := by rfl) (hyl : X.env.scope.names.lookup y = some .local := by rfl)
    (hj : (js.all fun j => (own.map (·.2)).contains j) = true := by rfl) (hs : ∀ x, foldedSetIterable iter X.env x = pure x := by intro _; rfl) :
    SS X (.Assign [.Name y py] (.ListComp elt [⟨tg, iter, ifs, 0⟩] scope pos) spos) (rAsg (rCh (rLc ri g rt re (own.map (·.2)))) (rgName i)) := by
  obtain ⟨wi, pi, si⟩ := hi
  refine ⟨_, ps_setLc (te := tOf X.K re) (tt := ttOf X.K rt) (g := tgOf X.K js g) hc hN hy hyl hsw pi ok (fun s H C cl fp => (hb s H C cl fp).1.can) (fun s H C cl fp => pts_can (hb s H C cl fp).2.1) (fun s H C cl fp => (hb s H C cl fp).2.2.can) hs, fun W M H σ σx P D I S h q => ?_⟩
  refine snd_rCh (sndF_lc si fun j hm => by simpa using List.all_eq_true.mp hj j hm) W M H σ σx _ _ I S h fun W1 M1 H1 v x l1 I1 v1 p1 => ?_
  exact q W1 M1 H1 (.nx (σx.set i (some x))) l1 I1 p1 _ ((S.le l1).set i v1)
end
/-! ### comprehensions that draw -/
theorem lcW_inv {g : RG} {rt : RT} {re : RE} {keep : Sto → Prop} {σw : Sl} {P : List Xv → Sto → Prop} (J : List Xv → List Xv → Sto → Prop)
    (hs : ∀ x xs acc M, J (x :: xs) acc M → ∀ C : List Xv → Sto → Prop, (∀ acc' M', J xs acc' M' → C acc' M') → keep M ∧ g x σw M fun σ1 M1 => rt σ1 M1 fun b M2 => if b = true then re σ1 M2 fun y M3 => acc.length < sizeLine ∧ C (acc ++ [y]) M3 else C acc M2)
    (he : ∀ acc M, J [] acc M → keep M ∧ P acc M) : ∀ (xs acc : List Xv) (M : Sto), J xs acc M → lcW g rt re keep σw P xs acc M
  | [], acc, M, h => he acc M h
  | x :: xs, acc, M, h => by
    obtain ⟨h1, h2⟩ := hs x xs acc M h (fun acc' M' => lcW g rt re keep σw P xs acc' M') fun acc' M' h' => lcW_inv J hs he xs acc' M' h'
    exact ⟨h1, h2⟩
theorem rangeX_succ (lo : Int) (n : Nat) : rangeX lo (n + 1) = .d (.int lo) :: rangeX (lo + 1) n := by
  unfold rangeX
  rw [List.range_succ_eq_map, List.map_cons, List.map_map]
  congr 1
  · simp
  · refine List.map_congr_left fun i _ => ?_
    show Xv.d (.int (lo + ((i + 1 : Nat) : Int))) = .d (.int (lo + 1 + (i : Int)))
    congr 2; omega
theorem rangeX_zero (lo : Int) : rangeX lo 0 = [] := rfl
/-! ### what repr asks of data -/
structure Rp (w dp : Nat) (d : PyData) : Prop where
  lv : PyData.leavesShort 13 d = true
  wt : d.weight ≤ w
  dt : d.depth ≤ dp
  sh : d.showable = true
structure RpAll (w dp : Nat) (ds : List PyData) : Prop where
  lv : PyData.leavesShortAll 13 ds = true
  wt : PyData.weightAll ds ≤ w
  dt : PyData.depthAll ds ≤ dp
  sh : PyData.showableAll ds = true
structure RpKv (w dp : Nat) (ds : List (PyData × PyData)) : Prop where
  lv : PyData.leavesShortKv 13 ds = true
  wt : PyData.weightKv ds ≤ w
  dt : PyData.depthKv ds ≤ dp
  sh : PyData.showableKv ds = true
theorem Rp.none {dp : Nat} : Rp 0 dp .none := ⟨rfl, Nat.le_refl _, Nat.zero_le _, rfl⟩
theorem Rp.str {dp : Nat} {x : Str} {n : Nat} (h : PyData.strOk x = true) (hn : x.cps.size ≤ n) : Rp n dp (.str x) := by
  refine ⟨?_, hn, Nat.zero_le _, rfl⟩
  unfold PyData.leavesShort
  unfold PyData.strOk at h
  rw [Array.all_eq_true_iff_forall_mem] at h
  exact List.all_eq_true.mpr fun c hc => decide_eq_true (by have := h c (by simpa using hc); simp at this; omega)
theorem RpAll.nil {dp : Nat} : RpAll 0 dp [] := ⟨rfl, Nat.le_refl _, Nat.zero_le _, rfl⟩
theorem RpAll.cons {w1 w2 dp : Nat} {d : PyData} {ds : List PyData} (h : Rp w1 dp d) (t : RpAll w2 dp ds) : RpAll (w1 + 1 + w2) dp (d :: ds) := by
  refine ⟨by simp [PyData.leavesShortAll, h.lv, t.lv], ?_, ?_, by simp [PyData.showableAll, h.sh, t.sh]⟩
  · have := h.wt; have := t.wt; simp only [PyData.weightAll]; omega
  · have := h.dt; have := t.dt; simp only [PyData.depthAll]; omega
theorem RpAll.of {w dp : Nat} : ∀ {ds : List PyData} {n : Nat}, ds.length ≤ n → (∀ d ∈ ds, Rp w dp d) → RpAll (n * (w + 1)) dp ds
  | [], n, _, _ => ⟨rfl, Nat.zero_le _, Nat.zero_le _, rfl⟩
  | d :: ds, 0, h, _ => by simp at h
  | d :: ds, n + 1, h, f => by
    have t := RpAll.of (ds := ds) (n := n) (by simpa using h) fun x hx => f x (List.mem_cons_of_mem _ hx)
    have := RpAll.cons (f d List.mem_cons_self) t
    refine ⟨this.lv, ?_, this.dt, this.sh⟩
    have := this.wt
    rw [Nat.succ_mul]; omega
theorem Rp.tup {w dp : Nat} {ds : List PyData} (h : RpAll w dp ds) : Rp w (dp + 1) (.tuple ds) := ⟨h.lv, h.wt, Nat.succ_le_succ h.dt, h.sh⟩
theorem Rp.lst {w dp : Nat} {ds : List PyData} (h : RpAll w dp ds) : Rp w (dp + 1) (.list ds) := ⟨h.lv, h.wt, Nat.succ_le_succ h.dt, h.sh⟩
theorem Rp.mono {w w' dp dp' : Nat} {d : PyData} (h : Rp w dp d) (a : w ≤ w') (b : dp ≤ dp') : Rp w' dp' d := ⟨h.lv, Nat.le_trans h.wt a, Nat.le_trans h.dt b, h.sh⟩
theorem RpKv.nil {dp : Nat} : RpKv 0 dp [] := ⟨rfl, Nat.le_refl _, Nat.zero_le _, rfl⟩
theorem RpKv.cons {w1 w2 w3 dp : Nat} {k d : PyData} {ds : List (PyData × PyData)} (hk : Rp w1 dp k) (h : Rp w2 dp d) (t : RpKv w3 dp ds) : RpKv (w1 + w2 + 2 + w3) dp ((k, d) :: ds) := by
  refine ⟨by simp [PyData.leavesShortKv, hk.lv, h.lv, t.lv], ?_, ?_, by simp [PyData.showableKv, hk.sh, h.sh, t.sh]⟩
  · have := hk.wt; have := h.wt; have := t.wt; simp only [PyData.weightKv]; omega
  · have := hk.dt; have := h.dt; have := t.dt; simp only [PyData.depthKv]; omega
theorem Rp.dict {w dp : Nat} {ds : List (PyData × PyData)} (h : RpKv w dp ds) : Rp w (dp + 1) (.dict ds) := ⟨h.lv, h.wt, Nat.succ_le_succ h.dt, h.sh⟩
theorem Rp.int {dp : Nat} {i : Int} (h : i.natAbs < 10 ^ 12) : Rp 40 dp (.int i) := by
  have hl : i.natAbs.log2 < 40 := by
    by_cases z : i.natAbs = 0
    · rw [z]; decide
    · exact (Nat.log2_lt z).mpr (Nat.lt_of_lt_of_le h (by decide))
  refine ⟨?_, ?_, Nat.zero_le _, ?_⟩
  · unfold PyData.leavesShort
    refine decide_eq_true ?_
    have := int_text_length_le10 (k := 12) (by decide) h
    show (Str.ofString (toString i)).length ≤ 13
    rw [PySem.ofString_length]
    exact this
  · show (if i == 0 then 0 else i.natAbs.log2 + 1) ≤ 40
    split <;> omega
  · show decide _ = true
    exact decide_eq_true (by omega)
theorem gRepr_d {w dp : Nat} {d : PyData} {M : Sto} {P : Xv → Sto → Prop} (h : Rp w dp d) (hw : w ≤ 2 ^ 20) (hd : dp ≤ 60) (hs : (match d with | .list _ => true | .tuple _ => true | .dict _ => true | _ => false) = true) (p : P (.d (.str d.shown)) M) : gRepr [.d d] M P := by
  unfold gRepr
  simp only [pk_d, ifS_some]
  refine ⟨?_, h.sh, Nat.le_trans h.dt hd, PyData.shown_fits (by decide) (by decide) h.lv (Nat.le_trans h.wt hw), p⟩
  cases d <;> first | trivial | simp at hs
/-! ### freezing -/
theorem fz_lst {M : Sto} {j : Nat} {ds : List PyData} (h : M[j]? = some (.lst (dX ds))) : fz M (.c j) = some (.list ds, M.set j (.frz (.list ds))) := by
  show frzN 6 M (.c j) = _
  unfold frzN
  simp only [h]
  have : frzLf (frzN 5) M (dX ds) = some (ds, M) := frzL_d 5 M ds
  simp only [this, h]
theorem fz_dic {M : Sto} {j : Nat} {ps : List (Key × PyData)} (h : M[j]? = some (.dic (ps.map fun p => (p.1, Xv.d p.2)))) : fz M (.c j) = some (.dict (ps.map fun p => (kD p.1, p.2)), M.set j (.frz (.dict (ps.map fun p => (kD p.1, p.2))))) := by
  show frzN 6 M (.c j) = _
  unfold frzN
  simp only [h]
  have e1 : (ps.map fun p => (p.1, Xv.d p.2)).map (·.2) = dX (ps.map (·.2)) := by rw [dX, List.map_map, List.map_map]; rfl
  have e2 : frzLf (frzN 5) M (dX (ps.map (·.2))) = some (ps.map (·.2), M) := frzL_d 5 M _
  simp only [e1, e2, h]
  have e3 : ((ps.map fun p => (p.1, Xv.d p.2)).map fun p => kD p.1).zip (ps.map (·.2)) = ps.map fun p => (kD p.1, p.2) := by
    rw [List.map_map]
    clear h e1 e2
    induction ps with
    | nil => rfl
    | cons p ps ih => simpa using ih
  simp only [e3]
theorem putX_new {κ : Type} [DecidableEq κ] {acc : List (κ × Xv)} {k : κ} {x : Xv} (h : k ∉ acc.map (·.1)) : putX acc k x = acc ++ [(k, x)] := by
  unfold putX
  rw [if_neg]
  intro z
  obtain ⟨p, hp, e⟩ := List.any_eq_true.mp z
  exact h (List.mem_map.mpr ⟨p, hp, of_decide_eq_true e⟩)
theorem mergeX_nodup : ∀ {kvs acc : List (Key × Xv)}, ((acc ++ kvs).map (·.1)).Nodup → mergeX acc kvs = acc ++ kvs
  | [], acc, _ => by simp [mergeX]
  | p :: kvs, acc, h => by
    have h1 : p.1 ∉ acc.map (·.1) := fun z => by
      rw [List.map_append, List.map_cons, List.nodup_append] at h
      exact h.2.2 _ z _ List.mem_cons_self rfl
    show mergeX (putX acc p.1 p.2) kvs = _
    rw [putX_new h1, mergeX_nodup (by simpa using h)]
    simp
/-! ### statements one by one -/
theorem seq_step {a b : RS} {σ : Sl} {M : Sto} {P : Out → Sto → Prop} (h : a σ M fun o M1 => match o with
  | .nx σ1 => b σ1 M1 P
  | o => P o M1) : rSeq a b σ M P := h
theorem seq_cut {a b : RS} {σ : Sl} {M : Sto} {P : Out → Sto → Prop} (J : Sl → Sto → Prop) (h1 : ∀ C : Out → Sto → Prop, (∀ σ1 M1, J σ1 M1 → C (.nx σ1) M1) → a σ M C) (h2 : ∀ σ1 M1, J σ1 M1 → b σ1 M1 P) : rSeq a b σ M P :=
  h1 _ fun σ1 M1 j => h2 σ1 M1 j
end G

set_option Elab.async false
set_option linter.all false
set_option maxRecDepth 100000
set_option maxHeartbeats 4000000
/-! G18: e[::-1], any, all, pop(i), sorted(dict), min of texts. -/
namespace G
open PySem PySem.Spec PyProof.Rows L2

/-! ### e[::-1], a list -/
def tRev (K : PySem.W.Frag) (te : TE) (tk : TO) : TE := fun σ H Q => te σ H fun x H1 => tk σ H1 fun k H2 => ∃ a xs, k = some (-1) ∧ x = .ref a ∧ SqL K H2 a xs ∧ ∀ p, H2 p = none → Q (.ref p) (upd H2 p (.lst xs.reverse))
section
variable {X : Cx} {e st : Expr} {te : TE} {tk : TO} {pos p2 : Pos}
theorem pe_rev (he : PE X e te) (hk : PO X (some st) tk)
    (hss : ∀ a b, ∃ ops, subscripted (.Slice none none (some st) p2) false (.ref a) (.ref b) = operate ops (getItem (.ref a) (.ref b)) := by exact fun a b => ⟨_, by with_unfolding_all rfl⟩) :
    PE X (.Subscript e (.Slice none none (some st) p2) pos) (tRev X.K te tk) := by
  refine ⟨fun pins s σ H Q I h => ?_⟩
  refine Subscript_ (thn (he.run pins s σ H _ I h) fun v s1 ⟨x, H1, I1, r1, q1⟩ => ?_)
  refine wpAny_Slice ?_
  refine wpAny_pure (wpAny_pure ?_)
  refine thn (hk.run pins s1 σ H1 _ I1 q1) fun vk s3 ⟨k, H3, I3, pk, q3⟩ => ?_
  obtain ⟨a, xs, rfl, rfl, hs, q⟩ := q3
  cases r1
  have I4 : Inv X pins σ H3 { s3 with heap := s3.heap.push { cls := .type "slice", data := .fields #[.none, .none, vk] } } := I3.kept (t' := s3.toks) fun b ob q => Heap.get?_push_of_some _ q
  obtain ⟨its, r, ht, hz⟩ := I4.list hs
  obtain ⟨ops, eo⟩ := hss a s3.heap.objs.size
  show wpAny (model X.prog X.w) X.A (subscriptTail e (.Slice none none (some st) p2) (.ref a) (.ref s3.heap.objs.size)) (EP X pins σ Q) X.xe { s3 with heap := s3.heap.push { cls := .type "slice", data := .fields #[.none, .none, vk] } }
  refine tail_any (ops := ops) ht.isList.typeIs slot_list_getitem.lookup ?_ eo
  refine wpAny_getItem_list_slice ht.isList (Heap.IsSliceOf.new ..) .none .none pk (by decide) ?_ (by rw [List.size_toArray, ← r.length]; exact hz)
  rw [PySem.W.krv_pick]
  refine ⟨.ref _, _, I4.laid (t' := s3.toks) (o := .lst xs.reverse) (fun b ob q => Heap.get?_push_of_some _ q) (Nat.le_refl _) ?_, rfl, q _ (I4.hok.fresh (Nat.le_refl _))⟩
  exact ⟨by rw [List.length_reverse]; exact hz, _, 0, r.reverse, Heap.get?_push_size _ rfl⟩
end
theorem Paired.reverseP {α β : Type} {F : α → β → Prop} : ∀ {l₁ : List α} {l₂ : List β}, Paired F l₁ l₂ → Paired F l₁.reverse l₂.reverse
  | _, _, .nil => .nil
  | a :: l₁, b :: l₂, .cons h t => by
    rw [List.reverse_cons, List.reverse_cons]
    exact Paired.appendP (Paired.reverseP t) (.cons h .nil)
where
  Paired.appendP {α β : Type} {F : α → β → Prop} : ∀ {l₁ m₁ : List α} {l₂ m₂ : List β}, Paired F l₁ l₂ → Paired F m₁ m₂ → Paired F (l₁ ++ m₁) (l₂ ++ m₂)
    | _, _, _, _, .nil, r => r
    | _, _, _, _, .cons h t, r => .cons h (Paired.appendP t r)
def rRevF (re : RE) (rk : Sl → Sto → (Option Int → Sto → Prop) → Prop) : RF := fun σ M P => re σ M fun x M1 => rk σ M1 fun k M2 => k = some (-1) ∧ match hd M2 x with
  | .lst xs => P xs.reverse M2
  | _ => False
section
variable {X : Cx} {e st : Expr} {re : RE} {rk : Sl → Sto → (Option Int → Sto → Prop) → Prop} {pos p2 : Pos}
theorem sf_rev (he : SE X e re) (hk : SO X (some st) rk)
    (hss : ∀ a b, ∃ ops, subscripted (.Slice none none (some st) p2) false (.ref a) (.ref b) = operate ops (getItem (.ref a) (.ref b)) := by exact fun a b => ⟨_, by with_unfolding_all rfl⟩) :
    SF X (.Subscript e (.Slice none none (some st) p2) pos) (rRevF re rk) := by
  obtain ⟨te, pe, se⟩ := he
  obtain ⟨tk, pk, sk⟩ := hk
  refine ⟨_, pe_rev pe pk hss, fun W M H σ σx P Q I S hr q => ?_⟩
  refine se W M H σ σx _ _ I S hr fun W1 M1 H1 v x l1 I1 v1 p1 => ?_
  refine sk W1 M1 H1 σ σx _ _ I1 (S.le l1) p1 fun W3 M3 H3 u l3 I3 p3 => ?_
  have v3 := v1.le l3
  obtain ⟨rfl, p3⟩ := p3
  split at p3
  · rename_i xs e1
    obtain ⟨a, vs, rfl, h1, h2⟩ := lstH I3 v3 e1
    refine ⟨a, vs, rfl, rfl, h1, fun p' hp => ?_⟩
    obtain ⟨I4, L4⟩ := I3.loose hp (.lst vs.reverse)
    exact q W3 M3 _ _ _ _ (l1.trans l3) I4 L4 (Paired.reverseP h2) p3
  · exact p3.elim
end

/-! ### any, all -/
def boolsX : List Xv → Option (List Bool)
  | [] => some []
  | .d (.bool i) :: xs => (boolsX xs).map (i :: ·)
  | _ :: _ => none
theorem boolsX_of : ∀ {xs : List Xv} {ns : List Bool}, boolsX xs = some ns → xs = ns.map fun i => .d (.bool i)
  | [], _, h => by cases h; rfl
  | .d (.bool i) :: xs, ns, h => by
    unfold boolsX at h
    cases e : boolsX xs with
    | none => rw [e] at h; cases h
    | some m => rw [e] at h; cases h; rw [boolsX_of e]; rfl
  | .c _ :: _, _, h => by cases h
  | .d .none :: _, _, h => by cases h
  | .d (.int _) :: _, _, h => by cases h
  | .d (.str _) :: _, _, h => by cases h
  | .d (.list _) :: _, _, h => by cases h
  | .d (.tuple _) :: _, _, h => by cases h
  | .d (.dict _) :: _, _, h => by cases h
theorem boolsX_map (ns : List Bool) : boolsX (ns.map fun i => .d (.bool i)) = some ns := by
  induction ns with
  | nil => rfl
  | cons n ns ih => show (boolsX (ns.map fun i => .d (.bool i))).map (n :: ·) = _; rw [ih]; rfl
theorem VXs.bools {K : PySem.W.Frag} {W : Wd} : ∀ {ns : List Bool} {vs : List V}, VXs K W vs (ns.map fun i => .d (.bool i)) → vs = ns.map V.bl
  | [], _, h => by cases h; rfl
  | n :: ns, _, h => by
    cases h with
    | cons a r =>
      have a : Dq K W.F _ (.bool n) := a
      cases a
      rw [VXs.bools r]; rfl
def gBoo (f : List Bool → Bool) : GL := fun xs M P => match xs with
  | [x] => match hd M x with
    | .lst ys => ifS (boolsX ys) fun bs => P (.d (.bool (f bs))) M
    | _ => False
  | _ => False
abbrev gAny : GL := gBoo fun bs => bs.any id
abbrev gAll : GL := gBoo fun bs => bs.all id
theorem bx_any {X : Cx} (hc : X.calm = true) : BX X (.builtin "any") gAny := by
  refine ⟨_, cr_any hc, fun W M H vs xs P Q I hv hg q => ?_⟩
  unfold gAny gBoo at hg
  split at hg
  · obtain ⟨v, rfl, v1⟩ := vxs1 hv
    split at hg
    · rename_i ys e
      obtain ⟨a, us, rfl, h1, h2⟩ := lstH I v1 e
      obtain ⟨ns, e2, p⟩ := ifS_of hg
      have := boolsX_of e2
      subst this
      have := VXs.bools h2
      subst this
      exact ⟨a, ns, rfl, h1, q W M H _ (.d (.bool _)) (.refl W) I (show Dq _ _ _ _ from .bl _) p⟩
    · exact hg.elim
  · exact hg.elim
theorem bx_all {X : Cx} (hc : X.calm = true) : BX X (.builtin "all") gAll := by
  refine ⟨_, cr_all hc, fun W M H vs xs P Q I hv hg q => ?_⟩
  unfold gAll gBoo at hg
  split at hg
  · obtain ⟨v, rfl, v1⟩ := vxs1 hv
    split at hg
    · rename_i ys e
      obtain ⟨a, us, rfl, h1, h2⟩ := lstH I v1 e
      obtain ⟨ns, e2, p⟩ := ifS_of hg
      have := boolsX_of e2
      subst this
      have := VXs.bools h2
      subst this
      exact ⟨a, ns, rfl, h1, q W M H _ (.d (.bool _)) (.refl W) I (show Dq _ _ _ _ from .bl _) p⟩
    · exact hg.elim
  · exact hg.elim

/-! ### xs.pop(i) -/
def rPopI (ro ri : RE) : RE := fun σ M P => ro σ M fun o M1 => isLst M1 o ∧ ri σ M1 fun i M2 => match o, i with
  | .c j, .d (.int i) => match M2[j]? with
    | some (.lst xs) => -(2 ^ 63) ≤ i ∧ i < 2 ^ 63 ∧ ifS (ixN xs.length i) fun k => ifS xs[k]? fun y => P y (M2.set j (.lst (xs.eraseIdx k)))
    | _ => False
  | _, _ => False
theorem VXs.eraseIdx {K : PySem.W.Frag} {W : Wd} : ∀ {vs : List V} {xs : List Xv} (k : Nat), VXs K W vs xs → VXs K W (vs.eraseIdx k) (xs.eraseIdx k)
  | _, _, _, .nil => .nil
  | _, _, 0, .cons _ t => t
  | _, _, k + 1, .cons h t => .cons h (VXs.eraseIdx k t)
section
variable {X : Cx} {o e : Expr} {ro re : RE} {apos cpos : Pos}
theorem se_popI (ho : SE X o ro) (he : SE X e re) (hbase : attributeBase o "pop" X.env (eval o X.env) = eval o X.env := by rfl)
    (hfew : ((backTo cpos (starEach (e :: []) X.env)).all (fun x => !x.1) && (backToKw cpos (keywordEach [] X.env)).all (fun x => x.1.isSome)
      && decide ((e :: ([] : List Expr)).length + ([] : List Keyword).length + (if ([] : List Keyword).isEmpty then 0 else 1) < 30)) = true := by rfl)
    (hline : (apos.endLine == cpos.line) = true := by rfl) (hs : starEach (e :: []) X.env = (false, eval e X.env) :: starEach [] X.env := by rfl) (hplain : (backTo cpos (starEach [] X.env)).any (·.1) = false := by rfl) :
    SE X (.Call (.Attribute o "pop" apos) [e] [] cpos) (rPopI ro re) := by
  obtain ⟨to, po, so⟩ := ho
  obtain ⟨te, pe, se⟩ := he
  refine ⟨_, pe_bm PySem.F.plainAttrs_list PySem.F.slot_list_pop PySem.F.type_list_pop mt_popAt po (pa_cons pe pa_nil hs) hbase hfew hline hs hplain, fun W M H σ σx P Q I S hr q => ?_⟩
  refine so W M H σ σx _ _ I S hr fun W1 M1 H1 v x l1 I1 v1 p1 => ⟨isLst_ok I1 v1 p1.1, ?_⟩
  refine se W1 M1 H1 σ σx _ _ I1 (S.le l1) p1.2 fun W2 M2 H2 u y l2 I2 v2 p2 => ?_
  split at p2
  · rename_i j i
    have v1' := v1.le l2
    obtain ⟨a, rfl, ha⟩ := v1'
    have v2 : Dq X.K W2.F u (.int i) := v2
    cases v2
    split at p2
    · rename_i xs em
      obtain ⟨f0, vs, h1, h2⟩ := I2.ob j a _ ha em
      obtain ⟨b0, b1, p2⟩ := p2
      obtain ⟨k, ek, p2⟩ := ifS_of p2
      obtain ⟨y, ey, p⟩ := ifS_of p2
      obtain ⟨z, e2, v3⟩ := h2.get ey
      rw [← h2.length] at ek
      refine ⟨a, vs, i, k, z, rfl, rfl, h1, b0, b1, (ixN_seq ek).1, e2, ?_⟩
      have I3 := I2.write (u := .lst (vs.eraseIdx k)) (o := .lst (xs.eraseIdx k)) ha f0 ⟨f0, _, upd_same, VXs.eraseIdx k h2⟩
      exact q W2 _ _ _ y (l1.trans l2) I3 v3 p
    · exact p2.elim
  · exact p2.elim
end

/-! ### sorted(d) of a dict with texts as keys -/
def strKeys {β : Type} : List (PyData × β) → Option (List Str)
  | [] => some []
  | (.str x, _) :: r => (strKeys r).map (x :: ·)
  | _ :: _ => none
theorem strKeys_ok {K : PySem.W.Frag} {W : Wd} : ∀ {vs : List (Key × V)} {kvs : List (PyData × Xv)} {ks : List Str}, Paired (fun p q => kD p.1 = q.1 ∧ VX K W p.2 q.2) vs kvs → strKeys kvs = some ks → vs.map (·.1) = ks.map Sum.inr
  | [], [], ks, _, e => by cases e; rfl
  | (k, v) :: vs, (d, x) :: kvs, ks, .cons h t, e => by
    obtain ⟨h1, _⟩ := h
    have h1 : kD k = d := h1
    subst h1
    cases k with
    | inl i => cases e
    | inr z =>
      have e : (strKeys kvs).map (z :: ·) = some ks := e
      cases e2 : strKeys kvs with
      | none => rw [e2] at e; cases e
      | some m =>
        rw [e2] at e
        cases e
        rw [List.map_cons, List.map_cons, strKeys_ok t e2]
def gSort2 : GLF := fun xs M P => match xs with
  | [x] => match hd M x with
    | .lst ys => ifS (datX ys) fun ds => Srt ds ∧ P (dX (sortD ds)) M
    | .dic kvs => ifS (strKeys kvs) fun ks => ks.length < 64 ∧ ∀ ys : List Str, ys.Perm ks → sortedS ys = true → P (dX (ys.map .str)) M
    | _ => False
  | _ => False
theorem strs_X {K : PySem.W.Frag} {W : Wd} : ∀ ns : List Str, VXs K W (ns.map V.str) (dX (ns.map .str))
  | [] => .nil
  | n :: ns => .cons (show Dq K W.F _ _ from .str n) (strs_X ns)
theorem bxf_sorted2 {X : Cx} {k : Nat} (hr : Rm k X) : BXF X (.builtin "sorted") gSort2 := by
  refine ⟨_, CallR.or (call_sortG hr) (call_sortedD hr.calm), fun W M H vs xs P Q I hv hg q => ?_⟩
  unfold gSort2 at hg
  split at hg
  · obtain ⟨v, rfl, v1⟩ := vxs1 hv
    split at hg
    · rename_i ys e
      obtain ⟨a, us, rfl, h1, h2⟩ := lstH I v1 e
      obtain ⟨ds, e2, st, p⟩ := ifS_of hg
      have := datX_of e2
      subst this
      refine .inl ⟨W.F, a, us, ds, rfl, h1, SameR.of I.sf, VXs.toD h2, st, fun p' out hp ho => ?_⟩
      obtain ⟨I2, L2⟩ := I.loose hp (.lst out)
      exact q W M _ p' out _ (.refl W) I2 L2 (VXs.ofD ho) p
    · rename_i kvs e
      obtain ⟨ks, e2, h64, p⟩ := ifS_of hg
      obtain ⟨a, rfl, us, h1, h2⟩ := dicH I v1 e
      refine .inr ⟨a, us, ks, rfl, h1, strKeys_ok h2 e2, h64, fun ys p' pm so hp => ?_⟩
      obtain ⟨I4, L4⟩ := I.loose hp (.lst (ys.map V.str))
      exact q W M _ _ _ _ (.refl W) I4 L4 (strs_X ys) (p ys pm so)
    · exact hg.elim
  · exact hg.elim

/-! ### min of texts -/
theorem str_alike (a b : Str) : PySem.W.alike (.str a) (.str b) = true := by simp [PySem.W.alike]
theorem strs_alike (ss : List Str) : PySem.W.AlikeAll (ss.map .str) := by
  refine ⟨fun x hx y hy => ?_, fun x hx => ?_⟩
  · obtain ⟨a, _, rfl⟩ := List.mem_map.mp hx
    obtain ⟨b, _, rfl⟩ := List.mem_map.mp hy
    exact str_alike a b
  · obtain ⟨a, _, rfl⟩ := List.mem_map.mp hx
    simp
theorem strs_depth (ss : List Str) : PyData.depthAll (ss.map .str) = 0 := by
  induction ss with
  | nil => rfl
  | cons s ss ih => simp [PyData.depthAll, PyData.depth, ih]
theorem vals_at : ∀ {xs : List V} {us : List Value} {i : Nat} {v : Value}, Vals xs us → us[i]? = some v → ∃ x, xs[i]? = some x ∧ L2.RelV x v
  | _, _, _, _, .nil, h => by simp at h
  | _, _, 0, _, .cons h _, e => by simp at e; subst e; exact ⟨_, rfl, h⟩
  | _, _, i + 1, v, .cons _ r, e => by
    obtain ⟨x, h1, h2⟩ := vals_at (i := i) (v := v) r (by simpa using e)
    exact ⟨x, by simpa using h1, h2⟩
theorem reads_strs {h : Heap} : ∀ {ss : List Str} {us : List Value}, Vals (ss.map V.str) us → ∃ as, ReadsAll h us (ss.map .str) as
  | [], _, r => by cases r; exact ⟨_, .nil⟩
  | s :: ss, _, r => by
    cases r with
    | cons r1 r2 =>
      obtain ⟨t, rfl⟩ := r1
      obtain ⟨as, q⟩ := reads_strs (h := h) r2
      exact ⟨_, .cons (.str s t) q⟩
def rMinS (K : PySem.W.Frag) : List V → Hp → VK → Prop := fun xs H Q => ∃ (a : Addr) (s : Str) (ss : List Str), xs = [.ref a] ∧ SqL K H a ((s :: ss).map V.str) ∧ ∀ y ∈ s :: ss, PySem.W.minD (.str s) (ss.map .str) = .str y → Q (.str y) H
theorem call_minS {X : Cx} {k : Nat} (hr : Rm k X) : CallR X (.builtin "min") (rMinS X.K) := by
  intro pins s σ H xs us Q I r h
  obtain ⟨a, z, ss, rfl, hs, q⟩ := h
  obtain ⟨u, rfl, ru⟩ := vals1 r
  cases ru
  obtain ⟨its, rv, hl, _⟩ := I.list hs
  obtain ⟨as, hrd⟩ := reads_strs (h := s.heap) rv
  have hu := hr.hu64
  refine PySem.W.min_list_data (x := .str z) (xs := ss.map .str) (I.ok.hd hr.calm) hl.isList (by simpa using hrd) (strs_alike (z :: ss)) (by show X.A.units + 1 + PyData.depthAll ((z :: ss).map .str) < cLine; rw [strs_depth]; omega) fun i v h' tk bs hi hb hk => ?_
  have hi : its[i]? = some v := by simpa using hi
  obtain ⟨x, e1, e2⟩ : ∃ x, ((z :: ss).map V.str)[i]? = some x ∧ L2.RelV x v := vals_at rv hi
  obtain ⟨y, hy, rfl⟩ := List.mem_map.mp (List.mem_of_getElem? e1)
  obtain ⟨t, rfl⟩ := e2
  have e3 : PySem.W.minD (.str z) (ss.map .str) = .str y := by
    generalize PySem.W.minD (.str z) (ss.map .str) = d at hb
    cases hb
    rfl
  exact ⟨.str y, H, I.kept hk, ⟨t, rfl⟩, q y hy e3⟩
def strsX : List Xv → Option (List Str)
  | [] => some []
  | .d (.str i) :: xs => (strsX xs).map (i :: ·)
  | _ :: _ => none
theorem strsX_of : ∀ {xs : List Xv} {ns : List Str}, strsX xs = some ns → xs = dX (ns.map .str)
  | [], _, h => by cases h; rfl
  | .d (.str i) :: xs, ns, h => by
    unfold strsX at h
    cases e : strsX xs with
    | none => rw [e] at h; cases h
    | some m => rw [e] at h; cases h; rw [strsX_of e]; rfl
  | .c _ :: _, _, h => by cases h
  | .d .none :: _, _, h => by cases h
  | .d (.int _) :: _, _, h => by cases h
  | .d (.bool _) :: _, _, h => by cases h
  | .d (.list _) :: _, _, h => by cases h
  | .d (.tuple _) :: _, _, h => by cases h
  | .d (.dict _) :: _, _, h => by cases h
theorem strsX_map (ns : List Str) : strsX (dX (ns.map .str)) = some ns := by
  induction ns with
  | nil => rfl
  | cons n ns ih => show (strsX (dX (ns.map .str))).map (n :: ·) = _; rw [ih]; rfl
theorem VXs.strs {K : PySem.W.Frag} {W : Wd} : ∀ {ns : List Str} {vs : List V}, VXs K W vs (dX (ns.map .str)) → vs = ns.map V.str
  | [], _, h => by cases h; rfl
  | n :: ns, _, h => by
    cases h with
    | cons a r =>
      have a : Dq K W.F _ (.str n) := a
      cases a
      rw [VXs.strs r]; rfl
/-- min of a list of texts -/
def gMinS : GL := fun xs M P => match xs with
  | [x] => match hd M x with
    | .lst ys => ifS (strsX ys) fun ss => match ss with
      | s :: t => ∀ y ∈ s :: t, PySem.W.minD (.str s) (t.map .str) = .str y → P (.d (.str y)) M
      | [] => False
    | _ => False
  | _ => False
theorem bx_minS {X : Cx} {k : Nat} (hr : Rm k X) : BX X (.builtin "min") gMinS := by
  refine ⟨_, call_minS hr, fun W M H vs xs P Q I hv hg q => ?_⟩
  unfold gMinS at hg
  split at hg
  · obtain ⟨v, rfl, v1⟩ := vxs1 hv
    split at hg
    · rename_i ys e
      obtain ⟨a, us, rfl, h1, h2⟩ := lstH I v1 e
      obtain ⟨ns, e2, p⟩ := ifS_of hg
      have := strsX_of e2
      subst this
      have := VXs.strs h2
      subst this
      split at p
      · rename_i s t
        exact ⟨a, s, t, rfl, h1, fun y hy e3 => q W M H _ (.d (.str _)) (.refl W) I (show Dq _ _ _ _ from .str _) (p y hy e3)⟩
      · exact p.elim
    · exact hg.elim
  · exact hg.elim

/-! ### texts in order -/
def sLe (a b : Str) : Bool := dLe (.str a) (.str b)
def sortS (l : List Str) : List Str := l.mergeSort sLe
theorem sortD_strs (l : List Str) : sortD (l.map .str) = (sortS l).map .str :=
  (List.map_mergeSort (f := PyData.str) (fun a _ b _ => rfl)).symm
theorem sLe_eq (a b : Str) : sLe a b = !ltCps b.cps.toList a.cps.toList := by
  have : sLe a b = !PySem.W.dataLt (.str b) (.str a) := rfl
  rw [this, PySem.W.dataLt_str, PyProof.Rows.lt_meets]
theorem sLe_trans {a b c : Str} (h1 : sLe a b = true) (h2 : sLe b c = true) : sLe a c = true := dLe_total.trans _ _ _ h1 h2
theorem sLe_anti {a b : Str} (h1 : sLe a b = true) (h2 : sLe b a = true) : a = b := by
  have := dLe_anti (str_alike a b) h1 h2
  cases this; rfl
theorem rising_pw : ∀ (r : List Str) (p : Str), risingS p r = true → (p :: r).Pairwise fun a b => sLe a b = true
  | [], p, _ => by simp
  | x :: r, p, h => by
    have h : (!ltCps x.cps.toList p.cps.toList && risingS x r) = true := h
    rw [Bool.and_eq_true, ← sLe_eq] at h
    have ih := rising_pw r x h.2
    refine List.pairwise_cons.mpr ⟨fun y hy => ?_, ih⟩
    rcases List.mem_cons.mp hy with rfl | hy
    · exact h.1
    · exact sLe_trans h.1 ((List.pairwise_cons.mp ih).1 y hy)
theorem sortedS_pw {l : List Str} (h : sortedS l = true) : l.Pairwise fun a b => sLe a b = true := by
  cases l with
  | nil => simp
  | cons x r => exact rising_pw r x h
theorem strs_all (l : List Str) : PySem.W.AllAlike (l.map .str) := by
  intro a ha b hb
  obtain ⟨x, _, rfl⟩ := List.mem_map.mp ha
  obtain ⟨y, _, rfl⟩ := List.mem_map.mp hb
  exact str_alike x y
theorem sortS_perm (l : List Str) : (sortS l).Perm l := List.mergeSort_perm l sLe
theorem map_str_inj {l m : List Str} (h : l.map PyData.str = m.map .str) : l = m :=
  (List.map_inj_right fun a b e => by cases e; rfl).mp h
theorem sortS_eq {l m : List Str} (p : l.Perm m) : sortS l = sortS m := by
  have := sortD_perm (p.map PyData.str) (strs_all l)
  rw [sortD_strs, sortD_strs] at this
  exact map_str_inj this
theorem sortS_pw (l : List Str) : (sortS l).Pairwise fun a b => sLe a b = true := by
  have h := PySem.W.sort_pairwise dLe_total (l.map .str)
  have e : (l.map PyData.str).mergeSort dLe = (sortS l).map .str := sortD_strs l
  rw [e, List.pairwise_map] at h
  exact h
theorem sortS_of {l m : List Str} (p : l.Perm m) (h : l.Pairwise fun a b => sLe a b = true) : l = sortS m := by
  have h1 : (l.map PyData.str).Pairwise fun a b => dLe a b = true := List.pairwise_map.mpr h
  have h2 : ((sortS m).map PyData.str).Pairwise fun a b => dLe a b = true := List.pairwise_map.mpr (sortS_pw m)
  exact map_str_inj (sorted_perm h1 h2 ((p.trans (sortS_perm m).symm).map _) (strs_all l))
theorem sortedS_eq {l m : List Str} (p : l.Perm m) (h : sortedS l = true) : l = sortS m := sortS_of p (sortedS_pw h)
/-- sorted(d) -/
theorem gSort2_dic {x : Xv} {M : Sto} {kvs : List (PyData × Xv)} {ks : List Str} {P : List Xv → Sto → Prop} (e : hd M x = .dic kvs) (ek : strKeys kvs = some ks) (h64 : ks.length < 64) (h : P (dX ((sortS ks).map .str)) M) : gSort2 [x] M P := by
  show (match hd M x with
    | .lst ys => ifS (datX ys) fun ds => Srt ds ∧ P (dX (sortD ds)) M
    | .dic kvs => ifS (strKeys kvs) fun ks => ks.length < 64 ∧ ∀ ys : List Str, ys.Perm ks → sortedS ys = true → P (dX (ys.map .str)) M
    | _ => False)
  rw [e]
  show ifS (strKeys kvs) _
  rw [ek]
  refine ifS_mk rfl ⟨h64, fun ys p so => ?_⟩
  rw [sortedS_eq p so]
  exact h
/-- sorted of texts -/
theorem srt_strs {ss : List Str} (h : ss.length ≤ sizeLine) : Srt (ss.map .str) := by
  refine ⟨strs_all ss, .inr fun x hx => ?_, fun x hx => ?_, by rw [List.length_map]; exact h⟩
  · obtain ⟨a, _, rfl⟩ := List.mem_map.mp hx
    simp
  · obtain ⟨a, _, rfl⟩ := List.mem_map.mp hx
    exact Nat.zero_le _
theorem gSort2_strs {x : Xv} {M : Sto} {ss : List Str} {P : List Xv → Sto → Prop} (e : hd M x = .lst (dX (ss.map .str))) (h : ss.length ≤ sizeLine) (p : P (dX ((sortS ss).map .str)) M) : gSort2 [x] M P := by
  show (match hd M x with
    | .lst ys => ifS (datX ys) fun ds => Srt ds ∧ P (dX (sortD ds)) M
    | .dic kvs => ifS (strKeys kvs) fun ks => ks.length < 64 ∧ ∀ ys : List Str, ys.Perm ks → sortedS ys = true → P (dX (ys.map .str)) M
    | _ => False)
  rw [e]
  show ifS (datX (dX (ss.map .str))) _
  rw [datX_dX]
  refine ifS_mk rfl ⟨srt_strs h, ?_⟩
  rw [sortD_strs]
  exact p

/-! ### sorted(set(texts)) -/
def addS (l : List Str) (x : Str) : List Str := if x ∈ l then l else x :: l
def uqS (l : List Str) : List Str := l.foldl addS []
/-- the texts of a list, once each, ascending -/
def SU (l : List Str) : List Str := sortS (uqS l)
theorem addS_key (l : List Str) (x : Str) : addK (l.map .inr) (.inr x) = (addS l x).map .inr := by
  unfold addK addS
  by_cases h : x ∈ l
  · rw [if_pos h, if_pos (any_key.mpr (List.mem_map.mpr ⟨x, h, rfl⟩))]
  · rw [if_neg h, if_neg fun z => h ?_]
    · rfl
    · obtain ⟨y, hy, e⟩ := List.mem_map.mp (any_key.mp z)
      cases e; exact hy
theorem foldS_key : ∀ (l a : List Str), (l.map Sum.inr).foldl addK (a.map .inr) = (l.foldl addS a).map .inr
  | [], _ => rfl
  | x :: l, a => by
    rw [List.map_cons, List.foldl_cons, List.foldl_cons, addS_key, foldS_key l]
theorem uniqK_strs (l : List Str) : uniqK (l.map .inr) = (uqS l).map .str := by
  unfold uniqK
  have := foldS_key l []
  rw [List.map_nil] at this
  rw [this, List.map_map]
  rfl
theorem addS_mem {l : List Str} {x y : Str} : y ∈ addS l x ↔ y ∈ l ∨ y = x := by
  unfold addS
  split
  · rename_i h
    exact ⟨.inl, fun q => q.elim id fun e => e ▸ h⟩
  · rw [List.mem_cons]; exact or_comm
theorem foldS_mem : ∀ {l a : List Str} {y : Str}, y ∈ l.foldl addS a ↔ y ∈ a ∨ y ∈ l
  | [], a, y => by simp
  | x :: l, a, y => by
    rw [List.foldl_cons, foldS_mem, addS_mem, List.mem_cons]
    exact or_assoc
theorem foldS_nodup : ∀ {l a : List Str}, a.Nodup → (l.foldl addS a).Nodup
  | [], _, h => h
  | x :: l, a, h => by
    rw [List.foldl_cons]
    refine foldS_nodup ?_
    unfold addS
    split
    · exact h
    · rename_i q; exact List.nodup_cons.mpr ⟨q, h⟩
theorem SU_mem {l : List Str} {y : Str} : y ∈ SU l ↔ y ∈ l := by
  unfold SU
  rw [(sortS_perm _).mem_iff]
  unfold uqS
  rw [foldS_mem]
  simp
theorem SU_nodup (l : List Str) : (SU l).Nodup := (sortS_perm _).nodup_iff.mpr (foldS_nodup List.nodup_nil)
theorem SU_pw (l : List Str) : (SU l).Pairwise fun a b => sLe a b = true := sortS_pw _
theorem SU_len (l : List Str) : (SU l).length ≤ l.length := by
  show (sortS (uqS l)).length ≤ _
  rw [(sortS_perm _).length_eq]
  have key : ∀ (l a : List Str), (l.foldl addS a).length ≤ a.length + l.length := by
    intro l
    induction l with
    | nil => intro a; simp
    | cons x l ih =>
      intro a
      have h := ih (addS a x)
      have : (addS a x).length ≤ a.length + 1 := by unfold addS; split <;> simp
      rw [List.foldl_cons, List.length_cons]; omega
  have h := key l []
  rw [List.length_nil, Nat.zero_add] at h
  exact h
theorem keysX_strs : ∀ l : List Str, keysX (dX (l.map .str)) = some (l.map .inr)
  | [] => rfl
  | x :: l => by
    show (keyOf (.str x)).bind (fun k => (keysX (dX (l.map .str))).map (k :: ·)) = _
    rw [keysX_strs l]; rfl
theorem sset_strs {ss : List Str} {M : Sto} {P : List Xv → Sto → Prop} (hl : ss.length < 4000) (p : P (dX ((SU ss).map .str)) M) : ifS (keysX (dX (ss.map .str))) fun ks => ks.length + 1 < scanBound ∧ PySem.W.AllAlike (ks.map kD) ∧ P (dX (sortD (uniqK ks))) M := by
  rw [keysX_strs]
  refine ifS_mk rfl ⟨?_, ?_, ?_⟩
  · rw [List.length_map]
    have : scanBound = 4096 := rfl
    omega
  · rw [List.map_map]; exact strs_all ss
  · rw [uniqK_strs, sortD_strs]; exact p
end G

set_option Elab.async false
set_option linter.all false
set_option maxRecDepth 100000
set_option maxHeartbeats 8000000
/-! G19: dicts walked, dict(pairs), d.get(k, x), dict comprehensions, isinstance of two types, extend by what is told. -/
namespace G
open PySem PySem.Spec PyProof.Rows L2

/-! ### for k in d: d is data -/
def iDk (te : TE) : TI := fun σ H R => te σ H fun x H1 => ∃ d kvs, x = .ref d ∧ ((∃ o, H1 d = some (.frz o (.dK kvs)) ∧ R (Itk d o kvs) H1) ∨ (H1 d = some (.dK kvs) ∧ ∀ o, R (Itk d o kvs) (upd H1 d (.frz o (.dK kvs)))))
theorem pi_dk {X : Cx} {tg e : Expr} {te : TE} (he : PE X e te) : PI X tg e (iDk te) := by
  refine ⟨fun pins s σ H R I h => ?_⟩
  refine thn (he.run pins s σ H _ I h) fun u s1 ⟨x, H1, I1, rx, d, kvs, ex, q⟩ => ?_
  subst ex
  obtain rfl : u = Value.ref d := rx
  have core : ∀ (o : Obj) (H2 : Hp), Inv X pins σ H2 s1 → H2 d = some (.frz o (.dK kvs)) → R (Itk d o kvs) H2 → wpAny (model X.prog X.w) X.A (pyIter (.ref d)) (PIE X pins σ tg R) X.xe s1 := fun o H2 I2 hd q => by
    obtain ⟨hs, hgd, hx, es, ep, vs, hdt, hsz, kv, hm⟩ := I2.frzK hd
    refine iter_keys hs hgd hx hdt (pi_one (tk := s1.toks) I2 _ (turn_keys _ hdt) ⟨_, Heap.get?_push_size _ rfl, rfl, ?_⟩ q)
    rw [hsz] <;> rfl
  rcases q with ⟨o, hd, q⟩ | ⟨hd, q⟩
  · exact core o H1 I1 hd q
  · obtain ⟨od, I2⟩ := I1.lock hd trivial
    exact core od _ I2 upd_same (q od)
def fzd (M : Sto) : Xv → Option PyData
  | .d d => some d
  | .c i => match M[i]? with
    | some (.frz d) => some d
    | _ => none
theorem fzd_ok {K : PySem.W.Frag} {W : Wd} {M : Sto} {H : Hp} {v : V} {x : Xv} {d : PyData} (I : InvS K W M H) (h : VX K W v x) (e : fzd M x = some d) : Dq K W.F v d := by
  cases x with
  | d d' => cases e; exact h
  | c i =>
    obtain ⟨a, rfl, ha⟩ := h
    have e : (match M[i]? with
      | some (.frz d) => some d
      | _ => none) = some d := e
    split at e
    · rename_i d' em
      cases e
      exact I.ob i a _ ha em
    · cases e
theorem itx_dk {K : PySem.W.Frag} {W : Wd} {a : Addr} {o : Obj} {kvs : List (Key × V)} (h : W.F a = some (.frz o (.dK kvs))) : ItX K W (Itk a o kvs) (dX (kvs.map fun p => kD p.1)) fun _ => True := by
  intro W2 M2 H2 i l I2 _
  have hF := l.f.fz _ _ _ h
  have hH := I2.sf _ _ hF
  refine ⟨fun hi => ⟨hH, by simpa using hi⟩, fun x hx => ?_⟩
  rw [dX, List.map_map, List.getElem?_map] at hx
  cases ek : kvs[i]? with
  | none => rw [ek] at hx; cases hx
  | some p =>
    rw [ek] at hx
    cases hx
    refine ⟨⟨hH, (List.getElem?_eq_some_iff.mp ek).1⟩, fun v H3 y => ?_⟩
    obtain ⟨rfl, k, v', e2, rfl⟩ := y
    rw [ek] at e2
    cases e2
    refine ⟨W2, .refl W2, I2, ?_⟩
    show Dq K W2.F (kV k) (kD k)
    cases k with
    | inl i => exact .int i
    | inr x => exact .str x
theorem InvS.lockF {K : PySem.W.Frag} {W : Wd} {M : Sto} {H : Hp} (I : InvS K W M H) {a : Addr} {u : HO} (h : W.F a = some u) (hp : plainO u) (o : Obj) (hu : ∀ xs, u ≠ .tup xs := by nofun) :
    InvS K ⟨W.θ, upd W.F a (.frz o u), W.G⟩ M (upd H a (.frz o u)) ∧ W.le ⟨W.θ, upd W.F a (.frz o u), W.G⟩ := by
  have l : W.le ⟨W.θ, upd W.F a (.frz o u), W.G⟩ := ⟨⟨fun i a h => h, fun b u' pu r => ?_, fun b hb => ?_, fun b o' u' hb => ?_, fun b xs hb => ?_⟩, rfl⟩
  rotate_left
  · by_cases e : b = a
    · subst e
      have : u' = u := by
        rcases r with r | ⟨o', r⟩
        · rw [h] at r; cases r; rfl
        · rw [h] at r; cases r; exact hp.elim
      subst this
      exact .inr ⟨o, upd_same⟩
    · rcases r with r | ⟨o', r⟩
      · exact .inl (by show upd W.F a _ b = _; rw [upd_ne e]; exact r)
      · exact .inr ⟨o', by show upd W.F a _ b = _; rw [upd_ne e]; exact r⟩
  · show upd W.F a _ b ≠ none
    by_cases e : b = a
    · subst e; rw [upd_same]; simp
    · rw [upd_ne e]; exact hb
  · show upd W.F a _ b = _
    by_cases e : b = a
    · subst e; rw [h] at hb; cases hb; exact hp.elim
    · rw [upd_ne e]; exact hb
  · show upd W.F a _ b = _
    by_cases e : b = a
    · subst e; rw [h] at hb; cases hb; exact absurd rfl (hu xs)
    · rw [upd_ne e]; exact hb
  have ga : W.G a = none := by
    rcases I.fg a with z | z | ⟨xs, z⟩
    · rw [h] at z; cases z
    · exact z
    · rw [h] at z; cases z; exact absurd rfl (hu xs)
  refine ⟨⟨I.len, I.nd, fun i b o' h1 h2 => ?_, fun b x e => ?_, fun b x e => ?_, fun b => ?_, I.tg, fun b hb => ?_⟩, l⟩
  · have ok := I.ob i b o' h1 h2
    by_cases e : b = a
    · subst e
      cases o' with
      | frz d => exact Dq.same l.f ok
      | lst xs => obtain ⟨f0, _⟩ := ok; rw [h] at f0; cases f0
      | tup xs =>
        obtain ⟨us, q, _⟩ := ok
        have := I.sf _ _ h
        rw [q] at this; cases this
        exact absurd rfl (hu us)
      | dic xs => obtain ⟨f0, _⟩ := ok; rw [h] at f0; cases f0
      | dit xs => obtain ⟨f0, _⟩ := ok; rw [h] at f0; cases f0
      | ins C xs => obtain ⟨f0, _⟩ := ok; rw [h] at f0; cases f0
    · exact ok.le l (upd_ne e).symm (upd_ne e)
  · have e : upd W.F a (.frz o u) b = some x := e
    by_cases q : b = a
    · subst q; rw [upd_same] at e ⊢; exact e
    · rw [upd_ne q] at e ⊢; exact I.sf b x e
  · have e : W.G b = some x := e
    rw [upd_ne (show b ≠ a from fun z => by subst z; rw [ga] at e; cases e)]
    exact I.sg b x e
  · by_cases q : b = a
    · subst q; exact .inr (.inl ga)
    · rcases I.fg b with z | z | ⟨xs, z⟩
      · exact .inl (by show upd W.F a _ b = none; rw [upd_ne q]; exact z)
      · exact .inr (.inl z)
      · exact .inr (.inr ⟨xs, by show upd W.F a _ b = _; rw [upd_ne q]; exact z⟩)
  · by_cases q : b = a
    · subst q; rw [upd_same]; simp
    · rw [upd_ne q]; exact I.th b hb
def riDk (r : RE) : RI := fun σ M P => r σ M fun x M1 => match fzd M1 x with
  | some (.dict ps) => P (dX (ps.map (·.1))) (fun _ => True) M1
  | _ => False
theorem si_dk {X : Cx} {tg e : Expr} {r : RE} (h : SE X e r) : SI X tg e (riDk r) := by
  obtain ⟨t, p, s⟩ := h
  refine ⟨_, pi_dk p, fun W M H σ σx P R I S hr q => ?_⟩
  refine s W M H σ σx _ _ I S hr fun W1 M1 H1 v x l1 I1 v1 p1 => ?_
  split at p1
  · rename_i ps e1
    have dq := fzd_ok I1 v1 e1
    generalize ed : PyData.dict ps = dd at dq
    cases dq with
    | @dic a kvs ds hr ha =>
      cases ed
      have hl : (kvs.map fun p => kD p.1).length = ds.length := by
        have := DqAll.length ha
        rw [List.length_map] at this ⊢
        exact this
      rw [show ((kvs.map fun p => kD p.1).zip ds).map (·.1) = kvs.map fun p => kD p.1 from List.map_fst_zip (by omega)] at p1
      refine ⟨a, kvs, rfl, ?_⟩
      rcases hr with hr | ⟨o, hr⟩
      · refine .inr ⟨I1.sf _ _ hr, fun o => ?_⟩
        obtain ⟨I2, l2⟩ := I1.lockF hr trivial o
        exact q _ M1 _ _ _ _ (l1.trans l2) I2 (itx_dk upd_same) p1
      · exact .inl ⟨o, I1.sf _ _ hr, q W1 M1 H1 _ _ _ l1 I1 (itx_dk hr) p1⟩
    | _ => cases ed
  · exact p1.elim

/-! ### dict(pairs) -/
def pairD : PyData → Option (Key × PyData)
  | .tuple [k, x] => (keyOf k).map fun kk => (kk, x)
  | _ => none
def pairsD : List PyData → Option (List (Key × PyData))
  | [] => some []
  | d :: r => (pairD d).bind fun p => (pairsD r).map (p :: ·)
def xP (kvs : List (Key × PyData)) : List (Key × Xv) := kvs.map fun p => (p.1, .d p.2)
theorem pairD_of {d : PyData} {p : Key × PyData} (h : pairD d = some p) : ∃ k, d = .tuple [k, p.2] ∧ keyOf k = some p.1 := by
  unfold pairD at h
  split at h
  · rename_i k x
    cases e : keyOf k with
    | none => rw [e] at h; cases h
    | some kk => rw [e] at h; cases h; exact ⟨k, rfl, e⟩
  · cases h
theorem pairs_dq {K : PySem.W.Frag} {W : Wd} {M : Sto} {H : Hp} (I : InvS K W M H) : ∀ {ds : List PyData} {us : List V} {kvs : List (Key × PyData)}, DqAll K W.F us ds → pairsD ds = some kvs →
    ∃ (ps : List Addr) (kv : List (Key × V)), us = ps.map V.ref ∧ Paired (fun p q => SqT K H p [kV q.1, q.2]) ps kv ∧ KVX K W kv (xP kvs)
  | [], _, kvs, .nil, e => by cases e; exact ⟨[], [], rfl, .nil, .nil⟩
  | d :: ds, _, kvs, .cons h t, e => by
    have e : (pairD d).bind (fun p => (pairsD ds).map (p :: ·)) = some kvs := e
    cases e1 : pairD d with
    | none => rw [e1] at e; cases e
    | some p =>
      rw [e1] at e
      have e : (pairsD ds).map (p :: ·) = some kvs := e
      cases e2 : pairsD ds with
      | none => rw [e2] at e; cases e
      | some r =>
        rw [e2] at e
        cases e
        obtain ⟨ps, kv, h1, h2, h3⟩ := pairs_dq I t e2
        obtain ⟨k, rfl, ek⟩ := pairD_of e1
        have := keyOf_of ek
        subst this
        cases h with
        | @tup a xs _ hs ha =>
          cases ha with
          | cons q1 q2 =>
            cases q2 with
            | cons q3 q4 =>
              cases q4
              have := keyV q1
              subst this
              exact ⟨a :: ps, (p.1, _) :: kv, by rw [h1]; rfl, .cons ((SameR.of I.sf).sqT hs) h2, .cons ⟨rfl, q3⟩ h3⟩
def gDict : GL := fun xs M P => match xs with
  | [x] => match hd M x with
    | .lst ys => ifS (datX ys) fun ds => ifS (pairsD ds) fun kvs => P (.c M.length) (M ++ [.dic (mergeX [] (xP kvs))])
    | _ => False
  | _ => False
theorem bx_dict {X : Cx} (hc : X.calm = true) : BX X (.type "dict") gDict := by
  refine ⟨_, call_dictP hc, fun W M H vs xs P Q I hv hg q => ?_⟩
  unfold gDict at hg
  split at hg
  · obtain ⟨v, rfl, v1⟩ := vxs1 hv
    split at hg
    · rename_i ys e
      obtain ⟨a, us, rfl, h1, h2⟩ := lstH I v1 e
      obtain ⟨ds, e2, hg⟩ := ifS_of hg
      obtain ⟨kvs, e3, p⟩ := ifS_of hg
      have := datX_of e2
      subst this
      obtain ⟨ps, kv, rfl, h3, h4⟩ := pairs_dq I (VXs.toD h2) e3
      refine ⟨a, ps, kv, rfl, h1, h3, fun p' hp => ?_⟩
      obtain ⟨I1, L1⟩ := I.loose hp (.dK (mergeK [] kv))
      have kx : KVX X.K W (mergeK [] kv) (mergeX [] (xP kvs)) := KVX.merge h4 .nil
      obtain ⟨I2, l2, x2⟩ := I1.adoptCell L1 (o := .dic (mergeX [] (xP kvs))) fun W' l' f' => ⟨f', _, L1.at_, kx.le l'⟩
      exact q _ _ _ _ _ l2 I2 x2 p
    · exact hg.elim
  · exact hg.elim

/-! ### d.get(k, x) -/
def isDic (M : Sto) (x : Xv) : Prop := match hd M x with
  | .dic _ => True
  | _ => False
theorem isDic_ok {K : PySem.W.Frag} {W : Wd} {M : Sto} {H : Hp} {v : V} {x : Xv} (I : InvS K W M H) (h : VX K W v x) (e : isDic M x) : ∃ a, v = .ref a ∧ IsD H a := by
  unfold isDic at e
  split at e
  · rename_i kvs e1
    obtain ⟨a, rfl, vs, h1, _⟩ := dicH I h e1
    exact ⟨a, rfl, .inl ⟨vs, h1⟩⟩
  · exact e.elim
def gGet (o k z : Xv) (M : Sto) (P : Xv → Sto → Prop) : Prop := match hd M o, hd M k with
  | .dic kvs, .sc d => ifS (keyOf d) fun _ => P ((dget kvs d).getD z) M
  | _, _ => False
def rGet2 (ro rk rd : RE) : RE := fun σ M P => ro σ M fun o M1 => isDic M1 o ∧ rk σ M1 fun k M2 => rd σ M2 fun z M3 => gGet o k z M3 P
theorem gGet_s {M : Sto} {o z : Xv} {n : Str} {kvs : List (PyData × Xv)} (e : hd M o = .dic kvs) (P : Xv → Sto → Prop) : gGet o (.d (.str n)) z M P = P ((dget kvs (.str n)).getD z) M := by
  unfold gGet
  rw [e]
  rfl
theorem isDic_of {M : Sto} {o : Xv} {kvs : List (PyData × Xv)} (e : hd M o = .dic kvs) : isDic M o := by
  unfold isDic
  rw [e]
  trivial
section
variable {X : Cx} {o e f : Expr} {ro rk rd : RE} {apos cpos : Pos}
theorem se_get2 (hu : X.A.units + 1 < cLine) (ho : SE X o ro) (he : SE X e rk) (hf : SE X f rd) (m : M2 X o "get" apos e f cpos := by exact ⟨by rfl, by rfl, by rfl, by rfl⟩) : SE X (.Call (.Attribute o "get" apos) [e, f] [] cpos) (rGet2 ro rk rd) := by
  obtain ⟨to, po, so⟩ := ho
  obtain ⟨te, pe, se⟩ := he
  obtain ⟨tf, pf, sf⟩ := hf
  refine ⟨_, pe_dget2 hu po pe pf m, fun W M H σ σx P Q I S hr q => ?_⟩
  refine so W M H σ σx _ _ I S hr fun W1 M1 H1 v x l1 I1 v1 p1 => ?_
  obtain ⟨hd1, p1⟩ := p1
  obtain ⟨a, rfl, hA⟩ := isDic_ok I1 v1 hd1
  refine ⟨a, rfl, hA, ?_⟩
  refine se W1 M1 H1 σ σx _ _ I1 (S.le l1) p1 fun W2 M2 H2 u y l2 I2 v2 p2 => ?_
  refine sf W2 M2 H2 σ σx _ _ I2 (S.le (l1.trans l2)) p2 fun W3 M3 H3 w z l3 I3 v3 p3 => ?_
  unfold gGet at p3
  split at p3
  · rename_i kvs d e1 e2
    obtain ⟨kk, ek, p⟩ := ifS_of p3
    obtain ⟨a', ea, _, h⟩ := dGet_ok I3 (v1.le (l2.trans l3)) e1 (scAny I3 (v2.le l3) e2) ek
    cases ea
    have l123 := l1.trans (l2.trans l3)
    rcases h with ⟨h1, h2⟩ | ⟨w', y', h1, h2, h3⟩
    · rw [h1] at p
      exact ⟨none, h2, q W3 M3 H3 w z l123 I3 v3 p⟩
    · rw [h1] at p
      exact ⟨some w', h2, q W3 M3 H3 w' y' l123 I3 h3 p⟩
  · exact p3.elim
end

/-! ### isinstance(x, (c1, c2)) -/
def isiAny (t : String) : List String → Option Bool
  | [] => some false
  | c :: r => match isiT t c with
    | some true => some true
    | some false => isiAny t r
    | none => none
theorem isiAny_ok (K : PySem.W.Frag) {t : String} : ∀ {cs : List String} {b : Bool}, isiAny t cs = some b → PySem.W.kitAny K (.type t) (cs.map .type) = some b
  | [], b, h => by cases h; rfl
  | c :: r, b, h => by
    have h : (match isiT t c with
      | some true => some true
      | some false => isiAny t r
      | none => none) = some b := h
    show (match PySem.W.kitOne K (.type t) (.type c) with
      | some true => some true
      | some false => PySem.W.kitAny K (.type t) (r.map .type)
      | none => none) = some b
    cases e : isiT t c with
    | none => rw [e] at h; cases h
    | some x =>
      rw [isiT_ok K e]
      rw [e] at h
      cases x with
      | true => exact h
      | false => exact isiAny_ok K h
def rIsi2 (cs : List String) (ra : RE) : RE := fun σ M P => ra σ M fun x M1 => ifS (tyH (hd M1 x)) fun t => ifS (isiAny t cs) fun b => P (.d (.bool b)) M1
section
variable {X : Cx} {a : Expr} {ra : RE} {x c1 c2 : Str} {n1 n2 : String} {p p1 p2 pos tpos : Pos} {tk : Nat}
theorem se_isi2 (hg : Gl X "isinstance") (hm : X.mg "isinstance" = none) (hg1 : Gl X c1) (hm1 : X.mg c1 = none) (hg2 : Gl X c2) (hm2 : X.mg c2 = none) (hv1 : bootBuiltins c1 = some (.type n1)) (hv2 : bootBuiltins c2 = some (.type n2)) (ha : SE X a ra)
    (hn1 : c1 ≠ "__name__" := by decide) (hdb1 : (c1 == ("__debug__" : Str)) = false := by decide) (hn2 : c2 ≠ "__name__" := by decide) (hdb2 : (c2 == ("__debug__" : Str)) = false := by decide)
    (ht : starEach [.Name c1 p1, .Name c2 p2] X.env = (false, eval (.Name c1 p1) X.env) :: starEach [.Name c2 p2] X.env := by rfl) (ht2 : starEach [.Name c2 p2] X.env = (false, eval (.Name c2 p2) X.env) :: starEach [] X.env := by rfl)
    (he : starEach [a, .Tuple [.Name c1 p1, .Name c2 p2] tk tpos] X.env = (false, eval a X.env) :: starEach [.Tuple [.Name c1 p1, .Name c2 p2] tk tpos] X.env := by rfl) (he2 : starEach [.Tuple [.Name c1 p1, .Name c2 p2] tk tpos] X.env = (false, eval (.Tuple [.Name c1 p1, .Name c2 p2] tk tpos) X.env) :: starEach [] X.env := by rfl)
    (hpl : (backTo pos (starEach [.Tuple [.Name c1 p1, .Name c2 p2] tk tpos] X.env)).any (·.1) = false := by rfl) : SE X (.Call (.Name "isinstance" p) [a, .Tuple [.Name c1 p1, .Name c2 p2] tk tpos] [] pos) (rIsi2 [n1, n2] ra) := by
  obtain ⟨ta, pa, sa⟩ := ha
  refine ⟨_, pe_callB call_isiT hg hm PyProof.Rows.boot_isinstance (pa_cons pa (pa_cons (pe_tup (pa_cons (pe_bltn (v := .ty n1) hg1 hm1 hv1 rfl hn1 hdb1) (pa_cons (pe_bltn (v := .ty n2) hg2 hm2 hv2 rfl hn2 hdb2) pa_nil ht2) ht)) pa_nil he2) he) (by decide) (by decide) he hpl, fun W M H σ σx P Q I S hr q => ?_⟩
  refine sa W M H σ σx _ _ I S hr fun W1 M1 H1 v x l1 I1 v1 p1 => ?_
  obtain ⟨t, e1, p1⟩ := ifS_of p1
  obtain ⟨b, e2, p1⟩ := ifS_of p1
  refine ⟨show 2 ≤ sizeLine by rw [sizeLine_eq]; omega, fun T hT => ?_⟩
  obtain ⟨I2, L2⟩ := I1.loose hT (.tup [.ty n1, .ty n2])
  exact ⟨v, T, [.ty n1, .ty n2], .type t, [.type n1, .type n2], b, rfl, upd_same, .cons (.ty _) (.cons (.ty _) .nil), tyx I2 v1 e1, isiAny_ok X.K e2, q W1 M1 _ _ (.d (.bool b)) l1 I2 (show Dq _ _ _ _ from .bl _) p1⟩
end

/-! ### xs.extend(ys), ys told -/
theorem list_extendW (l : Addr) (items : Array Value) (n : Nat) (b : Addr) (items2 : Array Value) (n2 : Nat) (dd2 : Option Addr) (sl2 : Array (Option Value)) (hc0 : ¬(!items.isEmpty && Builtin.List.listTooLong (items.size + items2.size)) = true) (hc1 : items.size ≤ sizeLine) (hs2 : items.size + items2.size ≤ sizeLine + 1) :
    Meets (Builtin.«list.extend» ⟨[.ref l, .ref b], []⟩) (fun _ R s => s.heap.get? l = some { cls := .type "list", dict := none, data := .seq items n, slots := #[] } ∧ s.heap.get? b = some { cls := .type "list", dict := dd2, data := .seq items2 n2, slots := sl2 } ∧ R (.ok (.ret Value.none)) { s with heap := s.heap.update l (Obj.mapSeq fun x => x ++ items2), toks := s.toks }) :=
  .of_wp fun prog w A R s h => by
    obtain ⟨hp, g, d, tk, os⟩ := s
    obtain ⟨hl, hb, h⟩ := h
    have f1 := AutoSeq1.idx_int
    have f2 := AutoSeq1.sub_tuple_tuple
    have f3 := AutoSeq1.sub_list_list
    have f4 := AutoSeq1.sub_tuple_list
    have f5 := AutoSeq1.sub_list_tuple
    have hz' : (items ++ items2).size ≤ sizeLine + 1 := by rw [Array.size_append]; exact hs2
    wp_walk using (wpAny_updateSeq hl rfl (hz := hc1) (_hz' := hz')), wpAny_loadPart' hl, wpAny_loadPart' hb
    exact ⟨_, rfl, h⟩
def rExtQ (K : PySem.W.Frag) : V → List V → Hp → VK → Prop := fun x vs H Q => ∃ l b xs zs, x = .ref l ∧ vs = [.ref b] ∧ H l = some (.lst xs) ∧ SqL K H b zs ∧ xs.length + zs.length ≤ sizeLine ∧ Q .non (upd H l (.lst (xs ++ zs)))
theorem mt_extendQ {X : Cx} : MtM X "list.extend" (rExtQ X.K) := by
  intro pins s σ H x vs v us Q I rx rv h
  obtain ⟨l, b, xs, zs, rfl, rfl, hH, hB, hz, q⟩ := h
  cases rx
  obtain ⟨u, rfl, ru⟩ := rv.one
  cases ru
  obtain ⟨z, its, n, r, hl, e⟩ := I.lstM hH
  obtain ⟨its2, r2, ⟨⟨cls, dd, data, sl⟩, n2, ho, hc, hd, hdat⟩, _⟩ := I.list hB
  simp only at hc hd hdat
  subst hc hd hdat
  have hl2 := r2.length
  have hsz : its.toArray.size + its2.toArray.size ≤ sizeLine := by rw [List.size_toArray, List.size_toArray]; omega
  have hlong : ¬ (!its.toArray.isEmpty && Builtin.List.listTooLong (its.toArray.size + its2.toArray.size)) = true := by
    rw [notLongL hsz, Bool.and_false]
    exact Bool.false_ne_true
  refine call_meets PySem.F.slot_list_extend ⟨_, e, rfl⟩ PySem.F.entry_list_extend (PySem.F.args_list_extend_2 _ _)
    (list_extendW l its.toArray n b its2.toArray n2 none sl hlong (by rw [List.size_toArray]; omega) (by omega)) ⟨e, ho, ?_⟩
  refine ⟨.non, _, I.lset (its' := its ++ its2) hH e (by simp) (r.append r2) ?_, rfl, q⟩
  rw [List.length_append]
  omega
/-- a told list put at the end of a list -/
def rExtV (ro re : RE) : RE := fun σ M P => ro σ M fun o M1 => isLst M1 o ∧ re σ M1 fun y M2 => match o, hd M2 y with
  | .c j, .lst ys => match M2[j]? with
    | some (.lst xs) => xs.length + ys.length ≤ sizeLine ∧ P (.d .none) (M2.set j (.lst (xs ++ ys)))
    | _ => False
  | _, _ => False
section
variable {X : Cx} {o e : Expr} {ro re : RE} {apos cpos : Pos}
theorem se_extendV (ho : SE X o ro) (he : SE X e re) (hbase : attributeBase o "extend" X.env (eval o X.env) = eval o X.env := by rfl)
    (hfew : ((backTo cpos (starEach (e :: []) X.env)).all (fun x => !x.1) && (backToKw cpos (keywordEach [] X.env)).all (fun x => x.1.isSome)
      && decide ((e :: ([] : List Expr)).length + ([] : List Keyword).length + (if ([] : List Keyword).isEmpty then 0 else 1) < 30)) = true := by rfl)
    (hline : (apos.endLine == cpos.line) = true := by rfl) (hs : starEach (e :: []) X.env = (false, eval e X.env) :: starEach [] X.env := by rfl) (hplain : (backTo cpos (starEach [] X.env)).any (·.1) = false := by rfl) :
    SE X (.Call (.Attribute o "extend" apos) [e] [] cpos) (rExtV ro re) := by
  obtain ⟨to, po, so⟩ := ho
  obtain ⟨te, pe, se⟩ := he
  refine ⟨_, pe_bm PySem.F.plainAttrs_list PySem.F.slot_list_extend PySem.F.type_list_extend mt_extendQ po (pa_cons pe pa_nil hs) hbase hfew hline hs hplain, fun W M H σ σx P Q I S hr q => ?_⟩
  refine so W M H σ σx _ _ I S hr fun W1 M1 H1 v x l1 I1 v1 p1 => ⟨isLst_ok I1 v1 p1.1, ?_⟩
  refine se W1 M1 H1 σ σx _ _ I1 (S.le l1) p1.2 fun W2 M2 H2 u y l2 I2 v2 p2 => ?_
  split at p2
  · rename_i j ys e1
    have v1' := v1.le l2
    obtain ⟨a, rfl, ha⟩ := v1'
    obtain ⟨b, us, rfl, hb, hv⟩ := lstH I2 v2 e1
    split at p2
    · rename_i xs em
      obtain ⟨f0, vs, h1, h2⟩ := I2.ob j a _ ha em
      refine ⟨a, b, vs, us, rfl, rfl, h1, hb, by rw [h2.length, hv.length]; exact p2.1, ?_⟩
      have I3 := I2.write (u := .lst (vs ++ us)) (o := .lst (xs ++ ys)) ha f0 ⟨f0, _, upd_same, h2.append hv⟩
      exact q W2 _ _ _ (.d .none) (l1.trans l2) I3 (show Dq _ _ _ _ from .non) p2.2
    · exact p2.elim
  · exact p2.elim
end

/-! ### {k: v for ..} -/
def dcW (g : RG) (rt : RT) (rk rv : RE) (keep : Sto → Prop) (σw : Sl) (P : List (Key × Xv) → Sto → Prop) : List Xv → List (Key × Xv) → Sto → Prop
  | [], acc, M => keep M ∧ P acc M
  | x :: xs, acc, M => keep M ∧ g x σw M fun σ1 M1 => rt σ1 M1 fun b M2 => if b = true then rk σ1 M2 fun y M3 => rv σ1 M3 fun z M4 => acc.length < sizeLine ∧ ifS (keyX y) fun k => dcW g rt rk rv keep σw P xs (putX acc k z) M4 else dcW g rt rk rv keep σw P xs acc M2
def rDc (ri : RI) (g : RG) (rt : RT) (rk rv : RE) (vs : List Nat) : RE := fun σ M P => ri σ M fun items keep M1 => dcW g rt rk rv keep (wipeX σ vs) (fun acc M2 => P (.c M2.length) (M2 ++ [.dic acc])) items [] M1
theorem snd_dc {K : PySem.W.Frag} {wi : TI} {ri : RI} {js vs : List Nat} {g : RG} {rt : RT} {rk rv : RE} (hi : SndI K wi ri) (hj : ∀ j ∈ js, j ∈ vs) : Snd K (tDc wi (tgOf K js g) (ttOf K rt) (tOf K rk) (tOf K rv) vs) (rDc ri g rt rk rv vs) := by
  intro W M H σ σx P Q I S h q
  refine hi W M H σ σx _ _ I S h fun W1 M1 H1 J items keep l1 I1 T p1 => ?_
  intro D hD
  have S1 := slr_wipe (S.le l1) vs
  have gD : W1.G D = none := (I1.fresh hD).2.1
  refine ⟨fun i m H' => m = items.length - i ∧ ∃ (W' : Wd) (M' : Sto) (acc : List (Key × Xv)) (va : List (Key × V)), W1.le W' ∧ InvS K ⟨W'.θ, W'.F, upd W1.G D (.dK va)⟩ M' H' ∧ KVX K W' va acc ∧ dcW g rt rk rv keep (wipeX σx vs) (fun acc M2 => P (.c M2.length) (M2 ++ [.dic acc])) (items.drop i) acc M',
    ⟨_, rfl, W1, M1, [], [], .refl W1, I1.guard hD, .nil, p1⟩, ?_⟩
  rintro i m H' ⟨rfl, W', M', acc, va, l', I', va', h'⟩
  have W'0 : ∀ u, W1.lf ⟨W'.θ, W'.F, u⟩ := fun u => ⟨l'.th, l'.f⟩
  by_cases hi' : i < items.length
  · rw [List.drop_eq_getElem_cons hi'] at h'
    obtain ⟨hk, h'⟩ := h'
    obtain ⟨_, T2⟩ := T _ M' H' i (W'0 _) I' hk
    obtain ⟨go, T3⟩ := T2 items[i] (List.getElem?_eq_getElem hi')
    refine .inr ⟨go, fun H2 => ∃ (W' : Wd) (M' : Sto) (acc : List (Key × Xv)) (va : List (Key × V)), W1.le W' ∧ InvS K ⟨W'.θ, W'.F, upd W1.G D (.dK va)⟩ M' H2 ∧ KVX K W' va acc ∧ dcW g rt rk rv keep (wipeX σx vs) (fun acc M2 => P (.c M2.length) (M2 ++ [.dic acc])) (items.drop (i + 1)) acc M',
      fun H2 h2 => ⟨items.length - (i + 1), by omega, rfl, h2⟩, fun v H3 y => ?_⟩
    obtain ⟨W3, l3, I3, v3⟩ := T3 v H3 y
    have S3 : Slr K W3 (wipe σ vs) (wipeX σx vs) := (S1.lf (W'0 _)).le l3
    refine ⟨_, M', _, _, _, I3, S3, v3, h', fun W4 M4 H4 σ4 σx4 l4 I4 S4 w4 p4 => ⟨?_, ?_⟩⟩
    · rw [w4 vs hj]
      apply List.ext_getElem?
      intro j
      rw [wipe_get, wipe_get, wipe_length]
      by_cases hm : j ∈ vs
      · rw [if_pos hm, if_pos hm]
      · rw [if_neg hm, if_neg hm]
    refine ⟨_, M4, _, _, I4, S4, p4, fun W5 M5 H5 b l5 I5 p5 => ?_⟩
    have g5 : W5.G = upd W1.G D (.dK va) := by rw [l5.g, l4.g, l3.g]
    have l15 : W1.lf W5 := ((W'0 _).trans l3.tolf).trans (l4.trans l5).tolf
    have va5 : KVX K W5 va acc := KVX.lf (l3.trans (l4.trans l5)).tolf va'
    cases b with
    | false =>
      rw [if_neg Bool.false_ne_true] at p5
      show (if false = true then _ else _)
      rw [if_neg Bool.false_ne_true]
      refine ⟨⟨W5.θ, W5.F, W1.G⟩, M5, acc, va, ⟨⟨l15.th, l15.f⟩, rfl⟩, ?_, va5, p5⟩
      show InvS K ⟨W5.θ, W5.F, upd W1.G D (.dK va)⟩ M5 H5
      rw [← g5]
      exact I5
    | true =>
      rw [if_pos rfl] at p5
      show (if true = true then _ else _)
      rw [if_pos rfl]
      refine ⟨_, M5, _, _, I5, S4.le l5, p5, fun W6 M6 H6 w x l6 I6 v6 p6 => ?_⟩
      refine ⟨_, M6, _, _, I6, (S4.le l5).le l6, p6, fun W7 M7 H7 w7 x7 l7 I7 v7 p7 => ?_⟩
      obtain ⟨hz, p7⟩ := p7
      obtain ⟨k, ek, p7⟩ := ifS_of p7
      have := keyX_ok v6 ek
      subst this
      have g7 : W7.G = upd W1.G D (.dK va) := by rw [l7.g, l6.g, g5]
      have gd : W7.G D = some (.dK va) := by rw [g7]; exact upd_same
      have va7 : KVX K W7 va acc := KVX.lf (l6.trans l7).tolf va5
      refine ⟨va, k, rfl, I7.sg D _ gd, by rw [KVX.length va7]; exact hz, ?_⟩
      have l17 := l15.trans (l6.trans l7).tolf
      refine ⟨⟨W7.θ, W7.F, W1.G⟩, M7, putX acc k x7, putK va k w7, ⟨⟨l17.th, l17.f⟩, rfl⟩, ?_, KVX.put va7 v7, p7⟩
      have := I7.reguard (u' := .dK (putK va k w7)) gd
      rw [g7, upd_upd] at this
      exact this
  · rw [List.drop_of_length_le (by omega)] at h'
    obtain ⟨hk, h'⟩ := h'
    refine .inl ⟨(T _ M' H' i (W'0 _) I' hk).1 (by omega), ?_⟩
    have I2 := I'.dropG (G0 := W1.G) (same_new gD)
    have hg : (upd W1.G D (.dK va)) D = some (.dK va) := upd_same
    have fD : W'.F D = none := I'.fD hg nofun
    have tD : D ∉ W'.θ := fun z => by
      have this : upd W1.G D (.dK va) D = none := I'.tg D z
      rw [upd_same] at this
      cases this
    have L2 : Loose ⟨W'.θ, W'.F, W1.G⟩ H' D (.dK va) := ⟨I'.sg D _ hg, fD, gD, tD⟩
    have lW : W.le ⟨W'.θ, W'.F, W1.G⟩ := l1.trans ⟨⟨l'.th, l'.f⟩, rfl⟩
    have kx : KVX K ⟨W'.θ, W'.F, W1.G⟩ va acc := KVX.lf ⟨fun _ _ z => z, SameR.refl _⟩ va'
    obtain ⟨I5, l5, x5⟩ := I2.adoptCell L2 (o := .dic acc) fun W' l' f' => ⟨f', _, L2.at_, kx.le l'⟩
    exact q _ _ _ _ _ (lW.trans l5) I5 x5 h'
/-- key and value of a comprehension's turn -/
def SDc (X : Cx) (kx vx : Expr) (ifs : List Expr) (tg : Expr) (scope : Scope) (js : List Nat) (g : RG) (rt : RT) (rk rv : RE) : Prop :=
  ∀ (s : Shared) (H : Hp) (C : Addr) (cl : List (Str × Addr)) (fp : List Addr),
    SG (X.blk s H scope (compEnvC scope cl C X.env) fp) tg js g ∧ (∃ t, PTs (X.blk s H scope (compEnvC scope cl C X.env) fp) ifs t ∧ SndT X.K t rt) ∧ SE (X.blk s H scope (compEnvC scope cl C X.env) fp) kx rk ∧ SE (X.blk s H scope (compEnvC scope cl C X.env) fp) vx rv
theorem se_dc {X : Cx} {kx vx tg iter : Expr} {ifs : List Expr} {scope : Scope} {own : List (Str × Nat)} {pos : Pos} {ri : RI} {js : List Nat} {g : RG} {rt : RT} {rk rv : RE} (hc : X.calm = true) (hN : X.N.Nodup) (hi : SI X tg iter ri) (ok : BlkOk X.N X.env.scope scope own) (hb : SDc X kx vx ifs tg scope js g rt rk rv)
    (hj : (js.all fun j => (own.map (·.2)).contains j) = true := by rfl) (hs : ∀ x, foldedSetIterable iter X.env x = pure x := by intro _; rfl) :
    SE X (.DictComp kx vx [⟨tg, iter, ifs, 0⟩] scope pos) (rDc ri g rt rk rv (own.map (·.2))) := by
  obtain ⟨wi, pi, si⟩ := hi
  exact ⟨_, pe_dc (tk := tOf X.K rk) (tv := tOf X.K rv) (tt := ttOf X.K rt) (g := tgOf X.K js g) hc hN pi ok (fun s H C cl fp => (hb s H C cl fp).1.can) (fun s H C cl fp => pts_can (hb s H C cl fp).2.1) (fun s H C cl fp => (hb s H C cl fp).2.2.1.can) (fun s H C cl fp => (hb s H C cl fp).2.2.2.can) hs,
    snd_dc si fun j hm => by simpa using List.all_eq_true.mp hj j hm⟩
/-- name = {..} on one line, the name a local -/
theorem ps_setDc {X : Cx} {i : Nat} {y : Str} {py : Pos} {kx vx tg iter : Expr} {ifs : List Expr} {scope : Scope} {own : List (Str × Nat)} {pos spos : Pos} {wi : TI} {g : TG} {tt : TT} {tk tv : TE} (hc : X.calm = true) (hN : X.N.Nodup) (hy : X.N[i]? = some y) (hyl : X.env.scope.names.lookup y = some .local)
    (hsw : swapsWith (.DictComp kx vx [⟨tg, iter, ifs, 0⟩] scope pos) (some (.Name y py)) spos.line X.env = pure true) (hi : PI X tg iter wi) (ok : BlkOk X.N X.env.scope scope own)
    (hg : ∀ (s : Shared) (H : Hp) (C : Addr) (cl : List (Str × Addr)) (fp : List Addr), PG (X.blk s H scope (compEnvC scope cl C X.env) fp) tg g) (ht : ∀ (s : Shared) (H : Hp) (C : Addr) (cl : List (Str × Addr)) (fp : List Addr), PTs (X.blk s H scope (compEnvC scope cl C X.env) fp) ifs tt)
    (hk : ∀ (s : Shared) (H : Hp) (C : Addr) (cl : List (Str × Addr)) (fp : List Addr), PE (X.blk s H scope (compEnvC scope cl C X.env) fp) kx tk)
    (he : ∀ (s : Shared) (H : Hp) (C : Addr) (cl : List (Str × Addr)) (fp : List Addr), PE (X.blk s H scope (compEnvC scope cl C X.env) fp) vx tv) (hs : ∀ x, foldedSetIterable iter X.env x = pure x := by intro _; rfl) :
    PS X (.Assign [.Name y py] (.DictComp kx vx [⟨tg, iter, ifs, 0⟩] scope pos) spos) (tAsg (tDc wi g tt tk tv (own.map (·.2))) (gName i)) := by
  refine ⟨fun pins s σ H D I h => ?_⟩
  rw [exec_Assign_Name_used _ _ _ _ hsw]
  refine wpAny_bind (wpAny_standAt (wpAny_bind ?_))
  show wpAny _ X.A (do let _ ← comprehension (.DictComp kx vx [⟨tg, iter, ifs, 0⟩] scope pos) scope X.env (firstIterPos [⟨tg, iter, ifs, 0⟩] pos) newDict false (eval iter X.env) (some (assign (.Name y py) X.env))) _ _ s
  have h : tDc wi g tt tk tv (own.map (·.2)) σ H (fun x H1 => gName i x σ H1 D.nx) := h
  refine wpAny_bind (thn (dc_core (Qf := fun _ s' => SP X pins D .next s') hc hN I hi ok hg ht hk he hs h fun L C s' m H' I' q hn f => ?_) fun _ s' hq => wpAny_pure (wpAny_pure hq))
  show wpAny _ _ (assign (.Name y py) X.env (.ref L)) _ _ _
  refine wpAny_assign_Name (store_ok2 (v := V.ref L) I' hN hy (.inl hyl) rfl (fun s2 I2 ⟨a, sb, ha⟩ => ?_) (.inr hyl))
  obtain ⟨f0, f1, f2, f3, f4, f5⟩ := f
  have haC : C ≠ a := by
    rcases ha with z | z
    · rw [z]; exact f1
    · exact fun e => f4 y a z e.symm
  refine ⟨m, hn.sameBut sb haC, fun h3 sb3 => ?_⟩
  exact ⟨_, H', I2.turned (t' := s2.toks) (fun b o hb e => (sb3.2 b hb).trans e) f0 f1 f3 f4 f5, q⟩
theorem snd_fz {K : PySem.W.Frag} {t : TE} {r : RE} (s : Snd K t r) : Snd K t (rFz r) := by
  intro W M H σ σx P Q I S hr q
  refine s W M H σ σx _ _ I S hr fun W1 M1 H1 v x l1 I1 v1 p1 => ?_
  obtain ⟨⟨d, M2⟩, e, p⟩ := ifS_of p1
  obtain ⟨W2, l2, t2, I2, d2⟩ := frzN_ok 6 x W1 M1 M2 v d I1 v1 e
  exact q W2 M2 H1 v (.d d) (l1.trans l2) I2 d2 p
section
variable {X : Cx} {kx vx tg iter : Expr} {ifs : List Expr} {scope : Scope} {own : List (Str × Nat)} {pos : Pos} {ri : RI} {js : List Nat} {g : RG} {rt : RT} {rk rv : RE}
theorem ss_setDcC {i : Nat} {y : Str} {py : Pos} {spos : Pos} (hc : X.calm = true) (hN : X.N.Nodup) (hi : SI X tg iter ri) (ok : BlkOk X.N X.env.scope scope own) (hb : SDc X kx vx ifs tg scope js g rt rk rv)
    (hsw : swapsWith (.DictComp kx vx [⟨tg, iter, ifs, 0⟩] scope pos) (some (.Name y py)) spos.line X.env = pure true) (hy : X.N[i]? = some y := by rfl) (hyl : X.env.scope.names.lookup y = some .local := by rfl)
    (hj : (js.all fun j => (own.map (·.2)).contains j) = true := by rfl) (hs : ∀ x, foldedSetIterable iter X.env x = pure x := by intro _; rfl) :
    SS X (.Assign [.Name y py] (.DictComp kx vx [⟨tg, iter, ifs, 0⟩] scope pos) spos) (rAsg (rDc ri g rt rk rv (own.map (·.2))) (rgName i)) := by
  obtain ⟨wi, pi, si⟩ := hi
  refine ⟨_, ps_setDc (tk := tOf X.K rk) (tv := tOf X.K rv) (tt := ttOf X.K rt) (g := tgOf X.K js g) hc hN hy hyl hsw pi ok (fun s H C cl fp => (hb s H C cl fp).1.can) (fun s H C cl fp => pts_can (hb s H C cl fp).2.1) (fun s H C cl fp => (hb s H C cl fp).2.2.1.can) (fun s H C cl fp => (hb s H C cl fp).2.2.2.can) hs, fun W M H σ σx P D I S h q => ?_⟩
  refine snd_dc si (fun j hm => by simpa using List.all_eq_true.mp hj j hm) W M H σ σx _ _ I S h fun W1 M1 H1 v x l1 I1 v1 p1 => ?_
  exact q W1 M1 H1 (.nx (σx.set i (some x))) l1 I1 p1 _ ((S.le l1).set i v1)
theorem ss_setDc {i : Nat} {y : Str} {py : Pos} {spos : Pos} (hc : X.calm = true) (hN : X.N.Nodup) (hi : SI X tg iter ri) (ok : BlkOk X.N X.env.scope scope own) (hb : SDc X kx vx ifs tg scope js g rt rk rv)
    (hsw : swapsWith (.DictComp kx vx [⟨tg, iter, ifs, 0⟩] scope pos) (some (.Name y py)) spos.line X.env = pure true) (hy : X.N[i]? = some y := by rfl) (hyl : X.env.scope.names.lookup y = some .local := by rfl)
    (hj : (js.all fun j => (own.map (·.2)).contains j) = true := by rfl) (hs : ∀ x, foldedSetIterable iter X.env x = pure x := by intro _; rfl) :
    SS X (.Assign [.Name y py] (.DictComp kx vx [⟨tg, iter, ifs, 0⟩] scope pos) spos) (rAsg (rFz (rDc ri g rt rk rv (own.map (·.2)))) (rgName i)) := by
  obtain ⟨wi, pi, si⟩ := hi
  refine ⟨_, ps_setDc (tk := tOf X.K rk) (tv := tOf X.K rv) (tt := ttOf X.K rt) (g := tgOf X.K js g) hc hN hy hyl hsw pi ok (fun s H C cl fp => (hb s H C cl fp).1.can) (fun s H C cl fp => pts_can (hb s H C cl fp).2.1) (fun s H C cl fp => (hb s H C cl fp).2.2.1.can) (fun s H C cl fp => (hb s H C cl fp).2.2.2.can) hs, fun W M H σ σx P D I S h q => ?_⟩
  refine snd_fz (snd_dc si (fun j hm => by simpa using List.all_eq_true.mp hj j hm)) W M H σ σx _ _ I S h fun W1 M1 H1 v x l1 I1 v1 p1 => ?_
  exact q W1 M1 H1 (.nx (σx.set i (some x))) l1 I1 p1 _ ((S.le l1).set i v1)
end
end G

set_option Elab.async false
set_option linter.all false
set_option maxRecDepth 100000
set_option maxHeartbeats 8000000
/-! G20: more reckoning. -/
namespace G
open PySem PySem.Spec PyProof.Rows L2
theorem small {n : Nat} (h : n ≤ 10000) : n ≤ sizeLine := by rw [sizeLine_eq]; omega
theorem pfD1 (f : PD) (a : PyData) (M : Sto) (P : Xv → Sto → Prop) (h : f [a] fun d => P (.d d) M) : pfD f [.d a] M P := ⟨[a], rfl, h⟩
theorem pfD2 (f : PD) (a b : PyData) (M : Sto) (P : Xv → Sto → Prop) (h : f [a, b] fun d => P (.d d) M) : pfD f [.d a, .d b] M P := ⟨[a, b], rfl, h⟩
theorem pfD3 (f : PD) (a b c : PyData) (M : Sto) (P : Xv → Sto → Prop) (h : f [a, b, c] fun d => P (.d d) M) : pfD f [.d a, .d b, .d c] M P := ⟨[a, b, c], rfl, h⟩
theorem pfD4 (f : PD) (a b c e : PyData) (M : Sto) (P : Xv → Sto → Prop) (h : f [a, b, c, e] fun d => P (.d d) M) : pfD f [.d a, .d b, .d c, .d e] M P := ⟨[a, b, c, e], rfl, h⟩
theorem shaped_str {z : Str} (h : PyData.strOk z = true) : SeqAt.shaped (.str z) = true := by
  unfold SeqAt.shaped
  simp [PyData.canLay0, PyData.depth, h]
theorem canStrs : ∀ {l : List Str}, (∀ z ∈ l, PyData.strOk z = true) → PyData.canLayAll0 (l.map .str) = true
  | [], _ => rfl
  | z :: l, h => by
    show (PyData.canLay0 (.str z) && PyData.canLayAll0 (l.map .str)) = true
    rw [canStrs fun y hy => h y (List.mem_cons_of_mem _ hy)]
    simp [PyData.canLay0, h z List.mem_cons_self]
theorem any_str (z : Str) (l : List Str) : ((l.map PyData.str).any fun y => PyData.eqv y (.str z)) = decide (z ∈ l) := by
  induction l with
  | nil => simp
  | cons a l ih =>
    rw [List.map_cons, List.any_cons, ih, eqv_str]
    by_cases h : a = z
    · subst h; simp
    · have : ¬ z = a := fun e => h e.symm
      simp [h, this]
theorem gIn_strs {z : Str} {l : List Str} {neg : Bool} {M : Sto} {Q : Xv → Sto → Prop} (h1 : PyData.strOk z = true) (h2 : ∀ y ∈ l, PyData.strOk y = true) : gIn neg (.d (.str z)) (.d (.list (l.map .str))) M Q = Q (.d (.bool (xor neg (decide (z ∈ l))))) M := by
  unfold gIn
  show ifS (pk M (.d (.str z))) _ = _
  rw [pk_d, ifS_some, pk_d, ifS_some]
  show ((_ ∧ _ ∧ _) : Prop) = _
  rw [any_str, shaped_str h1, canStrs h2]
  simp
theorem eqvAll_strs : ∀ a b : List Str, PyData.eqvAll (a.map .str) (b.map .str) = decide (a = b)
  | [], [] => rfl
  | [], _ :: _ => rfl
  | _ :: _, [] => rfl
  | x :: a, y :: b => by
    rw [List.map_cons, List.map_cons, PyData.eqvAll, eqvAll_strs a b, eqv_str]
    by_cases h : x = y <;> by_cases q : a = b <;> simp [h, q]
theorem shaped_strs {l : List Str} (h : ∀ z ∈ l, PyData.strOk z = true) : SeqAt.shaped (.list (l.map .str)) = true := by
  unfold SeqAt.shaped
  rw [Bool.and_eq_true]
  refine ⟨canStrs h, decide_eq_true ?_⟩
  simp [PyData.depth, strs_depth]
theorem gNe_same {d : PyData} {M : Sto} {P : Xv → Sto → Prop} (h : SeqAt.shaped d = true) : gNe (.d d) (.d d) M P = P (.d (.bool false)) M := by
  unfold gNe
  rw [pk_d, ifS_some, ifS_some, h, SeqAt.eqv_refl d (SeqAt.canLay_of_shaped h)]
  simp
theorem gEq_same {d : PyData} {M : Sto} {P : Xv → Sto → Prop} (h : SeqAt.shaped d = true) : gEq (.d d) (.d d) M P = P (.d (.bool true)) M := by
  unfold gEq
  rw [pk_d, ifS_some, ifS_some, h, SeqAt.eqv_refl d (SeqAt.canLay_of_shaped h)]
  simp
theorem gAll_bs (bs : List Bool) (M : Sto) (P : Xv → Sto → Prop) : gAll [.d (.list (bs.map .bool))] M P = P (.d (.bool (bs.all id))) M := by
  show ifS (boolsX (dX (bs.map .bool))) _ = _
  rw [show dX (bs.map PyData.bool) = bs.map fun i => .d (.bool i) by rw [dX, List.map_map]; rfl, boolsX_map, ifS_some]
theorem gAny_bs (bs : List Bool) (M : Sto) (P : Xv → Sto → Prop) : gAny [.d (.list (bs.map .bool))] M P = P (.d (.bool (bs.any id))) M := by
  show ifS (boolsX (dX (bs.map .bool))) _ = _
  rw [show dX (bs.map PyData.bool) = bs.map fun i => .d (.bool i) by rw [dX, List.map_map]; rfl, boolsX_map, ifS_some]
/-- any, all of what a comprehension told -/
theorem gAny_f {α : Type} (xs : List α) (f : α → Bool) (M : Sto) (P : Xv → Sto → Prop) : gAny [.d (.list ((xs.filter fun _ => true).map fun x => .bool (f x)))] M P = P (.d (.bool (xs.any f))) M := by
  rw [show (xs.filter fun _ => true) = xs from List.filter_eq_self.mpr fun _ _ => rfl]
  rw [show (xs.map fun x => PyData.bool (f x)) = (xs.map f).map .bool by rw [List.map_map]; rfl, gAny_bs, List.any_map]
  rfl
theorem gAll_f {α : Type} (xs : List α) (f : α → Bool) (M : Sto) (P : Xv → Sto → Prop) : gAll [.d (.list ((xs.filter fun _ => true).map fun x => .bool (f x)))] M P = P (.d (.bool (xs.all f))) M := by
  rw [show (xs.filter fun _ => true) = xs from List.filter_eq_self.mpr fun _ _ => rfl]
  rw [show (xs.map fun x => PyData.bool (f x)) = (xs.map f).map .bool by rw [List.map_map]; rfl, gAll_bs, List.all_map]
  rfl
theorem filt {α : Type} (xs : List α) : (xs.filter fun _ => true) = xs := List.filter_eq_self.mpr fun _ _ => rfl
theorem range_dX (n : Nat) : rangeX 0 n = dX ((List.range n).map fun i : Nat => .int (i : Int)) := by
  unfold rangeX dX
  rw [List.map_map]
  refine List.map_congr_left fun i _ => ?_
  show Xv.d (.int (0 + (i : Int))) = _
  rw [Int.zero_add]; rfl
theorem isi_ll (xs : List Xv) (Q : Bool → Prop) : ifS (tyH (.lst xs)) (fun t => ifS (isiT t "list") Q) = Q true := by
  have : isiT "list" "list" = some true := by unfold isiT; rw [if_pos rfl]
  show ifS (isiT "list" "list") Q = _
  rw [this, ifS_some]
theorem isi_tt (xs : List Xv) (Q : Bool → Prop) : ifS (tyH (.tup xs)) (fun t => ifS (isiT t "tuple") Q) = Q true := by
  have : isiT "tuple" "tuple" = some true := by unfold isiT; rw [if_pos rfl]
  show ifS (isiT "tuple" "tuple") Q = _
  rw [this, ifS_some]
theorem tru_b (M : Sto) (b : Bool) : tru M (.d (.bool b)) = some b := rfl
theorem gAdd_ll (xs ys : List PyData) (M : Sto) (P : Xv → Sto → Prop) : gAdd (.d (.list xs)) (.d (.list ys)) M P = (xs.length + ys.length ≤ sizeLine ∧ P (.d (.list (xs ++ ys))) M) := by
  show ((dX xs).length + (dX ys).length ≤ sizeLine ∧ ifS (fzL M (dX xs ++ dX ys)) fun q => P (.d (.list q.1)) q.2) = _
  rw [show dX xs ++ dX ys = dX (xs ++ ys) from List.map_append.symm, fzL_dX, List.length_map, List.length_map]
  rfl
theorem gAdd_tt (xs ys : List PyData) (M : Sto) (P : Xv → Sto → Prop) : gAdd (.d (.tuple xs)) (.d (.tuple ys)) M P = (xs.length + ys.length ≤ sizeLine ∧ P (.d (.tuple (xs ++ ys))) M) := rfl
theorem gAdd_ss (a b : Str) (M : Sto) (P : Xv → Sto → Prop) : gAdd (.d (.str a)) (.d (.str b)) M P = (a.length + b.length ≤ sizeLine ∧ P (.d (.str (a ++ b))) M) := rfl
theorem at_in {α : Type} {xs : List α} (enc : α → PyData) {v : Int} (h0 : 0 ≤ v) (h1 : v < xs.length) : ∃ a, a ∈ xs ∧ atI (dX (xs.map enc)) v = some (.d (enc a)) := by
  have hl : v.toNat < xs.length := by omega
  refine ⟨xs[v.toNat], List.getElem_mem hl, ?_⟩
  have e : ((v.toNat : Nat) : Int) = v := by omega
  have := L2.atI_nat (xs := dX (xs.map enc)) (j := v.toNat) (v := .d (enc xs[v.toNat])) (by simp [dX, hl])
  rwa [e] at this
theorem set_d {ss : List Str} {P : List PyData → Prop} (hl : ss.length < 4000) (p : P ((SU ss).map .str)) : ifS (keysX (dX (ss.map .str))) fun ks => ks.length + 1 < scanBound ∧ PySem.W.AllAlike (ks.map kD) ∧ P (sortD (uniqK ks)) := by
  rw [keysX_strs]
  refine ifS_mk rfl ⟨?_, ?_, ?_⟩
  · rw [List.length_map]
    have : scanBound = 4096 := rfl
    omega
  · rw [List.map_map]; exact strs_all ss
  · rw [uniqK_strs, sortD_strs]; exact p
theorem putX_len {κ : Type} [DecidableEq κ] (acc : List (κ × Xv)) (k : κ) (x : Xv) : (putX acc k x).length ≤ acc.length + 1 := by
  unfold putX
  split <;> simp
/-- a dict comprehension over data, all kept -/
theorem dcW_map {α : Type} {g : RG} {rt : RT} {rk rv : RE} {keep : Sto → Prop} {σw : Sl} {P : List (Key × Xv) → Sto → Prop} {M : Sto} (enc : α → PyData) (kf : α → Key) (vf : α → PyData) (hk : keep M) :
    ∀ (xs : List α) (acc : List (Key × Xv)), acc.length + xs.length ≤ sizeLine →
    (∀ a ∈ xs, ∀ (Kt : Xv → Xv → Sto → Prop) (Kf : Sto → Prop), Kt (.d (kD (kf a))) (.d (vf a)) M → g (.d (enc a)) σw M fun σ1 M1 => rt σ1 M1 fun b M2 => if b = true then rk σ1 M2 fun y M3 => rv σ1 M3 fun z M4 => Kt y z M4 else Kf M2) →
    P (mergeX acc (xs.map fun a => (kf a, .d (vf a)))) M → dcW g rt rk rv keep σw P (dX (xs.map enc)) acc M
  | [], acc, _, _, q => ⟨hk, q⟩
  | x :: xs, acc, hl, h, q => by
    rw [List.length_cons] at hl
    refine ⟨hk, ?_⟩
    refine h x List.mem_cons_self (fun y z M4 => acc.length < sizeLine ∧ ifS (keyX y) fun k => dcW g rt rk rv keep σw P (dX (xs.map enc)) (putX acc k z) M4) (fun M2 => dcW g rt rk rv keep σw P (dX (xs.map enc)) acc M2) ⟨by omega, ?_⟩
    have ek : keyX (.d (kD (kf x))) = some (kf x) := by
      show keyOf (kD (kf x)) = _
      cases kf x <;> rfl
    rw [ek]
    refine ifS_mk rfl ?_
    refine dcW_map enc kf vf hk xs _ ?_ (fun a ha => h a (List.mem_cons_of_mem _ ha)) q
    have := putX_len acc (kf x) (.d (vf x))
    omega
theorem len_le : ∀ {l m : List Str}, l.Nodup → (∀ y ∈ l, y ∈ m) → l.length ≤ m.length
  | [], _, _, _ => Nat.zero_le _
  | a :: l, m, n, h => by
    obtain ⟨n1, n2⟩ := List.nodup_cons.mp n
    have ha := h a List.mem_cons_self
    have := len_le (l := l) (m := m.erase a) n2 fun y hy => by
      have e : y ≠ a := fun e => n1 (e ▸ hy)
      exact (List.mem_erase_of_ne e).mpr (h y (List.mem_cons_of_mem _ hy))
    rw [List.length_erase_of_mem ha] at this
    have : 0 < m.length := List.length_pos_of_mem ha
    rw [List.length_cons]; omega
theorem Cal.none {P : Program} {w : World} {K : PySem.W.Frag} {mg : Str → Option Value} {base : Heap} {x : Str} {ps : List Str} {params : Arguments} {body : List Stmt} {scope : Scope} (D : DefOk K mg x ps params body scope) : Cal P w K mg base 0 x ps fun _ _ _ => False := by
  obtain ⟨f, fd, a, F, c⟩ := D.ex
  exact ⟨f, fd, a, F.kp, c, fun _ _ _ q => q.elim, fun A outer s H args us vs Q hr hg he hb hv ⟨W, M, xs, R, I, v, p, q⟩ => p.elim⟩
end G

set_option Elab.async false
set_option linter.all false
set_option maxRecDepth 100000
set_option maxHeartbeats 8000000
/-! G21: enumerate. -/
namespace G
open PySem PySem.Spec PyProof.Rows L2
def enD (ds : List PyData) : List PyData := (List.range ds.length).map fun i : Nat => .tuple [.int (i : Int), ds.getD i .none]
theorem itx_enum {K : PySem.W.Frag} {W : Wd} {M : Sto} {H : Hp} {a : Addr} {x : Xv} {ds : List PyData} (I : InvS K W M H) (h : VX K W (.ref a) x) (e : hd M x = .lst (dX ds)) : ItX K W (Ite K a) (dX (enD ds)) (kp x M) := by
  intro W2 M2 H2 i l I2 k
  obtain ⟨b, vs, eb, h1, h2⟩ := lstH I2 (h.lf l) ((hd_kp k).trans e)
  cases eb
  have hl : vs.length = ds.length := by rw [h2.length, List.length_map]
  refine ⟨fun hi => ⟨vs, h1, by simpa [enD, hl] using hi⟩, fun z hz => ?_⟩
  by_cases hi : i < ds.length
  · have ez : z = .d (.tuple [.int (i : Int), ds[i]]) := by
      have : (dX (enD ds))[i]? = some (.d (.tuple [.int (i : Int), ds[i]])) := by simp [dX, enD, hi, List.getD]
      rw [this] at hz
      exact (Option.some.inj hz).symm
    subst ez
    have dq := VXs.toD h2
    obtain ⟨v, hv, dv⟩ := DqAll.get dq (List.getElem?_eq_getElem hi)
    refine ⟨⟨vs, v, h1, hv⟩, fun w H3 y => ?_⟩
    obtain ⟨T, x', rfl, hT, rfl, f3⟩ := y
    have e3 := f3 vs h1
    rw [hv] at e3
    cases e3
    obtain ⟨I3, l3⟩ := I2.newData hT (.tup [.int (i : Nat), v])
    exact ⟨_, l3, I3, show Dq K _ _ _ from .tup (.inl (.inl upd_same)) (.cons (.int _) (.cons (dv.same l3.f) .nil))⟩
  · have : (dX (enD ds))[i]? = none := List.getElem?_eq_none (by simpa [dX, enD] using hi)
    rw [this] at hz
    cases hz
def riEnum (rs : RF) : RI := fun σ M P => rs σ M fun xs M1 => match xs with
  | [x] => match hd M1 x with
    | .lst ys => ifS (datX ys) fun ds => P (dX (enD ds)) (kp x M1) M1
    | _ => False
  | _ => False
theorem si_enum {X : Cx} {e : Expr} {rs : RF} {p pos tpos : Pos} {elts : List Expr} {kk : Nat} (hm : X.mg "enumerate" = none) (ha : SA X [e] rs) (hg : Gl X "enumerate" := by rfl) (hs : starEach [e] X.env = [(false, eval e X.env)] := by rfl) :
    SI X (.Tuple elts kk tpos) (.Call (.Name "enumerate" p) [e] [] pos) (riEnum rs) := by
  obtain ⟨t, pa, s⟩ := ha
  refine ⟨_, pi_enum hg hm pa hs, fun W M H σ σx P R I S hr q => ?_⟩
  refine s W M H σ σx _ _ I S hr fun W1 M1 H1 vs xs l1 I1 v1 p1 => ?_
  split at p1
  · rename_i x
    cases v1 with
    | cons a1 r1 =>
      cases r1
      split at p1
      · rename_i ys e1
        obtain ⟨ds, e2, p⟩ := ifS_of p1
        have := datX_of e2
        subst this
        obtain ⟨a, vs, rfl, h1, h2⟩ := lstH I1 a1 e1
        exact ⟨a, vs, rfl, h1, q W1 M1 H1 _ _ _ l1 I1 (itx_enum I1 a1 e1) p⟩
      · exact p1.elim
  · exact p1.elim
end G

set_option Elab.async false
set_option linter.all false
set_option maxRecDepth 100000
set_option maxHeartbeats 8000000
/-! G22: zip. -/
namespace G
open PySem PySem.Spec PyProof.Rows L2
def zpD (ds es : List PyData) : List PyData := (ds.zip es).map fun p => .tuple [p.1, p.2]
theorem itx_zip {K : PySem.W.Frag} {W : Wd} {M : Sto} {H : Hp} {a b : Addr} {x y : Xv} {ds es : List PyData} (I : InvS K W M H) (h : VX K W (.ref a) x) (h' : VX K W (.ref b) y) (e : hd M x = .lst (dX ds)) (e' : hd M y = .lst (dX es)) :
    ItX K W (Itz K a b) (dX (zpD ds es)) (fun M2 => kp x M M2 ∧ kp y M M2) := by
  intro W2 M2 H2 i l I2 k
  obtain ⟨a', vs, eb, h1, h2⟩ := lstH I2 (h.lf l) ((hd_kp k.1).trans e)
  cases eb
  obtain ⟨b', us, eb, h3, h4⟩ := lstH I2 (h'.lf l) ((hd_kp k.2).trans e')
  cases eb
  have hl : vs.length = ds.length := by rw [h2.length, List.length_map]
  have hl2 : us.length = es.length := by rw [h4.length, List.length_map]
  have lz : (dX (zpD ds es)).length = min ds.length es.length := by simp [dX, zpD]
  refine ⟨fun hi => ⟨vs, us, h1, h3, by rw [lz] at hi; omega⟩, fun z hz => ?_⟩
  by_cases hi : i < ds.length ∧ i < es.length
  · obtain ⟨hi, hj⟩ := hi
    have ez : z = .d (.tuple [ds[i], es[i]]) := by
      have : (dX (zpD ds es))[i]? = some (.d (.tuple [ds[i], es[i]])) := by
        have q : i < (dX (zpD ds es)).length := by rw [lz]; omega
        rw [List.getElem?_eq_getElem q]
        simp [dX, zpD]
      rw [this] at hz
      exact (Option.some.inj hz).symm
    subst ez
    obtain ⟨v, hv, dv⟩ := DqAll.get (VXs.toD h2) (List.getElem?_eq_getElem hi)
    obtain ⟨u, hu, du⟩ := DqAll.get (VXs.toD h4) (List.getElem?_eq_getElem hj)
    refine ⟨⟨vs, us, v, u, h1, h3, hv, hu⟩, fun w H3 y => ?_⟩
    obtain ⟨T, x1, x2, rfl, hT, rfl, f3, f4⟩ := y
    have e3 := f3 vs h1
    rw [hv] at e3
    cases e3
    have e4 := f4 us h3
    rw [hu] at e4
    cases e4
    obtain ⟨I3, l3⟩ := I2.newData hT (.tup [v, u])
    exact ⟨_, l3, I3, show Dq K _ _ _ from .tup (.inl (.inl upd_same)) (.cons (dv.same l3.f) (.cons (du.same l3.f) .nil))⟩
  · have : (dX (zpD ds es))[i]? = none := List.getElem?_eq_none (by rw [lz]; omega)
    rw [this] at hz
    cases hz
def riZip (rs : RF) : RI := fun σ M P => rs σ M fun xs M1 => match xs with
  | [x, y] => match hd M1 x, hd M1 y with
    | .lst xs, .lst ys => ifS (datX xs) fun ds => ifS (datX ys) fun es => P (dX (zpD ds es)) (fun M2 => kp x M1 M2 ∧ kp y M1 M2) M1
    | _, _ => False
  | _ => False
theorem si_zip {X : Cx} {e e2 : Expr} {rs : RF} {p pos tpos : Pos} {elts : List Expr} {kk : Nat} (hm : X.mg "zip" = none) (ha : SA X [e, e2] rs) (hg : Gl X "zip" := by rfl)
    (hs : starEach [e, e2] X.env = (false, eval e X.env) :: starEach [e2] X.env := by rfl) (hpl : (backTo pos (starEach [e2] X.env)).any (·.1) = false := by rfl) :
    SI X (.Tuple elts kk tpos) (.Call (.Name "zip" p) [e, e2] [] pos) (riZip rs) := by
  obtain ⟨t, pa, s⟩ := ha
  refine ⟨_, pi_zip hg hm pa hs hpl, fun W M H σ σx P R I S hr q => ?_⟩
  refine s W M H σ σx _ _ I S hr fun W1 M1 H1 vs xs l1 I1 v1 p1 => ?_
  split at p1
  · rename_i x y
    cases v1 with
    | cons a1 r1 =>
      cases r1 with
      | cons a2 r2 =>
      cases r2
      split at p1
      · rename_i xs ys e1 e2
        obtain ⟨ds, e3, p1⟩ := ifS_of p1
        obtain ⟨es, e4, p⟩ := ifS_of p1
        have := datX_of e3
        subst this
        have := datX_of e4
        subst this
        obtain ⟨a, vs, rfl, h1, h2⟩ := lstH I1 a1 e1
        obtain ⟨b, us, rfl, h3, h4⟩ := lstH I1 a2 e2
        exact ⟨a, b, vs, us, rfl, h1, h3, q W1 M1 H1 _ _ _ l1 I1 (itx_zip I1 a1 a2 e1 e2) p⟩
      · exact p1.elim
  · exact p1.elim
end G

set_option Elab.async false
set_option linter.all false
set_option maxRecDepth 100000
set_option maxHeartbeats 8000000
/-! G23: dicts whose keys are tuples: made by a comprehension, asked by get. -/
namespace G
open PySem PySem.Spec PyProof.Rows L2
/-! ### the comprehension, over the heap -/
/-- the key's tuple stands at b -/
def KeyAt (H : Hp) (y : V) (k : List Key) : Prop := ∃ b, y = .ref b ∧ H b = some (.tup (k.map kV))
theorem dictSet_t {X : Cx} {pins : List (Addr × Obj)} {σ : St} {H : Hp} {s : Shared} {E : Value → Shared → Prop} {D : Addr} {ws : List (List Key × V)} {k : List Key} {y z : V} {u r : Value} {Q : Unit → Shared → Prop} (hu : X.A.units < cLine) (I : Inv X pins σ H s)
    (hD : H D = some (.dT ws)) (hz : ws.length < sizeLine) (hk : KeyAt H y k) (ry : RelV y u) (rz : RelV z r) (q : ∀ t, Inv X pins σ (upd H D (.dT (putK ws k z))) t → Q () t) : wpAny (model X.prog X.w) X.A (dictSet D u r) Q E s := by
  obtain ⟨b, rfl, hb⟩ := hk
  obtain rfl : u = Value.ref b := ry
  obtain ⟨z1, z2, rows, rel, dd⟩ := dt_of I.hok hD
  have n1 : rows.length ≤ sizeLine := by rw [← Paired.length rel]; exact z1
  have n2 : (putK ws k z).length ≤ sizeLine := by have := length_putK ws k z; omega
  refine wpAny_dictSet_heap (hsz := n1) (knd := tupleKind (mixKind X.prog X.w)) hu (key_of I.hok hb) dd fun hp dd2 sb => q _ ?_
  obtain ⟨o, es, ep, e1, e2, e3, e4, _, e5⟩ := dd2
  refine d_write I (by rw [hD]; trivial) sb ⟨o, e1⟩ ⟨n2, z2, _, (rel.put k hb rz).keeps fun c ys ec => ?_, o, es, ep, e1, e2, e3, e4, e5⟩
  rw [upd_ne (ne_of ec hD (fun w => nomatch w))]
  exact ec
/-- what a turn leaves -/
def tDt (wi : TI) (g : TG) (tt : TT) (tk tv : TE) (ws : List Nat) : TE := fun σ H Q => wi σ H fun J H1 => ∀ D, H1 D = none → ∃ B : Nat → Nat → Hp → Prop, (∃ m, B 0 m (upd H1 D (.dT []))) ∧ ∀ i m Hi, B i m Hi →
  (J.stop i Hi ∧ Q (.ref D) Hi) ∨ (J.go i Hi ∧ ∃ Nx : Hp → Prop, (∀ Hn, Nx Hn → ∃ m', m' < m ∧ B (i + 1) m' Hn) ∧ ∀ x Hx, J.yld i Hi x Hx → g x (wipe σ ws) Hx fun σ2 Ha => wipe σ2 ws = wipe σ ws ∧ tt σ2 Ha fun b Hb =>
    if b = true then tk σ2 Hb fun y Hc => tv σ2 Hc fun z Hd => ∃ kvs k, KeyAt Hd y k ∧ Hd D = some (.dT kvs) ∧ kvs.length < sizeLine ∧ Nx (upd Hd D (.dT (putK kvs k z))) else Nx Hb)
section
variable {X : Cx} {kx vx tg iter : Expr} {ifs : List Expr} {scope : Scope} {own : List (Str × Nat)} {wi : TI} {g : TG} {tt : TT} {tk tv : TE}
/-- what is known of the block's parts, wherever it stands -/
structure PartsOk (X : Cx) (kx vx tg : Expr) (ifs : List Expr) (scope : Scope) (g : TG) (tt : TT) (tk tv : TE) : Prop where
  pg : ∀ (t : Shared) (H : Hp) (C : Addr) (cl : List (Str × Addr)) (fp : List Addr), PG (X.blk t H scope (compEnvC scope cl C X.env) fp) tg g
  pt : ∀ (t : Shared) (H : Hp) (C : Addr) (cl : List (Str × Addr)) (fp : List Addr), PTs (X.blk t H scope (compEnvC scope cl C X.env) fp) ifs tt
  pk : ∀ (t : Shared) (H : Hp) (C : Addr) (cl : List (Str × Addr)) (fp : List Addr), PE (X.blk t H scope (compEnvC scope cl C X.env) fp) kx tk
  pv : ∀ (t : Shared) (H : Hp) (C : Addr) (cl : List (Str × Addr)) (fp : List Addr), PE (X.blk t H scope (compEnvC scope cl C X.env) fp) vx tv
theorem dt_core {pins : List (Addr × Obj)} {σ : St} {H : Hp} {s : Shared} {Q : VK} {pos cpos : Pos} {use : Option (Value → Sem Unit)} {Qf : Value → Shared → Prop} (hu : X.A.units < cLine) (hc : X.calm = true) (hN : X.N.Nodup) (I : Inv X pins σ H s) (hi : PI X tg iter wi) (ok : BlkOk X.N X.env.scope scope own)
    (po : PartsOk X kx vx tg ifs scope g tt tk tv) (hs : ∀ x, foldedSetIterable iter X.env x = pure x) (h : tDt wi g tt tk tv (own.map (·.2)) σ H Q)
    (close : ∀ D C t m Hn, Inv X pins σ Hn t → Q (.ref D) Hn → t.heap.Ns C m → FpOk X pins Hn C → compPost (model X.prog X.w) X.A X.xe use Qf (.ref D) C (.ok .next) t) :
    wpAny (model X.prog X.w) X.A (comprehension (.DictComp kx vx [⟨tg, iter, ifs, 0⟩] scope pos) scope X.env cpos newDict false (eval iter X.env) use) Qf X.xe s := by
  have cells : ∀ y ∈ scope.names, y.2 = .free → ∃ c, X.env.cells.lookup y.1 = some c := fun y hy e => (ok.free y hy e).elim (fun z => I.ok.has _ (.inl z)) fun z => I.ok.has _ (.inr z)
  refine wpAny_comprehension_free (use := use) rfl hs (closure_ok cells) ok.kind (fun y hy e => by rw [ok.uniq y hy, e]) (thn (hi.run pins s σ H _ I h) fun v t1 w1 => thn w1 fun v2 t2 w2 => ?_)
  obtain ⟨it, fp, tn, J, H2, rfl, I2, T, s2, f2, q⟩ := w2
  refine wpAny_newObj_type (newEnv_comp ?_)
  -- the new dict at D
  obtain ⟨D, eD⟩ : ∃ D, t2.heap.objs.size = D := ⟨_, rfl⟩
  obtain ⟨B, ⟨m0, b0⟩, turn⟩ := q D (I2.hok.fresh (Nat.le_of_eq eD))
  obtain ⟨t3, e3⟩ : ∃ t3 : Shared, ({ t2 with heap := t2.heap.push { cls := .type "dict", data := .dict #[] } } : Shared) = t3 := ⟨_, rfl⟩
  have e3h : t3.heap = t2.heap.push { cls := .type "dict", data := .dict #[] } := by rw [← e3]
  have I3 : Inv X pins σ (upd H2 D (.dT [])) t3 := by
    subst e3 eD
    exact I2.laid (t' := t2.toks) (fun b o z => Heap.get?_push_of_some _ z) (Nat.le_refl _) (dt_empty t2.heap I2.big)
  have small : ∀ b ∈ fp, b < t2.heap.objs.size := fun b hb => let ⟨o, e, _⟩ := T.obj _ _ s2 b hb; Heap.lt_size e
  have f3 : ∀ b ∈ fp, FpOk X pins (upd H2 D (.dT [])) b ∧ b < t3.heap.objs.size := fun b hb => by
    have lb := small b hb
    refine ⟨⟨?_, (f2 b hb).2⟩, by rw [e3h, Heap.size_push]; exact Nat.lt_succ_of_lt lb⟩
    rw [upd_ne (by rw [← eD]; exact Nat.ne_of_lt lb)]
    exact (f2 b hb).1
  have s3 : tn 0 t3.heap := T.keep _ _ _ s2 fun b _ o e => by rw [e3h]; exact Heap.get?_push_of_some _ e
  have I4 := block_start I3 ok hN f3
  show codeAny _ _ (.compStart (.DictComp kx vx [⟨tg, iter, ifs, 0⟩] scope pos) 0 (.ref it) (.ref t2.heap.objs.size) (compEnvC scope (cellsFrom ((t2.heap.push { cls := .type "dict", data := .dict #[] }).objs.size + 1) scope.names (cloFrom X.env.cells scope.names [])) (t2.heap.push { cls := .type "dict", data := .dict #[] }).objs.size X.env)) _ { t2 with heap := pushCells ((t2.heap.push { cls := .type "dict", data := .dict #[] }).push { cls := .type "dict", data := .dict #[] }) scope.names }
  rw [← e3h, eD]
  have e4 : ({ t2 with heap := pushCells (t3.heap.push { cls := .type "dict", data := .dict #[] }) scope.names } : Shared) = { t3 with heap := pushCells (t3.heap.push { cls := .type "dict", data := .dict #[] }) scope.names } := by rw [← e3]
  rw [e4]
  have p1 := po.pg t3 (upd H2 D (.dT [])) t3.heap.objs.size (cellsFrom (t3.heap.objs.size + 1) scope.names (cloFrom X.env.cells scope.names [])) fp
  have p2 := po.pt t3 (upd H2 D (.dT [])) t3.heap.objs.size (cellsFrom (t3.heap.objs.size + 1) scope.names (cloFrom X.env.cells scope.names [])) fp
  have p3 := po.pk t3 (upd H2 D (.dT [])) t3.heap.objs.size (cellsFrom (t3.heap.objs.size + 1) scope.names (cloFrom X.env.cells scope.names [])) fp
  have p4 := po.pv t3 (upd H2 D (.dT [])) t3.heap.objs.size (cellsFrom (t3.heap.objs.size + 1) scope.names (cloFrom X.env.cells scope.names [])) fp
  obtain ⟨ce, hce⟩ : ∃ ce, compEnvC scope (cellsFrom (t3.heap.objs.size + 1) scope.names (cloFrom X.env.cells scope.names [])) t3.heap.objs.size X.env = ce := ⟨_, rfl⟩
  have cl : ce.locals = t3.heap.objs.size := by rw [← hce]; rfl
  rw [hce] at I4 p1 p2 p3 p4 ⊢
  have s4 : tn 0 ({ t3 with heap := pushCells (t3.heap.push { cls := .type "dict", data := .dict #[] }) scope.names } : Shared).heap := T.keep _ _ _ s3 fun b _ o e => pushCells_keeps _ _ _ _ (Heap.get?_push_of_some _ e)
  obtain ⟨t4, e5⟩ : ∃ t4 : Shared, ({ t3 with heap := pushCells (t3.heap.push { cls := .type "dict", data := .dict #[] }) scope.names } : Shared) = t4 := ⟨_, rfl⟩
  rw [e5] at I4 s4 ⊢
  have n3 : ∀ b ∈ fp, upd H2 D (.dT []) b = none := fun b hb => (f3 b hb).1.1
  obtain ⟨H3, e6⟩ : ∃ H3, upd H2 D (.dT []) = H3 := ⟨_, rfl⟩
  rw [e6] at I3 I4 p1 p2 p3 p4 b0 n3 f3
  have bare : ∀ {ρ : St} {Hn : Hp} {t : Shared}, Inv (X.blk t3 H3 scope ce fp) [] ρ Hn t → (∀ b ∈ fp, Hn b = none) → ∀ b ∈ fp, FpOk (X.blk t3 H3 scope ce fp) [] Hn b := fun {ρ Hn t} J' z b hb =>
    ⟨z b hb, (J'.ok.exf b hb).1, J'.ok.exfs b hb, .inl hb, fun x c e => (J'.ok.exf b hb).2 x c e, fun p hp => (List.not_mem_nil hp).elim⟩
  suffices loop : codeAny (model X.prog X.w) X.A (.compLoop (.DictComp kx vx [⟨tg, iter, ifs, 0⟩] scope pos) 0 (.ref it) (.ref D) ce) (compPost (model X.prog X.w) X.A X.xe use Qf (.ref D) t3.heap.objs.size) t4 from
    codeAny_compStart_dict loop (T.self X.A 0 _ _ _ s4 loop)
  refine compLoop_anyD (fun n t => ∃ i Hn, Inv (X.blk t3 H3 scope ce fp) [] (wipe σ (own.map (·.2))) Hn t ∧ tn i t.heap ∧ (∀ b ∈ fp, Hn b = none) ∧ B i n Hn) ?_ m0 ⟨0, H3, I4, s4, n3, b0⟩
  rintro n t5 ⟨i, H5, I5, s5, n5, b5⟩
  rcases turn i n H5 b5 with ⟨z, qq⟩ | ⟨z, Nx, hNx, step⟩
  · refine thnF (T.done (X.blk t3 H3 scope ce fp) rfl rfl rfl hc i [] t5 _ H5 (fun _ _ => False) I5 (bare I5 n5) s5 z) fun r t6 ⟨er, I6⟩ => ?_
    subst er
    have hF : H5 t3.heap.objs.size = none := by
      have w : H5 ce.locals = none := I6.free
      rwa [cl] at w
    obtain ⟨m, hm, _⟩ := I6.loc
    have hm : t6.heap.Ns ce.locals m := hm
    rw [cl] at hm
    refine close D _ t6 m H5 (I3.call' (ch := fp) I6.os I6.base I6.hok I6.bare fun b hb => ?_) qq hm (I3.fpOk (Nat.le_refl _) hF)
    obtain ⟨⟨_, a1, a2, a3, a4, a5⟩, _⟩ := f3 b hb
    exact ⟨a3, a1, a4, a5⟩
  · refine thnF (T.item (X.blk t3 H3 scope ce fp) rfl rfl rfl hc i [] t5 _ H5 (fun _ _ => False) I5 (bare I5 n5) s5 z) fun r t6 ⟨u, er, w6⟩ => ?_
    subst er
    refine thnF w6 fun _ t7 ⟨x, H7, I7, r7, y7, s7, n7⟩ => ?_
    refine thnF (p1.run _ t7 _ H7 x u _ (I7.pinned (bare I7 n7) (T.obj _ _ s7)) r7 (step x H7 y7)) fun _ t8 ⟨σ8, H8, I8, w8, q8⟩ => ?_
    refine thnF (p2.run _ t8 σ8 H8 _ I8 q8) fun b t9 ⟨H9, I9, q9⟩ => ?_
    have done : ∀ {t : Shared} {Hn : Hp}, Inv (X.blk t3 H3 scope ce fp) ([] ++ pinsAt fp t7.heap) σ8 Hn t → Nx Hn → ∃ m, m < n ∧ ∃ i Hn, Inv (X.blk t3 H3 scope ce fp) [] (wipe σ (own.map (·.2))) Hn t ∧ tn i t.heap ∧ (∀ b ∈ fp, Hn b = none) ∧ B i m Hn := fun {t Hn} J' nx => by
      obtain ⟨m', hm, bn⟩ := hNx Hn nx
      have pin : ∀ b ∈ fp, ∀ o, t7.heap.get? b = some o → t.heap.get? b = some o ∧ Hn b = none := fun b hb o e => by
        obtain ⟨a1, a2, _⟩ := J'.pin (b, o) (List.mem_append_right _ (List.mem_append_right _ (mem_pinsAt hb e)))
        exact ⟨a1, a2⟩
      refine ⟨m', hm, i + 1, Hn, (J'.unpinned (pins := [])).weak (by rw [← w8, wipe_length]) (fun j v e => (wipe_some (by rw [w8]; exact e)).1), T.keep _ _ _ s7 fun b hb o e => (pin b hb o e).1, fun b hb => ?_, bn⟩
      obtain ⟨o, e, _⟩ := T.obj _ _ s7 b hb
      exact (pin b hb o e).2
    cases b with
    | false => exact done I9 q9
    | true =>
      refine thnF (p3.run _ t9 σ8 H9 _ I9 q9) fun u1 t10 ⟨y, H10, I10, r10, q10⟩ => ?_
      refine thnF (p4.run _ t10 σ8 H10 _ I10 q10) fun u2 t11 ⟨z2, H11, I11, r11, kvs, k, hk, hD, hz, nx⟩ => ?_
      exact dictSet_t (X := X.blk t3 H3 scope ce fp) hu I11 hD hz hk r10 r11 fun t12 I12 => done I12 nx
/-- {(a, ..): v for ..} as a value -/
theorem pe_dt {pos : Pos} (hu : X.A.units < cLine) (hc : X.calm = true) (hN : X.N.Nodup) (hi : PI X tg iter wi) (ok : BlkOk X.N X.env.scope scope own) (po : PartsOk X kx vx tg ifs scope g tt tk tv) (hs : ∀ x, foldedSetIterable iter X.env x = pure x := by intro _; rfl) :
    PE X (.DictComp kx vx [⟨tg, iter, ifs, 0⟩] scope pos) (tDt wi g tt tk tv (own.map (·.2))) := by
  refine ⟨fun pins s σ H Q I h => ?_⟩
  rw [arm_eval_DictComp]
  exact dt_core hu hc hN I hi ok po hs h fun D C t m Hn In q hm fp => ⟨m, hm, fun hp sb => ⟨.ref D, Hn, let ⟨f0, f1, f2, f3, f4, f5⟩ := fp; In.turned (t' := t.toks) (fun b o hb e => (sb.2 b hb).trans e) f0 f1 f3 f4 f5, rfl, q⟩⟩
/-- name = {(a, ..): v for ..}, on one line -/
theorem ps_setDt {i : Nat} {y : Str} {py : Pos} {pos spos : Pos} (hu : X.A.units < cLine) (hc : X.calm = true) (hN : X.N.Nodup) (hy : X.N[i]? = some y) (hyl : X.env.scope.names.lookup y = some .local)
    (hsw : swapsWith (.DictComp kx vx [⟨tg, iter, ifs, 0⟩] scope pos) (some (.Name y py)) spos.line X.env = pure true) (hi : PI X tg iter wi) (ok : BlkOk X.N X.env.scope scope own) (po : PartsOk X kx vx tg ifs scope g tt tk tv) (hs : ∀ x, foldedSetIterable iter X.env x = pure x := by intro _; rfl) :
    PS X (.Assign [.Name y py] (.DictComp kx vx [⟨tg, iter, ifs, 0⟩] scope pos) spos) (tAsg (tDt wi g tt tk tv (own.map (·.2))) (gName i)) := by
  refine ⟨fun pins s σ H D I h => ?_⟩
  rw [exec_Assign_Name_used _ _ _ _ hsw]
  refine wpAny_bind (wpAny_standAt (wpAny_bind ?_))
  have h : tDt wi g tt tk tv (own.map (·.2)) σ H (fun x H1 => gName i x σ H1 D.nx) := h
  refine wpAny_bind (thn (dt_core (cpos := firstIterPos [⟨tg, iter, ifs, 0⟩] pos) (use := some (assign (.Name y py) X.env)) (Qf := fun _ t => SP X pins D .next t) hu hc hN I hi ok po hs h fun A C t m Hn In q hm fp => ?_) fun _ t hq => wpAny_pure (wpAny_pure hq))
  show wpAny _ _ (assign (.Name y py) X.env (.ref A)) _ _ _
  refine wpAny_assign_Name (store_ok2 (v := V.ref A) In hN hy (.inl hyl) rfl (fun t2 I2 ⟨a, sb, ha⟩ => ?_) (.inr hyl))
  obtain ⟨f0, f1, f2, f3, f4, f5⟩ := fp
  have ne : C ≠ a := by
    rcases ha with z | z
    · rw [z]; exact f1
    · exact fun e => f4 y a z e.symm
  exact ⟨m, hm.sameBut sb ne, fun hp sb2 => ⟨_, Hn, I2.turned (t' := t2.toks) (fun b o hb e => (sb2.2 b hb).trans e) f0 f1 f3 f4 f5, q⟩⟩
end
end G

set_option Elab.async false
set_option linter.all false
set_option maxRecDepth 100000
set_option maxHeartbeats 8000000
/-! G24: {(a, ..): v for ..} and d.get((a, ..), x), d[(a, ..)] over the store. -/
namespace G
open PySem PySem.Spec PyProof.Rows L2
/-! ### keys that are fresh tuples -/
abbrev RK := Sl → Sto → (List Key → Sto → Prop) → Prop
def SndK (K : PySem.W.Frag) (t : TE) (r : RK) : Prop := ∀ (W : Wd) (M : Sto) (H : Hp) (σ : St) (σx : Sl) (P : List Key → Sto → Prop) (Q : VK), InvS K W M H → Slr K W σ σx → r σx M P →
  (∀ W' M' H' b ks, W.le W' → InvS K W' M' H' → Loose W' H' b (.tup (ks.map kV)) → P ks M' → Q (.ref b) H') → t σ H Q
def SK (X : Cx) (e : Expr) (r : RK) : Prop := ∃ t, PE X e t ∧ SndK X.K t r
def tkOf (K : PySem.W.Frag) (r : RK) : TE := fun σ H Q => ∃ W M σx P, InvS K W M H ∧ Slr K W σ σx ∧ r σx M P ∧ ∀ W' M' H' b ks, W.le W' → InvS K W' M' H' → Loose W' H' b (.tup (ks.map kV)) → P ks M' → Q (.ref b) H'
theorem SK.can {X : Cx} {e : Expr} {r : RK} (h : SK X e r) : PE X e (tkOf X.K r) := by
  obtain ⟨t, p, s⟩ := h
  exact ⟨fun pins st σ H Q I ⟨W, M, σx, P, J, S, hr, q⟩ => p.run pins st σ H Q I (s W M H σ σx P Q J S hr q)⟩
def rKt (rs : RF) : RK := fun σ M P => rs σ M fun xs M1 => xs.length ≤ sizeLine ∧ ifS (keysX xs) fun ks => P ks M1
theorem sk_tup {X : Cx} {es : List Expr} {k : Nat} {pos : Pos} {rs : RF} (h : SA X es rs) : SK X (.Tuple es k pos) (rKt rs) := by
  obtain ⟨t, p, s⟩ := h
  refine ⟨_, pe_tup p, fun W M H σ σx P Q I S h q => ?_⟩
  refine s W M H σ σx _ _ I S h fun W1 M1 H1 vs xs l1 I1 v1 p1 => ⟨by rw [v1.length]; exact p1.1, fun b hb => ?_⟩
  obtain ⟨ks, e, p2⟩ := ifS_of p1.2
  have ev := keysX_ok e v1
  subst ev
  obtain ⟨I2, L2⟩ := I1.loose hb (.tup (ks.map kV))
  exact q W1 M1 _ b ks l1 I2 L2 p2
/-- a tuple's slice that is less than the tuple -/
def rKs (re : RE) (rl rh : Sl → Sto → (Option Int → Sto → Prop) → Prop) : RK := fun σ M P => re σ M fun x M1 => rl σ M1 fun l M2 => rh σ M2 fun u M3 => match hd M3 x with
  | .tup _ => ifS (dT x) fun ds => ¬ (HT.sIx ds.length 0 l = 0 ∧ HT.sIx ds.length ds.length u = ds.length) ∧ ifS (keysX (dX (cutX ds l u))) fun ks => P ks M3
  | _ => False
theorem sk_slice {X : Cx} {e : Expr} {lo hi : Option Expr} {re : RE} {rl rh : Sl → Sto → (Option Int → Sto → Prop) → Prop} {pos p2 : Pos} (he : SE X e re) (hl : SO X lo rl) (hh : SO X hi rh) : SK X (.Subscript e (.Slice lo hi none p2) pos) (rKs re rl rh) := by
  obtain ⟨te, pe, se⟩ := he
  obtain ⟨tl, pl, sl⟩ := hl
  obtain ⟨th, ph, sh⟩ := hh
  refine ⟨_, pe_slice sl_tupA pe pl ph, fun W M H σ σx P Q I S hr q => ?_⟩
  refine se W M H σ σx _ _ I S hr fun W1 M1 H1 v x l1 I1 v1 p1 => ?_
  refine sl W1 M1 H1 σ σx _ _ I1 (S.le l1) p1 fun W2 M2 H2 l l2 I2 p2 => ?_
  refine sh W2 M2 H2 σ σx _ _ I2 (S.le (l1.trans l2)) p2 fun W3 M3 H3 u l3 I3 p3 => ?_
  have v3 := v1.le (l2.trans l3)
  split at p3
  · rename_i xs e1
    obtain ⟨ds, e2, n0, p3⟩ := ifS_of p3
    obtain ⟨ks, e3, p⟩ := ifS_of p3
    have e2 := dT_of e2
    subst e2
    obtain ⟨a, vs, rfl, h1, h2⟩ := vx_tup v3
    refine ⟨a, vs, rfl, (SameR.of I3.sf).sqT h1, fun hw => absurd (by rw [h2.length] at hw; exact hw) n0, fun hw b hb => ?_⟩
    have z := (VXs.ofD h2).cut l u
    rw [cutX_map] at z
    have ev := keysX_ok e3 z
    rw [ev]
    obtain ⟨I4, L4⟩ := I3.loose hb (.tup (ks.map kV))
    exact q W3 M3 _ b ks (l1.trans (l2.trans l3)) I4 L4 p
  · exact p3.elim
/-! ### the comprehension -/
section
variable {K : PySem.W.Frag} {W : Wd} {M : Sto} {H : Hp} {b D : Addr} {u : HO}
theorem InvS.guardL (I : InvS K W M H) (L : Loose W H b u) : InvS K ⟨W.θ, W.F, upd W.G b u⟩ M H := by
  refine ⟨I.len, I.nd, fun i a o h1 h2 => (I.ob i a o h1 h2).lf ⟨fun _ _ z => z, SameR.refl _⟩ rfl rfl, I.sf, fun c o e => ?_, fun a => ?_, fun a ha => ?_, I.th⟩
  · have e : upd W.G b u c = some o := e
    by_cases z : c = b
    · subst z; rw [upd_same] at e; cases e; exact L.at_
    · rw [upd_ne z] at e; exact I.sg c o e
  · by_cases z : a = b
    · subst z; exact .inl L.f
    · rcases I.fg a with w | w | w
      · exact .inl w
      · exact .inr (.inl (by show upd W.G b u a = none; rw [upd_ne z]; exact w))
      · exact .inr (.inr w)
  · show upd W.G b u a = none
    rw [upd_ne (show a ≠ b from fun e => L.t (e ▸ ha))]
    exact I.tg a ha
end
def dtW (g : RG) (rt : RT) (rk : RK) (rv : RE) (keep : Sto → Prop) (σw : Sl) (P : List (List Key × Xv) → Sto → Prop) : List Xv → List (List Key × Xv) → Sto → Prop
  | [], acc, M => keep M ∧ P acc M
  | x :: xs, acc, M => keep M ∧ g x σw M fun σ1 M1 => rt σ1 M1 fun b M2 => if b = true then rk σ1 M2 fun k M3 => rv σ1 M3 fun z M4 => acc.length < sizeLine ∧ dtW g rt rk rv keep σw P xs (putX acc k z) M4 else dtW g rt rk rv keep σw P xs acc M2
def rDt (ri : RI) (g : RG) (rt : RT) (rk : RK) (rv : RE) (vs : List Nat) : RE := fun σ M P => ri σ M fun items keep M1 => dtW g rt rk rv keep (wipeX σ vs) (fun acc M2 => P (.c M2.length) (M2 ++ [.dit acc])) items [] M1
theorem snd_dt {K : PySem.W.Frag} {wi : TI} {ri : RI} {js vs : List Nat} {g : RG} {rt : RT} {rk : RK} {rv : RE} (hi : SndI K wi ri) (hj : ∀ j ∈ js, j ∈ vs) : Snd K (tDt wi (tgOf K js g) (ttOf K rt) (tkOf K rk) (tOf K rv) vs) (rDt ri g rt rk rv vs) := by
  intro W M H σ σx P Q I S h q
  refine hi W M H σ σx _ _ I S h fun W1 M1 H1 J items keep l1 I1 T p1 => ?_
  intro D hD
  have S1 := slr_wipe (S.le l1) vs
  have gD : W1.G D = none := (I1.fresh hD).2.1
  let P' : List (List Key × Xv) → Sto → Prop := fun acc M2 => P (.c M2.length) (M2 ++ [.dit acc])
  let St (i : Nat) (Hn : Hp) : Prop := ∃ (Wn : Wd) (Mn : Sto) (acc : List (List Key × Xv)) (va : List (List Key × V)), W1.le Wn ∧ InvS K ⟨Wn.θ, Wn.F, upd W1.G D (.dT va)⟩ Mn Hn ∧ KVX K Wn va acc ∧ dtW g rt rk rv keep (wipeX σx vs) P' (items.drop i) acc Mn
  refine ⟨fun i m Hn => m = items.length - i ∧ St i Hn, ⟨_, rfl, W1, M1, [], [], .refl W1, I1.guard hD, .nil, p1⟩, ?_⟩
  rintro i m Hn ⟨rfl, Wn, Mn, acc, va, ln, In, kn, pn⟩
  have up : ∀ u, W1.lf ⟨Wn.θ, Wn.F, u⟩ := fun u => ⟨ln.th, ln.f⟩
  by_cases hi' : i < items.length
  · rw [List.drop_eq_getElem_cons hi'] at pn
    obtain ⟨hk, pn⟩ := pn
    obtain ⟨_, T2⟩ := T _ Mn Hn i (up _) In hk
    obtain ⟨go, T3⟩ := T2 items[i] (List.getElem?_eq_getElem hi')
    refine .inr ⟨go, St (i + 1), fun H2 h2 => ⟨items.length - (i + 1), by omega, rfl, h2⟩, fun v H3 y => ?_⟩
    obtain ⟨W3, l3, I3, v3⟩ := T3 v H3 y
    have S3 : Slr K W3 (wipe σ vs) (wipeX σx vs) := (S1.lf (up _)).le l3
    refine ⟨_, Mn, _, _, _, I3, S3, v3, pn, fun W4 M4 H4 σ4 σx4 l4 I4 S4 w4 p4 => ⟨?_, ?_⟩⟩
    · rw [w4 vs hj]
      refine List.ext_getElem? fun j => ?_
      rw [wipe_get, wipe_get, wipe_length]
      split <;> rfl
    refine ⟨_, M4, _, _, I4, S4, p4, fun W5 M5 H5 c l5 I5 p5 => ?_⟩
    have g5 : W5.G = upd W1.G D (.dT va) := by rw [l5.g, l4.g, l3.g]
    have l15 : W1.lf W5 := ((up _).trans l3.tolf).trans (l4.trans l5).tolf
    have k5 : KVX K W5 va acc := KVX.lf (l3.trans (l4.trans l5)).tolf kn
    cases c with
    | false =>
      have p5 : dtW g rt rk rv keep (wipeX σx vs) P' (items.drop (i + 1)) acc M5 := p5
      show St (i + 1) H5
      exact ⟨⟨W5.θ, W5.F, W1.G⟩, M5, acc, va, ⟨⟨l15.th, l15.f⟩, rfl⟩, (by show InvS K ⟨W5.θ, W5.F, upd W1.G D (.dT va)⟩ M5 H5; rw [← g5]; exact I5), k5, p5⟩
    | true =>
      refine ⟨_, M5, _, _, I5, S4.le l5, p5, fun W6 M6 H6 b ks l6 I6 L6 p6 => ?_⟩
      have g6 : W6.G = upd W1.G D (.dT va) := by rw [l6.g, g5]
      have bD : b ≠ D := fun e => by
        have := L6.g
        rw [g6, e, upd_same] at this
        cases this
      have I6g := I6.guardL L6
      refine ⟨_, M6, _, _, I6g, ((S4.le l5).le l6).lf ⟨fun _ _ z => z, SameR.refl _⟩, p6, fun W7 M7 H7 w7 x7 l7 I7 v7 p7 => ?_⟩
      obtain ⟨hz, p7⟩ := p7
      have g7 : W7.G = upd (upd W1.G D (.dT va)) b (.tup (ks.map kV)) := by rw [l7.g]; show upd W6.G b _ = _; rw [g6]
      have gb : W7.G b = some (.tup (ks.map kV)) := by rw [g7]; exact upd_same
      have gd : W7.G D = some (.dT va) := by rw [g7, upd_ne (Ne.symm bD)]; exact upd_same
      have l67 : W6.lf W7 := ⟨l7.th, l7.f⟩
      have k7 : KVX K W7 va acc := KVX.lf (l6.tolf.trans l67) k5
      refine ⟨va, ks, ⟨b, rfl, I7.sg b _ gb⟩, I7.sg D _ gd, by rw [KVX.length k7]; exact hz, ?_⟩
      have l17 := l15.trans (l6.tolf.trans l67)
      refine ⟨⟨W7.θ, W7.F, W1.G⟩, M7, putX acc ks x7, putK va ks w7, ⟨⟨l17.th, l17.f⟩, rfl⟩, ?_, (KVX.put k7 v7).lf ⟨fun _ _ z => z, SameR.refl _⟩, p7⟩
      have r7 := I7.reguard (u' := .dT (putK va ks w7)) gd
      refine InvS.dropG (G0 := upd W1.G D (.dT (putK va ks w7))) r7 fun c o e => ?_
      show upd W7.G D _ c = some o
      by_cases z : c = D
      · subst z; rw [upd_same] at e ⊢; exact e
      · rw [upd_ne z] at e ⊢
        have cb : c ≠ b := fun w => by
          have := L6.g
          rw [g6, ← w, upd_ne z, e] at this
          cases this
        rw [g7, upd_ne cb, upd_ne z]
        exact e
  · rw [List.drop_of_length_le (by omega)] at pn
    obtain ⟨hk, pn⟩ := pn
    refine .inl ⟨(T _ Mn Hn i (up _) In hk).1 (by omega), ?_⟩
    have I2 := In.dropG (G0 := W1.G) (same_new gD)
    have hg : (upd W1.G D (.dT va)) D = some (.dT va) := upd_same
    have fD : Wn.F D = none := In.fD hg nofun
    have tD : D ∉ Wn.θ := fun z => by
      have w : upd W1.G D (.dT va) D = none := In.tg D z
      rw [upd_same] at w
      cases w
    have L2 : Loose ⟨Wn.θ, Wn.F, W1.G⟩ Hn D (.dT va) := ⟨In.sg D _ hg, fD, gD, tD⟩
    have lW : W.le ⟨Wn.θ, Wn.F, W1.G⟩ := l1.trans ⟨⟨ln.th, ln.f⟩, rfl⟩
    have kx : KVX K ⟨Wn.θ, Wn.F, W1.G⟩ va acc := KVX.lf ⟨fun _ _ z => z, SameR.refl _⟩ kn
    obtain ⟨I5, l5, x5⟩ := I2.adoptCell L2 (o := .dit acc) fun W' l' f' => ⟨f', _, L2.at_, kx.le l'⟩
    exact q _ _ _ _ _ (lW.trans l5) I5 x5 pn
/-- key and value of a turn -/
def SDt (X : Cx) (kx vx : Expr) (ifs : List Expr) (tg : Expr) (scope : Scope) (js : List Nat) (g : RG) (rt : RT) (rk : RK) (rv : RE) : Prop :=
  ∀ (s : Shared) (H : Hp) (C : Addr) (cl : List (Str × Addr)) (fp : List Addr),
    SG (X.blk s H scope (compEnvC scope cl C X.env) fp) tg js g ∧ (∃ t, PTs (X.blk s H scope (compEnvC scope cl C X.env) fp) ifs t ∧ SndT X.K t rt) ∧ SK (X.blk s H scope (compEnvC scope cl C X.env) fp) kx rk ∧ SE (X.blk s H scope (compEnvC scope cl C X.env) fp) vx rv
section
variable {X : Cx} {kx vx tg iter : Expr} {ifs : List Expr} {scope : Scope} {own : List (Str × Nat)} {pos : Pos} {ri : RI} {js : List Nat} {g : RG} {rt : RT} {rk : RK} {rv : RE}
theorem SDt.parts (hb : SDt X kx vx ifs tg scope js g rt rk rv) : PartsOk X kx vx tg ifs scope (tgOf X.K js g) (ttOf X.K rt) (tkOf X.K rk) (tOf X.K rv) :=
  ⟨fun s H C cl fp => (hb s H C cl fp).1.can, fun s H C cl fp => pts_can (hb s H C cl fp).2.1, fun s H C cl fp => (hb s H C cl fp).2.2.1.can, fun s H C cl fp => (hb s H C cl fp).2.2.2.can⟩
theorem se_dt (hu : X.A.units < cLine) (hc : X.calm = true) (hN : X.N.Nodup) (hi : SI X tg iter ri) (ok : BlkOk X.N X.env.scope scope own) (hb : SDt X kx vx ifs tg scope js g rt rk rv)
    (hj : (js.all fun j => (own.map (·.2)).contains j) = true := by rfl) (hs : ∀ x, foldedSetIterable iter X.env x = pure x := by intro _; rfl) :
    SE X (.DictComp kx vx [⟨tg, iter, ifs, 0⟩] scope pos) (rDt ri g rt rk rv (own.map (·.2))) := by
  obtain ⟨wi, pi, si⟩ := hi
  exact ⟨_, pe_dt hu hc hN pi ok hb.parts hs, snd_dt si fun j hm => by simpa using List.all_eq_true.mp hj j hm⟩
theorem ss_setDt {i : Nat} {y : Str} {py : Pos} {spos : Pos} (hu : X.A.units < cLine) (hc : X.calm = true) (hN : X.N.Nodup) (hi : SI X tg iter ri) (ok : BlkOk X.N X.env.scope scope own) (hb : SDt X kx vx ifs tg scope js g rt rk rv)
    (hsw : swapsWith (.DictComp kx vx [⟨tg, iter, ifs, 0⟩] scope pos) (some (.Name y py)) spos.line X.env = pure true) (hy : X.N[i]? = some y := by rfl) (hyl : X.env.scope.names.lookup y = some .local := by rfl)
    (hj : (js.all fun j => (own.map (·.2)).contains j) = true := by rfl) (hs : ∀ x, foldedSetIterable iter X.env x = pure x := by intro _; rfl) :
    SS X (.Assign [.Name y py] (.DictComp kx vx [⟨tg, iter, ifs, 0⟩] scope pos) spos) (rAsg (rDt ri g rt rk rv (own.map (·.2))) (rgName i)) := by
  obtain ⟨wi, pi, si⟩ := hi
  refine ⟨_, ps_setDt hu hc hN hy hyl hsw pi ok hb.parts hs, fun W M H σ σx P D I S h q => ?_⟩
  refine snd_dt si (fun j hm => by simpa using List.all_eq_true.mp hj j hm) W M H σ σx _ _ I S h fun W1 M1 H1 v x l1 I1 v1 p1 => ?_
  exact q W1 M1 H1 (.nx (σx.set i (some x))) l1 I1 p1 _ ((S.le l1).set i v1)
end
/-! ### asked -/
def isDit (M : Sto) (x : Xv) : Prop := match hd M x with
  | .dit _ => True
  | _ => False
def valX : List (List Key × Xv) → List Key → Option Xv
  | [], _ => none
  | p :: r, k => if p.1 = k then some p.2 else valX r k
theorem valX_ok {K : PySem.W.Frag} {W : Wd} : ∀ {vs : List (List Key × V)} {kvs : List (List Key × Xv)} (k : List Key), KVX K W vs kvs → (valX kvs k = none ∧ valV vs k = none) ∨ ∃ v x, valX kvs k = some x ∧ valV vs k = some v ∧ VX K W v x
  | _, _, k, .nil => .inl ⟨rfl, rfl⟩
  | (k1, v) :: vs, (k2, x) :: kvs, k, .cons ⟨e, h⟩ t => by
    have e : k1 = k2 := e
    subst e
    have e1 : valX ((k1, x) :: kvs) k = if k1 = k then some x else valX kvs k := rfl
    have e2 : valV ((k1, v) :: vs) k = if k1 = k then some v else valV vs k := by
      by_cases c : k1 = k <;> simp [valV, c]
    rw [e1, e2]
    by_cases c : k1 = k
    · rw [if_pos c, if_pos c]; exact .inr ⟨v, x, rfl, rfl, h⟩
    · rw [if_neg c, if_neg c]; exact valX_ok k t
/-- d.get(k, z): k a fresh tuple -/
def rGetT (ro : RE) (rk : RK) (rd : RE) : RE := fun σ M P => ro σ M fun o M1 => isDit M1 o ∧ rk σ M1 fun k M2 => rd σ M2 fun z M3 => match hd M3 o with
  | .dit kvs => P ((valX kvs k).getD z) M3
  | _ => False
section
variable {X : Cx} {o e f : Expr} {ro rd : RE} {rk : RK} {apos cpos : Pos}
theorem se_getT (hu : X.A.units + 1 < cLine) (ho : SE X o ro) (he : SK X e rk) (hf : SE X f rd) (m : M2 X o "get" apos e f cpos := by exact ⟨by rfl, by rfl, by rfl, by rfl⟩) : SE X (.Call (.Attribute o "get" apos) [e, f] [] cpos) (rGetT ro rk rd) := by
  obtain ⟨to, po, so⟩ := ho
  obtain ⟨te, pe, se⟩ := he
  obtain ⟨tf, pf, sf⟩ := hf
  refine ⟨_, pe_dget2 hu po pe pf m, fun W M H σ σx P Q I S hr q => ?_⟩
  refine so W M H σ σx _ _ I S hr fun W1 M1 H1 v x l1 I1 v1 p1 => ?_
  obtain ⟨hd1, p1⟩ := p1
  unfold isDit at hd1
  split at hd1
  · rename_i kvs1 e1
    have ok1 := hd_ok I1 v1
    rw [e1] at ok1
    obtain ⟨a, rfl, vs1, h1, _⟩ := ok1
    refine ⟨a, rfl, .inr ⟨vs1, h1⟩, ?_⟩
    refine se W1 M1 H1 σ σx _ _ I1 (S.le l1) p1 fun W2 M2 H2 b ks l2 I2 L2 p2 => ?_
    have I2g := I2.guardL L2
    refine sf _ M2 H2 σ σx _ _ I2g ((S.le (l1.trans l2)).lf ⟨fun _ _ z => z, SameR.refl _⟩) p2 fun W3 M3 H3 w z l3 I3 v3 p3 => ?_
    have gb : W3.G b = some (.tup (ks.map kV)) := by rw [l3.g]; exact upd_same
    have hb := I3.sg b _ gb
    have l23 : W2.lf W3 := ⟨l3.th, l3.f⟩
    have gn : Same W2.G W3.G := fun c o e => by
      rw [l3.g]
      show upd W2.G b _ c = some o
      rw [upd_ne (fun z => by rw [z, L2.g] at e; cases e)]
      exact e
    have I4 : InvS X.K ⟨W3.θ, W3.F, W2.G⟩ M3 H3 := I3.dropG gn
    have l24 : W2.le ⟨W3.θ, W3.F, W2.G⟩ := ⟨⟨l3.th, l3.f⟩, rfl⟩
    have v4 : VX X.K ⟨W3.θ, W3.F, W2.G⟩ w z := v3.lf ⟨fun _ _ z => z, SameR.refl _⟩
    have x4 := v1.le (l2.trans l24)
    split at p3
    · rename_i kvs e2
      have ok2 := hd_ok I4 x4
      rw [e2] at ok2
      obtain ⟨a', ea, vs, h2, h3⟩ := ok2
      cases ea
      rcases valX_ok ks h3 with ⟨q1, q2⟩ | ⟨w', y', q1, q2, q3⟩
      · rw [q1] at p3
        exact ⟨none, .inr ⟨vs, ks, b, h2, rfl, hb, q2.symm⟩, q _ M3 H3 w z (l1.trans (l2.trans l24)) I4 v4 p3⟩
      · rw [q1] at p3
        exact ⟨some w', .inr ⟨vs, ks, b, h2, rfl, hb, q2.symm⟩, q _ M3 H3 w' y' (l1.trans (l2.trans l24)) I4 q3 p3⟩
    · exact p3.elim
  · exact hd1.elim
end
end G

set_option Elab.async false
set_option linter.all false
set_option maxRecDepth 100000
set_option maxHeartbeats 8000000
/-! G25: order of tuples of ints; a fresh list times an int. -/
namespace G
open PySem PySem.Spec PyProof.Rows L2
def leI (ns ms : List Int) : Bool := Ob.lexAt (fun j => decide (ns.getD j 0 = ms.getD j 0)) (fun j => decide (ns.getD j 0 ≤ ms.getD j 0)) (decide (ns.length ≤ ms.length)) 0 (min ns.length ms.length)
def geI (ns ms : List Int) : Bool := Ob.lexAt (fun j => decide (ns.getD j 0 = ms.getD j 0)) (fun j => decide (ms.getD j 0 ≤ ns.getD j 0)) (decide (ns.length ≥ ms.length)) 0 (min ns.length ms.length)
theorem leI_2 (a b c d : Int) : leI [a, b] [c, d] = decide (a < c ∨ (a = c ∧ b ≤ d)) := by
  show (if decide (a = c) = true then (if decide (b = d) = true then true else decide (b ≤ d)) else decide (a ≤ c)) = _
  by_cases h : a = c
  · rw [if_pos (decide_eq_true h)]
    by_cases q : b = d
    · rw [if_pos (decide_eq_true q)]; exact (decide_eq_true (.inr ⟨h, by omega⟩)).symm
    · rw [if_neg (by simpa using q), decide_eq_decide]; omega
  · rw [if_neg (by simpa using h), decide_eq_decide]; omega
theorem geI_2 (a b c d : Int) : geI [a, b] [c, d] = leI [c, d] [a, b] := by
  rw [leI_2]
  show (if decide (a = c) = true then (if decide (b = d) = true then true else decide (d ≤ b)) else decide (c ≤ a)) = _
  by_cases h : a = c
  · rw [if_pos (decide_eq_true h)]
    by_cases q : b = d
    · rw [if_pos (decide_eq_true q)]; exact (decide_eq_true (.inr ⟨h.symm, by omega⟩)).symm
    · rw [if_neg (by simpa using q), decide_eq_decide]; omega
  · rw [if_neg (by simpa using h), decide_eq_decide]; omega
theorem op_geT {X : Cx} (hu : X.A.units < cLine) : OpR X (compareOp .GtE) fun x y H Q => ∃ (a b : Addr) (ns ms : List Int), x = .ref a ∧ y = .ref b ∧ SqT X.K H a (ns.map V.int) ∧ SqT X.K H b (ms.map V.int) ∧ Q (.bl (geI ns ms)) H := by
  intro pins s σ H x y v u Q I rx ry h
  obtain ⟨a, b, ns, ms, rfl, rfl, ha, hb, q⟩ := h
  obtain rfl : v = Value.ref a := rx
  obtain rfl : u = Value.ref b := ry
  obtain ⟨is, r1, p1, _⟩ := I.tuple ha
  obtain ⟨js, r2, p2, _⟩ := I.tuple hb
  have i1 : IntsAre is ns := Vals.ints r1
  have i2 : IntsAre js ms := Vals.ints r2
  have n1 : is.toArray.size = ns.length := (List.size_toArray ..).trans i1.length
  have n2 : js.toArray.size = ms.length := (List.size_toArray ..).trans i2.length
  have g1 : ∀ j (h1 : j < is.toArray.size), ∃ t, is.toArray[j] = .int (ns.getD j 0) t := fun j h1 => PyProof.Rows.IntsAre.int_at i1 _ _ (by simp at h1; simp [h1])
  have g2 : ∀ j (h1 : j < js.toArray.size), ∃ t, js.toArray[j] = .int (ms.getD j 0) t := fun j h1 => PyProof.Rows.IntsAre.int_at i2 _ _ (by simp at h1; simp [h1])
  have eqs : ∀ j (h1 : j < is.toArray.size) (h2 : j < js.toArray.size), SeqAt.EqAt X.A.in1 s is.toArray[j] js.toArray[j] (decide (ns.getD j 0 = ms.getD j 0)) := fun j h1 h2 => by
    obtain ⟨t, e1⟩ := g1 j h1
    obtain ⟨t', e2⟩ := g2 j h2
    have b := SeqAt.EqAt.int_int (A := X.A.in1) (s := s) (ns.getD j 0) t (ms.getD j 0) t'
    rw [Bool.beq_eq_decide_eq] at b
    rw [e1, e2]; exact b
  have ords : ∀ j (h1 : j < is.toArray.size) (h2 : j < js.toArray.size), decide (ns.getD j 0 = ms.getD j 0) = false → Ob.RcOp .GtE X.A.in1 s is.toArray[j] js.toArray[j] (decide (ms.getD j 0 ≤ ns.getD j 0)) := fun j h1 h2 _ => by
    obtain ⟨t, e1⟩ := g1 j h1
    obtain ⟨t', e2⟩ := g2 j h2
    rw [e1, e2]; exact Ob.RcOp.ge_int _ _ _ _
  have z := Ob.RcOp.tuples_ge (A := X.A) (s := s) p1 p2 hu eqs ords
  rw [n1, n2] at z
  exact z X.prog X.w X.xe (EP X pins σ Q) ⟨.bl _, H, I, rfl, q⟩
def gLeT : G2 := fun x y M P => match hd M x, hd M y with
  | .tup xs, .tup ys => ifS (intsX xs) fun ns => ifS (intsX ys) fun ms => P (.d (.bool (leI ns ms))) M
  | _, _ => False
def gGeT : G2 := fun x y M P => match hd M x, hd M y with
  | .tup xs, .tup ys => ifS (intsX xs) fun ns => ifS (intsX ys) fun ms => P (.d (.bool (geI ns ms))) M
  | _, _ => False
theorem ints_vs {K : PySem.W.Frag} {W : Wd} : ∀ {ns : List Int} {vs : List V}, VXs K W vs (ns.map fun i => .d (.int i)) → vs = ns.map V.int
  | [], _, h => by cases h; rfl
  | n :: ns, _, h => by
    cases h with
    | cons a t =>
      have a : Dq K W.F _ (.int n) := a
      cases a
      rw [ints_vs t]; rfl
theorem intsX_ok {K : PySem.W.Frag} {W : Wd} {xs : List Xv} {ns : List Int} {vs : List V} (e : intsX xs = some ns) (h : VXs K W vs xs) : vs = ns.map V.int := by
  rw [intsX_of e] at h
  exact ints_vs h
theorem ox_leT {X : Cx} (hu : X.A.units + 1 < cLine) : OpX X (compareOp .LtE) gLeT := by
  refine .of1 (op_leT (by omega)) fun W M H v u x y P Q I v1 v2 p q => ?_
  unfold gLeT at p
  split at p
  · rename_i xs ys e1 e2
    obtain ⟨ns, f1, p⟩ := ifS_of p
    obtain ⟨ms, f2, p⟩ := ifS_of p
    have o1 := hd_ok I v1
    have o2 := hd_ok I v2
    rw [e1] at o1
    rw [e2] at o2
    obtain ⟨a, vs, rfl, h1, h2⟩ := o1
    obtain ⟨b, us, rfl, h3, h4⟩ := o2
    rw [intsX_ok f1 h2] at h1
    rw [intsX_ok f2 h4] at h3
    exact ⟨a, b, ns, ms, rfl, rfl, h1, h3, q W M H _ (.d (.bool _)) (.refl W) I (show Dq _ _ _ _ from .bl _) p⟩
  · exact p.elim
theorem ox_geT {X : Cx} (hu : X.A.units + 1 < cLine) : OpX X (compareOp .GtE) gGeT := by
  refine .of1 (op_geT (by omega)) fun W M H v u x y P Q I v1 v2 p q => ?_
  unfold gGeT at p
  split at p
  · rename_i xs ys e1 e2
    obtain ⟨ns, f1, p⟩ := ifS_of p
    obtain ⟨ms, f2, p⟩ := ifS_of p
    have o1 := hd_ok I v1
    have o2 := hd_ok I v2
    rw [e1] at o1
    rw [e2] at o2
    obtain ⟨a, vs, rfl, h1, h2⟩ := o1
    obtain ⟨b, us, rfl, h3, h4⟩ := o2
    rw [intsX_ok f1 h2] at h1
    rw [intsX_ok f2 h4] at h3
    exact ⟨a, b, ns, ms, rfl, rfl, h1, h3, q W M H _ (.d (.bool _)) (.refl W) I (show Dq _ _ _ _ from .bl _) p⟩
  · exact p.elim
/-! ### [x, ..] * n -/
def rRepF (rl : RF) (rk : RE) : RF := fun σ M P => rl σ M fun xs M1 => rk σ M1 fun y M2 => match y with
  | .d (.int k) => (0 ≤ k ∧ k < 1000000) ∧ xs.length * k.toNat ≤ sizeLine ∧ P (List.replicate k.toNat xs).flatten M2
  | _ => False
theorem VXs.rep {K : PySem.W.Frag} {W : Wd} {vs : List V} {xs : List Xv} (h : VXs K W vs xs) : ∀ n : Nat, VXs K W (List.replicate n vs).flatten (List.replicate n xs).flatten
  | 0 => .nil
  | n + 1 => by
    rw [List.replicate_succ, List.replicate_succ, List.flatten_cons, List.flatten_cons]
    exact h.append (VXs.rep h n)
theorem sf_rep {X : Cx} {e f : Expr} {rl : RF} {rk : RE} {pos : Pos} (hl : SF X e rl) (hk : SE X f rk) : SF X (.BinOp e .Mult f pos) (rRepF rl rk) := by
  obtain ⟨te, pe, se⟩ := hl
  obtain ⟨tf, pf, sf⟩ := hk
  refine ⟨_, pe_op op_rep pe pf, fun W M H σ σx P Q I S hr q => ?_⟩
  refine se W M H σ σx _ _ I S hr fun W1 M1 H1 a vs xs l1 I1 L1 v1 p1 => ?_
  have Ig := I1.guardL L1
  refine sf _ M1 H1 σ σx _ _ Ig ((S.le l1).lf ⟨fun _ _ z => z, SameR.refl _⟩) p1 fun W2 M2 H2 w z l2 I2 v2 p2 => ?_
  split at p2
  · rename_i k
    obtain ⟨⟨k0, k1⟩, hz, p⟩ := p2
    have v2 : Dq X.K W2.F w (.int k) := v2
    cases v2
    have ga : W2.G a = some (.lst vs) := by rw [l2.g]; exact upd_same
    have gn : Same W1.G W2.G := fun c o e => by
      rw [l2.g]
      show upd W1.G a _ c = some o
      rw [upd_ne (fun z => by rw [z, L1.g] at e; cases e)]
      exact e
    have I3 : InvS X.K ⟨W2.θ, W2.F, W1.G⟩ M2 H2 := I2.dropG gn
    have l3 : W1.le ⟨W2.θ, W2.F, W1.G⟩ := ⟨⟨l2.th, l2.f⟩, rfl⟩
    refine ⟨a, k, vs, rfl, rfl, I2.sg a _ ga, by omega, by omega, by rw [v1.length]; exact hz, fun b hb => ?_⟩
    obtain ⟨I4, L4⟩ := I3.loose hb (.lst (List.replicate k.toNat vs).flatten)
    exact q _ M2 _ b _ _ (l1.trans l3) I4 L4 (VXs.le l3 (v1.rep k.toNat)) p
  · exact p2.elim
end G

set_option Elab.async false
set_option linter.all false
set_option maxRecDepth 100000
set_option maxHeartbeats 4000000
/-! G26: instances of a class: its attributes, its making, its methods. -/
namespace G
open PySem PySem.Spec PyProof.Rows L2

def putA (f : Str) (x : Xv) : List (Str × Xv) → List (Str × Xv)
  | [] => [(f, x)]
  | (g, y) :: r => if g = f then (g, x) :: r else (g, y) :: putA f x r
theorem KVX.putA {K : PySem.W.Frag} {W : Wd} {f : Str} {v : V} {x : Xv} (h : VX K W v x) : ∀ {vs : List (Str × V)} {xs : List (Str × Xv)}, KVX K W vs xs → KVX K W (putF f v vs) (putA f x xs)
  | _, _, .nil => .cons ⟨rfl, h⟩ .nil
  | (g, y) :: vs, (g', y') :: xs, .cons e r => by
    obtain ⟨e1, e2⟩ := e
    have e1 : g = g' := e1
    subst e1
    unfold putF G.putA
    by_cases q : g = f
    · rw [if_pos q, if_pos q]; exact .cons ⟨rfl, h⟩ r
    · rw [if_neg q, if_neg q]; exact .cons ⟨rfl, e2⟩ (KVX.putA h r)
theorem KVX.lookup {K : PySem.W.Frag} {W : Wd} {f : Str} : ∀ {vs : List (Str × V)} {xs : List (Str × Xv)}, KVX K W vs xs → match xs.lookup f with
    | some x => ∃ v, vs.lookup f = some v ∧ VX K W v x
    | none => vs.lookup f = none
  | _, _, .nil => rfl
  | (g, y) :: vs, (g', y') :: xs, .cons e r => by
    obtain ⟨e1, e2⟩ := e
    have e1 : g = g' := e1
    subst e1
    have ih := KVX.lookup (f := f) r
    unfold List.lookup
    cases q : f == g with
    | true => exact ⟨y, rfl, e2⟩
    | false => exact ih
theorem KVX.len {K : PySem.W.Frag} {W : Wd} {vs : List (Str × V)} {xs : List (Str × Xv)} (h : KVX K W vs xs) : vs.length = xs.length := Paired.length h

/-- the attributes of an instance of C -/
def insAt (C : Addr) (M : Sto) : Xv → Option (Nat × List (Str × Xv))
  | .c i => match M[i]? with
    | some (.ins C' fs) => if C' = C then some (i, fs) else none
    | _ => none
  | _ => none
theorem insAt_ok {K : PySem.W.Frag} {W : Wd} {M : Sto} {H : Hp} {C : Addr} {x : Xv} {v : V} {i : Nat} {fs : List (Str × Xv)} (I : InvS K W M H) (h : VX K W v x) (e : insAt C M x = some (i, fs)) :
    ∃ a dx vs, v = .ref a ∧ W.θ[i]? = some a ∧ W.F a = none ∧ H a = some (.ins C dx vs) ∧ KVX K W vs fs := by
  unfold insAt at e
  split at e
  · rename_i j
    split at e
    · rename_i C' fs' hm
      split at e
      · rename_i hc
        subst hc
        cases e
        obtain ⟨a, rfl, ha⟩ := h
        obtain ⟨hf, dx, vs, h1, h2⟩ := I.ob _ a _ ha hm
        exact ⟨a, dx, vs, rfl, ha, hf, h1, h2⟩
      · cases e
    · cases e
  · cases e

/-! ### e.f -/
def rFld (C : Addr) (f : Str) (re : RE) : RE := fun σ M P => re σ M fun x M1 => ifS (insAt C M1 x) fun q => ifS (q.2.lookup f) fun z => P z M1
theorem ifS_ex {α : Type} {o : Option α} {P : α → Prop} (h : ifS o P) : ∃ a, o = some a ∧ P a := by
  cases o with
  | none => exact h.elim
  | some a => exact ⟨a, rfl, h⟩
theorem se_fld {X : Cx} {C : Addr} {f : Str} {e : Expr} {re : RE} {pos : Pos} (c : Cls X.K C) (n : NoAttr X.K C f) (he : SE X e re) (hb : attributeBase e f X.env (eval e X.env) = eval e X.env := by rfl) : SE X (.Attribute e f pos) (rFld C f re) := by
  obtain ⟨te, pe, se⟩ := he
  refine ⟨tFld X.K te f, pe_fld pe hb, fun W M H σ σx P Q I S h q => se W M H σ σx _ _ I S h fun W1 M1 H1 v x l1 I1 v1 p1 => ?_⟩
  obtain ⟨⟨i, fs⟩, e1, p1⟩ := ifS_ex p1
  obtain ⟨z, e2, p2⟩ := ifS_ex p1
  obtain ⟨a, dx, vs, rfl, ha, hf, h1, h2⟩ := insAt_ok I1 v1 e1
  have lk := KVX.lookup (f := f) h2
  rw [e2] at lk
  obtain ⟨u, hu, vu⟩ := lk
  exact ⟨a, C, dx, vs, u, rfl, h1, c, n, hu, q W1 M1 H1 u z l1 I1 vu p2⟩
/-! ### e.f = value -/
def rSetF (C : Addr) (f : Str) (ro rv : RE) : RS := fun σ M P => rv σ M fun y M1 => ro σ M1 fun x M2 => ifS (insAt C M2 x) fun q => q.2.length < 1000 ∧ P (.nx σ) (M2.set q.1 (.ins C (putA f y q.2)))
theorem ss_setF {X : Cx} {C : Addr} {f : Str} {o value : Expr} {ro rv : RE} {pos pos' : Pos} (c : Cls X.K C) (n : NoAttr X.K C f) (ho : SE X o ro) (hv : SE X value rv)
    (hs : swapsWith value (some (.Attribute o f pos')) pos.line X.env = pure false := by rfl) : SS X (.Assign [.Attribute o f pos'] value pos) (rSetF C f ro rv) := by
  obtain ⟨to, po, so⟩ := ho
  obtain ⟨tv, pv, sv⟩ := hv
  refine ⟨sFld X.K to tv f, ps_fld po pv hs, fun W M H σ σx P D I S h q => ?_⟩
  refine sv W M H σ σx _ _ I S h fun W1 M1 H1 v y l1 I1 v1 p1 => ?_
  refine so W1 M1 H1 σ σx _ _ I1 (S.le l1) p1 fun W2 M2 H2 u x l2 I2 v2 p2 => ?_
  obtain ⟨⟨i, fs⟩, e1, hl, p2⟩ := ifS_ex p2
  obtain ⟨a, dx, vs, rfl, ha, hf, h1, h2⟩ := insAt_ok I2 v2 e1
  refine ⟨a, C, dx, vs, rfl, h1, c, n, by rw [h2.len]; exact hl, ?_⟩
  have I3 := I2.write (o := .ins C (putA f y fs)) ha hf (u := .ins C dx (putF f v vs)) ⟨hf, dx, _, upd_same, KVX.putA (v1.le l2) h2⟩
  exact q W2 _ _ (.nx σx) (l1.trans l2) I3 p2 σ (S.le (l1.trans l2))
/-! ### methods -/
structure MethOk (K : PySem.W.Frag) (C : Addr) (m qual : Str) (ps : List Str) (params : Arguments) (body : List Stmt) (scope : Scope) : Prop where
  ex : ∃ f fd, Meth K C m f ∧ FunD K m qual params body scope [] [] f fd ∧ L2.Binds K fd ps []
structure MCal (P : Program) (w : World) (K : PySem.W.Frag) (mg : Str → Option Value) (base : Heap) (k : Nat) (C : Addr) (m : Str) (ps : List Str) (pf : PF) : Prop where
  ex : ∃ f fd, Meth K C m f ∧ L2.Binds K fd ps [] ∧ FnG P w K mg base k f fd ps pf
structure MkOk (K : PySem.W.Frag) (mg : Str → Option Value) (x : Str) (C : Addr) (qual : Str) (ps : List Str) (params : Arguments) (body : List Stmt) (scope : Scope) : Prop where
  ex : ∃ f fd, mg x = some (.ref C) ∧ Mk K C f ∧ FunD K "__init__" qual params body scope [] [] f fd ∧ L2.Binds K fd ps []
structure MkCal (P : Program) (w : World) (K : PySem.W.Frag) (mg : Str → Option Value) (base : Heap) (k : Nat) (x : Str) (C : Addr) (ps : List Str) (pf : PF) : Prop where
  ex : ∃ f fd, mg x = some (.ref C) ∧ Mk K C f ∧ L2.Binds K fd ps [] ∧ FnG P w K mg base k f fd ps pf
section
variable {P : Program} {w : World} {K : PySem.W.Frag} {mg : Str → Option Value} {base : Heap} {j k : Nat} {C : Addr} {m x qual : Str} {ps N : List Str} {pf : PF} {params : Arguments} {body : List Stmt} {scope : Scope} {rb : RS}
theorem MCal.mono (c : MCal P w K mg base j C m ps pf) (h : j ≤ k) : MCal P w K mg base k C m ps pf := let ⟨f, fd, a, b, d⟩ := c.ex; ⟨f, fd, a, b, d.mono h⟩
theorem MkCal.mono (c : MkCal P w K mg base j x C ps pf) (h : j ≤ k) : MkCal P w K mg base k x C ps pf := let ⟨f, fd, a, b, b2, d⟩ := c.ex; ⟨f, fd, a, b, b2, d.mono h⟩
theorem MCal.mk_ (D : MethOk K C m qual ps params body scope) (S : FnScope N ps scope) (hb : BodyOk P w K mg base k qual N body scope rb) (len : ∀ xs M R, pf xs M R → xs.length = ps.length) (spec : ∀ xs M R, pf xs M R → rb (startX N xs) M (Ends0 R)) : MCal P w K mg base (k + 1) C m ps pf := by
  obtain ⟨f, fd, a, F, c⟩ := D.ex
  exact ⟨f, fd, a, c, FnG.mk_ F S len (fun cdv A outer s H => hb f cdv A outer s H) spec⟩
theorem MCal.mkPre {i : Nat} (D : MethOk K C m qual ps params body scope) (S : FnScope N ps scope) (hb : BodyOk P w K mg base k qual N body scope rb) (len : ∀ xs M R, pf xs M R → xs.length = ps.length) (spec : ∀ xs M R, pf xs M R → rb (startX N xs) M (EndsPre i R)) : MCal P w K mg base (k + 1) C m ps (pfPre i pf) := by
  obtain ⟨f, fd, a, F, c⟩ := D.ex
  exact ⟨f, fd, a, c, FnG.mkPre F S len (fun cdv A outer s H => hb f cdv A outer s H) spec⟩
theorem MkCal.mk_ (D : MkOk K mg x C qual ps params body scope) (S : FnScope N ps scope) (hb : BodyOk P w K mg base k qual N body scope rb) (len : ∀ xs M R, pf xs M R → xs.length = ps.length) (spec : ∀ xs M R, pf xs M R → rb (startX N xs) M (Ends0 R)) : MkCal P w K mg base (k + 1) x C ps pf := by
  obtain ⟨f, fd, a, b, F, c⟩ := D.ex
  exact ⟨f, fd, a, b, c, FnG.mk_ F S len (fun cdv A outer s H => hb f cdv A outer s H) spec⟩
theorem MCal.none (D : MethOk K C m qual ps params body scope) : MCal P w K mg base 0 C m ps fun _ _ _ => False := by
  obtain ⟨f, fd, a, F, c⟩ := D.ex
  exact ⟨f, fd, a, c, fun _ _ _ q => q.elim, fun A outer s H args us vs Q hr hg he hb hv ⟨W, M, xs, R, I, v, p, q⟩ => p.elim⟩
end
def rMeth (C : Addr) (m : Str) (pf : PF) (ro : RE) (rs : RF) : RE := fun σ M P => ro σ M fun x M1 => ifS (insAt C M1 x) fun q => q.2.lookup m = none ∧ rs σ M1 fun xs M2 => pf (x :: xs) M2 P
section
variable {X : Cx} {k : Nat} {C : Addr} {m x : Str} {ps : List Str} {pf : PF} {o e : Expr} {es : List Expr} {ro : RE} {rs : RF} {p pos apos : Pos} {pl : Sem Bool}
/-- o.m(e, ..) -/
theorem se_meth (c : Cls X.K C) (F : MCal X.prog X.w X.K X.mg X.base k C m ps pf) (hr : Rm k X) (ho : SE X o ro) (ha : SA X (e :: es) rs)
    (hst : starEach (e :: es) X.env = (false, eval e X.env) :: starEach es X.env := by rfl) (hpl : (backTo pos (starEach es X.env)).any (·.1) = false := by rfl)
    (ht : eval (.Call (.Attribute o m apos) (e :: es) [] pos) X.env = (do
      let ov ← eval o X.env
      standAt apos.atName
      let (f, first) ← holding [ov] (getMethod ov m pl)
      callWith pos f first (backTo pos (starEach (e :: es) X.env)) (backToKw pos (keywordEach [] X.env))) := by rfl) :
    SE X (.Call (.Attribute o m apos) (e :: es) [] pos) (rMeth C m pf ro rs) := by
  obtain ⟨f, fd, hm, hb, F⟩ := F.ex
  obtain ⟨to, po, so⟩ := ho
  obtain ⟨t, pa, sa⟩ := ha
  refine ⟨fun σ H Q => to σ H fun x H1 => ∃ a dx fs, x = .ref a ∧ H1 a = some (.ins C dx fs) ∧ fs.lookup m = none ∧ t σ H1 fun vs H2 => spG X.K pf (.ref a :: vs) H2 Q, ⟨fun pins s σ H Q I h => ?_⟩, fun W M H σ σx P Q I S h q => ?_⟩
  · refine PySem.W.methodCall_KW (pl := pl) (thn (po.run pins s σ H _ I h) fun u s1 ⟨x, H1, I1, rx, a, dx, fs, ex, ea, l, q⟩ => ?_) ht
    subst ex
    obtain rfl : u = Value.ref a := rx
    refine getmeth_ok I1 ea c hm l ?_
    refine PySem.W.callWith_K (first := [.ref a]) (h₀ := X.base) I.ok.mod.kin hm.kp (thn (pa.run pos pins s1 σ H1 _ I1 q) fun us s2 ⟨vs, H2, I2, r, q2⟩ => ⟨I2.kIn, ?_⟩) hst hpl
    exact runG (us := .ref a :: us) (vs := .ref a :: vs) F hr hb I2 (.cons rfl r) q2
  · refine so W M H σ σx _ _ I S h fun W1 M1 H1 v x l1 I1 v1 p1 => ?_
    obtain ⟨⟨i, fs⟩, e1, hl, p1⟩ := ifS_ex p1
    obtain ⟨a, dx, vs, rfl, ha, hf, h1, h2⟩ := insAt_ok I1 v1 e1
    have lk := KVX.lookup (f := m) h2
    have hl : fs.lookup m = none := hl
    rw [hl] at lk
    refine ⟨a, dx, vs, rfl, h1, lk, sa W1 M1 H1 σ σx _ _ I1 (S.le l1) p1 fun W2 M2 H2 vs xs l2 I2 v2 p2 => ?_⟩
    exact ⟨W2, M2, x :: xs, P, I2, .cons (v1.le l2) v2, p2, fun W3 M3 H3 v x l3 I3 v3 p3 => q W3 M3 H3 v x ((l1.trans l2).trans l3) I3 v3 p3⟩
end
/-! ### C(e, ..) -/
def rMake (C : Addr) (pf : PF) (rs : RF) : RE := fun σ M P => rs σ M fun xs M1 => pf (.c M1.length :: xs) (M1 ++ [.ins C []]) fun x M2 => (match x with
  | .d .none => True
  | _ => False) ∧ P (.c M1.length) M2
section
variable {X : Cx} {k : Nat} {C : Addr} {m x : Str} {ps : List Str} {pf : PF} {o e : Expr} {es : List Expr} {ro : RE} {rs : RF} {p pos apos : Pos}
theorem runMk {pins : List (Addr × Obj)} {σ : St} {H : Hp} {s : Shared} {Q : VK} {us : List Value} {vs : List V} {f : Addr} {fd : FuncData} (Mm : Mk X.K C f) (F : FnG X.prog X.w X.K X.mg X.base k f fd ps pf) (hr : Rm (k + 1) X) (hb : L2.Binds X.K fd ps []) (I : Inv X pins σ H s) (r : Vals vs us)
    (h : ∀ x dx, H x = none → H dx = none → dx ≠ x → spG X.K pf (.ref x :: vs) (upd (upd H dx (.own x)) x (.ins C dx [])) (fun v H2 => v = .non ∧ Q (.ref x) H2)) :
    wpAny (model X.prog X.w) X.A (call (.ref C) us) (EP X pins σ Q) X.xe s := by
  have hq := h (s.heap.objs.size + 1) s.heap.objs.size (I.hok.fresh (Nat.le_succ _)) (I.hok.fresh (Nat.le_refl _)) (Nat.ne_of_lt (Nat.lt_succ_self _))
  have I2 := Inv.made (C := C) I
  have r2 : Vals (V.ref (s.heap.objs.size + 1) :: vs) (Value.ref (s.heap.objs.size + 1) :: us) := .cons rfl r
  have hl : (Value.ref (s.heap.objs.size + 1) :: us ++ []).length = ps.length := by
    obtain ⟨W, M, xs, R, J, hv, hp, _⟩ := hq
    rw [List.append_nil, ← r2.length, hv.length]
    exact F.len xs M R hp
  have bb := hb _ (Value.ref (s.heap.objs.size + 1) :: us) I2.kIn hl
  rw [List.append_nil] at bb
  refine wpAny_call (make_map (f := f) I.kIn Mm.makes Mm.init (beq_iff_eq.mp Mm.fn) (codeAny_mono (F.run _ X.stack _ _ ⟨Value.ref (s.heap.objs.size + 1) :: us, []⟩ (Value.ref (s.heap.objs.size + 1) :: us) _ _ (hr.room.make C us [])
    hr.gd (I2.env0.make C us []) bb r2 hq) fun r s' hq' => ?_))
  cases r with
  | error e => exact False.elim hq'
  | ok fl =>
    cases fl with
    | ret u =>
      obtain ⟨v, H', I3, rv, ev, q3⟩ := I2.after hq'
      subst ev
      exact ⟨rv, ⟨V.ref (s.heap.objs.size + 1), H', I3, rfl, q3⟩⟩
    | next => exact False.elim hq'
    | brk => exact False.elim hq'
    | cont => exact False.elim hq'
theorem se_make (F : MkCal X.prog X.w X.K X.mg X.base k x C ps pf) (hr : Rm (k + 1) X) (ha : SA X (e :: es) rs)
    (hg : Gl X x := by rfl) (hdb : (x == ("__debug__" : Str)) = false := by decide) (he : starEach (e :: es) X.env = (false, eval e X.env) :: starEach es X.env := by rfl) (hpl : (backTo pos (starEach es X.env)).any (·.1) = false := by rfl) :
    SE X (.Call (.Name x p) (e :: es) [] pos) (rMake C pf rs) := by
  obtain ⟨f, fd, hm, Mm, hb, F⟩ := F.ex
  obtain ⟨t, pa, sa⟩ := ha
  refine ⟨fun σ H Q => t σ H fun vs H1 => ∀ x dx, H1 x = none → H1 dx = none → dx ≠ x → spG X.K pf (.ref x :: vs) (upd (upd H1 dx (.own x)) x (.ins C dx [])) (fun v H2 => v = .non ∧ Q (.ref x) H2), ⟨fun pins s σ H Q I h => ?_⟩, fun W M H σ σx P Q I S h q => ?_⟩
  · refine wpAny_Call_Name_kw (ld_glob I hg hm ?_ hdb)
    refine PySem.W.callWith_K (h₀ := X.base) I.ok.mod.kin Mm.kp (thn (pa.run pos pins s σ H _ I h) fun us s1 ⟨vs, H1, I1, r, qq⟩ => ⟨I1.kIn, ?_⟩) he hpl
    exact runMk Mm F hr hb I1 r qq
  · refine sa W M H σ σx _ _ I S h fun W1 M1 H1 vs xs l1 I1 v1 p1 => fun x dx hx hdx ne => ?_
    have I2 := I1.newLoose hdx (.own x)
    have hx2 : upd H1 dx (.own x) x = none := by rw [upd_ne (Ne.symm ne)]; exact hx
    obtain ⟨I3, l3⟩ := I2.newCell hx2 (u := .ins C dx []) (o := .ins C []) fun W' _ hf => ⟨hf, dx, [], upd_same, .nil⟩
    have vx : VX X.K ⟨W1.θ ++ [x], W1.F, W1.G⟩ (.ref x) (.c M1.length) := ⟨x, rfl, by rw [← I1.len]; simp⟩
    refine ⟨_, _, .c M1.length :: xs, _, I3, .cons vx (v1.le l3), p1, fun W4 M4 H4 v z l4 I4 v4 p4 => ?_⟩
    obtain ⟨hz, p4⟩ := p4
    have : v = .non := by
      cases z with
      | c i => exact hz.elim
      | d d =>
        cases d <;> first | exact hz.elim | skip
        cases v4
        rfl
    exact ⟨this, q W4 M4 H4 (.ref x) (.c M1.length) ((l1.trans l3).trans l4) I4 (vx.le l4) p4⟩
end
end G

set_option Elab.async false
set_option linter.all false
set_option maxRecDepth 100000
set_option maxHeartbeats 4000000
/-! G27: sorted of a dict with whole-number keys. -/
namespace G
open PySem PySem.Spec PyProof.Rows L2
def intKeys {β : Type} : List (PyData × β) → Option (List Int)
  | [] => some []
  | (.int x, _) :: r => (intKeys r).map (x :: ·)
  | _ :: _ => none
theorem intKeys_ok {K : PySem.W.Frag} {W : Wd} : ∀ {vs : List (Key × V)} {kvs : List (PyData × Xv)} {ks : List Int}, Paired (fun p q => kD p.1 = q.1 ∧ VX K W p.2 q.2) vs kvs → intKeys kvs = some ks → vs.map (·.1) = ks.map Sum.inl
  | [], [], ks, _, e => by cases e; rfl
  | (k, v) :: vs, (d, x) :: kvs, ks, .cons h t, e => by
    obtain ⟨h1, _⟩ := h
    have h1 : kD k = d := h1
    subst h1
    cases k with
    | inr i => cases e
    | inl z =>
      have e : (intKeys kvs).map (z :: ·) = some ks := e
      cases e2 : intKeys kvs with
      | none => rw [e2] at e; cases e
      | some m =>
        rw [e2] at e
        cases e
        rw [List.map_cons, List.map_cons, intKeys_ok t e2]
def gSort3 : GLF := fun xs M P => match xs with
  | [x] => match hd M x with
    | .lst ys => ifS (datX ys) fun ds => Srt ds ∧ P (dX (sortD ds)) M
    | .dic kvs => ifS (intKeys kvs) fun ks => ks.length < 64 ∧ ∀ ys : List Int, ys.Perm ks → ys.Pairwise (· ≤ ·) → P (dX (ys.map .int)) M
    | _ => False
  | _ => False
theorem ints_X3 {K : PySem.W.Frag} {W : Wd} : ∀ ns : List Int, VXs K W (ns.map V.int) (dX (ns.map .int))
  | [] => .nil
  | n :: ns => .cons (show Dq K W.F _ _ from .int n) (ints_X3 ns)
theorem bxf_sorted3 {X : Cx} {k : Nat} (hr : Rm k X) : BXF X (.builtin "sorted") gSort3 := by
  refine ⟨_, CallR.or (call_sortG hr) (call_sortedDI hr.calm), fun W M H vs xs P Q I hv hg q => ?_⟩
  unfold gSort3 at hg
  split at hg
  · obtain ⟨v, rfl, v1⟩ := vxs1 hv
    split at hg
    · rename_i ys e
      obtain ⟨a, us, rfl, h1, h2⟩ := lstH I v1 e
      obtain ⟨ds, e2, st, p⟩ := ifS_of hg
      have := datX_of e2
      subst this
      refine .inl ⟨W.F, a, us, ds, rfl, h1, SameR.of I.sf, VXs.toD h2, st, fun p' out hp ho => ?_⟩
      obtain ⟨I2, L2⟩ := I.loose hp (.lst out)
      exact q W M _ p' out _ (.refl W) I2 L2 (VXs.ofD ho) p
    · rename_i kvs e
      obtain ⟨ks, e2, h64, p⟩ := ifS_of hg
      obtain ⟨a, rfl, us, h1, h2⟩ := dicH I v1 e
      refine .inr ⟨a, us, ks, rfl, h1, intKeys_ok h2 e2, h64, fun ys p' pm so hp => ?_⟩
      obtain ⟨I4, L4⟩ := I.loose hp (.lst (ys.map V.int))
      exact q W M _ _ _ _ (.refl W) I4 L4 (ints_X3 ys) (p ys pm so)
    · exact hg.elim
  · exact hg.elim
end G

set_option Elab.async false
set_option linter.all false
set_option maxRecDepth 100000
set_option maxHeartbeats 4000000
/-! G28: list(range(n)). -/
namespace G
open PySem PySem.Spec PyProof.Rows L2
def rLstRg (re : RE) : RF := fun σ M P => re σ M fun x M1 => match x with
  | .d (.int n) => (0 ≤ n ∧ n ≤ 1000000) ∧ P (rangeX 0 n.toNat) M1
  | _ => False
theorem VXs.rg {K : PySem.W.Frag} {W : Wd} : ∀ l : List Nat, VXs K W (l.map fun i : Nat => V.int (0 + (i : Int))) (l.map fun i : Nat => Xv.d (.int (0 + (i : Int))))
  | [] => .nil
  | i :: l => .cons (show Dq K W.F _ _ from .int _) (VXs.rg l)
theorem sf_listRg {X : Cx} {a : Expr} {re : RE} {p p2 pos pos2 : Pos} (hc : X.calm = true) (hm : X.mg "list" = none) (hm2 : X.mg "range" = none) (he : SE X a re) (hg : Gl X "list" := by rfl) (hg2 : Gl X "range" := by rfl)
    (n1 : starEach [a] X.env = (false, eval a X.env) :: starEach [] X.env := by rfl)
    (n2 : starEach [.Call (.Name "range" p2) [a] [] pos2] X.env = (false, eval (.Call (.Name "range" p2) [a] [] pos2) X.env) :: starEach [] X.env := by rfl) :
    SF X (.Call (.Name "list" p) [.Call (.Name "range" p2) [a] [] pos2] [] pos) (rLstRg re) := by
  obtain ⟨ta, pa, sa⟩ := he
  refine ⟨tLstRg (tRg1 ta), pe_listRg hc hg hm (prg_1 hg2 hm2 pa n1) n2, fun W M H σ σx P Q I S h q => ?_⟩
  refine sa W M H σ σx _ _ I S h fun W1 M1 H1 v x l1 I1 v1 p1 => ?_
  cases x with
  | c i => exact p1.elim
  | d d =>
    cases d <;> first | exact p1.elim | skip
    rename_i n
    cases v1
    obtain ⟨⟨h0, h1⟩, p2⟩ := p1
    refine ⟨n, rfl, RgOk.of_le (Int.le_refl 0) (by omega) (by omega) h0, fun p' hp => ?_⟩
    obtain ⟨I2, L2⟩ := I1.loose hp (.lst (rgV 0 n))
    refine q W1 M1 _ p' (rgV 0 n) (rangeX 0 n.toNat) l1 I2 L2 ?_ p2
    unfold rgV rangeX
    rw [Int.sub_zero]
    exact VXs.rg _
end G

set_option Elab.async false
set_option linter.all false
set_option maxRecDepth 100000
set_option maxHeartbeats 8000000
/-! G29: sorted(set(xs)) of pairs of whole numbers. -/
namespace G
open PySem PySem.Spec PyProof.Rows L2
def p2D (q : Int × Int) : PyData := .tuple [.int q.1, .int q.2]
def pairsX : List Xv → Option (List (Int × Int))
  | [] => some []
  | .d (.tuple [.int a, .int b]) :: xs => (pairsX xs).map ((a, b) :: ·)
  | _ :: _ => none
theorem pairsX_map : ∀ ps : List (Int × Int), pairsX (dX (ps.map p2D)) = some ps
  | [] => rfl
  | p :: ps => by
    show (pairsX (dX (ps.map p2D))).map ((p.1, p.2) :: ·) = _
    rw [pairsX_map ps]; rfl
theorem pairsX_ok {K : PySem.W.Frag} {W : Wd} : ∀ {xs : List Xv} {ps : List (Int × Int)} {vs : List V}, pairsX xs = some ps → VXs K W vs xs → ∃ ks : List (Addr × List Int), vs = ks.map (fun p => V.ref p.1) ∧ ks.map (·.2) = ps.map (fun q => [q.1, q.2]) ∧
    ∀ p ∈ ks, ∃ q ∈ ps, p.2 = [q.1, q.2] ∧ SqT K W.F p.1 [V.int q.1, V.int q.2] ∧ Dq K W.F (.ref p.1) (p2D q)
  | [], _, _, h, v => by cases h; cases v; exact ⟨[], rfl, rfl, by simp⟩
  | .d (.tuple [.int a, .int b]) :: xs, ps, _, h, v => by
    cases v with
    | cons d r =>
      have h : (pairsX xs).map ((a, b) :: ·) = some ps := h
      cases e2 : pairsX xs with
      | none => rw [e2] at h; cases h
      | some m =>
        rw [e2] at h; cases h
        obtain ⟨ks, h1, h2, h3⟩ := pairsX_ok e2 r
        have d0 : Dq K W.F _ (.tuple [.int a, .int b]) := d
        have d1 := d0
        cases d1 with
        | tup hs hd =>
          rename_i ad xs0
          cases hd with
          | cons i1 r1 =>
            cases r1 with
            | cons i2 r2 =>
              cases r2
              cases i1
              cases i2
              refine ⟨(ad, [a, b]) :: ks, by rw [List.map_cons, h1], by rw [List.map_cons, List.map_cons, h2], fun p hp => ?_⟩
              rcases List.mem_cons.mp hp with rfl | hp
              · exact ⟨(a, b), List.mem_cons_self, rfl, hs, d0⟩
              · obtain ⟨q, q1, q2⟩ := h3 p hp
                exact ⟨q, List.mem_cons_of_mem _ q1, q2⟩
def lex2 (a b : Int × Int) : Prop := a.1 < b.1 ∨ (a.1 = b.1 ∧ a.2 ≤ b.2)
theorem code2 (B x y : Int) : TS.code B [x, y] = x * B + y := by
  show x * B ^ 1 + (y * B ^ 0 + 0) = _
  rw [Int.pow_succ, Int.pow_zero, Int.one_mul, Int.mul_one, Int.add_zero]
theorem lex2_of {B x y x' y' : Int} (h : TS.code B [x, y] ≤ TS.code B [x', y']) (b1 : 0 ≤ y ∧ y < B) (b2 : 0 ≤ y' ∧ y' < B) : lex2 (x, y) (x', y') := by
  by_cases h1 : x < x'
  · exact .inl h1
  · by_cases h2 : x = x'
    · subst h2
      rw [code2, code2] at h
      exact .inr ⟨rfl, by simp only; omega⟩
    · exfalso
      have := TS.code_lt (B := B) (d := x') (e := x) (r := [y']) (q := [y]) rfl (fun m hm => by rw [List.mem_singleton.mp hm]; exact b2) (fun m hm => by rw [List.mem_singleton.mp hm]; exact b1) (by omega)
      omega
def bigB : Int := 1000000000
def rSSetT (ra : RE) : RF := fun σ M P => ra σ M fun x M1 => match hd M1 x with
  | .lst ys => ifS (pairsX ys) fun ps => ps.length < 64 ∧ (∀ p ∈ ps, (0 ≤ p.1 ∧ p.1 < bigB) ∧ 0 ≤ p.2 ∧ p.2 < bigB) ∧ ∀ qs : List (Int × Int), qs.Nodup → (∀ q, q ∈ qs ↔ q ∈ ps) → qs.Pairwise lex2 → P (dX (qs.map p2D)) M1
  | _ => False
/-- what is left of the rows of a set of pairs -/
theorem rows_pairs {K : PySem.W.Frag} {F : Hp} {ps : List (Int × Int)} : ∀ {L : List (Addr × List Int)}, (∀ p ∈ L, ∃ q ∈ ps, p.2 = [q.1, q.2] ∧ Dq K F (.ref p.1) (p2D q)) → ∃ qs : List (Int × Int), L.map (·.2) = qs.map (fun q => [q.1, q.2]) ∧ DqAll K F (L.map fun p => V.ref p.1) (qs.map p2D) ∧ ∀ q ∈ qs, q ∈ ps
  | [], _ => ⟨[], rfl, .nil, by simp⟩
  | p :: L, h => by
    obtain ⟨q, h1, h2, h3⟩ := h p List.mem_cons_self
    obtain ⟨qs, g1, g2, g3⟩ := rows_pairs (L := L) fun x hx => h x (List.mem_cons_of_mem _ hx)
    refine ⟨q :: qs, by rw [List.map_cons, List.map_cons, h2, g1], .cons h3 g2, fun x hx => ?_⟩
    rcases List.mem_cons.mp hx with rfl | hx
    · exact h1
    · exact g3 x hx
section
variable {X : Cx} {k : Nat} {a : Expr} {ra : RE} {p p2 pos pos2 : Pos}
theorem sf_ssetT (hr : Rm k X) (hg : Gl X "sorted") (hm : X.mg "sorted" = none) (hg2 : Gl X "set") (hm2 : X.mg "set" = none) (ha : SE X a ra)
    (he2 : starEach (a :: []) X.env = (false, eval a X.env) :: starEach [] X.env := by rfl) (hpl2 : (backTo pos2 (starEach [] X.env)).any (·.1) = false := by rfl)
    (he : starEach (.Call (.Name "set" p2) [a] [] pos2 :: []) X.env = (false, eval (.Call (.Name "set" p2) [a] [] pos2) X.env) :: starEach [] X.env := by rfl) (hpl : (backTo pos (starEach [] X.env)).any (·.1) = false := by rfl) :
    SF X (.Call (.Name "sorted" p) [.Call (.Name "set" p2) [a] [] pos2] [] pos) (rSSetT ra) := by
  obtain ⟨ta, pa, sa⟩ := ha
  refine ⟨_, pe_callB (cr_sortedT hr.calm) hg hm boot_sorted (pa_cons (pe_callTy (cr_setOfT hr.calm hr.hu64) hg2 hm2 boot_set (pa_cons pa pa_nil he2) (by decide) (by decide) he2 hpl2) pa_nil he) (by decide) (by decide) he hpl, fun W M H σ σx P Q I S hr q => ?_⟩
  refine sa W M H σ σx _ _ I S hr fun W1 M1 H1 v x l1 I1 v1 p1 => ?_
  split at p1
  · rename_i ys e
    obtain ⟨a, us, rfl, h1, h2⟩ := lstH I1 v1 e
    obtain ⟨ps, e2, hb, bd, pp⟩ := ifS_of p1
    obtain ⟨ks, rfl, k2, k3⟩ := pairsX_ok e2 h2
    have sr := SameR.of I1.sf
    have kl : ks.length = ps.length := by
      have := congrArg List.length k2
      simpa using this
    refine ⟨a, ks, rfl, h1, fun p hp => ?_, by omega, fun s L hs lsub lall => ?_⟩
    · obtain ⟨q, _, e1, e3, _⟩ := k3 p hp
      rw [e1]; exact sr.sqT e3
    have I2 := I1.newLoose hs (SetTO X.prog X.w s L)
    have sr2 := SameR.of I2.sf
    refine ⟨s, L, 2, bigB, rfl, upd_same, fun p hp => ?_, by decide, fun p hp => ?_, fun L' p3 pm nd l64 pw hp3 => ?_⟩
    · obtain ⟨q, _, e1, e3, _⟩ := k3 p (lsub p hp)
      rw [e1]; exact sr2.sqT e3
    · obtain ⟨q, hq, e1, _, _⟩ := k3 p (lsub p hp)
      rw [e1]
      refine ⟨rfl, fun m hm => ?_⟩
      have := bd q hq
      rcases List.mem_cons.mp hm with rfl | hm
      · exact this.1
      · rw [List.mem_singleton.mp hm]; exact this.2
    obtain ⟨qs, g1, g2, g3⟩ := rows_pairs (K := X.K) (F := W1.F) (ps := ps) (L := L') fun p hp => by
      obtain ⟨q, hq, e1, _, e4⟩ := k3 p (lsub p (pm.mem_iff.mp hp))
      exact ⟨q, hq, e1, e4⟩
    have inj : ∀ x y : Int × Int, ([x.1, x.2] : List Int) = [y.1, y.2] → x = y := fun x y e => by
      injection e with e1 e2
      injection e2 with e2 _
      exact Prod.ext e1 e2
    obtain ⟨I3, L3⟩ := I2.loose hp3 (.lst (L'.map fun q => V.ref q.1))
    refine q W1 M1 _ p3 _ _ l1 I3 L3 (VXs.ofD g2) (pp qs ?_ (fun q => ⟨g3 q, fun hq => ?_⟩) ?_)
    · rw [g1] at nd
      exact List.Pairwise.of_map (fun q : Int × Int => ([q.1, q.2] : List Int)) (fun a b h z => h (by rw [z])) nd
    · have : ([q.1, q.2] : List Int) ∈ ks.map (·.2) := by rw [k2]; exact List.mem_map.mpr ⟨q, hq, rfl⟩
      obtain ⟨kp, hk, ek⟩ := List.mem_map.mp this
      have h5 := lall kp hk
      have h6 : kp.2 ∈ L'.map (·.2) := (pm.map (fun z : Addr × List Int => z.2)).mem_iff.mpr h5
      rw [g1] at h6
      obtain ⟨q', hq', e'⟩ := List.mem_map.mp h6
      rw [ek] at e'
      rw [← inj _ _ e']; exact hq'
    · have pw2 : (L'.map (·.2)).Pairwise fun x y => TS.code bigB x ≤ TS.code bigB y := List.pairwise_map.mpr pw
      rw [g1, List.pairwise_map] at pw2
      refine List.Pairwise.imp_of_mem (fun {x y} hx hy h => ?_) pw2
      exact lex2_of h (bd x (g3 x hx)).2 (bd y (g3 y hy)).2
  · exact p1.elim
end
end G

set_option Elab.async false
set_option linter.all false
set_option maxRecDepth 100000
set_option maxHeartbeats 8000000
/-! G30: d[(a, ..)] of a dict with tuple keys, the key a fresh tuple. -/
namespace G
open PySem PySem.Spec PyProof.Rows L2
def rIxT (ro : RE) (rk : RK) : RE := fun σ M P => ro σ M fun o M1 => rk σ M1 fun k M2 => match hd M2 o with
  | .dit kvs => ifS (valX kvs k) fun z => P z M2
  | _ => False
section
variable {X : Cx} {o e : Expr} {ro : RE} {rk : RK} {pos : Pos}
theorem se_ixT (hu : X.A.units + 1 < cLine) (ho : SE X o ro) (he : SK X e rk) (hs : NoSl e := by intro _ _; rfl) : SE X (.Subscript o e pos) (rIxT ro rk) := by
  obtain ⟨to, po, so⟩ := ho
  obtain ⟨te, pe, se⟩ := he
  refine ⟨_, pe_dget hu po pe hs, fun W M H σ σx P Q I S hr q => ?_⟩
  refine so W M H σ σx _ _ I S hr fun W1 M1 H1 v x l1 I1 v1 p1 => ?_
  refine se W1 M1 H1 σ σx _ _ I1 (S.le l1) p1 fun W2 M2 H2 b ks l2 I2 L2 p2 => ?_
  have x2 := v1.le l2
  split at p2
  · rename_i kvs e2
    have ok2 := hd_ok I2 x2
    rw [e2] at ok2
    obtain ⟨a', ea, vs, h2, h3⟩ := ok2
    cases ea
    obtain ⟨z, ez, p3⟩ := ifS_of p2
    rcases valX_ok ks h3 with ⟨q1, q2⟩ | ⟨w', y', q1, q2, q3⟩
    · rw [q1] at ez; cases ez
    · rw [q1] at ez
      cases ez
      exact ⟨a', w', rfl, .inr ⟨vs, ks, b, h2, rfl, L2.at_, q2.symm⟩, q _ M2 H2 w' _ (l1.trans l2) I2 q3 p3⟩
  · exact p2.elim
end
end G

set_option Elab.async false
set_option linter.all false
set_option maxRecDepth 100000
set_option maxHeartbeats 4000000
/-! G31: a def over data is called with a live dict as its first argument: the dict is locked through the call and live again behind it. -/
namespace G
open PySem PySem.Spec PyProof.Rows L2

mutual
def noDic : PyData → Bool
  | .dict _ => false
  | .list ds => noDics ds
  | .tuple ds => noDics ds
  | _ => true
def noDics : List PyData → Bool
  | [] => true
  | d :: ds => noDic d && noDics ds
end
theorem noDics_all : ∀ {ds : List PyData}, (∀ d ∈ ds, noDic d = true) → noDics ds = true
  | [], _ => rfl
  | d :: ds, h => by
    show (noDic d && noDics ds) = true
    rw [h d List.mem_cons_self, noDics_all fun x hx => h x (List.mem_cons_of_mem _ hx)]; rfl
section
variable {K : PySem.W.Frag} {F F2 : Hp} {a : Addr} {od : Obj} {kvs : List (Key × V)}
mutual
theorem Dq.off (ha : F a = some (.frz od (.dK kvs))) (h2 : ∀ b, b ≠ a → F2 b = F b) : ∀ {v : V} {d : PyData}, noDic d = true → Dq K F v d → Dq K F2 v d
  | _, _, _, .non => .non
  | _, _, _, .bl b => .bl b
  | _, _, _, .int i => .int i
  | _, _, _, .str x => .str x
  | _, _, n, .lst (a := b) (xs := xs) h r => by
    refine .lst ?_ (DqAll.off ha h2 n r)
    rcases h with h | h
    · have hb : b ≠ a := fun z => by
        subst z
        rcases h with h | ⟨o, h⟩
        · rw [ha] at h; cases h
        · rw [ha] at h; cases h
      refine .inl ?_
      rcases h with h | ⟨o, h⟩
      · exact .inl ((h2 b hb).trans h)
      · exact .inr ⟨o, (h2 b hb).trans h⟩
    · exact .inr h
  | _, _, n, .tup (a := b) (xs := xs) h r => by
    refine .tup ?_ (DqAll.off ha h2 n r)
    rcases h with h | h
    · have hb : b ≠ a := fun z => by
        subst z
        rcases h with h | ⟨o, h⟩
        · rw [ha] at h; cases h
        · rw [ha] at h; cases h
      refine .inl ?_
      rcases h with h | ⟨o, h⟩
      · exact .inl ((h2 b hb).trans h)
      · exact .inr ⟨o, (h2 b hb).trans h⟩
    · exact .inr h
  | _, _, n, .dic h r => by simp [noDic] at n
theorem DqAll.off (ha : F a = some (.frz od (.dK kvs))) (h2 : ∀ b, b ≠ a → F2 b = F b) : ∀ {vs : List V} {ds : List PyData}, noDics ds = true → DqAll K F vs ds → DqAll K F2 vs ds
  | _, _, _, .nil => .nil
  | _, _, n, .cons h r => by
    have n : (noDic _ && noDics _) = true := n
    rw [Bool.and_eq_true] at n
    exact .cons (Dq.off ha h2 n.1 h) (DqAll.off ha h2 n.2 r)
end
end
/-- what is asked of the arguments and told of the result -/
def pfPk (pd : PD) : PF := fun xs M P => ∃ (j : Nat) (ps : List (Key × PyData)) (rest : List PyData), xs = .c j :: dX rest ∧ M[j]? = some (.dic (ps.map fun p => (p.1, Xv.d p.2))) ∧ pd (.dict (ps.map fun p => (kD p.1, p.2)) :: rest) fun d => noDic d = true ∧ P (.d d) M
theorem kvx_dq {K : PySem.W.Frag} {W : Wd} {F' : Hp} {a : Addr} (s : SameR W.F F') : ∀ {vs : List (Key × V)} {ps : List (Key × PyData)}, KVX K W vs (ps.map fun p => (p.1, Xv.d p.2)) → DqAll K F' (vs.map (·.2)) (ps.map (·.2)) ∧ (vs.map fun p => kD p.1) = ps.map fun p => kD p.1
  | [], [], _ => ⟨.nil, rfl⟩
  | v :: vs, p :: ps, h => by
    cases h with
    | cons h r =>
      obtain ⟨h1, h2⟩ := kvx_dq (a := a) s r
      refine ⟨.cons (Dq.same s h.2) h1, ?_⟩
      rw [List.map_cons, List.map_cons, h2, h.1]
theorem zip_ps : ∀ ps : List (Key × PyData), (ps.map fun p => kD p.1).zip (ps.map (·.2)) = ps.map fun p => (kD p.1, p.2)
  | [] => rfl
  | p :: ps => by
    rw [List.map_cons, List.map_cons, List.zip_cons_cons, zip_ps ps]; rfl
open Classical in
theorem spG_pk {K : PySem.W.Frag} {pd : PD} {W : Wd} {M : Sto} {xs : List Xv} {P : Xv → Sto → Prop} {vs : List V} {H : Hp} {Q : VK} (I : InvS K W M H) (hv : VXs K W vs xs) (hp : pfPk pd xs M P)
    (q : ∀ W' M' H' v x, W.le W' → InvS K W' M' H' → VX K W' v x → P x M' → Q v H') : ∃ a u, H a = some u ∧ Mut (some u) ∧ ∀ od, spG K (pfD pd) vs (upd H a (.frz od u)) fun v H' => H' a = some (.frz od u) ∧ Q v (upd H' a u) := by
  obtain ⟨j, ps, rest, rfl, hj, hp⟩ := hp
  cases hv with
  | cons h0 hr =>
  obtain ⟨a, rfl, ha⟩ := h0
  obtain ⟨fa, kv, ea, kx⟩ := I.ob j a _ ha hj
  have hm : a ∈ W.θ := List.mem_of_getElem? ha
  refine ⟨a, .dK kv, ea, trivial, fun od => ?_⟩
  have sF : Same W.F (upd W.F a (.frz od (.dK kv))) := same_new fa
  have e1 : upd W.F a (.frz od (.dK kv)) a = some (.frz od (.dK kv)) := upd_same
  let G' : Hp := fun b => if b ∈ W.θ ∧ W.F b = none ∧ b ≠ a then H b else W.G b
  have gOld : ∀ b o, W.G b = some o → G' b = some o := fun b o e => by
    show (if b ∈ W.θ ∧ W.F b = none ∧ b ≠ a then H b else W.G b) = some o
    rw [if_neg]
    · exact e
    · intro z
      rw [I.tg b z.1] at e; cases e
  have gNew : ∀ b, b ∈ W.θ → W.F b = none → b ≠ a → G' b = H b := fun b h1 h2 h3 => if_pos ⟨h1, h2, h3⟩
  have gA : G' a = none := by
    show (if a ∈ W.θ ∧ W.F a = none ∧ a ≠ a then H a else W.G a) = none
    rw [if_neg fun z => z.2.2 rfl]
    exact I.tg a hm
  refine ⟨⟨[], upd W.F a (.frz od (.dK kv)), G'⟩, [], dX (.dict (ps.map fun p => (kD p.1, p.2)) :: rest), fun x _ => match x with
    | .d d => noDic d = true ∧ P (.d d) M
    | .c _ => False, ?_, ?_, ⟨_, rfl, hp⟩, ?_⟩
  · refine ⟨rfl, List.nodup_nil, fun i b o h => (by simp at h), fun b o e => ?_, fun b o e => ?_, fun b => ?_, fun b h => (by cases h), fun b h => (by cases h)⟩
    · have e : upd W.F a (.frz od (.dK kv)) b = some o := e
      by_cases z : b = a
      · subst z; rw [upd_same] at e ⊢; exact e
      · rw [upd_ne z] at e ⊢; exact I.sf b o e
    · have e : G' b = some o := e
      have z : b ≠ a := fun z => by subst z; rw [gA] at e; cases e
      rw [upd_ne z]
      have e : (if b ∈ W.θ ∧ W.F b = none ∧ b ≠ a then H b else W.G b) = some o := e
      split at e
      · exact e
      · exact I.sg b o e
    · show upd W.F a (.frz od (.dK kv)) b = none ∨ G' b = none ∨ ∃ xs, upd W.F a (.frz od (.dK kv)) b = some (.tup xs)
      by_cases z : b = a
      · subst z; exact .inr (.inl gA)
      · rw [upd_ne z]
        by_cases f : W.F b = none
        · exact .inl f
        · refine .inr ?_
          show (if b ∈ W.θ ∧ W.F b = none ∧ b ≠ a then H b else W.G b) = none ∨ _
          rw [if_neg fun y => f y.2.1]
          exact (I.fg b).resolve_left f
  · obtain ⟨d1, d2⟩ := kvx_dq (a := a) (.of sF) kx
    refine .cons ?_ ?_
    · have := Dq.dic (K := K) (F := upd W.F a (.frz od (.dK kv))) (a := a) (.inr ⟨od, e1⟩) d1
      rw [d2, zip_ps] at this
      exact this
    · exact VXs.ofD (W := ⟨[], upd W.F a (.frz od (.dK kv)), G'⟩) (DqAll.same (.of sF) (VXs.toD hr))
  · intro W1 M1 H2 v x l1 I1 v1 p1
    cases x with
    | c _ => exact p1.elim
    | d d =>
    obtain ⟨nd, p1⟩ := p1
    have f1 : W1.F a = some (.frz od (.dK kv)) := l1.f.fz a _ _ e1
    have h2a : H2 a = some (.frz od (.dK kv)) := I1.sf a _ f1
    refine ⟨h2a, ?_⟩
    let F2 : Hp := fun b => if b = a then none else W1.F b
    have f2a : F2 a = none := if_pos rfl
    have f2n : ∀ b, b ≠ a → F2 b = W1.F b := fun b z => if_neg z
    have rdN : ∀ b u, Rd W.F b u → b ≠ a := fun b u r z => by
      subst z
      rcases r with r | ⟨o, r⟩
      · rw [fa] at r; cases r
      · rw [fa] at r; cases r
    have s2 : SameR W.F F2 := by
      refine ⟨fun b u pu r => ?_, fun b h z => ?_, fun b o u h => ?_, fun b xs h => ?_⟩
      · have hb := rdN b u r
        have := l1.f.rd b u pu ((SameR.of sF).rd b u pu r)
        rcases this with r | ⟨o, r⟩
        · exact .inl ((f2n b hb).trans r)
        · exact .inr ⟨o, (f2n b hb).trans r⟩
      · have hb : b ≠ a := fun y => by subst y; exact h fa
        rw [f2n b hb] at z
        exact l1.f.dom b (by show upd W.F a _ b ≠ none; rw [upd_ne hb]; exact h) z
      · have hb : b ≠ a := fun y => by subst y; rw [fa] at h; cases h
        rw [f2n b hb]
        exact l1.f.fz b o u (by show upd W.F a _ b = _; rw [upd_ne hb]; exact h)
      · have hb : b ≠ a := fun y => by subst y; rw [fa] at h; cases h
        rw [f2n b hb]
        exact l1.f.tp b xs (by show upd W.F a _ b = _; rw [upd_ne hb]; exact h)
    have l2 : W.le ⟨W.θ, F2, W.G⟩ := ⟨⟨fun _ _ h => h, s2⟩, rfl⟩
    have kept0 : ∀ b, b ∈ W.θ → W.F b = none → b ≠ a → H2 b = H b ∧ ((∀ xs, H b ≠ some (.tup xs)) → W1.F b = none) := fun b hb hF hne => by
      have hth := I.th b hb
      cases hH : H b with
      | none => exact absurd hH hth
      | some o =>
        have g1 : W1.G b = some o := by rw [l1.g]; exact (gNew b hb hF hne).trans hH
        exact ⟨I1.sg b o g1, fun n => I1.fD g1 fun xs e => n xs (congrArg some e)⟩
    have kept : ∀ b, b ∈ W.θ → W.F b = none → b ≠ a → (∀ xs, H b ≠ some (.tup xs)) → H2 b = H b ∧ W1.F b = none := fun b hb hF hne n => ⟨(kept0 b hb hF hne).1, (kept0 b hb hF hne).2 n⟩
    refine q ⟨W.θ, F2, W.G⟩ M (upd H2 a (.dK kv)) v (.d d) l2 ?_ (Dq.off f1 f2n nd v1) p1
    refine ⟨I.len, I.nd, fun i b o h1 h2 => ?_, fun b o e => ?_, fun b o e => ?_, fun b => ?_, I.tg, fun b hb => ?_⟩
    · have h1 : W.θ[i]? = some b := h1
      have hb := List.mem_of_getElem? h1
      by_cases z : b = a
      · subst z
        have : i = j := by
          obtain ⟨q1, w1⟩ := List.getElem?_eq_some_iff.mp h1
          obtain ⟨q2, w2⟩ := List.getElem?_eq_some_iff.mp ha
          exact (List.getElem_inj I.nd).mp (w1.trans w2.symm)
        subst this
        rw [hj] at h2; cases h2
        exact ⟨f2a, kv, upd_same, kx.le l2⟩
      · have ok := I.ob i b o h1 h2
        have ue : upd H2 a (.dK kv) b = H2 b := upd_ne z
        cases o with
        | lst xs => obtain ⟨h0, vs, q1, q2⟩ := ok; obtain ⟨z1, z2⟩ := kept b hb h0 z (by rw [q1]; nofun); exact ⟨(f2n b z).trans z2, vs, (ue.trans z1).trans q1, VXs.le l2 q2⟩
        | tup xs =>
          obtain ⟨vs, q1, q2⟩ := ok
          refine ⟨vs, ?_, VXs.le l2 q2⟩
          by_cases h0 : W.F b = none
          · exact (ue.trans (kept0 b hb h0 z).1).trans q1
          · cases hf : W.F b with
            | none => exact absurd hf h0
            | some o =>
              have e1 := I.sf b o hf
              rw [q1] at e1; cases e1
              exact ue.trans (I1.sf _ _ (l1.f.tp _ _ (by show upd W.F a _ b = _; rw [upd_ne z]; exact hf)))
        | dic xs => obtain ⟨h0, vs, q1, q2⟩ := ok; obtain ⟨z1, z2⟩ := kept b hb h0 z (by rw [q1]; nofun); exact ⟨(f2n b z).trans z2, vs, (ue.trans z1).trans q1, q2.le l2⟩
        | dit xs => obtain ⟨h0, vs, q1, q2⟩ := ok; obtain ⟨z1, z2⟩ := kept b hb h0 z (by rw [q1]; nofun); exact ⟨(f2n b z).trans z2, vs, (ue.trans z1).trans q1, q2.le l2⟩
        | ins C fs => obtain ⟨h0, dx, vs, q1, q2⟩ := ok; obtain ⟨z1, z2⟩ := kept b hb h0 z (by rw [q1]; nofun); exact ⟨(f2n b z).trans z2, dx, vs, (ue.trans z1).trans q1, q2.le l2⟩
        | frz d => exact Dq.same s2 ok
    · have e : F2 b = some o := e
      have z : b ≠ a := fun z => by subst z; rw [f2a] at e; cases e
      rw [f2n b z] at e
      rw [upd_ne z]; exact I1.sf b o e
    · have z : b ≠ a := fun z => by subst z; have := I.tg b hm; rw [this] at e; cases e
      rw [upd_ne z]
      exact I1.sg b o (by rw [l1.g]; exact gOld b o e)
    · show F2 b = none ∨ W.G b = none ∨ ∃ xs, F2 b = some (.tup xs)
      cases hg : W.G b with
      | none => exact .inr (.inl rfl)
      | some o =>
        have z : b ≠ a := fun z => by subst z; have := I.tg b hm; rw [this] at hg; cases hg
        rw [f2n b z]
        rcases I1.fg b with y | y | y
        · exact .inl y
        · rw [l1.g] at y
          have := gOld b o hg
          have y : G' b = none := y
          rw [this] at y; cases y
        · exact .inr (.inr y)
    · have hb : b ∈ W.θ := hb
      by_cases z : b = a
      · subst z; rw [upd_same]; simp
      · rw [upd_ne z]
        by_cases hF : W.F b = none
        · rw [(kept0 b hb hF z).1]; exact I.th b hb
        · intro y
          refine l1.f.dom b ?_ (I1.sf.free y)
          show upd W.F a _ b ≠ none
          rw [upd_ne z]; exact hF
section
variable {X : Cx} {k : Nat} {ps : List Str} {pd : PD} {x : Str} {p pos : Pos} {e : Expr} {es : List Expr} {rs : RF}
/-- f(s, ..) where s is a live dict that f looks at -/
theorem se_calPk (C : Cal X.prog X.w X.K X.mg X.base k x ps (pfD pd)) (hr : Rm k X) (ha : SA X (e :: es) rs)
    (hg : Gl X x := by rfl) (hdb : (x == ("__debug__" : Str)) = false := by decide) (he : starEach (e :: es) X.env = (false, eval e X.env) :: starEach es X.env := by rfl) (hpl : (backTo pos (starEach es X.env)).any (·.1) = false := by rfl) :
    SE X (.Call (.Name x p) (e :: es) [] pos) (rCall (pfPk pd) rs) := by
  obtain ⟨f, fd, hm, hk, hb, F⟩ := C.ex
  obtain ⟨t, pa, sa⟩ := ha
  refine ⟨fun σ H Q => t σ H fun vs H1 => ∃ a u, H1 a = some u ∧ Mut (some u) ∧ ∀ od, spG X.K (pfD pd) vs (upd H1 a (.frz od u)) fun v H' => H' a = some (.frz od u) ∧ Q v (upd H' a u), ⟨fun pins s σ H Q I h => ?_⟩, fun W M H σ σx P Q I S h q => ?_⟩
  · refine wpAny_Call_Name_kw (ld_glob I hg hm ?_ hdb)
    refine PySem.W.callWith_K (h₀ := X.base) I.ok.mod.kin hk (thn (pa.run pos pins s σ H _ I h) fun us s1 ⟨vs, H1, I1, r, a, u, e1, mu, qq⟩ => ⟨I1.kIn, ?_⟩) he hpl
    obtain ⟨od, I2⟩ := I1.lock e1 mu
    refine thn (runG F hr hb I2 r (qq od)) fun v s2 ⟨v', H', I3, rv, e3, q3⟩ => ?_
    exact ⟨v', _, I3.unlock e3 (I1.nofrz e1 mu), rv, q3⟩
  · exact sa W M H σ σx _ _ I S h fun W1 M1 H1 vs xs l1 I1 v1 p1 => spG_pk I1 v1 p1 fun W2 M2 H2 v x l2 I2 v2 p2 => q W2 M2 H2 v x (l1.trans l2) I2 v2 p2
end
end G

set_option Elab.async false
set_option linter.all false
set_option maxRecDepth 100000
set_option maxHeartbeats 4000000
/-! G32: a, b = a list; dicts with tuple keys that change; keys that are tuple cells; min of three; methods without arguments. -/
namespace G
open PySem PySem.Spec PyProof PyProof.Rows L2
/-! ### a, b = a list -/
section
variable {prog : Program} {w : World} {A : Around} {E : Value → Shared → Prop} {s : Shared}
theorem draw_list {it t : Addr} {items : Array Value} (hne : t ≠ it) : ∀ (n i : Nat) (s : Shared) (Q : List Value → Shared → Prop), s.heap.IsListIter it t i → s.heap.IsList t items → i + n ≤ items.size →
    (∀ h', h'.IsListIter it t (i + n) → Heap.SameBut it s.heap h' → Q ((items.toList.drop i).take n) { s with heap := h' }) → wpAny (model prog w) A (draw (.ref it) n) Q E s
  | 0, i, s, Q, hit, _, _, hQ => by
    show wpAny _ _ (pure []) Q E s
    exact wpAny_pure (by simpa using hQ s.heap hit (Heap.SameBut.refl ..))
  | n + 1, i, s, Q, hit, ht, hle, hQ => by
    have hlt : i < items.size := by omega
    show wpAny _ _ (pyNext (.ref it) >>= _) Q E s
    refine wpAny_bind (wpAny_pyNext_list_item hit ht (x := items[i]) (by simp [hlt]) fun h₁ hit₁ hs₁ => ?_)
    refine wpAny_bind (wpAny_holding (draw_list hne n (i + 1) _ _ hit₁ (ht.extBut hs₁.extBut hne) (by omega) fun h₂ hit₂ hs₂ => wpAny_pure ?_))
    have hd : items.toList.drop i = items[i] :: items.toList.drop (i + 1) := by simp [List.drop_eq_getElem_cons, hlt]
    have := hQ h₂ (by rw [show i + (n + 1) = i + 1 + n by omega]; exact hit₂) (hs₁.trans hs₂)
    rw [hd, List.take_succ_cons] at this
    exact this
theorem unpackItems_list {t : Addr} {items : Array Value} {Q : List Value → Shared → Prop} (hh : A.handled = none) (ht : s.heap.IsList t items)
    (hQ : ∀ h', Heap.ExtBut s.heap.objs.size s.heap h' → Q items.toList { s with heap := h' }) : wpAny (model prog w) A (unpackItems (.ref t) items.size none) Q E s := by
  have hlt : t ≠ s.heap.objs.size := by obtain ⟨o, ho, _⟩ := ht; exact Nat.ne_of_lt (Heap.lt_size ho)
  unfold unpackItems
  refine wpAny_bind ?_
  · unfold notIterableAtAll
    refine wpAny_bind (wpAny_specialOf ht.typeIs slot_list_iter.lookup ?_)
    refine wpAny_pure ?_
    simp only [Bool.false_eq_true, if_false]
    refine wpAny_bind (wpAny_holding (wpAny_pyIter_list ht ?_))
    refine wpAny_bind (wpAny_holding (draw_list hlt items.size 0 _ _ ⟨_, Heap.get?_push_size _ rfl, rfl, rfl⟩ (ht.push _) (by omega) fun h₁ hit₁ hs₁ => ?_))
    have hall : List.take items.size (List.drop 0 items.toList) = items.toList := by
      rw [List.drop_zero]; exact List.take_of_length_le (by simp)
    rw [hall]
    rw [if_neg (by simp)]
    have ht₁ : h₁.IsList t items := (ht.push _).extBut hs₁.extBut hlt
    refine wpAny_bind (wpAny_holding (wpAny_pyNext_list_end hh hit₁ ht₁ (by simp) fun h₂ he₂ => ?_))
    simp only [Option.isSome_none, Bool.false_eq_true, if_false]
    refine wpAny_pure (hQ h₂ fun b o hb e => he₂ b o hb (hs₁.extBut b o hb (Heap.get?_push_of_some _ e)))
theorem assign_Tuple_list {env : Env} {elts : List Expr} {x1} {pos : Pos} {t : Addr} {items : Array Value} {Q : Unit → Shared → Prop} (hh : A.handled = none) (ht : s.heap.IsList t items)
    (hn : (assignEach elts env).length = items.size) (hstar : (assignEach elts env).findIdx? (·.1) = none)
    (h : ∀ h', Heap.ExtBut s.heap.objs.size s.heap h' → wpAny (model prog w) A (assignInOrder ((assignEach elts env).map (·.2)) items.toList) Q E { s with heap := h' }) :
    wpAny (model prog w) A (assign (.Tuple elts x1 pos) env (.ref t)) Q E s := by
  rw [assign_Tuple]
  refine wpAny_bind (wpAny_standAt ?_)
  unfold unpack
  rw [hn, hstar]
  exact wpAny_bind (wpAny_holding (unpackItems_list hh ht h))
end
section
variable {X : Cx} {pos : Pos}
def gTupL (K : PySem.W.Frag) (n : Nat) (t : TGs) : TG := fun v σ H Q => ∃ a xs, v = .ref a ∧ SqL K H a xs ∧ xs.length = n ∧ t xs σ H Q
theorem pg_tupL {es : List Expr} {k : Nat} {t : TGs} {n : Nat} (hc : X.calm = true) (h : PGs X es t)
    (hn : (assignEach es X.env).length = n := by rfl) (hst : (assignEach es X.env).findIdx? (·.1) = none := by rfl) : PG X (.Tuple es k pos) (gTupL X.K n t) := by
  refine ⟨fun pins s σ H v u Q I r hw => ?_⟩
  obtain ⟨a, xs, e1, hq, hl, hw⟩ := hw
  subst e1
  cases r
  obtain ⟨its, rv, ht, hz⟩ := I.list hq
  refine assign_Tuple_list (I.ok.hd hc) ht.isList (by simp [hn, ← hl, rv.length]) hst fun h' hx => ?_
  have I1 : Inv X pins σ H { s with heap := h' } := I.kept (t' := s.toks) fun b o e => hx b o (Nat.ne_of_lt (Heap.lt_size e)) e
  exact h.run pins _ σ H xs _ Q I1 (by simpa using rv) hw
def rgTupL (n : Nat) (gs : RGs) : RG := fun x σ M P => match hd M x with
  | .lst xs => xs.length = n ∧ gs xs σ M P
  | _ => False
theorem sg_tupL {es : List Expr} {k : Nat} {js : List Nat} {gs : RGs} {n : Nat} (hc : X.calm = true) (h : SGs X es js gs) (hn : (assignEach es X.env).length = n := by rfl) (hst : (assignEach es X.env).findIdx? (·.1) = none := by rfl) : SG X (.Tuple es k pos) js (rgTupL n gs) := by
  obtain ⟨ts, ps, ss⟩ := h
  refine ⟨_, pg_tupL hc ps hn hst, fun W M H σ σx v x P Q I S h hg q => ?_⟩
  unfold rgTupL at hg
  split at hg
  · rename_i xs e
    obtain ⟨a, vs, rfl, h1, h2⟩ := lstH I h e
    exact ⟨a, vs, rfl, h1, h2.length.trans hg.1, ss W M H σ σx vs xs P Q I S h2 hg.2 q⟩
  · exact hg.elim
end
/-! ### {} that is to hold tuple keys -/
def rDitE : RE := fun _ M P => P (.c M.length) (M ++ [.dit []])
theorem se_ditE {X : Cx} {pos : Pos} : SE X (.Dict [] [] pos) rDitE := by
  refine ⟨_, pe_dnewT, fun W M H σ σx P Q I S h q => fun p hp => ?_⟩
  obtain ⟨I1, L1⟩ := I.loose hp (.dT [])
  obtain ⟨I2, l2, x2⟩ := I1.adoptCell L1 (o := .dit []) fun W' l' f' => ⟨f', [], L1.at_, .nil⟩
  exact q _ _ _ _ _ l2 I2 x2 h
/-! ### keys: fresh tuples, or tuple cells -/
def SndK2 (K : PySem.W.Frag) (t : TE) (r : RK) : Prop := ∀ (W : Wd) (M : Sto) (H : Hp) (σ : St) (σx : Sl) (P : List Key → Sto → Prop) (Q : VK), InvS K W M H → Slr K W σ σx → r σx M P →
  (∀ W' M' H' b ks, W.le W' → InvS K W' M' H' → H' b = some (.tup (ks.map kV)) → P ks M' → Q (.ref b) H') → t σ H Q
def SK2 (X : Cx) (e : Expr) (r : RK) : Prop := ∃ t, PE X e t ∧ SndK2 X.K t r
theorem SK.two {X : Cx} {e : Expr} {r : RK} (h : SK X e r) : SK2 X e r := by
  obtain ⟨t, p, s⟩ := h
  exact ⟨t, p, fun W M H σ σx P Q I S h q => s W M H σ σx P Q I S h fun W' M' H' b ks l I L p => q W' M' H' b ks l I L.at_ p⟩
def rKc (re : RE) : RK := fun σ M P => re σ M fun x M1 => match x with
  | .c j => match M1[j]? with
    | some (.tup xs) => ifS (keysX xs) fun ks => P ks M1
    | _ => False
  | _ => False
theorem SE.key {X : Cx} {e : Expr} {re : RE} (h : SE X e re) : SK2 X e (rKc re) := by
  obtain ⟨t, p, s⟩ := h
  refine ⟨t, p, fun W M H σ σx P Q I S h q => s W M H σ σx _ _ I S h fun W1 M1 H1 v x l1 I1 v1 p1 => ?_⟩
  split at p1
  · rename_i j
    split at p1
    · rename_i xs em
      obtain ⟨ks, e, p2⟩ := ifS_of p1
      obtain ⟨a, rfl, ha⟩ := v1
      obtain ⟨vs, h1, h2⟩ := I1.ob j a _ ha em
      have ev := keysX_ok e h2
      subst ev
      exact q W1 M1 H1 a ks l1 I1 h1 p2
    · exact p1.elim
  · exact p1.elim
section
variable {X : Cx} {o i e : Expr} {ro : RE} {rk : RK} {pos : Pos}
/-- d[k] -/
theorem se_ixT2 (hu : X.A.units + 1 < cLine) (ho : SE X o ro) (he : SK2 X e rk) (hs : NoSl e := by intro _ _; rfl) : SE X (.Subscript o e pos) (rIxT ro rk) := by
  obtain ⟨to, po, so⟩ := ho
  obtain ⟨te, pe, se⟩ := he
  refine ⟨_, pe_dget hu po pe hs, fun W M H σ σx P Q I S hr q => ?_⟩
  refine so W M H σ σx _ _ I S hr fun W1 M1 H1 v x l1 I1 v1 p1 => ?_
  refine se W1 M1 H1 σ σx _ _ I1 (S.le l1) p1 fun W2 M2 H2 b ks l2 I2 L2 p2 => ?_
  have x2 := v1.le l2
  split at p2
  · rename_i kvs e2
    have ok2 := hd_ok I2 x2
    rw [e2] at ok2
    obtain ⟨a', ea, vs, h2, h3⟩ := ok2
    cases ea
    obtain ⟨z, ez, p3⟩ := ifS_of p2
    rcases valX_ok ks h3 with ⟨q1, q2⟩ | ⟨w', y', q1, q2, q3⟩
    · rw [q1] at ez; cases ez
    · rw [q1] at ez
      cases ez
      exact ⟨a', w', rfl, .inr ⟨vs, ks, b, h2, rfl, L2, q2.symm⟩, q _ M2 H2 w' _ (l1.trans l2) I2 q3 p3⟩
  · exact p2.elim
def gSetT (o : Xv) (k : List Key) (x : Xv) (M : Sto) (P : Sto → Prop) : Prop := match o with
  | .c j => match M[j]? with
    | some (.dit kvs) => kvs.length < sizeLine ∧ P (M.set j (.dit (putX kvs k x)))
    | _ => False
  | _ => False
/-- d[k] = .. -/
def rgSubT (ro : RE) (rk : RK) : RG := fun x σ M P => ro σ M fun o M1 => rk σ M1 fun k M2 => gSetT o k x M2 fun M3 => P σ M3
theorem sg_subT (hu : X.A.units + 1 < cLine) (ho : SE X o ro) (hi : SK2 X i rk) (ha : ∀ v, assign (.Subscript o i pos) X.env v = (do
      let ov ← holding [v] (eval o X.env)
      let iv ← holding [v, ov] (eval i X.env)
      standAt pos
      holding [v, ov, iv] (setItem ov iv v)
      release [v, ov, iv] []) := by intro _; rfl) : SG X (.Subscript o i pos) [] (rgSubT ro rk) := by
  obtain ⟨to, po, so⟩ := ho
  obtain ⟨ti, pi, si⟩ := hi
  refine ⟨_, pg_sub po pi (set_dic hu) ha, fun W M H σ σx v x P Q I S h hg q => ?_⟩
  refine so W M H σ σx _ _ I S hg fun W1 M1 H1 ov ox l1 I1 v1 p1 => ?_
  refine si W1 M1 H1 σ σx _ _ I1 (S.le l1) p1 fun W2 M2 H2 b ks l2 I2 L2 p2 => ?_
  have vo := v1.le l2
  have vx := h.le (l1.trans l2)
  have S2 := S.le (l1.trans l2)
  unfold gSetT at p2
  split at p2
  · rename_i _ j
    obtain ⟨a, rfl, ha⟩ := vo
    split at p2
    · rename_i kvs em
      obtain ⟨f0, vs, h1, h2⟩ := I2.ob j a _ ha em
      refine ⟨a, _, rfl, DPut.t h1 L2 (by rw [KVX.length h2]; exact p2.1), ?_⟩
      have I3 := I2.write (u := .dT (putK vs ks v)) (o := .dit (putX kvs ks x)) ha f0 ⟨f0, _, upd_same, KVX.put h2 vx⟩
      exact q W2 _ _ σ σx (l1.trans l2) I3 S2 (.refl σ _) p2.2
    · exact p2.elim
  · exact p2.elim
end
/-! ### min(i, j, k) -/
def gMin3 : GL := fun xs M P => match xs with
  | [x, y, z] => match hd M x, hd M y, hd M z with
    | .sc (.int i), .sc (.int j), .sc (.int k) => P (.d (.int (min (min i j) k))) M
    | _, _, _ => False
  | _ => False
theorem nuMin3_ints (i j k : Int) : nuMin3 (.int i) (.int j) (.int k) = some (.int (min (min i j) k)) := by
  have h2 : ∀ a b : Int, nuMin2 (.int a) (.int b) = some (.int (min a b)) := fun a b => by
    show some (if decide (b < a) = true then V.int b else V.int a) = _
    by_cases c : b < a
    · rw [if_pos (decide_eq_true c), show min a b = b by omega]
    · rw [if_neg (by rw [decide_eq_false c]; simp), show min a b = a by omega]
  unfold nuMin3
  rw [h2]
  exact h2 _ _
theorem bx_min3 {X : Cx} (hc : X.calm = true) : BX X (.builtin "min") gMin3 := by
  refine ⟨_, call_min3Nu hc, fun W M H vs xs P Q I hv hg q => ?_⟩
  unfold gMin3 at hg
  split at hg
  · cases hv with
    | cons v1 hv =>
    cases hv with
    | cons v2 hv =>
    cases hv with
    | cons v3 hv =>
    cases hv
    split at hg
    · rename_i i j k e1 e2 e3
      have a1 := scI I v1 e1
      have a2 := scI I v2 e2
      have a3 := scI I v3 e3
      subst a1
      subst a2
      subst a3
      exact ⟨_, _, _, _, rfl, nuMin3_ints i j k, q W M H (.int (min (min i j) k)) (.d (.int (min (min i j) k))) (.refl W) I (show Dq X.K W.F (.int (min (min i j) k)) (.int (min (min i j) k)) from .int _) hg⟩
    · exact hg.elim
  · exact hg.elim
/-! ### o.m() -/
def rMeth0 (C : Addr) (m : Str) (pf : PF) (ro : RE) : RE := fun σ M P => ro σ M fun x M1 => ifS (insAt C M1 x) fun q => q.2.lookup m = none ∧ pf [x] M1 P
theorem se_meth0 {X : Cx} {k : Nat} {C : Addr} {m : Str} {ps : List Str} {pf : PF} {o : Expr} {ro : RE} {pos apos : Pos} {pl : Sem Bool} (c : Cls X.K C) (F : MCal X.prog X.w X.K X.mg X.base k C m ps pf) (hr : Rm k X) (ho : SE X o ro)
    (ht : eval (.Call (.Attribute o m apos) [] [] pos) X.env = (do
      let ov ← eval o X.env
      standAt apos.atName
      let (f, first) ← holding [ov] (getMethod ov m pl)
      callWith pos f first (backTo pos (starEach [] X.env)) (backToKw pos (keywordEach [] X.env))) := by rfl) :
    SE X (.Call (.Attribute o m apos) [] [] pos) (rMeth0 C m pf ro) := by
  obtain ⟨f, fd, hm, hb, F⟩ := F.ex
  obtain ⟨to, po, so⟩ := ho
  refine ⟨fun σ H Q => to σ H fun x H1 => ∃ a dx fs, x = .ref a ∧ H1 a = some (.ins C dx fs) ∧ fs.lookup m = none ∧ spG X.K pf [.ref a] H1 Q, ⟨fun pins s σ H Q I h => ?_⟩, fun W M H σ σx P Q I S h q => ?_⟩
  · refine PySem.W.methodCall_KW (pl := pl) (thn (po.run pins s σ H _ I h) fun u s1 ⟨x, H1, I1, rx, a, dx, fs, ex, ea, l, q⟩ => ?_) ht
    subst ex
    obtain rfl : u = Value.ref a := rx
    refine getmeth_ok I1 ea c hm l ?_
    exact PySem.W.callWith_K0 (first := [.ref a]) I1.kIn hm.kp (runG (us := [.ref a]) (vs := [.ref a]) F hr hb I1 (.cons rfl .nil) q)
  · refine so W M H σ σx _ _ I S h fun W1 M1 H1 v x l1 I1 v1 p1 => ?_
    obtain ⟨⟨i, fs⟩, e1, hl, p1⟩ := ifS_ex p1
    obtain ⟨a, dx, vs, rfl, ha, hf, h1, h2⟩ := insAt_ok I1 v1 e1
    have lk := KVX.lookup (f := m) h2
    have hl : fs.lookup m = none := hl
    rw [hl] at lk
    exact ⟨a, dx, vs, rfl, h1, lk, W1, M1, [x], P, I1, .cons v1 .nil, p1, fun W3 M3 H3 v x l3 I3 v3 p3 => q W3 M3 H3 v x (l1.trans l3) I3 v3 p3⟩
end G

set_option Elab.async false
set_option linter.all false
set_option maxRecDepth 100000
set_option maxHeartbeats 4000000
/-! G33: sorted of a dict with tuple keys: its keys become data. -/
namespace PySem.W
open PySem PySem.Calls PyProof.Rows
section
variable {prog : Program} {w : World} {A : Around} {E : Value → Shared → Prop} {s : Shared} {β : Type} {vs : List Value} {bs : List β} {enc : β → PyData} {R : Value → β → Prop}
theorem list_sort_data0 {h0 : Heap} {a : Addr} {n : Nat} {Q : Value → Shared → Prop} (ho : s.heap.get? a = some (seqObj "list" vs.toArray n)) (e : EachIs R vs bs) (er : EachIs (fun v b => ∃ as, Reads h0 v (enc b) as) vs bs) (kp : ∀ b o, h0.get? b = some o → (sortingHeap s.heap a vs).get? b = some o) (hal : AllAlike (bs.map enc)) (hk : Sortable (bs.map enc)) (hL : bs.length ≤ sizeLine)
    (hu : ∀ b, b ∈ bs → A.units + 1 + (enc b).depth < cLine) (h : ∀ out, out.length = bs.length → EachIs R out (bs.mergeSort (dataLe false enc)) → Q .none { s with heap := sortedHeap s.heap a vs (List.toArray out) }) :
    wpAny (model prog w) A (call (.builtin "list.sort") [.ref a] []) Q E s := by
  have er' : EachIs (fun v b => ∃ as, Reads (sortingHeap s.heap a vs) v (enc b) as) vs bs := er.mono fun _ _ ⟨as, r⟩ => ⟨as, PyProof.Rows.Reads.keeps kp r⟩
  refine wpAny_call_entry slot_list_sort ⟨_, ho, rfl⟩ entry_list_sort (list_sort_vals (κ := dataKind (sortingHeap s.heap a vs) (bs.map enc)) ho (SortsAt.data (s := { s with heap := sortingHeap s.heap a vs }) (each_map (R := fun v d => ∃ as, Reads (sortingHeap s.heap a vs) v d as) enc er') hal hk (bound_map hu)) (by rw [e.length]; exact hL) ⟨.none, rfl, ?_⟩) (args_list_sort _)
  exact h _ (by rw [sortVals_length false rfl]; exact e.length) (sortVals_data false e er' hal)
end
end PySem.W
namespace G
open PySem PySem.Spec PyProof.Rows L2
def rSortDT (K : PySem.W.Frag) : List V → Hp → VK → Prop := fun xs H Q => ∃ (a : Addr) (kvs : List (List Key × V)), xs = [.ref a] ∧ Rd H a (.dT kvs) ∧
  ∀ bs, IsKeys H kvs bs → ∃ (F : Hp) (ds : List PyData), SameR F H ∧ DqAll K F (bs.map V.ref) ds ∧ Srt ds ∧ ∀ p out, H p = none → DqAll K F out (sortD ds) → Q (.ref p) (upd H p (.lst out))
theorem call_sortedDT {X : Cx} {k : Nat} (hr : Rm k X) : CallR X (.builtin "sorted") (rSortDT X.K) := by
  intro pins s σ H xs us Q I r q
  obtain ⟨d, kvs, rfl, hd, q⟩ := q
  obtain ⟨u, rfl, rx⟩ := r.one
  cases rx
  obtain ⟨z, hs, ks, pr, o, es, ep, ho, hx, hdt, he, hn⟩ := (show ObjOk X.prog X.w H s.heap d (.dT kvs) from hd.ok I.hok)
  have l1 : es.size = ks.length := size_of_entries he
  have l2 : kvs.length = ks.length := Paired.length pr
  refine Calls.call_function_entry PyProof.Rows.kind_sorted PyProof.Rows.plain_sorted PyProof.Rows.entry_sorted (PyProof.Rows.args_sorted1 _) ?_
  unfold Builtin.«sorted»
  refine wpAny_bind (m := checkCount "sorted" 1 1 _) (wpAny_pure ?_)
  refine wpAny_bind (PySem.W.kdu_collect (A := X.A.in1) (kdl_raw hs hx hdt) (I.ok.hd hr.calm) ho (by omega) fun h' tk acc' kp it => ?_)
  have ea : acc'.toList = ks.map fun x => Value.ref x.2.1 := by
    have hl : acc'.toList.length = ks.length := by rw [Array.length_toList, it.1]; exact l1
    apply List.ext_getElem?
    intro j
    rw [List.getElem?_map]
    cases hj : acc'.toList[j]? with
    | none =>
      have h1 := List.getElem?_eq_none_iff.mp hj
      rw [List.getElem?_eq_none (by omega)]
      all_goals rfl
    | some v =>
      obtain ⟨en, hen, hv⟩ := it.2 j v (by rw [← Array.getElem?_toList]; exact hj)
      have qe := entry_at he j
      rw [hen] at qe
      cases hb : ks[j]? with
      | none =>
        rw [hb] at qe
        exact nomatch (show some en = none from qe)
      | some b =>
        rw [hb] at qe
        have e2 : en = entryOfKey (tupleKind (mixKind X.prog X.w)) b := Option.some.inj qe
        rw [hv, e2]
        all_goals rfl
  have eb : acc'.toList = (ks.map fun x => x.2.1).map Value.ref := by rw [ea, List.map_map]; all_goals rfl
  have rv : Vals ((ks.map fun x => x.2.1).map V.ref) acc'.toList := by rw [eb]; exact vals_refs _
  obtain ⟨F, ds, sf, hd2, st, q⟩ := q _ (isKeys_of pr)
  have hu := hr.hu64
  have e1 := each_of rv hd2
  have hln : acc'.toList.length = ds.length := e1.length
  have er := each_reads I sf (fun d hd => st.al d hd d hd) e1
  have I1 : Inv X pins σ H { s with heap := h', toks := tk } := I.kept kp
  refine wpAny_bind (wpAny_newList ?_ (by rw [hln]; exact st.ln))
  have hoL : (h'.push (seqObj "list" acc'.toList.toArray 0)).get? h'.objs.size = some (seqObj "list" acc'.toList.toArray 0) := Heap.get?_push_size _ rfl
  show wpAny _ _ _ _ _ { s with heap := h'.push (seqObj "list" acc'.toList.toArray 0), toks := tk }
  refine wpAny_bind (wpAny_holding (PySem.W.list_sort_data0 (enc := id) (R := RDq X.K F) (h0 := s.heap) (s := { s with heap := h'.push (seqObj "list" acc'.toList.toArray 0), toks := tk }) hoL e1 er (fun b o e => ?_) (by rw [List.map_id]; exact st.al) (by rw [List.map_id]; exact st.so) st.ln (fun d hd => by have := st.dp d hd; show X.A.units + 1 + 1 + d.depth < cLine; omega) fun out h1 h2 => ?_))
  · have hlt := Heap.lt_size (kp b o e)
    exact PySem.W.sortingHeap_old (Nat.ne_of_lt hlt) (Heap.get?_push_of_some _ (kp b o e))
  obtain ⟨os, r1, r2⟩ := each_to h2
  obtain ⟨e', he'⟩ := PyProof.Rows.sortedHeap_at (vs := acc'.toList) (out := out.toArray) hoL
  have hlen : os.length ≤ sizeLine := by rw [r1.length, h1]; exact st.ln
  refine wpAny_pure ⟨_, rfl, .ref h'.objs.size, upd H h'.objs.size (.lst os), I1.laid (t' := tk) (fun b u e => ?_) (Nat.le_refl _)
    (show ObjOk X.prog X.w _ _ _ (.lst os) from ⟨hlen, out, e', r1, he'⟩), rfl, q _ os (I1.hok.fresh (Nat.le_refl _)) r2⟩
  have hb : b < h'.objs.size := Heap.lt_size e
  rw [PyProof.Rows.sortedHeap_old (Nat.ne_of_lt hb) (by rw [size_push']; exact Nat.lt_succ_of_lt hb)]
  exact Heap.get?_push_of_some _ e
def kT (ks : List Key) : PyData := .tuple (ks.map kD)
theorem dq_keys {K : PySem.W.Frag} {F : Hp} : ∀ ks : List Key, DqAll K F (ks.map kV) (ks.map kD)
  | [] => .nil
  | .inl i :: r => .cons (.int i) (dq_keys r)
  | .inr x :: r => .cons (.str x) (dq_keys r)
theorem InvS.adoptKeys {K : PySem.W.Frag} {M : Sto} {H : Hp} : ∀ {kvs : List (List Key × V)} {bs : List Addr} {W : Wd}, IsKeys H kvs bs → InvS K W M H →
    ∃ W', W.le W' ∧ W'.θ = W.θ ∧ InvS K W' M H ∧ DqAll K W'.F (bs.map V.ref) (kvs.map fun p => kT p.1)
  | _, _, W, .nil, I => ⟨W, .refl W, rfl, I, .nil⟩
  | _, _, W, .cons (a := p) (b := b) h t, I => by
    obtain ⟨W1, l1, t1, I1, f1⟩ := I.adoptT h (dq_keys p.1)
    obtain ⟨W2, l2, t2, I2, f2⟩ := InvS.adoptKeys t I1
    exact ⟨W2, l1.trans l2, t2.trans t1, I2, .cons (.tup (.of (l2.f.tp _ _ f1)) (dq_keys p.1)) f2⟩
def gSort4 : GLF := fun xs M P => match xs with
  | [x] => match hd M x with
    | .lst ys => ifS (datX ys) fun ds => Srt ds ∧ P (dX (sortD ds)) M
    | .dit kvs => Srt (kvs.map fun p => kT p.1) ∧ P (dX (sortD (kvs.map fun p => kT p.1))) M
    | _ => False
  | _ => False
theorem kvx_keys {K : PySem.W.Frag} {W : Wd} : ∀ {vs : List (List Key × V)} {kvs : List (List Key × Xv)}, KVX K W vs kvs → (vs.map fun p => kT p.1) = kvs.map fun p => kT p.1
  | _, _, .nil => rfl
  | _, _, .cons h r => by rw [List.map_cons, List.map_cons, kvx_keys r, h.1]
theorem bxf_sorted4 {X : Cx} {k : Nat} (hr : Rm k X) : BXF X (.builtin "sorted") gSort4 := by
  refine ⟨_, CallR.or (call_sortG hr) (call_sortedDT hr), fun W M H vs xs P Q I hv hg q => ?_⟩
  unfold gSort4 at hg
  split at hg
  · obtain ⟨v, rfl, v1⟩ := vxs1 hv
    split at hg
    · rename_i ys e
      obtain ⟨a, us, rfl, h1, h2⟩ := lstH I v1 e
      obtain ⟨ds, e2, st, p⟩ := ifS_of hg
      have := datX_of e2
      subst this
      refine .inl ⟨W.F, a, us, ds, rfl, h1, SameR.of I.sf, VXs.toD h2, st, fun p' out hp ho => ?_⟩
      obtain ⟨I2, L2⟩ := I.loose hp (.lst out)
      exact q W M _ p' out _ (.refl W) I2 L2 (VXs.ofD ho) p
    · rename_i kvs e
      have ok := hd_ok I v1
      rw [e] at ok
      obtain ⟨a, rfl, us, h1, h2⟩ := ok
      refine .inr ⟨a, us, rfl, h1, fun bs hb => ?_⟩
      obtain ⟨W1, l1, t1, I1, f1⟩ := InvS.adoptKeys hb I
      refine ⟨W1.F, _, SameR.of I1.sf, f1, by rw [kvx_keys h2]; exact hg.1, fun p' out hp ho => ?_⟩
      obtain ⟨I2, L2⟩ := I1.loose hp (.lst out)
      rw [kvx_keys h2] at ho
      exact q W1 M _ p' out _ l1 I2 L2 (VXs.ofD ho) hg.2
    · exact hg.elim
  · exact hg.elim
/-! ### d[k] where k is a tuple of data -/
theorem key_ofT {X : Cx} {pins : List (Addr × Obj)} {σ : St} {H : Hp} {s : Shared} {b : Addr} {ks : List Key} (I : Inv X pins σ H s) (e : SqT X.K H b (ks.map kV)) : (tupleKind (mixKind X.prog X.w)).is s.heap ks b := by
  obtain ⟨its, r, ⟨o, h1, h2, n, h3⟩, _⟩ := I.tuple e
  exact ⟨o, its.toArray, n, h1, h2, h3, by simpa using items_are r⟩
def tDGetT (K : PySem.W.Frag) (td ty : TE) : TE := fun σ H Q => td σ H fun x H1 => ty σ H1 fun y H2 => ∃ a v kvs k b, x = .ref a ∧ y = .ref b ∧ Rd H2 a (.dT kvs) ∧ SqT K H2 b (k.map kV) ∧ valV kvs k = some v ∧ Q v H2
theorem pe_dgetT {X : Cx} {o i : Expr} {pos : Pos} {td ty : TE} (hu : X.A.units + 1 < cLine) (ho : PE X o td) (hi : PE X i ty) (hs : NoSl i) : PE X (.Subscript o i pos) (tDGetT X.K td ty) := by
  refine ⟨fun pins s σ H Q I h => ?_⟩
  refine subD_of PySem.F.slot_dict_getitem.lookup hs (thn (ho.run pins s σ H _ I h) fun u s1 ⟨x, H1, I1, rx, q1⟩ => thn (hi.run pins s1 σ H1 _ I1 q1) fun iv s2 ⟨y, H2, I2, ry, a, v, kvs, k, b, ex, ey, g, gb, l, q2⟩ => ?_)
  subst ex
  subst ey
  obtain rfl : u = Value.ref a := rx
  obtain rfl : iv = Value.ref b := ry
  refine ⟨(isD_at I2 (.inr ⟨kvs, g⟩)).1, ?_⟩
  obtain ⟨z, hd, xs, rel, dd⟩ := dt_rd I2.hok g
  obtain ⟨w', hw, rw'⟩ := RelO.some_of (v := v) (o := (atKey xs k).map (·.2)) (by rw [← l]; exact rel.val k)
  obtain ⟨p, hp, hp2⟩ := Option.map_eq_some_iff.mp hw
  refine wpAny_getItem_heap (tupleKind_room_in1 hu) (key_ofT I2 gb) dd hp ?_
  rw [hp2]
  exact ⟨v, H2, I2.tok _, rw', q2⟩
def SndK3 (K : PySem.W.Frag) (t : TE) (r : RK) : Prop := ∀ (W : Wd) (M : Sto) (H : Hp) (σ : St) (σx : Sl) (P : List Key → Sto → Prop) (Q : VK), InvS K W M H → Slr K W σ σx → r σx M P →
  (∀ W' M' H' b ks, W.le W' → InvS K W' M' H' → SqT K H' b (ks.map kV) → P ks M' → Q (.ref b) H') → t σ H Q
def SK3 (X : Cx) (e : Expr) (r : RK) : Prop := ∃ t, PE X e t ∧ SndK3 X.K t r
def rKd (re : RE) : RK := fun σ M P => re σ M fun x M1 => match hd M1 x with
  | .tup xs => ifS (keysX xs) fun ks => P ks M1
  | _ => False
theorem SE.keyD {X : Cx} {e : Expr} {re : RE} (h : SE X e re) : SK3 X e (rKd re) := by
  obtain ⟨t, p, s⟩ := h
  refine ⟨t, p, fun W M H σ σx P Q I S h q => s W M H σ σx _ _ I S h fun W1 M1 H1 v x l1 I1 v1 p1 => ?_⟩
  split at p1
  · rename_i xs em
    obtain ⟨ks, e, p2⟩ := ifS_of p1
    obtain ⟨a, vs, rfl, h1, h2⟩ := tupH I1 v1 em
    have ev := keysX_ok e h2
    subst ev
    exact q W1 M1 H1 a ks l1 I1 h1 p2
  · exact p1.elim
theorem se_ixT3 {X : Cx} {o e : Expr} {ro : RE} {rk : RK} {pos : Pos} (hu : X.A.units + 1 < cLine) (ho : SE X o ro) (he : SK3 X e rk) (hs : NoSl e := by intro _ _; rfl) : SE X (.Subscript o e pos) (rIxT ro rk) := by
  obtain ⟨to, po, so⟩ := ho
  obtain ⟨te, pe, se⟩ := he
  refine ⟨_, pe_dgetT hu po pe hs, fun W M H σ σx P Q I S hr q => ?_⟩
  refine so W M H σ σx _ _ I S hr fun W1 M1 H1 v x l1 I1 v1 p1 => ?_
  refine se W1 M1 H1 σ σx _ _ I1 (S.le l1) p1 fun W2 M2 H2 b ks l2 I2 L2 p2 => ?_
  have x2 := v1.le l2
  split at p2
  · rename_i kvs e2
    have ok2 := hd_ok I2 x2
    rw [e2] at ok2
    obtain ⟨a', ea, vs, h2, h3⟩ := ok2
    cases ea
    obtain ⟨z, ez, p3⟩ := ifS_of p2
    rcases valX_ok ks h3 with ⟨q1, q2⟩ | ⟨w', y', q1, q2, q3⟩
    · rw [q1] at ez; cases ez
    · rw [q1] at ez
      cases ez
      exact ⟨a', w', vs, ks, b, rfl, rfl, h2, L2, q2, q W2 M2 H2 w' _ (l1.trans l2) I2 q3 p3⟩
  · exact p2.elim
end G

set_option Elab.async false
set_option linter.all false
set_option maxRecDepth 100000
set_option maxHeartbeats 8000000
/-! The walks of the defs, printed by gen.py. -/
namespace K31
open PySem PySem.Spec PyProof.Rows L2 G
def top (i : Nat) : Stmt := PySem.Challenge.pw_claimshold_k31_shares_of_titles.main.body.getD i (.Pass ⟨0, 0, 0, 0⟩)
def mtd (i j : Nat) : Stmt := match top i with
  | .ClassDef _ _ _ b _ _ _ _ _ _ _ => b.getD j (.Pass ⟨0, 0, 0, 0⟩)
  | s => s
structure Fx (K : PySem.W.Frag) (mg : Str → Option Value) (base : Heap) : Prop where
  m_abs : mg "abs" = none
  m_int : mg "int" = none
  m_isinstance : mg "isinstance" = none
  m_len : mg "len" = none
  m_list : mg "list" = none
  m_max : mg "max" = none
  m_min : mg "min" = none
  m_range : mg "range" = none
  m_repr : mg "repr" = none
  m_set : mg "set" = none
  m_sorted : mg "sorted" = none
  m_str : mg "str" = none
  m_sum : mg "sum" = none
  i_WHOLE : ∃ t, mg "WHOLE" = some (.int 1000 t)
  c_Title : Cls K (He.ga K "Title")
  n_Title_held : NoAttr K (He.ga K "Title") "held"
  n_Title_left : NoAttr K (He.ga K "Title") "left"
  n_Title_takers : NoAttr K (He.ga K "Title") "takers"
  sysB : ∃ m, base.Ns sysModules m
variable {P : Program} {w : World} {K : PySem.W.Frag} {mg : Str → Option Value} {base : Heap} {k : Nat}
abbrev s__wall : Stmt := top 0
abbrev N__wall : List Str := ["k"]
theorem sc__wall : FnScope N__wall ["k"] (defScope s__wall) := ⟨rfl, rfl, rfl, by decide +kernel, rfl, by decide +kernel, by decide +kernel⟩
def b__wall : RS := rWhile (rTr (rC (.bool true))) (rNx)
theorem sd__wall (Z : Fx K mg base) : BodyOk P w K mg base k "_wall" N__wall (defBody s__wall) (defScope s__wall) (b__wall) := by
  intro f cdv A outer s H hr
  have nd : (N__wall).Nodup := sc__wall.nd
  exact sss_one (ss_while PassesOwn.never (sc_val (se_bl)) (sss_one (ss_pass)))
abbrev s_row_of : Stmt := top 2
abbrev N_row_of : List Str := ["state", "name", "row"]
theorem sc_row_of : FnScope N_row_of ["state", "name"] (defScope s_row_of) := ⟨rfl, rfl, rfl, by decide +kernel, rfl, by decide +kernel, by decide +kernel⟩
def b_row_of : RS := rRet (rBin gIx (rD (rLc (riSeq (rBin gIx (rVar 0) (rC (.str "applications")))) (rgName 2) (rTb (rBin gEq (rBin gIx (rVar 2) (rC (.int 0))) (rVar 1))) (rVar 2) [2])) (rC (.int 0)))
theorem sd_row_of (Z : Fx K mg base) : BodyOk P w K mg base k "row_of" N_row_of (defBody s_row_of) (defScope s_row_of) (b_row_of) := by
  intro f cdv A outer s H hr
  have nd : (N_row_of).Nodup := sc_row_of.nd
  exact sss_one (ss_ret (ixx hr.hu (SF.data (sf_lc (own := [("row", 2)]) hr.calm nd (si_seq (ixx hr.hu (se_var 0) (se_str))) (blkB_ok (by kernel_rfl)) (fun s H C cl fp => ⟨sg_name (i := 2) nd, sts_one (sc_cmp (ox_eq hr.blk.hu64) (ixx hr.blk.hu (se_var 2) (se_int)) (se_var 1)), se_var 2⟩))) (se_int)))
abbrev s_Title___init__ : Stmt := mtd 5 0
abbrev N_Title___init__ : List Str := ["self", "state", "name", "day", "one", "giver", "taker", "size", "number", "told", "written"]
theorem sc_Title___init__ : FnScope N_Title___init__ ["self", "state", "name", "day"] (defScope s_Title___init__) := ⟨rfl, rfl, rfl, by decide +kernel, rfl, by decide +kernel, by decide +kernel⟩
def b_Title___init__ (K_Title : Addr) (pf_row_of : PF) (pf_Title_move : PF) : RS := rSeq (rSetF K_Title "held" (rVar 0) (rDic (rpCons (rBin gIx (rCall pf_row_of (rCons (rVar 1) (rCons (rVar 2) (rNil)))) (rC (.int 3))) (rC (.int 1000)) (rpNil)))) (rSeq (rSetF K_Title "left" (rVar 0) rDitE) (rSeq (rSetF K_Title "takers" (rVar 0) rDitE) (rSeq (rFor (riSeq (rBin gIx (rVar 1) (rC (.str "transfers")))) (rgTup 6 (rgCons (rgName 4) (rgCons (rgName 5) (rgCons (rgName 6) (rgCons (rgName 7) (rgCons (rgName 8) (rgCons (rgName 9) (rgNil)))))))) (rIfS (rAnd (rTb (rBin gEq (rVar 4) (rVar 2))) (rTb (rBin gLe (rVar 9) (rVar 3)))) (rSeq (rAsg (rVar 7) (rgSubT (rFld K_Title "left" (rVar 0)) (rKt (rCons (rVar 5) (rCons (rVar 8) (rNil)))))) (rAsg (rVar 6) (rgSubT (rFld K_Title "takers" (rVar 0)) (rKt (rCons (rVar 5) (rCons (rVar 8) (rNil))))))) (rNx))) (rFor (riSeq (rBin gIx (rVar 1) (rC (.str "registered")))) (rgTup 5 (rgCons (rgName 4) (rgCons (rgName 5) (rgCons (rgName 8) (rgCons (rgName 7) (rgCons (rgName 10) (rgNil))))))) (rIfS (rAnd (rTb (rBin gEq (rVar 4) (rVar 2))) (rTb (rBin gLe (rVar 10) (rVar 3)))) (rDrop (rMeth K_Title "move" pf_Title_move (rVar 0) (rCons (rVar 5) (rCons (rVar 8) (rCons (rVar 7) (rNil)))))) (rNx))))))
theorem sd_Title___init__ (Z : Fx K mg base) {pf_row_of : PF} (C_row_of : Cal P w K mg base k "row_of" ["state", "name"] pf_row_of) {pf_Title_move : PF} (M_Title_move : MCal P w K mg base k (He.ga K "Title") "move" ["self", "giver", "number", "size"] pf_Title_move) : BodyOk P w K mg base k "Title.__init__" N_Title___init__ (defBody s_Title___init__) (defScope s_Title___init__) (b_Title___init__ (He.ga K "Title") pf_row_of pf_Title_move) := by
  intro f cdv A outer s H hr
  have nd : (N_Title___init__).Nodup := sc_Title___init__.nd
  exact sss_cons (ss_setF Z.c_Title Z.n_Title_held (se_var 0) (se_dic (sps_cons (ixx hr.hu (se_cal C_row_of hr (sa_cons (se_var 1) (sa_cons (se_var 2) (sa_nil)))) (se_int)) (se_gi Z.i_WHOLE) (sps_nil)))) (sss_cons (ss_setF Z.c_Title Z.n_Title_left (se_var 0) se_ditE) (sss_cons (ss_setF Z.c_Title Z.n_Title_takers (se_var 0) se_ditE) (sss_cons (ss_for PassesOwn.never hr.calm (si_seq (ixx hr.hu (se_var 1) (se_str))) (sg_tup (n := 6) hr.calm (sgs_cons (sg_name (i := 4) nd) (sgs_cons (sg_name (i := 5) nd) (sgs_cons (sg_name (i := 6) nd) (sgs_cons (sg_name (i := 7) nd) (sgs_cons (sg_name (i := 8) nd) (sgs_cons (sg_name (i := 9) nd) (sgs_nil)))))))) (sss_one (ss_if (SW.sc (sw_and (sc_cmp (ox_eq hr.hu64) (se_var 4) (se_var 2)) (sw_and1 (sc_cmp ox_le (se_var 9) (se_var 3))))) (sss_cons (ss_asg (se_var 7) (sg_subT hr.hu (se_fld Z.c_Title Z.n_Title_left (se_var 0)) (SK.two (sk_tup (sa_cons (se_var 5) (sa_cons (se_var 8) (sa_nil))))))) (sss_one (ss_asg (se_var 6) (sg_subT hr.hu (se_fld Z.c_Title Z.n_Title_takers (se_var 0)) (SK.two (sk_tup (sa_cons (se_var 5) (sa_cons (se_var 8) (sa_nil))))))))) (sss_nil)))) (sss_one (ss_for PassesOwn.never hr.calm (si_seq (ixx hr.hu (se_var 1) (se_str))) (sg_tup (n := 5) hr.calm (sgs_cons (sg_name (i := 4) nd) (sgs_cons (sg_name (i := 5) nd) (sgs_cons (sg_name (i := 8) nd) (sgs_cons (sg_name (i := 7) nd) (sgs_cons (sg_name (i := 10) nd) (sgs_nil))))))) (sss_one (ss_if (SW.sc (sw_and (sc_cmp (ox_eq hr.hu64) (se_var 4) (se_var 2)) (sw_and1 (sc_cmp ox_le (se_var 10) (se_var 3))))) (sss_one (ss_expr (se_meth Z.c_Title M_Title_move hr (se_var 0) (sa_cons (se_var 5) (sa_cons (se_var 8) (sa_cons (se_var 7) (sa_nil))))))) (sss_nil))))))))
abbrev s_Title_move : Stmt := mtd 5 1
abbrev N_Title_move : List Str := ["self", "giver", "number", "size", "key", "taker"]
theorem sc_Title_move : FnScope N_Title_move ["self", "giver", "number", "size"] (defScope s_Title_move) := ⟨rfl, rfl, rfl, by decide +kernel, rfl, by decide +kernel, by decide +kernel⟩
def b_Title_move (K_Title : Addr) : RS := rSeq (rAsg (rTupC (rCons (rVar 1) (rCons (rVar 2) (rNil)))) (rgName 4)) (rSeq (rAsg (rApp gMin3 (rCons (rVar 3) (rCons (rIxT (rFld K_Title "left" (rVar 0)) (rKc (rVar 4))) (rCons (rGet2 (rFld K_Title "held" (rVar 0)) (rVar 1) (rC (.int 0))) (rNil))))) (rgName 3)) (rSeq (rAsg (rIxT (rFld K_Title "takers" (rVar 0)) (rKc (rVar 4))) (rgName 5)) (rSeq (rAsg (rBin gSub (rIxT (rFld K_Title "left" (rVar 0)) (rKc (rVar 4))) (rVar 3)) (rgSubT (rFld K_Title "left" (rVar 0)) (rKc (rVar 4)))) (rSeq (rAsg (rBin gSub (rGet2 (rFld K_Title "held" (rVar 0)) (rVar 1) (rC (.int 0))) (rVar 3)) (rgSub (rFld K_Title "held" (rVar 0)) (rVar 1))) (rAsg (rBin gAdd (rGet2 (rFld K_Title "held" (rVar 0)) (rVar 5) (rC (.int 0))) (rVar 3)) (rgSub (rFld K_Title "held" (rVar 0)) (rVar 5)))))))
theorem sd_Title_move (Z : Fx K mg base) : BodyOk P w K mg base k "Title.move" N_Title_move (defBody s_Title_move) (defScope s_Title_move) (b_Title_move (He.ga K "Title")) := by
  intro f cdv A outer s H hr
  have nd : (N_Title_move).Nodup := sc_Title_move.nd
  exact sss_cons (ss_set (i := 4) nd (se_tupC (sa_cons (se_var 1) (sa_cons (se_var 2) (sa_nil))))) (sss_cons (ss_set (i := 3) nd (se_bi (bx_min3 hr.calm) rfl Z.m_min (by decide +kernel) (sa_cons (se_var 3) (sa_cons (se_ixT2 hr.hu (se_fld Z.c_Title Z.n_Title_left (se_var 0)) (SE.key (se_var 4))) (sa_cons (se_get2 hr.hu (se_fld Z.c_Title Z.n_Title_held (se_var 0)) (se_var 1) (se_int)) (sa_nil)))))) (sss_cons (ss_set (i := 5) nd (se_ixT2 hr.hu (se_fld Z.c_Title Z.n_Title_takers (se_var 0)) (SE.key (se_var 4)))) (sss_cons (ss_asg (se_bin ox_sub (se_ixT2 hr.hu (se_fld Z.c_Title Z.n_Title_left (se_var 0)) (SE.key (se_var 4))) (se_var 3)) (sg_subT hr.hu (se_fld Z.c_Title Z.n_Title_left (se_var 0)) (SE.key (se_var 4)))) (sss_cons (ss_asg (se_bin ox_sub (se_get2 hr.hu (se_fld Z.c_Title Z.n_Title_held (se_var 0)) (se_var 1) (se_int)) (se_var 3)) (sg_sub hr.hu (se_fld Z.c_Title Z.n_Title_held (se_var 0)) (se_var 1))) (sss_one (ss_asg (se_bin ox_add (se_get2 hr.hu (se_fld Z.c_Title Z.n_Title_held (se_var 0)) (se_var 5) (se_int)) (se_var 3)) (sg_sub hr.hu (se_fld Z.c_Title Z.n_Title_held (se_var 0)) (se_var 5))))))))
abbrev s_Title_may_move : Stmt := mtd 5 2
abbrev N_Title_may_move : List Str := ["self", "step"]
theorem sc_Title_may_move : FnScope N_Title_may_move ["self", "step"] (defScope s_Title_may_move) := ⟨rfl, rfl, rfl, by decide +kernel, rfl, by decide +kernel, by decide +kernel⟩
def b_Title_may_move (pf__wall : PF) : RS := rDrop (rCall pf__wall (rCons (rC (.int 0)) (rNil)))
theorem sd_Title_may_move (Z : Fx K mg base) {pf__wall : PF} (C__wall : Cal P w K mg base k "_wall" ["k"] pf__wall) : BodyOk P w K mg base k "Title.may_move" N_Title_may_move (defBody s_Title_may_move) (defScope s_Title_may_move) (b_Title_may_move pf__wall) := by
  intro f cdv A outer s H hr
  have nd : (N_Title_may_move).Nodup := sc_Title_may_move.nd
  exact sss_one (ss_expr (se_cal C__wall hr (sa_cons (se_int) (sa_nil))))
abbrev s_Title_shares : Stmt := mtd 5 3
abbrev N_Title_shares : List Str := ["self", "person"]
theorem sc_Title_shares : FnScope N_Title_shares ["self"] (defScope s_Title_shares) := ⟨rfl, rfl, rfl, by decide +kernel, rfl, by decide +kernel, by decide +kernel⟩
def b_Title_shares (K_Title : Addr) : RS := rRet (rCl (rLc (riSeq (rD (rAppF gSort2 (rCons (rFld K_Title "held" (rVar 0)) (rNil))))) (rgName 1) (rTb (rBin gGt (rBin gIx (rFld K_Title "held" (rVar 0)) (rVar 1)) (rC (.int 0)))) (rTup (rCons (rVar 1) (rCons (rBin gIx (rFld K_Title "held" (rVar 0)) (rVar 1)) (rNil)))) [1]))
theorem sd_Title_shares (Z : Fx K mg base) : BodyOk P w K mg base k "Title.shares" N_Title_shares (defBody s_Title_shares) (defScope s_Title_shares) (b_Title_shares (He.ga K "Title")) := by
  intro f cdv A outer s H hr
  have nd : (N_Title_shares).Nodup := sc_Title_shares.nd
  exact sss_one (ss_ret (SF.cell (sf_lc (own := [("person", 1)]) hr.calm nd (si_seq (SF.data (sf_bi (bxf_sorted2 hr) rfl Z.m_sorted (by decide +kernel) (sa_cons (se_fld Z.c_Title Z.n_Title_held (se_var 0)) (sa_nil))))) (blkB_ok (by kernel_rfl)) (fun s H C cl fp => ⟨sg_name (i := 1) nd, sts_one (sc_cmp ox_gt (ixx hr.blk.hu (se_fld Z.c_Title Z.n_Title_held (se_var 0)) (se_var 1)) (se_int)), se_tup (sa_cons (se_var 1) (sa_cons (ixx hr.blk.hu (se_fld Z.c_Title Z.n_Title_held (se_var 0)) (se_var 1)) (sa_nil)))⟩))))
abbrev s_Title_open_rows : Stmt := mtd 5 4
abbrev N_Title_open_rows : List Str := ["self", "keys", "key"]
theorem sc_Title_open_rows : FnScope N_Title_open_rows ["self"] (defScope s_Title_open_rows) := ⟨rfl, rfl, rfl, by decide +kernel, rfl, by decide +kernel, by decide +kernel⟩
def b_Title_open_rows (K_Title : Addr) : RS := rSeq (rAsg (rD (rLc (riSeq (rD (rAppF gSort4 (rCons (rFld K_Title "left" (rVar 0)) (rNil))))) (rgName 2) (rTb (rBin gGt (rIxT (rFld K_Title "left" (rVar 0)) (rKd (rVar 2))) (rC (.int 0)))) (rVar 2) [2])) (rgName 1)) (rRet (rD (rLc (riSeq (rVar 1)) (rgName 2) (rYes) (rBin gAdd (rVar 2) (rTup (rCons (rIxT (rFld K_Title "takers" (rVar 0)) (rKd (rVar 2))) (rCons (rIxT (rFld K_Title "left" (rVar 0)) (rKd (rVar 2))) (rNil))))) [2])))
theorem sd_Title_open_rows (Z : Fx K mg base) : BodyOk P w K mg base k "Title.open_rows" N_Title_open_rows (defBody s_Title_open_rows) (defScope s_Title_open_rows) (b_Title_open_rows (He.ga K "Title")) := by
  intro f cdv A outer s H hr
  have nd : (N_Title_open_rows).Nodup := sc_Title_open_rows.nd
  exact sss_cons (ss_setLc (i := 1) (own := [("key", 2)]) hr.calm nd (si_seq (SF.data (sf_bi (bxf_sorted4 hr) rfl Z.m_sorted (by decide +kernel) (sa_cons (se_fld Z.c_Title Z.n_Title_left (se_var 0)) (sa_nil))))) (blkB_ok (by kernel_rfl)) (fun s H C cl fp => ⟨sg_name (i := 2) nd, sts_one (sc_cmp ox_gt (se_ixT3 hr.blk.hu (se_fld Z.c_Title Z.n_Title_left (se_var 0)) (SE.keyD (se_var 2))) (se_int)), se_var 2⟩) (by rfl)) (sss_one (ss_ret (SF.data (sf_lc (own := [("key", 2)]) hr.calm nd (si_seq (se_var 1)) (blkB_ok (by kernel_rfl)) (fun s H C cl fp => ⟨sg_name (i := 2) nd, sts_nil, se_bin ox_add (se_var 2) (se_tup (sa_cons (se_ixT3 hr.blk.hu (se_fld Z.c_Title Z.n_Title_takers (se_var 0)) (SE.keyD (se_var 2))) (sa_cons (se_ixT3 hr.blk.hu (se_fld Z.c_Title Z.n_Title_left (se_var 0)) (SE.keyD (se_var 2))) (sa_nil))))⟩)))))
abbrev s_Title_sum_of : Stmt := mtd 5 5
abbrev N_Title_sum_of : List Str := ["self", "group"]
theorem sc_Title_sum_of : FnScope N_Title_sum_of ["self", "group"] (defScope s_Title_sum_of) := ⟨rfl, rfl, rfl, by decide +kernel, rfl, by decide +kernel, by decide +kernel⟩
def b_Title_sum_of (pf__wall : PF) : RS := rDrop (rCall pf__wall (rCons (rC (.int 1)) (rNil)))
theorem sd_Title_sum_of (Z : Fx K mg base) {pf__wall : PF} (C__wall : Cal P w K mg base k "_wall" ["k"] pf__wall) : BodyOk P w K mg base k "Title.sum_of" N_Title_sum_of (defBody s_Title_sum_of) (defScope s_Title_sum_of) (b_Title_sum_of pf__wall) := by
  intro f cdv A outer s H hr
  have nd : (N_Title_sum_of).Nodup := sc_Title_sum_of.nd
  exact sss_one (ss_expr (se_cal C__wall hr (sa_cons (se_int) (sa_nil))))
abbrev s_shares : Stmt := top 6
abbrev N_shares : List Str := ["state", "name", "day"]
theorem sc_shares : FnScope N_shares ["state", "name", "day"] (defScope s_shares) := ⟨rfl, rfl, rfl, by decide +kernel, rfl, by decide +kernel, by decide +kernel⟩
def b_shares (K_Title : Addr) (pf_Title___init__ : PF) (pf_Title_shares : PF) : RS := rRet (rMeth0 K_Title "shares" pf_Title_shares (rMake K_Title pf_Title___init__ (rCons (rVar 0) (rCons (rVar 1) (rCons (rVar 2) (rNil))))))
theorem sd_shares (Z : Fx K mg base) {j : Nat} (hj : j + 1 ≤ k) {pf_Title___init__ : PF} (M_Title___init__ : MkCal P w K mg base j "Title" (He.ga K "Title") ["self", "state", "name", "day"] pf_Title___init__) {pf_Title_shares : PF} (M_Title_shares : MCal P w K mg base k (He.ga K "Title") "shares" ["self"] pf_Title_shares) : BodyOk P w K mg base k "shares" N_shares (defBody s_shares) (defScope s_shares) (b_shares (He.ga K "Title") pf_Title___init__ pf_Title_shares) := by
  intro f cdv A outer s H hr
  have nd : (N_shares).Nodup := sc_shares.nd
  exact sss_one (ss_ret (se_meth0 Z.c_Title M_Title_shares hr (se_make M_Title___init__ (hr.mono hj) (sa_cons (se_var 0) (sa_cons (se_var 1) (sa_cons (se_var 2) (sa_nil)))))))
abbrev s_open_transfers : Stmt := top 7
abbrev N_open_transfers : List Str := ["state", "name", "day"]
theorem sc_open_transfers : FnScope N_open_transfers ["state", "name", "day"] (defScope s_open_transfers) := ⟨rfl, rfl, rfl, by decide +kernel, rfl, by decide +kernel, by decide +kernel⟩
def b_open_transfers (K_Title : Addr) (pf_Title___init__ : PF) (pf_Title_open_rows : PF) : RS := rRet (rMeth0 K_Title "open_rows" pf_Title_open_rows (rMake K_Title pf_Title___init__ (rCons (rVar 0) (rCons (rVar 1) (rCons (rVar 2) (rNil))))))
theorem sd_open_transfers (Z : Fx K mg base) {j : Nat} (hj : j + 1 ≤ k) {pf_Title___init__ : PF} (M_Title___init__ : MkCal P w K mg base j "Title" (He.ga K "Title") ["self", "state", "name", "day"] pf_Title___init__) {pf_Title_open_rows : PF} (M_Title_open_rows : MCal P w K mg base k (He.ga K "Title") "open_rows" ["self"] pf_Title_open_rows) : BodyOk P w K mg base k "open_transfers" N_open_transfers (defBody s_open_transfers) (defScope s_open_transfers) (b_open_transfers (He.ga K "Title") pf_Title___init__ pf_Title_open_rows) := by
  intro f cdv A outer s H hr
  have nd : (N_open_transfers).Nodup := sc_open_transfers.nd
  exact sss_one (ss_ret (se_meth0 Z.c_Title M_Title_open_rows hr (se_make M_Title___init__ (hr.mono hj) (sa_cons (se_var 0) (sa_cons (se_var 1) (sa_cons (se_var 2) (sa_nil)))))))
abbrev s_moved : Stmt := top 8
abbrev N_moved : List Str := ["state", "name", "day", "steps", "title", "giver", "number", "size"]
theorem sc_moved : FnScope N_moved ["state", "name", "day", "steps"] (defScope s_moved) := ⟨rfl, rfl, rfl, by decide +kernel, rfl, by decide +kernel, by decide +kernel⟩
def b_moved (K_Title : Addr) (pf_Title___init__ : PF) (pf_Title_move : PF) (pf_Title_shares : PF) : RS := rSeq (rAsg (rMake K_Title pf_Title___init__ (rCons (rVar 0) (rCons (rVar 1) (rCons (rVar 2) (rNil))))) (rgName 4)) (rSeq (rFor (riSeq (rVar 3)) (rgTup 3 (rgCons (rgName 5) (rgCons (rgName 6) (rgCons (rgName 7) (rgNil))))) (rDrop (rMeth K_Title "move" pf_Title_move (rVar 4) (rCons (rVar 5) (rCons (rVar 6) (rCons (rVar 7) (rNil))))))) (rRet (rMeth0 K_Title "shares" pf_Title_shares (rVar 4))))
theorem sd_moved (Z : Fx K mg base) {j : Nat} (hj : j + 1 ≤ k) {pf_Title___init__ : PF} (M_Title___init__ : MkCal P w K mg base j "Title" (He.ga K "Title") ["self", "state", "name", "day"] pf_Title___init__) {pf_Title_move : PF} (M_Title_move : MCal P w K mg base k (He.ga K "Title") "move" ["self", "giver", "number", "size"] pf_Title_move) {pf_Title_shares : PF} (M_Title_shares : MCal P w K mg base k (He.ga K "Title") "shares" ["self"] pf_Title_shares) : BodyOk P w K mg base k "moved" N_moved (defBody s_moved) (defScope s_moved) (b_moved (He.ga K "Title") pf_Title___init__ pf_Title_move pf_Title_shares) := by
  intro f cdv A outer s H hr
  have nd : (N_moved).Nodup := sc_moved.nd
  exact sss_cons (ss_set (i := 4) nd (se_make M_Title___init__ (hr.mono hj) (sa_cons (se_var 0) (sa_cons (se_var 1) (sa_cons (se_var 2) (sa_nil)))))) (sss_cons (ss_for PassesOwn.never hr.calm (si_seq (se_var 3)) (sg_tup (n := 3) hr.calm (sgs_cons (sg_name (i := 5) nd) (sgs_cons (sg_name (i := 6) nd) (sgs_cons (sg_name (i := 7) nd) (sgs_nil))))) (sss_one (ss_expr (se_meth Z.c_Title M_Title_move hr (se_var 4) (sa_cons (se_var 5) (sa_cons (se_var 6) (sa_cons (se_var 7) (sa_nil)))))))) (sss_one (ss_ret (se_meth0 Z.c_Title M_Title_shares hr (se_var 4)))))
abbrev s__law_state : Stmt := top 10
abbrev N__law_state : List Str := ["script", "cells", "cell"]
theorem sc__law_state : FnScope N__law_state ["script"] (defScope s__law_state) := ⟨rfl, rfl, rfl, by decide +kernel, rfl, by decide +kernel, by decide +kernel⟩
def b__law_state : RS := rSeq (rAsg (rCh (rLc (riSeq (rSl (rVar 0) rNoP (rPart (rC (.int 63))))) (rgName 2) (rYes) (rApp gAbs (rCons (rVar 2) (rNil))) [2])) (rgName 1)) (rSeq (rIfS (rTb (rBin gEq (rApp gLen (rCons (rVar 1) (rNil))) (rC (.int 0)))) (rAsg (rCh (rLst (rCons (rC (.int 0)) (rNil)))) (rgName 1)) (rNx)) (rRet (rCl (rLst (rCons (rC (.int 0)) (rCons (rVar 1) (rNil)))))))
theorem sd__law_state (Z : Fx K mg base) : BodyOk P w K mg base k "_law_state" N__law_state (defBody s__law_state) (defScope s__law_state) (b__law_state) := by
  intro f cdv A outer s H hr
  have nd : (N__law_state).Nodup := sc__law_state.nd
  exact sss_cons (ss_setLcH (i := 1) (own := [("cell", 2)]) hr.calm nd (si_seq (se_slice (se_var 0) so_none (so_some (se_int)))) (blkB_ok (by kernel_rfl)) (fun s H C cl fp => ⟨sg_name (i := 2) nd, sts_nil, se_bi bx_abs rfl Z.m_abs (by decide +kernel) (sa_cons (se_var 2) (sa_nil))⟩) (by rfl)) (sss_cons (ss_if (sc_cmp (ox_eq hr.hu64) (se_bi bx_len rfl Z.m_len (by decide +kernel) (sa_cons (se_var 1) (sa_nil))) (se_int)) (sss_one (ss_set (i := 1) nd (SF.ch (sf_lst (sa_cons (se_int) (sa_nil)))))) (sss_nil)) (sss_one (ss_ret (SF.cell (sf_lst (sa_cons (se_int) (sa_cons (se_var 1) (sa_nil))))))))
abbrev s__law_take : Stmt := top 11
abbrev N__law_take : List Str := ["state", "most", "cells", "at", "cell", "mixed"]
theorem sc__law_take : FnScope N__law_take ["state", "most"] (defScope s__law_take) := ⟨rfl, rfl, rfl, by decide +kernel, rfl, by decide +kernel, by decide +kernel⟩
def b__law_take : RS := rSeq (rAsg (rBin gIx (rVar 0) (rC (.int 1))) (rgName 2)) (rSeq (rAsg (rBin gMod (rBin gIx (rVar 0) (rC (.int 0))) (rApp gLen (rCons (rVar 2) (rNil)))) (rgName 3)) (rSeq (rAsg (rBin gIx (rVar 2) (rVar 3)) (rgName 4)) (rSeq (rIfS (rTb (rBin gGe (rVar 4) (rC (.int 1000000000000000000)))) (rSeq (rAsg (rBin gDiv (rVar 4) (rVar 1)) (rgSub (rVar 2) (rVar 3))) (rRet (rBin gMod (rVar 4) (rVar 1)))) (rNx)) (rSeq (rAsg (rBin gAdd (rBin gIx (rVar 0) (rC (.int 0))) (rC (.int 1))) (rgSub (rVar 0) (rC (.int 0)))) (rSeq (rAsg (rBin gMod (rApp gInt (rCons (rBin gAdd (rBin gMul (rVar 4) (rC (.int 48271))) (rBin gMul (rBin gIx (rVar 0) (rC (.int 0))) (rC (.int 69621)))) (rNil))) (rC (.int 2147483647))) (rgName 5)) (rSeq (rAsg (rBin gMod (rApp gInt (rCons (rBin gAdd (rBin gMul (rVar 5) (rC (.int 16807))) (rBin gMul (rBin gIx (rVar 0) (rC (.int 0))) (rC (.int 7919)))) (rNil))) (rC (.int 1000000007))) (rgName 5)) (rRet (rBin gMod (rBin gDiv (rVar 5) (rC (.int 7))) (rVar 1)))))))))
theorem sd__law_take (Z : Fx K mg base) : BodyOk P w K mg base k "_law_take" N__law_take (defBody s__law_take) (defScope s__law_take) (b__law_take) := by
  intro f cdv A outer s H hr
  have nd : (N__law_take).Nodup := sc__law_take.nd
  exact sss_cons (ss_set (i := 2) nd (ixx hr.hu (se_var 0) (se_int))) (sss_cons (ss_set (i := 3) nd (se_bin ox_mod (ixx hr.hu (se_var 0) (se_int)) (se_bi bx_len rfl Z.m_len (by decide +kernel) (sa_cons (se_var 2) (sa_nil))))) (sss_cons (ss_set (i := 4) nd (ixx hr.hu (se_var 2) (se_var 3))) (sss_cons (ss_if (sc_cmp ox_ge (se_var 4) (se_int)) (sss_cons (ss_asg (se_bin ox_div (se_var 4) (se_var 1)) (sg_sub hr.hu (se_var 2) (se_var 3))) (sss_one (ss_ret (se_bin ox_mod (se_var 4) (se_var 1))))) (sss_nil)) (sss_cons (ss_asg (se_bin ox_add (ixx hr.hu (se_var 0) (se_int)) (se_int)) (sg_sub hr.hu (se_var 0) (se_int))) (sss_cons (ss_set (i := 5) nd (se_bin ox_mod (se_ty bx_int rfl Z.m_int (by decide +kernel) (sa_cons (se_bin ox_add (se_bin ox_mul (se_var 4) (se_int)) (se_bin ox_mul (ixx hr.hu (se_var 0) (se_int)) (se_int))) (sa_nil))) (se_int))) (sss_cons (ss_set (i := 5) nd (se_bin ox_mod (se_ty bx_int rfl Z.m_int (by decide +kernel) (sa_cons (se_bin ox_add (se_bin ox_mul (se_var 5) (se_int)) (se_bin ox_mul (ixx hr.hu (se_var 0) (se_int)) (se_int))) (sa_nil))) (se_int))) (sss_one (ss_ret (se_bin ox_mod (se_bin ox_div (se_var 5) (se_int)) (se_var 1))))))))))
abbrev s__law_office : Stmt := top 12
abbrev N__law_office : List Str := ["state", "people", "lands", "k", "kinds", "applications", "withdrawn", "row", "closed", "fees", "count", "one", "n", "first", "day"]
theorem sc__law_office : FnScope N__law_office ["state"] (defScope s__law_office) := ⟨rfl, rfl, rfl, by decide +kernel, rfl, by decide +kernel, by decide +kernel⟩
def b__law_office (pf__law_take : PF) : RS := rSeq (rAsg (rD (rLst (rCons (rC (.str "ann")) (rCons (rC (.str "bob")) (rCons (rC (.str "cy")) (rCons (rC (.str "dan")) (rCons (rC (.str "eve")) (rCons (rC (.str "fay")) (rNil))))))))) (rgName 1)) (rSeq (rAsg (rD (rLc (riRng1 (rCons (rBin gAdd (rC (.int 1)) (rCall pf__law_take (rCons (rVar 0) (rCons (rC (.int 3)) (rNil))))) (rNil))) (rgName 3) (rYes) (rTup (rCons (rBin gIx (rD (rLst (rCons (rC (.str "east")) (rCons (rC (.str "north")) (rCons (rC (.str "west")) (rNil)))))) (rVar 3)) (rCons (rC (.int 0)) (rCons (rBin gIx (rD (rLst (rCons (rC (.int 0)) (rCons (rBin gAdd (rC (.int 1)) (rCall pf__law_take (rCons (rVar 0) (rCons (rC (.int 4)) (rNil))))) (rCons (rC (.int 20)) (rNil)))))) (rCall pf__law_take (rCons (rVar 0) (rCons (rC (.int 3)) (rNil))))) (rNil))))) [3])) (rgName 2)) (rSeq (rAsg (rCl (rLst (rCons (rTup (rCons (rC (.str "k0")) (rCons (rC .none) (rNil)))) (rNil)))) (rgName 4)) (rSeq (rFor (riRng2 (rCons (rC (.int 1)) (rCons (rBin gAdd (rC (.int 3)) (rCall pf__law_take (rCons (rVar 0) (rCons (rC (.int 5)) (rNil))))) (rNil)))) (rgName 3) (rDrop (rApd (rVar 4) (rTup (rCons (rBin gAdd (rC (.str "k")) (rApp gStr (rCons (rVar 3) (rNil)))) (rCons (rBin gIx (rD (rLst (rCons (rC .none) (rCons (rBin gIx (rBin gIx (rVar 4) (rCall pf__law_take (rCons (rVar 0) (rCons (rApp gLen (rCons (rVar 4) (rNil))) (rNil))))) (rC (.int 0))) (rNil))))) (rApp gInt (rCons (rBin gGt (rCall pf__law_take (rCons (rVar 0) (rCons (rC (.int 4)) (rNil)))) (rC (.int 0))) (rNil)))) (rNil))))))) (rSeq (rAsg (rCl (rLst (rNil))) (rgName 5)) (rSeq (rFor (riRng1 (rCons (rBin gAdd (rC (.int 1)) (rCall pf__law_take (rCons (rVar 0) (rCons (rC (.int 5)) (rNil))))) (rNil))) (rgName 3) (rSeq (rAsg (rIf (rTb (rBin gGt (rCall pf__law_take (rCons (rVar 0) (rCons (rC (.int 5)) (rNil)))) (rC (.int 0)))) (rC .none) (rBin gAdd (rC (.int 200)) (rCall pf__law_take (rCons (rVar 0) (rCons (rC (.int 2000)) (rNil)))))) (rgName 6)) (rSeq (rAsg (rTup (rCons (rBin gAdd (rC (.str "a")) (rApp gStr (rCons (rVar 3) (rNil)))) (rCons (rBin gIx (rBin gIx (rVar 2) (rCall pf__law_take (rCons (rVar 0) (rCons (rApp gLen (rCons (rVar 2) (rNil))) (rNil))))) (rC (.int 0))) (rCons (rCall pf__law_take (rCons (rVar 0) (rCons (rC (.int 200)) (rNil)))) (rCons (rBin gIx (rVar 1) (rCall pf__law_take (rCons (rVar 0) (rCons (rC (.int 6)) (rNil))))) (rCons (rD (rLst (rNil))) (rCons (rC .none) (rCons (rVar 6) (rNil))))))))) (rgName 7)) (rDrop (rApd (rVar 5) (rVar 7)))))) (rSeq (rAsg (rCl (rLst (rNil))) (rgName 8)) (rSeq (rAsg (rCl (rLst (rNil))) (rgName 9)) (rSeq (rFor (riSeq (rVar 5)) (rgName 7) (rSeq (rAsg (rBin gIx (rD (rLc (riSeq (rVar 2)) (rgName 11) (rTb (rBin gEq (rBin gIx (rVar 11) (rC (.int 0))) (rBin gIx (rVar 7) (rC (.int 1))))) (rBin gIx (rVar 11) (rC (.int 2))) [11])) (rC (.int 0))) (rgName 10)) (rFor (riRng2 (rCons (rC (.int 1)) (rCons (rBin gAdd (rVar 10) (rC (.int 1))) (rNil)))) (rgName 12) (rSeq (rAsg (rBin gAdd (rBin gIx (rVar 7) (rC (.int 2))) (rBin gMul (rC (.int 365)) (rVar 12))) (rgName 13)) (rSeq (rIfS (rTb (rBin gEq (rCall pf__law_take (rCons (rVar 0) (rCons (rC (.int 3)) (rNil)))) (rC (.int 0)))) (rDrop (rExt (rVar 8) (rLc (riRng1 (rCons (rBin gAdd (rC (.int 1)) (rCall pf__law_take (rCons (rVar 0) (rCons (rC (.int 4)) (rNil))))) (rNil))) (rgName 3) (rYes) (rBin gAdd (rVar 13) (rVar 3)) [3]))) (rNx)) (rSeq (rIfS (rTb (rBin gEq (rCall pf__law_take (rCons (rVar 0) (rCons (rC (.int 3)) (rNil)))) (rC (.int 0)))) (rDrop (rExt (rVar 8) (rLc (riRng1 (rCons (rBin gAdd (rC (.int 1)) (rCall pf__law_take (rCons (rVar 0) (rCons (rC (.int 4)) (rNil))))) (rNil))) (rgName 3) (rYes) (rBin gAdd (rBin gAdd (rVar 13) (rC (.int 182))) (rVar 3)) [3]))) (rNx)) (rIfS (rTb (rBin gGt (rCall pf__law_take (rCons (rVar 0) (rCons (rC (.int 6)) (rNil)))) (rC (.int 0)))) (rSeq (rAsg (rBin gIx (rD (rLst (rCons (rBin gSub (rVar 13) (rCall pf__law_take (rCons (rVar 0) (rCons (rC (.int 200)) (rNil))))) (rCons (rBin gAdd (rVar 13) (rCall pf__law_take (rCons (rVar 0) (rCons (rC (.int 4)) (rNil))))) (rCons (rBin gAdd (rBin gAdd (rVar 13) (rC (.int 180))) (rCall pf__law_take (rCons (rVar 0) (rCons (rC (.int 8)) (rNil))))) (rCons (rBin gAdd (rVar 13) (rC (.int 182))) (rNil))))))) (rCall pf__law_take (rCons (rVar 0) (rCons (rC (.int 4)) (rNil))))) (rgName 14)) (rDrop (rApd (rVar 9) (rTup (rCons (rBin gIx (rVar 7) (rC (.int 0))) (rCons (rVar 12) (rCons (rApp gMax (rCons (rBin gIx (rVar 7) (rC (.int 2))) (rCons (rVar 14) (rNil)))) (rNil)))))))) (rNx)))))))) (rRet (rTupC (rCons (rDic2 (rpCons (rC (.str "kinds")) (rFz (rVar 4)) (rpCons (rC (.str "quantities")) (rD (rLst (rCons (rC (.str "len")) (rCons (rC (.str "mass")) (rNil))))) (rpCons (rC (.str "closed")) (rD (rSSet (rVar 8))) (rpCons (rC (.str "lands")) (rVar 2) (rpCons (rC (.str "documents")) (rD (rLst (rNil))) (rpCons (rC (.str "applications")) (rFz (rVar 5)) (rpCons (rC (.str "priors")) (rD (rLst (rNil))) (rpCons (rC (.str "cites")) (rD (rLst (rNil))) (rpCons (rC (.str "fields")) (rD (rLst (rNil))) (rpCons (rC (.str "versions")) (rD (rLc (riSeq (rVar 5)) (rgName 7) (rYes) (rTup (rCons (rBin gIx (rVar 7) (rC (.int 0))) (rCons (rD (rLst (rNil))) (rNil)))) [7])) (rpCons (rC (.str "fees")) (rD (rAppF gSort (rCons (rVar 9) (rNil)))) (rpCons (rC (.str "transfers")) (rD (rLst (rNil))) (rpCons (rC (.str "registered")) (rD (rLst (rNil))) (rpCons (rC (.str "licences")) (rD (rLst (rNil))) (rpCons (rC (.str "products")) (rD (rLst (rNil))) (rpCons (rC (.str "drops")) (rD (rLst (rNil))) (rpCons (rC (.str "bends")) (rD (rLst (rNil))) (rpNil)))))))))))))))))) (rpCons (rC (.str "rates")) (rD (rLst (rNil))) (rpCons (rC (.str "sales")) (rD (rLst (rNil))) (rpCons (rC (.str "oppositions")) (rD (rLst (rNil))) (rpNil))))) (rCons (rVar 1) (rNil)))))))))))))
theorem sd__law_office (Z : Fx K mg base) {pf__law_take : PF} (C__law_take : Cal P w K mg base k "_law_take" ["state", "most"] pf__law_take) : BodyOk P w K mg base k "_law_office" N__law_office (defBody s__law_office) (defScope s__law_office) (b__law_office pf__law_take) := by
  intro f cdv A outer s H hr
  have nd : (N__law_office).Nodup := sc__law_office.nd
  exact sss_cons (ss_set (i := 1) nd (SF.data (sf_lst (sa_cons (se_str) (sa_cons (se_str) (sa_cons (se_str) (sa_cons (se_str) (sa_cons (se_str) (sa_cons (se_str) (sa_nil)))))))))) (sss_cons (ss_setLc (i := 2) (own := [("k", 3)]) hr.calm nd (si_range1 Z.m_range (sa_cons (se_bin ox_add (se_int) (se_cal C__law_take hr (sa_cons (se_var 0) (sa_cons (se_int) (sa_nil))))) (sa_nil))) (blkB_ok (by kernel_rfl)) (fun s H C cl fp => ⟨sg_name (i := 3) nd, sts_nil, se_tup (sa_cons (ixx hr.blk.hu (SF.data (sf_lst (sa_cons (se_str) (sa_cons (se_str) (sa_cons (se_str) (sa_nil)))))) (se_var 3)) (sa_cons (se_int) (sa_cons (ixx hr.blk.hu (SF.data (sf_lst (sa_cons (se_int) (sa_cons (se_bin ox_add (se_int) (se_cal C__law_take hr.blk (sa_cons (se_var 0) (sa_cons (se_int) (sa_nil))))) (sa_cons (se_int) (sa_nil)))))) (se_cal C__law_take hr.blk (sa_cons (se_var 0) (sa_cons (se_int) (sa_nil))))) (sa_nil))))⟩) (by rfl)) (sss_cons (ss_set (i := 4) nd (SF.cell (sf_lst (sa_cons (se_tup (sa_cons (se_str) (sa_cons (se_non) (sa_nil)))) (sa_nil))))) (sss_cons (ss_for PassesOwn.never hr.calm (si_range2 Z.m_range (sa_cons (se_int) (sa_cons (se_bin ox_add (se_int) (se_cal C__law_take hr (sa_cons (se_var 0) (sa_cons (se_int) (sa_nil))))) (sa_nil)))) (sg_name (i := 3) nd) (sss_one (ss_expr (se_append (se_var 4) (se_tup (sa_cons (se_bin ox_add (se_str) (se_ty bx_str rfl Z.m_str (by decide +kernel) (sa_cons (se_var 3) (sa_nil)))) (sa_cons (ixx hr.hu (SF.data (sf_lst (sa_cons (se_non) (sa_cons (ixx hr.hu (ixx hr.hu (se_var 4) (se_cal C__law_take hr (sa_cons (se_var 0) (sa_cons (se_bi bx_len rfl Z.m_len (by decide +kernel) (sa_cons (se_var 4) (sa_nil))) (sa_nil))))) (se_int)) (sa_nil))))) (se_ty bx_int rfl Z.m_int (by decide +kernel) (sa_cons (se_cmp ox_gt (se_cal C__law_take hr (sa_cons (se_var 0) (sa_cons (se_int) (sa_nil)))) (se_int)) (sa_nil)))) (sa_nil)))))))) (sss_cons (ss_set (i := 5) nd (SF.cell (sf_lst (sa_nil)))) (sss_cons (ss_for PassesOwn.never hr.calm (si_range1 Z.m_range (sa_cons (se_bin ox_add (se_int) (se_cal C__law_take hr (sa_cons (se_var 0) (sa_cons (se_int) (sa_nil))))) (sa_nil))) (sg_name (i := 3) nd) (sss_cons (ss_set (i := 6) nd (se_ifExp (sc_cmp ox_gt (se_cal C__law_take hr (sa_cons (se_var 0) (sa_cons (se_int) (sa_nil)))) (se_int)) (se_non) (se_bin ox_add (se_int) (se_cal C__law_take hr (sa_cons (se_var 0) (sa_cons (se_int) (sa_nil))))))) (sss_cons (ss_set (i := 7) nd (se_tup (sa_cons (se_bin ox_add (se_str) (se_ty bx_str rfl Z.m_str (by decide +kernel) (sa_cons (se_var 3) (sa_nil)))) (sa_cons (ixx hr.hu (ixx hr.hu (se_var 2) (se_cal C__law_take hr (sa_cons (se_var 0) (sa_cons (se_bi bx_len rfl Z.m_len (by decide +kernel) (sa_cons (se_var 2) (sa_nil))) (sa_nil))))) (se_int)) (sa_cons (se_cal C__law_take hr (sa_cons (se_var 0) (sa_cons (se_int) (sa_nil)))) (sa_cons (ixx hr.hu (se_var 1) (se_cal C__law_take hr (sa_cons (se_var 0) (sa_cons (se_int) (sa_nil))))) (sa_cons (SF.data (sf_lst (sa_nil))) (sa_cons (se_non) (sa_cons (se_var 6) (sa_nil)))))))))) (sss_one (ss_expr (se_append (se_var 5) (se_var 7))))))) (sss_cons (ss_set (i := 8) nd (SF.cell (sf_lst (sa_nil)))) (sss_cons (ss_set (i := 9) nd (SF.cell (sf_lst (sa_nil)))) (sss_cons (ss_for PassesOwn.never hr.calm (si_seq (se_var 5)) (sg_name (i := 7) nd) (sss_cons (ss_set (i := 10) nd (ixx hr.hu (SF.data (sf_lc (own := [("one", 11)]) hr.calm nd (si_seq (se_var 2)) (blkB_ok (by kernel_rfl)) (fun s H C cl fp => ⟨sg_name (i := 11) nd, sts_one (sc_cmp (ox_eq hr.blk.hu64) (ixx hr.blk.hu (se_var 11) (se_int)) (ixx hr.blk.hu (se_var 7) (se_int))), ixx hr.blk.hu (se_var 11) (se_int)⟩))) (se_int))) (sss_one (ss_for PassesOwn.never hr.calm (si_range2 Z.m_range (sa_cons (se_int) (sa_cons (se_bin ox_add (se_var 10) (se_int)) (sa_nil)))) (sg_name (i := 12) nd) (sss_cons (ss_set (i := 13) nd (se_bin ox_add (ixx hr.hu (se_var 7) (se_int)) (se_bin ox_mul (se_int) (se_var 12)))) (sss_cons (ss_if (sc_cmp (ox_eq hr.hu64) (se_cal C__law_take hr (sa_cons (se_var 0) (sa_cons (se_int) (sa_nil)))) (se_int)) (sss_one (ss_expr (se_extend (se_var 8) (sf_lc (own := [("k", 3)]) hr.calm nd (si_range1 Z.m_range (sa_cons (se_bin ox_add (se_int) (se_cal C__law_take hr (sa_cons (se_var 0) (sa_cons (se_int) (sa_nil))))) (sa_nil))) (blkB_ok (by kernel_rfl)) (fun s H C cl fp => ⟨sg_name (i := 3) nd, sts_nil, se_bin ox_add (se_var 13) (se_var 3)⟩))))) (sss_nil)) (sss_cons (ss_if (sc_cmp (ox_eq hr.hu64) (se_cal C__law_take hr (sa_cons (se_var 0) (sa_cons (se_int) (sa_nil)))) (se_int)) (sss_one (ss_expr (se_extend (se_var 8) (sf_lc (own := [("k", 3)]) hr.calm nd (si_range1 Z.m_range (sa_cons (se_bin ox_add (se_int) (se_cal C__law_take hr (sa_cons (se_var 0) (sa_cons (se_int) (sa_nil))))) (sa_nil))) (blkB_ok (by kernel_rfl)) (fun s H C cl fp => ⟨sg_name (i := 3) nd, sts_nil, se_bin ox_add (se_bin ox_add (se_var 13) (se_int)) (se_var 3)⟩))))) (sss_nil)) (sss_one (ss_if (sc_cmp ox_gt (se_cal C__law_take hr (sa_cons (se_var 0) (sa_cons (se_int) (sa_nil)))) (se_int)) (sss_cons (ss_set (i := 14) nd (ixx hr.hu (SF.data (sf_lst (sa_cons (se_bin ox_sub (se_var 13) (se_cal C__law_take hr (sa_cons (se_var 0) (sa_cons (se_int) (sa_nil))))) (sa_cons (se_bin ox_add (se_var 13) (se_cal C__law_take hr (sa_cons (se_var 0) (sa_cons (se_int) (sa_nil))))) (sa_cons (se_bin ox_add (se_bin ox_add (se_var 13) (se_int)) (se_cal C__law_take hr (sa_cons (se_var 0) (sa_cons (se_int) (sa_nil))))) (sa_cons (se_bin ox_add (se_var 13) (se_int)) (sa_nil))))))) (se_cal C__law_take hr (sa_cons (se_var 0) (sa_cons (se_int) (sa_nil)))))) (sss_one (ss_expr (se_append (se_var 9) (se_tup (sa_cons (ixx hr.hu (se_var 7) (se_int)) (sa_cons (se_var 12) (sa_cons (se_bi (bx_max hr.calm) rfl Z.m_max (by decide +kernel) (sa_cons (ixx hr.hu (se_var 7) (se_int)) (sa_cons (se_var 14) (sa_nil)))) (sa_nil))))))))) (sss_nil)))))))))) (sss_one (ss_ret (se_tupC (sa_cons (se_dic17 (sps_cons (se_str) (SE.fz (se_var 4)) (sps_cons (se_str) (SF.data (sf_lst (sa_cons (se_str) (sa_cons (se_str) (sa_nil))))) (sps_cons (se_str) (SF.data (sf_sset hr rfl Z.m_sorted rfl Z.m_set (se_var 8))) (sps_cons (se_str) (se_var 2) (sps_cons (se_str) (SF.data (sf_lst (sa_nil))) (sps_cons (se_str) (SE.fz (se_var 5)) (sps_cons (se_str) (SF.data (sf_lst (sa_nil))) (sps_cons (se_str) (SF.data (sf_lst (sa_nil))) (sps_cons (se_str) (SF.data (sf_lst (sa_nil))) (sps_cons (se_str) (SF.data (sf_lc (own := [("row", 7)]) hr.calm nd (si_seq (se_var 5)) (blkB_ok (by kernel_rfl)) (fun s H C cl fp => ⟨sg_name (i := 7) nd, sts_nil, se_tup (sa_cons (ixx hr.blk.hu (se_var 7) (se_int)) (sa_cons (SF.data (sf_lst (sa_nil))) (sa_nil)))⟩))) (sps_cons (se_str) (SF.data (sf_bi (bxf_sorted hr) rfl Z.m_sorted (by decide +kernel) (sa_cons (se_var 9) (sa_nil)))) (sps_cons (se_str) (SF.data (sf_lst (sa_nil))) (sps_cons (se_str) (SF.data (sf_lst (sa_nil))) (sps_cons (se_str) (SF.data (sf_lst (sa_nil))) (sps_cons (se_str) (SF.data (sf_lst (sa_nil))) (sps_cons (se_str) (SF.data (sf_lst (sa_nil))) (sps_cons (se_str) (SF.data (sf_lst (sa_nil))) (sps_nil)))))))))))))))))) (sps_cons (se_str) (SF.data (sf_lst (sa_nil))) (sps_cons (se_str) (SF.data (sf_lst (sa_nil))) (sps_cons (se_str) (SF.data (sf_lst (sa_nil))) (sps_nil))))) (sa_cons (se_var 1) (sa_nil))))))))))))))
abbrev s__law_row : Stmt := top 13
abbrev N__law_row : List Str := ["s", "name", "row"]
theorem sc__law_row : FnScope N__law_row ["s", "name"] (defScope s__law_row) := ⟨rfl, rfl, rfl, by decide +kernel, rfl, by decide +kernel, by decide +kernel⟩
def b__law_row : RS := rRet (rBin gIx (rD (rLc (riSeq (rBin gIx (rVar 0) (rC (.str "applications")))) (rgName 2) (rTb (rBin gEq (rBin gIx (rVar 2) (rC (.int 0))) (rVar 1))) (rVar 2) [2])) (rC (.int 0)))
theorem sd__law_row (Z : Fx K mg base) : BodyOk P w K mg base k "_law_row" N__law_row (defBody s__law_row) (defScope s__law_row) (b__law_row) := by
  intro f cdv A outer s H hr
  have nd : (N__law_row).Nodup := sc__law_row.nd
  exact sss_one (ss_ret (ixx hr.hu (SF.data (sf_lc (own := [("row", 2)]) hr.calm nd (si_seq (ixx hr.hu (se_var 0) (se_str))) (blkB_ok (by kernel_rfl)) (fun s H C cl fp => ⟨sg_name (i := 2) nd, sts_one (sc_cmp (ox_eq hr.blk.hu64) (ixx hr.blk.hu (se_var 2) (se_int)) (se_var 1)), se_var 2⟩))) (se_int)))
abbrev s__law_deals : Stmt := top 14
abbrev N__law_deals : List Str := ["state", "s", "people", "most", "transfers", "registered", "row", "k", "giver", "taker", "size", "key", "name", "number", "day", "amount"]
theorem sc__law_deals : FnScope N__law_deals ["state", "s", "people", "most"] (defScope s__law_deals) := ⟨rfl, rfl, rfl, by decide +kernel, rfl, by decide +kernel, by decide +kernel⟩
def b__law_deals (pf__law_take : PF) : RS := rSeq (rAsg (rCl (rLst (rNil))) (rgName 4)) (rSeq (rAsg (rCl (rLst (rNil))) (rgName 5)) (rSeq (rFor (riSeq (rBin gIx (rVar 1) (rC (.str "applications")))) (rgName 6) (rFor (riRng1 (rCons (rCall pf__law_take (rCons (rVar 0) (rCons (rVar 3) (rNil)))) (rNil))) (rgName 7) (rSeq (rAsg (rBin gIx (rD (rLst (rCons (rBin gIx (rVar 6) (rC (.int 3))) (rCons (rBin gIx (rVar 2) (rCall pf__law_take (rCons (rVar 0) (rCons (rC (.int 6)) (rNil))))) (rNil))))) (rCall pf__law_take (rCons (rVar 0) (rCons (rC (.int 2)) (rNil))))) (rgName 8)) (rSeq (rAsg (rBin gIx (rVar 2) (rCall pf__law_take (rCons (rVar 0) (rCons (rC (.int 6)) (rNil))))) (rgName 9)) (rIfS (rAnd (rTb (rBin gNe (rVar 8) (rVar 9))) (rTb (rBin gLt (rApp gLen (rCons (rVar 4) (rNil))) (rC (.int 16))))) (rSeq (rAsg (rBin gIx (rD (rLst (rCons (rBin gAdd (rC (.int 1)) (rCall pf__law_take (rCons (rVar 0) (rCons (rC (.int 1000)) (rNil))))) (rCons (rC (.int 500)) (rCons (rBin gAdd (rC (.int 1)) (rCall pf__law_take (rCons (rVar 0) (rCons (rC (.int 300)) (rNil))))) (rNil)))))) (rCall pf__law_take (rCons (rVar 0) (rCons (rC (.int 3)) (rNil))))) (rgName 10)) (rDrop (rApd (rVar 4) (rTup (rCons (rBin gIx (rVar 6) (rC (.int 0))) (rCons (rVar 8) (rCons (rVar 9) (rCons (rVar 10) (rCons (rApp gLen (rCons (rVar 4) (rNil))) (rCons (rBin gAdd (rBin gIx (rVar 6) (rC (.int 2))) (rCall pf__law_take (rCons (rVar 0) (rCons (rC (.int 40)) (rNil))))) (rNil))))))))))) (rNx)))))) (rSeq (rAsg (rCl (rLc (riSeq (rD (rAppF gSort (rCons (rD (rLc (riSeq (rVar 4)) (rgName 6) (rYes) (rTup (rCons (rTup (rCons (rBin gIx (rVar 6) (rC (.int 5))) (rCons (rBin gIx (rVar 6) (rC (.int 1))) (rCons (rBin gIx (rVar 6) (rC (.int 4))) (rNil))))) (rCons (rVar 6) (rNil)))) [6])) (rNil))))) (rgTup 2 (rgCons (rgName 11) (rgCons (rgName 6) (rgNil)))) (rYes) (rVar 6) [11, 6])) (rgName 4)) (rSeq (rFor (riRng1 (rCons (rCall pf__law_take (rCons (rVar 0) (rCons (rApp gMin (rCons (rC (.int 31)) (rCons (rBin gAdd (rC (.int 1)) (rBin gMul (rC (.int 2)) (rApp gLen (rCons (rVar 4) (rNil))))) (rNil)))) (rNil)))) (rNil))) (rgName 7) (rSeq (rAsg (rBin gIx (rVar 4) (rCall pf__law_take (rCons (rVar 0) (rCons (rApp gLen (rCons (rVar 4) (rNil))) (rNil))))) (rgTup 6 (rgCons (rgName 12) (rgCons (rgName 8) (rgCons (rgName 9) (rgCons (rgName 10) (rgCons (rgName 13) (rgCons (rgName 14) (rgNil))))))))) (rSeq (rAsg (rBin gIx (rD (rLst (rCons (rBin gAdd (rC (.int 1)) (rCall pf__law_take (rCons (rVar 0) (rCons (rC (.int 1000)) (rNil))))) (rCons (rVar 10) (rCons (rBin gAdd (rC (.int 1)) (rCall pf__law_take (rCons (rVar 0) (rCons (rVar 10) (rNil))))) (rNil)))))) (rCall pf__law_take (rCons (rVar 0) (rCons (rC (.int 3)) (rNil))))) (rgName 15)) (rDrop (rApd (rVar 5) (rTup (rCons (rBin gAdd (rBin gAdd (rVar 14) (rC (.int 1))) (rCall pf__law_take (rCons (rVar 0) (rCons (rC (.int 40)) (rNil))))) (rCons (rApp gLen (rCons (rVar 5) (rNil))) (rCons (rTup (rCons (rVar 12) (rCons (rVar 8) (rCons (rVar 13) (rCons (rVar 15) (rNil)))))) (rNil)))))))))) (rSeq (rAsg (rFz (rVar 4)) (rgSub (rVar 1) (rC (.str "transfers")))) (rAsg (rD (rLc (riSeq (rD (rAppF gSort (rCons (rVar 5) (rNil))))) (rgTup 3 (rgCons (rgName 14) (rgCons (rgName 7) (rgCons (rgName 6) (rgNil))))) (rYes) (rBin gAdd (rVar 6) (rTup (rCons (rVar 14) (rNil)))) [14, 7, 6])) (rgSub (rVar 1) (rC (.str "registered")))))))))
theorem sd__law_deals (Z : Fx K mg base) {pf__law_take : PF} (C__law_take : Cal P w K mg base k "_law_take" ["state", "most"] pf__law_take) : BodyOk P w K mg base k "_law_deals" N__law_deals (defBody s__law_deals) (defScope s__law_deals) (b__law_deals pf__law_take) := by
  intro f cdv A outer s H hr
  have nd : (N__law_deals).Nodup := sc__law_deals.nd
  exact sss_cons (ss_set (i := 4) nd (SF.cell (sf_lst (sa_nil)))) (sss_cons (ss_set (i := 5) nd (SF.cell (sf_lst (sa_nil)))) (sss_cons (ss_for PassesOwn.never hr.calm (si_seq (ixx hr.hu (se_var 1) (se_str))) (sg_name (i := 6) nd) (sss_one (ss_for PassesOwn.never hr.calm (si_range1 Z.m_range (sa_cons (se_cal C__law_take hr (sa_cons (se_var 0) (sa_cons (se_var 3) (sa_nil)))) (sa_nil))) (sg_name (i := 7) nd) (sss_cons (ss_set (i := 8) nd (ixx hr.hu (SF.data (sf_lst (sa_cons (ixx hr.hu (se_var 6) (se_int)) (sa_cons (ixx hr.hu (se_var 2) (se_cal C__law_take hr (sa_cons (se_var 0) (sa_cons (se_int) (sa_nil))))) (sa_nil))))) (se_cal C__law_take hr (sa_cons (se_var 0) (sa_cons (se_int) (sa_nil)))))) (sss_cons (ss_set (i := 9) nd (ixx hr.hu (se_var 2) (se_cal C__law_take hr (sa_cons (se_var 0) (sa_cons (se_int) (sa_nil)))))) (sss_one (ss_if (SW.sc (sw_and (sc_cmp (ox_ne hr.hu64) (se_var 8) (se_var 9)) (sw_and1 (sc_cmp ox_lt (se_bi bx_len rfl Z.m_len (by decide +kernel) (sa_cons (se_var 4) (sa_nil))) (se_int))))) (sss_cons (ss_set (i := 10) nd (ixx hr.hu (SF.data (sf_lst (sa_cons (se_bin ox_add (se_int) (se_cal C__law_take hr (sa_cons (se_var 0) (sa_cons (se_int) (sa_nil))))) (sa_cons (se_int) (sa_cons (se_bin ox_add (se_int) (se_cal C__law_take hr (sa_cons (se_var 0) (sa_cons (se_int) (sa_nil))))) (sa_nil)))))) (se_cal C__law_take hr (sa_cons (se_var 0) (sa_cons (se_int) (sa_nil)))))) (sss_one (ss_expr (se_append (se_var 4) (se_tup (sa_cons (ixx hr.hu (se_var 6) (se_int)) (sa_cons (se_var 8) (sa_cons (se_var 9) (sa_cons (se_var 10) (sa_cons (se_bi bx_len rfl Z.m_len (by decide +kernel) (sa_cons (se_var 4) (sa_nil))) (sa_cons (se_bin ox_add (ixx hr.hu (se_var 6) (se_int)) (se_cal C__law_take hr (sa_cons (se_var 0) (sa_cons (se_int) (sa_nil))))) (sa_nil)))))))))))) (sss_nil)))))))) (sss_cons (ss_setLcC (i := 4) (own := [("key", 11), ("row", 6)]) hr.calm nd (si_seq (SF.data (sf_bi (bxf_sorted hr) rfl Z.m_sorted (by decide +kernel) (sa_cons (SF.data (sf_lc (own := [("row", 6)]) hr.calm nd (si_seq (se_var 4)) (blkB_ok (by kernel_rfl)) (fun s H C cl fp => ⟨sg_name (i := 6) nd, sts_nil, se_tup (sa_cons (se_tup (sa_cons (ixx hr.blk.hu (se_var 6) (se_int)) (sa_cons (ixx hr.blk.hu (se_var 6) (se_int)) (sa_cons (ixx hr.blk.hu (se_var 6) (se_int)) (sa_nil))))) (sa_cons (se_var 6) (sa_nil)))⟩))) (sa_nil))))) (blkB_ok (by kernel_rfl)) (fun s H C cl fp => ⟨sg_tup (n := 2) hr.blk.calm (sgs_cons (sg_name (i := 11) nd) (sgs_cons (sg_name (i := 6) nd) (sgs_nil))), sts_nil, se_var 6⟩) (by rfl)) (sss_cons (ss_for PassesOwn.never hr.calm (si_range1 Z.m_range (sa_cons (se_cal C__law_take hr (sa_cons (se_var 0) (sa_cons (se_bi (bx_min hr.calm) rfl Z.m_min (by decide +kernel) (sa_cons (se_int) (sa_cons (se_bin ox_add (se_int) (se_bin ox_mul (se_int) (se_bi bx_len rfl Z.m_len (by decide +kernel) (sa_cons (se_var 4) (sa_nil))))) (sa_nil)))) (sa_nil)))) (sa_nil))) (sg_name (i := 7) nd) (sss_cons (ss_asg (ixx hr.hu (se_var 4) (se_cal C__law_take hr (sa_cons (se_var 0) (sa_cons (se_bi bx_len rfl Z.m_len (by decide +kernel) (sa_cons (se_var 4) (sa_nil))) (sa_nil))))) (sg_tup (n := 6) hr.calm (sgs_cons (sg_name (i := 12) nd) (sgs_cons (sg_name (i := 8) nd) (sgs_cons (sg_name (i := 9) nd) (sgs_cons (sg_name (i := 10) nd) (sgs_cons (sg_name (i := 13) nd) (sgs_cons (sg_name (i := 14) nd) (sgs_nil))))))))) (sss_cons (ss_set (i := 15) nd (ixx hr.hu (SF.data (sf_lst (sa_cons (se_bin ox_add (se_int) (se_cal C__law_take hr (sa_cons (se_var 0) (sa_cons (se_int) (sa_nil))))) (sa_cons (se_var 10) (sa_cons (se_bin ox_add (se_int) (se_cal C__law_take hr (sa_cons (se_var 0) (sa_cons (se_var 10) (sa_nil))))) (sa_nil)))))) (se_cal C__law_take hr (sa_cons (se_var 0) (sa_cons (se_int) (sa_nil)))))) (sss_one (ss_expr (se_append (se_var 5) (se_tup (sa_cons (se_bin ox_add (se_bin ox_add (se_var 14) (se_int)) (se_cal C__law_take hr (sa_cons (se_var 0) (sa_cons (se_int) (sa_nil))))) (sa_cons (se_bi bx_len rfl Z.m_len (by decide +kernel) (sa_cons (se_var 5) (sa_nil))) (sa_cons (se_tup (sa_cons (se_var 12) (sa_cons (se_var 8) (sa_cons (se_var 13) (sa_cons (se_var 15) (sa_nil)))))) (sa_nil))))))))))) (sss_cons (ss_asg (SE.fz (se_var 4)) (sg_sub hr.hu (se_var 1) (se_str))) (sss_one (ss_asg (SF.data (sf_lc (own := [("day", 14), ("k", 7), ("row", 6)]) hr.calm nd (si_seq (SF.data (sf_bi (bxf_sorted hr) rfl Z.m_sorted (by decide +kernel) (sa_cons (se_var 5) (sa_nil))))) (blkB_ok (by kernel_rfl)) (fun s H C cl fp => ⟨sg_tup (n := 3) hr.blk.calm (sgs_cons (sg_name (i := 14) nd) (sgs_cons (sg_name (i := 7) nd) (sgs_cons (sg_name (i := 6) nd) (sgs_nil)))), sts_nil, se_bin ox_add (se_var 6) (se_tup (sa_cons (se_var 14) (sa_nil)))⟩))) (sg_sub hr.hu (se_var 1) (se_str)))))))))
abbrev s__law_title : Stmt := top 15
abbrev N__law_title : List Str := ["s", "name", "day", "held", "left", "one", "giver", "taker", "size", "number", "told", "amount", "written"]
theorem sc__law_title : FnScope N__law_title ["s", "name", "day"] (defScope s__law_title) := ⟨rfl, rfl, rfl, by decide +kernel, rfl, by decide +kernel, by decide +kernel⟩
def b__law_title (pf__law_row : PF) (pf__law_move : PF) : RS := rSeq (rAsg (rDicE) (rgName 3)) (rSeq (rAsg (rC (.int 1000)) (rgSub (rVar 3) (rBin gIx (rCall pf__law_row (rCons (rVar 0) (rCons (rVar 1) (rNil)))) (rC (.int 3))))) (rSeq (rAsg rDitE (rgName 4)) (rSeq (rFor (riSeq (rBin gIx (rVar 0) (rC (.str "transfers")))) (rgTup 6 (rgCons (rgName 5) (rgCons (rgName 6) (rgCons (rgName 7) (rgCons (rgName 8) (rgCons (rgName 9) (rgCons (rgName 10) (rgNil)))))))) (rIfS (rAnd (rTb (rBin gEq (rVar 5) (rVar 1))) (rTb (rBin gLe (rVar 10) (rVar 2)))) (rAsg (rD (rLst (rCons (rVar 7) (rCons (rVar 8) (rNil))))) (rgSubT (rVar 4) (rKt (rCons (rVar 6) (rCons (rVar 9) (rNil)))))) (rNx))) (rSeq (rFor (riSeq (rBin gIx (rVar 0) (rC (.str "registered")))) (rgTup 5 (rgCons (rgName 5) (rgCons (rgName 6) (rgCons (rgName 9) (rgCons (rgName 11) (rgCons (rgName 12) (rgNil))))))) (rIfS (rAnd (rTb (rBin gEq (rVar 5) (rVar 1))) (rTb (rBin gLe (rVar 12) (rVar 2)))) (rDrop (rCall pf__law_move (rCons (rVar 3) (rCons (rVar 4) (rCons (rTup (rCons (rVar 6) (rCons (rVar 9) (rCons (rVar 11) (rNil))))) (rNil)))))) (rNx))) (rRet (rTupC (rCons (rVar 3) (rCons (rVar 4) (rNil)))))))))
theorem sd__law_title (Z : Fx K mg base) {pf__law_row : PF} (C__law_row : Cal P w K mg base k "_law_row" ["s", "name"] pf__law_row) {pf__law_move : PF} (C__law_move : Cal P w K mg base k "_law_move" ["held", "left", "step"] pf__law_move) : BodyOk P w K mg base k "_law_title" N__law_title (defBody s__law_title) (defScope s__law_title) (b__law_title pf__law_row pf__law_move) := by
  intro f cdv A outer s H hr
  have nd : (N__law_title).Nodup := sc__law_title.nd
  exact sss_cons (ss_set (i := 3) nd (se_dicE)) (sss_cons (ss_asg (se_int) (sg_sub hr.hu (se_var 3) (ixx hr.hu (se_cal C__law_row hr (sa_cons (se_var 0) (sa_cons (se_var 1) (sa_nil)))) (se_int)))) (sss_cons (ss_set (i := 4) nd se_ditE) (sss_cons (ss_for PassesOwn.never hr.calm (si_seq (ixx hr.hu (se_var 0) (se_str))) (sg_tup (n := 6) hr.calm (sgs_cons (sg_name (i := 5) nd) (sgs_cons (sg_name (i := 6) nd) (sgs_cons (sg_name (i := 7) nd) (sgs_cons (sg_name (i := 8) nd) (sgs_cons (sg_name (i := 9) nd) (sgs_cons (sg_name (i := 10) nd) (sgs_nil)))))))) (sss_one (ss_if (SW.sc (sw_and (sc_cmp (ox_eq hr.hu64) (se_var 5) (se_var 1)) (sw_and1 (sc_cmp ox_le (se_var 10) (se_var 2))))) (sss_one (ss_asg (SF.data (sf_lst (sa_cons (se_var 7) (sa_cons (se_var 8) (sa_nil))))) (sg_subT hr.hu (se_var 4) (SK.two (sk_tup (sa_cons (se_var 6) (sa_cons (se_var 9) (sa_nil)))))))) (sss_nil)))) (sss_cons (ss_for PassesOwn.never hr.calm (si_seq (ixx hr.hu (se_var 0) (se_str))) (sg_tup (n := 5) hr.calm (sgs_cons (sg_name (i := 5) nd) (sgs_cons (sg_name (i := 6) nd) (sgs_cons (sg_name (i := 9) nd) (sgs_cons (sg_name (i := 11) nd) (sgs_cons (sg_name (i := 12) nd) (sgs_nil))))))) (sss_one (ss_if (SW.sc (sw_and (sc_cmp (ox_eq hr.hu64) (se_var 5) (se_var 1)) (sw_and1 (sc_cmp ox_le (se_var 12) (se_var 2))))) (sss_one (ss_expr (se_cal C__law_move hr (sa_cons (se_var 3) (sa_cons (se_var 4) (sa_cons (se_tup (sa_cons (se_var 6) (sa_cons (se_var 9) (sa_cons (se_var 11) (sa_nil))))) (sa_nil))))))) (sss_nil)))) (sss_one (ss_ret (se_tupC (sa_cons (se_var 3) (sa_cons (se_var 4) (sa_nil))))))))))
abbrev s__law_move : Stmt := top 16
abbrev N__law_move : List Str := ["held", "left", "step", "giver", "number", "amount", "taker", "rest"]
theorem sc__law_move : FnScope N__law_move ["held", "left", "step"] (defScope s__law_move) := ⟨rfl, rfl, rfl, by decide +kernel, rfl, by decide +kernel, by decide +kernel⟩
def b__law_move : RS := rSeq (rAsg (rVar 2) (rgTup 3 (rgCons (rgName 3) (rgCons (rgName 4) (rgCons (rgName 5) (rgNil)))))) (rSeq (rAsg (rIxT (rVar 1) (rKt (rCons (rVar 3) (rCons (rVar 4) (rNil))))) (rgTupL 2 (rgCons (rgName 6) (rgCons (rgName 7) (rgNil))))) (rSeq (rAsg (rApp gMin3 (rCons (rVar 5) (rCons (rVar 7) (rCons (rGet2 (rVar 0) (rVar 3) (rC (.int 0))) (rNil))))) (rgName 5)) (rSeq (rAsg (rD (rLst (rCons (rVar 6) (rCons (rBin gSub (rVar 7) (rVar 5)) (rNil))))) (rgSubT (rVar 1) (rKt (rCons (rVar 3) (rCons (rVar 4) (rNil)))))) (rSeq (rAsg (rBin gSub (rGet2 (rVar 0) (rVar 3) (rC (.int 0))) (rVar 5)) (rgSub (rVar 0) (rVar 3))) (rAsg (rBin gAdd (rGet2 (rVar 0) (rVar 6) (rC (.int 0))) (rVar 5)) (rgSub (rVar 0) (rVar 6)))))))
theorem sd__law_move (Z : Fx K mg base) : BodyOk P w K mg base k "_law_move" N__law_move (defBody s__law_move) (defScope s__law_move) (b__law_move) := by
  intro f cdv A outer s H hr
  have nd : (N__law_move).Nodup := sc__law_move.nd
  exact sss_cons (ss_asg (se_var 2) (sg_tup (n := 3) hr.calm (sgs_cons (sg_name (i := 3) nd) (sgs_cons (sg_name (i := 4) nd) (sgs_cons (sg_name (i := 5) nd) (sgs_nil)))))) (sss_cons (ss_asg (se_ixT2 hr.hu (se_var 1) (SK.two (sk_tup (sa_cons (se_var 3) (sa_cons (se_var 4) (sa_nil)))))) (sg_tupL (n := 2) hr.calm (sgs_cons (sg_name (i := 6) nd) (sgs_cons (sg_name (i := 7) nd) (sgs_nil))))) (sss_cons (ss_set (i := 5) nd (se_bi (bx_min3 hr.calm) rfl Z.m_min (by decide +kernel) (sa_cons (se_var 5) (sa_cons (se_var 7) (sa_cons (se_get2 hr.hu (se_var 0) (se_var 3) (se_int)) (sa_nil)))))) (sss_cons (ss_asg (SF.data (sf_lst (sa_cons (se_var 6) (sa_cons (se_bin ox_sub (se_var 7) (se_var 5)) (sa_nil))))) (sg_subT hr.hu (se_var 1) (SK.two (sk_tup (sa_cons (se_var 3) (sa_cons (se_var 4) (sa_nil))))))) (sss_cons (ss_asg (se_bin ox_sub (se_get2 hr.hu (se_var 0) (se_var 3) (se_int)) (se_var 5)) (sg_sub hr.hu (se_var 0) (se_var 3))) (sss_one (ss_asg (se_bin ox_add (se_get2 hr.hu (se_var 0) (se_var 6) (se_int)) (se_var 5)) (sg_sub hr.hu (se_var 0) (se_var 6))))))))
abbrev s__law_shares : Stmt := top 17
abbrev N__law_shares : List Str := ["held", "person"]
theorem sc__law_shares : FnScope N__law_shares ["held"] (defScope s__law_shares) := ⟨rfl, rfl, rfl, by decide +kernel, rfl, by decide +kernel, by decide +kernel⟩
def b__law_shares : RS := rRet (rD (rLc (riSeq (rD (rAppF gSort2 (rCons (rVar 0) (rNil))))) (rgName 1) (rTb (rBin gGt (rBin gIx (rVar 0) (rVar 1)) (rC (.int 0)))) (rTup (rCons (rVar 1) (rCons (rBin gIx (rVar 0) (rVar 1)) (rNil)))) [1]))
theorem sd__law_shares (Z : Fx K mg base) : BodyOk P w K mg base k "_law_shares" N__law_shares (defBody s__law_shares) (defScope s__law_shares) (b__law_shares) := by
  intro f cdv A outer s H hr
  have nd : (N__law_shares).Nodup := sc__law_shares.nd
  exact sss_one (ss_ret (SF.data (sf_lc (own := [("person", 1)]) hr.calm nd (si_seq (SF.data (sf_bi (bxf_sorted2 hr) rfl Z.m_sorted (by decide +kernel) (sa_cons (se_var 0) (sa_nil))))) (blkB_ok (by kernel_rfl)) (fun s H C cl fp => ⟨sg_name (i := 1) nd, sts_one (sc_cmp ox_gt (ixx hr.blk.hu (se_var 0) (se_var 1)) (se_int)), se_tup (sa_cons (se_var 1) (sa_cons (ixx hr.blk.hu (se_var 0) (se_var 1)) (sa_nil)))⟩))))
abbrev s__law_left : Stmt := top 18
abbrev N__law_left : List Str := ["left", "key"]
theorem sc__law_left : FnScope N__law_left ["left"] (defScope s__law_left) := ⟨rfl, rfl, rfl, by decide +kernel, rfl, by decide +kernel, by decide +kernel⟩
def b__law_left : RS := rRet (rD (rLc (riSeq (rD (rAppF gSort4 (rCons (rVar 0) (rNil))))) (rgName 1) (rTb (rBin gGt (rBin gIx (rIxT (rVar 0) (rKd (rVar 1))) (rC (.int 1))) (rC (.int 0)))) (rTup (rCons (rBin gIx (rVar 1) (rC (.int 0))) (rCons (rBin gIx (rVar 1) (rC (.int 1))) (rCons (rBin gIx (rIxT (rVar 0) (rKd (rVar 1))) (rC (.int 0))) (rCons (rBin gIx (rIxT (rVar 0) (rKd (rVar 1))) (rC (.int 1))) (rNil)))))) [1]))
theorem sd__law_left (Z : Fx K mg base) : BodyOk P w K mg base k "_law_left" N__law_left (defBody s__law_left) (defScope s__law_left) (b__law_left) := by
  intro f cdv A outer s H hr
  have nd : (N__law_left).Nodup := sc__law_left.nd
  exact sss_one (ss_ret (SF.data (sf_lc (own := [("key", 1)]) hr.calm nd (si_seq (SF.data (sf_bi (bxf_sorted4 hr) rfl Z.m_sorted (by decide +kernel) (sa_cons (se_var 0) (sa_nil))))) (blkB_ok (by kernel_rfl)) (fun s H C cl fp => ⟨sg_name (i := 1) nd, sts_one (sc_cmp ox_gt (ixx hr.blk.hu (se_ixT3 hr.blk.hu (se_var 0) (SE.keyD (se_var 1))) (se_int)) (se_int)), se_tup (sa_cons (ixx hr.blk.hu (se_var 1) (se_int)) (sa_cons (ixx hr.blk.hu (se_var 1) (se_int)) (sa_cons (ixx hr.blk.hu (se_ixT3 hr.blk.hu (se_var 0) (SE.keyD (se_var 1))) (se_int)) (sa_cons (ixx hr.blk.hu (se_ixT3 hr.blk.hu (se_var 0) (SE.keyD (se_var 1))) (se_int)) (sa_nil)))))⟩))))
abbrev s_law : Stmt := top 19
abbrev N_law : List Str := ["script", "state", "s", "people", "kept", "row", "day", "held", "left", "told", "person", "share", "steps", "turn", "ways", "one", "giver", "number", "taker", "rest", "step", "given"]
theorem sc_law : FnScope N_law ["script"] (defScope s_law) := ⟨rfl, rfl, rfl, by decide +kernel, rfl, by decide +kernel, by decide +kernel⟩
def b_law (pf__law_state : PF) (pf__law_office : PF) (pf__law_deals : PF) (pf__law_take : PF) (pf__law_title : PF) (pf_shares : PF) (pf__law_shares : PF) (pf_open_transfers : PF) (pf__law_left : PF) (pf__law_move : PF) (pf_moved : PF) : RS := rSeq (rAsg (rCall pf__law_state (rCons (rVar 0) (rNil))) (rgName 1)) (rSeq (rAsg (rCall pf__law_office (rCons (rVar 1) (rNil))) (rgTup 2 (rgCons (rgName 2) (rgCons (rgName 3) (rgNil))))) (rSeq (rDrop (rCall pf__law_deals (rCons (rVar 1) (rCons (rVar 2) (rCons (rVar 3) (rCons (rC (.int 10)) (rNil))))))) (rSeq (rAsg (rApp gRepr (rCons (rFz (rVar 2)) (rNil))) (rgName 4)) (rSeq (rFor (riSeq (rBin gIx (rVar 2) (rC (.str "applications")))) (rgName 5) (rFor (riSeq (rD (rLst (rCons (rBin gIx (rVar 5) (rC (.int 2))) (rCons (rBin gAdd (rBin gIx (rVar 5) (rC (.int 2))) (rCall pf__law_take (rCons (rVar 1) (rCons (rC (.int 90)) (rNil))))) (rCons (rBin gAdd (rBin gIx (rVar 5) (rC (.int 2))) (rCall pf__law_take (rCons (rVar 1) (rCons (rC (.int 90)) (rNil))))) (rCons (rC (.int 9000)) (rNil)))))))) (rgName 6) (rSeq (rAsg (rCall pf__law_title (rCons (rFz (rVar 2)) (rCons (rBin gIx (rVar 5) (rC (.int 0))) (rCons (rVar 6) (rNil))))) (rgTup 2 (rgCons (rgName 7) (rgCons (rgName 8) (rgNil))))) (rSeq (rAsg (rCall pf_shares (rCons (rFz (rVar 2)) (rCons (rBin gIx (rVar 5) (rC (.int 0))) (rCons (rVar 6) (rNil))))) (rgName 9)) (rSeq (rIfS (rOr (rNot (rTr (rIsiX "list" (rVar 9)))) (rOr (rTb (rBin gNe (rVar 9) (rCall pf__law_shares (rCons (rVar 7) (rNil))))) (rTb (rBin gNe (rApp gSum (rCons (rD (rLc (riSeq (rVar 9)) (rgTup 2 (rgCons (rgName 10) (rgCons (rgName 11) (rgNil)))) (rYes) (rVar 11) [10, 11])) (rNil))) (rC (.int 1000)))))) (rRet (rC (.bool false))) (rNx)) (rSeq (rIfS (rTb (rBin gNe (rCall pf_open_transfers (rCons (rFz (rVar 2)) (rCons (rBin gIx (rVar 5) (rC (.int 0))) (rCons (rVar 6) (rNil))))) (rCall pf__law_left (rCons (rVar 8) (rNil))))) (rRet (rC (.bool false))) (rNx)) (rSeq (rDrop (rApd (rVar 9) (rC (.str "zz")))) (rSeq (rAsg (rCl (rLst (rNil))) (rgName 12)) (rSeq (rFor (riRng1 (rCons (rCall pf__law_take (rCons (rVar 1) (rCons (rC (.int 7)) (rNil)))) (rNil))) (rgName 13) (rSeq (rAsg (rD (rLc (riSeq (rCall pf__law_left (rCons (rVar 8) (rNil)))) (rgName 15) (rTb (rBin gGt (rGet2 (rVar 7) (rBin gIx (rVar 15) (rC (.int 0))) (rC (.int 0))) (rC (.int 0)))) (rVar 15) [15])) (rgName 14)) (rIfS (rTb (rBin gGt (rApp gLen (rCons (rVar 14) (rNil))) (rC (.int 0)))) (rSeq (rAsg (rBin gIx (rVar 14) (rCall pf__law_take (rCons (rVar 1) (rCons (rApp gLen (rCons (rVar 14) (rNil))) (rNil))))) (rgTup 4 (rgCons (rgName 16) (rgCons (rgName 17) (rgCons (rgName 18) (rgCons (rgName 19) (rgNil))))))) (rSeq (rAsg (rTup (rCons (rVar 16) (rCons (rVar 17) (rCons (rBin gAdd (rC (.int 1)) (rCall pf__law_take (rCons (rVar 1) (rCons (rApp gMin (rCons (rVar 19) (rCons (rBin gIx (rVar 7) (rVar 16)) (rNil)))) (rNil))))) (rNil))))) (rgName 20)) (rSeq (rDrop (rApd (rVar 12) (rVar 20))) (rDrop (rCall pf__law_move (rCons (rVar 7) (rCons (rVar 8) (rCons (rVar 20) (rNil))))))))) (rNx)))) (rSeq (rAsg (rCl (rAppF gList (rCons (rVar 12) (rNil)))) (rgName 21)) (rIfS (rOr (rTb (rBin gNe (rCall pf_moved (rCons (rFz (rVar 2)) (rCons (rBin gIx (rVar 5) (rC (.int 0))) (rCons (rVar 6) (rCons (rFz (rVar 21)) (rNil)))))) (rCall pf__law_shares (rCons (rVar 7) (rNil))))) (rTb (rBin gNe (rVar 21) (rVar 12)))) (rRet (rC (.bool false))) (rNx)))))))))))) (rRet (rBin gEq (rApp gRepr (rCons (rFz (rVar 2)) (rNil))) (rVar 4)))))))
theorem sd_law (Z : Fx K mg base) {pf__law_state : PF} (C__law_state : Cal P w K mg base k "_law_state" ["script"] pf__law_state) {pf__law_office : PF} (C__law_office : Cal P w K mg base k "_law_office" ["state"] pf__law_office) {pf__law_deals : PF} (C__law_deals : Cal P w K mg base k "_law_deals" ["state", "s", "people", "most"] pf__law_deals) {pf__law_take : PF} (C__law_take : Cal P w K mg base k "_law_take" ["state", "most"] pf__law_take) {pf__law_title : PF} (C__law_title : Cal P w K mg base k "_law_title" ["s", "name", "day"] pf__law_title) {pf_shares : PF} (C_shares : Cal P w K mg base k "shares" ["state", "name", "day"] pf_shares) {pf__law_shares : PF} (C__law_shares : Cal P w K mg base k "_law_shares" ["held"] pf__law_shares) {pf_open_transfers : PF} (C_open_transfers : Cal P w K mg base k "open_transfers" ["state", "name", "day"] pf_open_transfers) {pf__law_left : PF} (C__law_left : Cal P w K mg base k "_law_left" ["left"] pf__law_left) {pf__law_move : PF} (C__law_move : Cal P w K mg base k "_law_move" ["held", "left", "step"] pf__law_move) {pf_moved : PF} (C_moved : Cal P w K mg base k "moved" ["state", "name", "day", "steps"] pf_moved) : BodyOk P w K mg base k "law" N_law (defBody s_law) (defScope s_law) (b_law pf__law_state pf__law_office pf__law_deals pf__law_take pf__law_title pf_shares pf__law_shares pf_open_transfers pf__law_left pf__law_move pf_moved) := by
  intro f cdv A outer s H hr
  have nd : (N_law).Nodup := sc_law.nd
  exact sss_cons (ss_set (i := 1) nd (se_cal C__law_state hr (sa_cons (se_var 0) (sa_nil)))) (sss_cons (ss_asg (se_cal C__law_office hr (sa_cons (se_var 1) (sa_nil))) (sg_tup (n := 2) hr.calm (sgs_cons (sg_name (i := 2) nd) (sgs_cons (sg_name (i := 3) nd) (sgs_nil))))) (sss_cons (ss_expr (se_cal C__law_deals hr (sa_cons (se_var 1) (sa_cons (se_var 2) (sa_cons (se_var 3) (sa_cons (se_int) (sa_nil))))))) (sss_cons (ss_set (i := 4) nd (se_bi (bx_repr hr Z.sysB) rfl Z.m_repr (by decide +kernel) (sa_cons (SE.fz (se_var 2)) (sa_nil)))) (sss_cons (ss_for PassesOwn.never hr.calm (si_seq (ixx hr.hu (se_var 2) (se_str))) (sg_name (i := 5) nd) (sss_one (ss_for PassesOwn.never hr.calm (si_seq (SF.data (sf_lst (sa_cons (ixx hr.hu (se_var 5) (se_int)) (sa_cons (se_bin ox_add (ixx hr.hu (se_var 5) (se_int)) (se_cal C__law_take hr (sa_cons (se_var 1) (sa_cons (se_int) (sa_nil))))) (sa_cons (se_bin ox_add (ixx hr.hu (se_var 5) (se_int)) (se_cal C__law_take hr (sa_cons (se_var 1) (sa_cons (se_int) (sa_nil))))) (sa_cons (se_int) (sa_nil)))))))) (sg_name (i := 6) nd) (sss_cons (ss_asg (se_cal C__law_title hr (sa_cons (SE.fz (se_var 2)) (sa_cons (ixx hr.hu (se_var 5) (se_int)) (sa_cons (se_var 6) (sa_nil))))) (sg_tup (n := 2) hr.calm (sgs_cons (sg_name (i := 7) nd) (sgs_cons (sg_name (i := 8) nd) (sgs_nil))))) (sss_cons (ss_set (i := 9) nd (se_cal C_shares hr (sa_cons (SE.fz (se_var 2)) (sa_cons (ixx hr.hu (se_var 5) (se_int)) (sa_cons (se_var 6) (sa_nil)))))) (sss_cons (ss_if (SW.sc (sw_or (sc_not (sc_val (se_isi rfl Z.m_isinstance rfl Z.m_list (by decide +kernel) (se_var 9)))) (sw_or (sc_cmp (ox_ne hr.hu64) (se_var 9) (se_cal C__law_shares hr (sa_cons (se_var 7) (sa_nil)))) (sw_or1 (sc_cmp (ox_ne hr.hu64) (se_bi (bx_sum hr.calm) rfl Z.m_sum (by decide +kernel) (sa_cons (SF.data (sf_lc (own := [("person", 10), ("share", 11)]) hr.calm nd (si_seq (se_var 9)) (blkB_ok (by kernel_rfl)) (fun s H C cl fp => ⟨sg_tup (n := 2) hr.blk.calm (sgs_cons (sg_name (i := 10) nd) (sgs_cons (sg_name (i := 11) nd) (sgs_nil))), sts_nil, se_var 11⟩))) (sa_nil))) (se_int)))))) (sss_one (ss_ret (se_bl))) (sss_nil)) (sss_cons (ss_if (sc_cmp (ox_ne hr.hu64) (se_cal C_open_transfers hr (sa_cons (SE.fz (se_var 2)) (sa_cons (ixx hr.hu (se_var 5) (se_int)) (sa_cons (se_var 6) (sa_nil))))) (se_cal C__law_left hr (sa_cons (se_var 8) (sa_nil)))) (sss_one (ss_ret (se_bl))) (sss_nil)) (sss_cons (ss_expr (se_append (se_var 9) (se_str))) (sss_cons (ss_set (i := 12) nd (SF.cell (sf_lst (sa_nil)))) (sss_cons (ss_for PassesOwn.never hr.calm (si_range1 Z.m_range (sa_cons (se_cal C__law_take hr (sa_cons (se_var 1) (sa_cons (se_int) (sa_nil)))) (sa_nil))) (sg_name (i := 13) nd) (sss_cons (ss_setLc (i := 14) (own := [("one", 15)]) hr.calm nd (si_seq (se_cal C__law_left hr (sa_cons (se_var 8) (sa_nil)))) (blkB_ok (by kernel_rfl)) (fun s H C cl fp => ⟨sg_name (i := 15) nd, sts_one (sc_cmp ox_gt (se_get2 hr.blk.hu (se_var 7) (ixx hr.blk.hu (se_var 15) (se_int)) (se_int)) (se_int)), se_var 15⟩) (by rfl)) (sss_one (ss_if (sc_cmp ox_gt (se_bi bx_len rfl Z.m_len (by decide +kernel) (sa_cons (se_var 14) (sa_nil))) (se_int)) (sss_cons (ss_asg (ixx hr.hu (se_var 14) (se_cal C__law_take hr (sa_cons (se_var 1) (sa_cons (se_bi bx_len rfl Z.m_len (by decide +kernel) (sa_cons (se_var 14) (sa_nil))) (sa_nil))))) (sg_tup (n := 4) hr.calm (sgs_cons (sg_name (i := 16) nd) (sgs_cons (sg_name (i := 17) nd) (sgs_cons (sg_name (i := 18) nd) (sgs_cons (sg_name (i := 19) nd) (sgs_nil))))))) (sss_cons (ss_set (i := 20) nd (se_tup (sa_cons (se_var 16) (sa_cons (se_var 17) (sa_cons (se_bin ox_add (se_int) (se_cal C__law_take hr (sa_cons (se_var 1) (sa_cons (se_bi (bx_min hr.calm) rfl Z.m_min (by decide +kernel) (sa_cons (se_var 19) (sa_cons (ixx hr.hu (se_var 7) (se_var 16)) (sa_nil)))) (sa_nil))))) (sa_nil)))))) (sss_cons (ss_expr (se_append (se_var 12) (se_var 20))) (sss_one (ss_expr (se_cal C__law_move hr (sa_cons (se_var 7) (sa_cons (se_var 8) (sa_cons (se_var 20) (sa_nil)))))))))) (sss_nil))))) (sss_cons (ss_set (i := 21) nd (SF.cell (sf_ty bxf_list rfl Z.m_list (by decide +kernel) (sa_cons (se_var 12) (sa_nil))))) (sss_one (ss_if (SW.sc (sw_or (sc_cmp (ox_ne hr.hu64) (se_cal C_moved hr (sa_cons (SE.fz (se_var 2)) (sa_cons (ixx hr.hu (se_var 5) (se_int)) (sa_cons (se_var 6) (sa_cons (SE.fz (se_var 21)) (sa_nil)))))) (se_cal C__law_shares hr (sa_cons (se_var 7) (sa_nil)))) (sw_or1 (sc_cmp (ox_ne hr.hu64) (se_var 21) (se_var 12))))) (sss_one (ss_ret (se_bl))) (sss_nil)))))))))))))) (sss_one (ss_ret (se_cmp (ox_eq hr.hu64) (se_bi (bx_repr hr Z.sysB) rfl Z.m_repr (by decide +kernel) (sa_cons (SE.fz (se_var 2)) (sa_nil))) (se_var 4))))))))
end K31

set_option Elab.async false
set_option linter.all false
set_option maxRecDepth 100000
set_option maxHeartbeats 8000000
namespace K31
open PySem PySem.Spec PyProof.Rows L2 G
structure App where
  nm : Str
  land : Str
  filed : Int
  own : Str
  wd : Option Int
def optI : Option Int → PyData
  | none => .none
  | some i => .int i
def appD (a : App) : PyData := .tuple [.str a.nm, .str a.land, .int a.filed, .str a.own, .list [], .none, optI a.wd]
def landD (l : Str × Int) : PyData := .tuple [.str l.1, .int 0, .int l.2]
def feeD (f : Str × Int × Int) : PyData := .tuple [.str f.1, .int f.2.1, .int f.2.2]
structure Sd where
  apps : List App
  lands : List (Str × Int)
  closed : List Int
  fees : List (Str × Int × Int)
structure Is (s : PyData) (m : Sd) : Prop where
  fa : fldD s "applications" = some (.list (m.apps.map appD))
  fl : fldD s "lands" = some (.list (m.lands.map landD))
  fc : fldD s "closed" = some (.list (m.closed.map .int))
  ff : fldD s "fees" = some (.list (m.fees.map feeD))
def rowOf (m : Sd) (nm : Str) : Option App := (m.apps.filter fun a => decide (a.nm = nm)).head?
def feesOf (m : Sd) (a : App) : Option Int := ((m.lands.filter fun l => decide (l.1 = a.land)).map (·.2)).head?
def daysOf (m : Sd) (nm : Str) (n : Int) : List Int := (m.fees.filter fun f => decide (f.1 = nm ∧ f.2.1 = n)).map (·.2.2)
structure Gd (m : Sd) : Prop where
  la : m.apps.length ≤ 10000
  ll : m.lands.length ≤ 10000
  lc : m.closed.length ≤ 10000
  lf : m.fees.length ≤ 10000
  sa : ∀ a ∈ m.apps, PyData.strOk a.nm = true
  sf : ∀ f ∈ m.fees, PyData.strOk f.1 = true
  nl : ∀ l ∈ m.lands, 0 ≤ l.2 ∧ l.2 ≤ 1000
  fe : ∀ a ∈ m.apps, ∃ l, feesOf m a = some l
  so : ∀ nm n, (daysOf m nm n).Pairwise (· ≤ ·)
  ge : ∀ nm a, rowOf m nm = some a → ∀ n, ∀ d ∈ daysOf m nm n, a.filed ≤ d
variable {P : Program} {w : World} {K : PySem.W.Frag} {mg : Str → Option Value} {base : Heap} {k : Nat}
theorem lz {n : Nat} (h : n ≤ 10000) : n ≤ sizeLine := by rw [sizeLine_eq]; omega
theorem at_head {α : Type} {l : List α} {a : α} (h : l.head? = some a) (f : α → PyData) : atI (dX (l.map f)) 0 = some (.d (f a)) := by
  cases l with
  | nil => cases h
  | cons x l => cases h; exact at0 _ _
theorem rowOf_mem {m : Sd} {nm : Str} {a : App} (h : rowOf m nm = some a) : a ∈ m.apps ∧ a.nm = nm := by
  have := List.mem_of_head? h
  have := List.mem_filter.mp this
  exact ⟨this.1, by simpa using this.2⟩
def pd_row_of : PD := fun ds R => ∃ s m nm a, ds = [s, .str nm] ∧ Is s m ∧ Gd m ∧ rowOf m nm = some a ∧ R (appD a)
theorem row_spec {s : PyData} {m : Sd} {nm : Str} {a : App} {R : PyData → Prop} (I : Is s m) (g : Gd m) (e : rowOf m nm = some a) (h : R (appD a)) : b_row_of [some (.d s), some (.d (.str nm)), none] [] (EndsD R) := by
  unfold b_row_of
  simp only [startX, rSeq, rAsg, rgName, rVar, rC, rBin, rD, rCl, rFz, rTb, rTr, rIf, rIfS, rRet, rRetN, rNx, rCons, rNil, rTup, rTupC, rLst, rApp, rAppF, rCall, rPar, rNeg, rNot, rAnd, rOr, rChain, rLc, riSeq, rYes, rDrop, rFor, rApd, rExt, rgTup, rgCons, rgNil, rgSub, rIsiX, riRng1, riRng2, slot_z, slot_s, set_z, set_s, at0, at1, at2, at3, at4, at5, at6, dX_c, dX_n, gIx_tup, gIx_lst, gEq_ii, gEq_ss, gNe_ii, gNe_ss, gAdd_ii, gSub_ii, gLt_ii, gLe_ii, gGt_ii, gGe_ii, gIsN_d, gLen_l, gMax_ii, gMin_ii, gInt_b, gInt_i, gAbs_i, gApd_last, isLst_last, boX_b, tru_l, fzL_dX, fzL_n, fzL_cd, Option.map_some, fz_d, pk_d, ifS_some, hd_int, hd_str, hd_bool, hd_none, hd_list, hd_tuple, wipeX, List.map_cons, List.map_nil, List.length_cons, List.length_nil, List.replicate_succ, List.replicate_zero, List.cons_append, List.nil_append, List.append_nil, decide_eq_true_eq, if_true, if_false, Nat.reduceAdd, Nat.reduceSub, Nat.reduceLeDiff, Nat.zero_add, Nat.sub_zero, gIx_fld I.fa]
  refine lcW_map appD (fun a => decide (a.nm = nm)) appD (by trivial) m.apps [] (by simpa using lz g.la) (fun b hb Kt Kf h1 h2 => ?_) ?_
  · simp only [startX, rSeq, rAsg, rgName, rVar, rC, rBin, rD, rCl, rFz, rTb, rTr, rIf, rIfS, rRet, rRetN, rNx, rCons, rNil, rTup, rTupC, rLst, rApp, rAppF, rCall, rPar, rNeg, rNot, rAnd, rOr, rChain, rLc, riSeq, rYes, rDrop, rFor, rApd, rExt, rgTup, rgCons, rgNil, rgSub, rIsiX, riRng1, riRng2, slot_z, slot_s, set_z, set_s, at0, at1, at2, at3, at4, at5, at6, dX_c, dX_n, gIx_tup, gIx_lst, gEq_ii, gEq_ss, gNe_ii, gNe_ss, gAdd_ii, gSub_ii, gLt_ii, gLe_ii, gGt_ii, gGe_ii, gIsN_d, gLen_l, gMax_ii, gMin_ii, gInt_b, gInt_i, gAbs_i, gApd_last, isLst_last, boX_b, tru_l, fzL_dX, fzL_n, fzL_cd, Option.map_some, fz_d, pk_d, ifS_some, hd_int, hd_str, hd_bool, hd_none, hd_list, hd_tuple, wipeX, List.map_cons, List.map_nil, List.length_cons, List.length_nil, List.replicate_succ, List.replicate_zero, List.cons_append, List.nil_append, List.append_nil, decide_eq_true_eq, if_true, if_false, Nat.reduceAdd, Nat.reduceSub, Nat.reduceLeDiff, Nat.zero_add, Nat.sub_zero, appD]
    split
    · rename_i z; exact h1 (decide_eq_true z)
    · rename_i z; exact h2 (decide_eq_false z)
  · simp only [startX, rSeq, rAsg, rgName, rVar, rC, rBin, rD, rCl, rFz, rTb, rTr, rIf, rIfS, rRet, rRetN, rNx, rCons, rNil, rTup, rTupC, rLst, rApp, rAppF, rCall, rPar, rNeg, rNot, rAnd, rOr, rChain, rLc, riSeq, rYes, rDrop, rFor, rApd, rExt, rgTup, rgCons, rgNil, rgSub, rIsiX, riRng1, riRng2, slot_z, slot_s, set_z, set_s, at0, at1, at2, at3, at4, at5, at6, dX_c, dX_n, gIx_tup, gIx_lst, gEq_ii, gEq_ss, gNe_ii, gNe_ss, gAdd_ii, gSub_ii, gLt_ii, gLe_ii, gGt_ii, gGe_ii, gIsN_d, gLen_l, gMax_ii, gMin_ii, gInt_b, gInt_i, gAbs_i, gApd_last, isLst_last, boX_b, tru_l, fzL_dX, fzL_n, fzL_cd, Option.map_some, fz_d, pk_d, ifS_some, hd_int, hd_str, hd_bool, hd_none, hd_list, hd_tuple, wipeX, List.map_cons, List.map_nil, List.length_cons, List.length_nil, List.replicate_succ, List.replicate_zero, List.cons_append, List.nil_append, List.append_nil, decide_eq_true_eq, if_true, if_false, Nat.reduceAdd, Nat.reduceSub, Nat.reduceLeDiff, Nat.zero_add, Nat.sub_zero]
    exact ifS_mk (at_head e appD) h
theorem ok_row_of (D : DefOk K mg "row_of" ["state", "name"] (defArgs s_row_of) (defBody s_row_of) (defScope s_row_of)) (Z : Fx K mg base) : Cal P w K mg base 1 "row_of" ["state", "name"] (pfD pd_row_of) := by
  refine Cal.mkD (k := 0) D sc_row_of (sd_row_of Z) (fun ds R ⟨s, m, nm, a, e, _⟩ => by rw [e]; rfl) (fun ds R h => ?_) fun ds R R' i ⟨s, m, nm, a, e, h1, h2, h3, h4⟩ => ⟨s, m, nm, a, e, h1, h2, h3, i _ h4⟩
  obtain ⟨s, m, nm, a, rfl, I, g, e, h⟩ := h
  exact row_spec I g e h
theorem ok__law_row (D : DefOk K mg "_law_row" ["s", "name"] (defArgs s__law_row) (defBody s__law_row) (defScope s__law_row)) (Z : Fx K mg base) : Cal P w K mg base 1 "_law_row" ["s", "name"] (pfD pd_row_of) := by
  refine Cal.mkD (k := 0) D sc__law_row (sd__law_row Z) (fun ds R ⟨s, m, nm, a, e, _⟩ => by rw [e]; rfl) (fun ds R h => ?_) fun ds R R' i ⟨s, m, nm, a, e, h1, h2, h3, h4⟩ => ⟨s, m, nm, a, e, h1, h2, h3, i _ h4⟩
  obtain ⟨s, m, nm, a, rfl, I, g, e, h⟩ := h
  exact row_spec I g e h
theorem pfD1 (f : PD) (a : PyData) (M : Sto) (P : Xv → Sto → Prop) (h : f [a] fun d => P (.d d) M) : pfD f [.d a] M P := ⟨[a], rfl, h⟩
theorem pfD2 (f : PD) (a b : PyData) (M : Sto) (P : Xv → Sto → Prop) (h : f [a, b] fun d => P (.d d) M) : pfD f [.d a, .d b] M P := ⟨[a, b], rfl, h⟩
theorem pfD3 (f : PD) (a b c : PyData) (M : Sto) (P : Xv → Sto → Prop) (h : f [a, b, c] fun d => P (.d d) M) : pfD f [.d a, .d b, .d c] M P := ⟨[a, b, c], rfl, h⟩
theorem pfD4 (f : PD) (a b c e : PyData) (M : Sto) (P : Xv → Sto → Prop) (h : f [a, b, c, e] fun d => P (.d d) M) : pfD f [.d a, .d b, .d c, .d e] M P := ⟨[a, b, c, e], rfl, h⟩
theorem u_row {s : PyData} {m : Sd} {nm : Str} {a : App} {M : Sto} {P : Xv → Sto → Prop} (I : Is s m) (g : Gd m) (e : rowOf m nm = some a) (h : P (.d (appD a)) M) : pfD pd_row_of [.d s, .d (.str nm)] M P :=
  pfD2 _ _ _ _ _ ⟨s, m, nm, a, rfl, I, g, e, h⟩
theorem canInts (ns : List Int) : PyData.canLayAll0 (ns.map .int) = true := by
  induction ns with
  | nil => rfl
  | cons n ns ih => show (PyData.canLay0 (.int n) && _) = true; rw [ih]; rfl
theorem gIn_ints (neg : Bool) (d : Int) (ns : List Int) (M : Sto) (P : Xv → Sto → Prop) : gIn neg (.d (.int d)) (.d (.list (ns.map .int))) M P = P (.d (.bool (xor neg (decide (d ∈ ns))))) M := by
  show ifS (pk M (.d (.int d))) (fun x => ifS (pk M (.d (.list (ns.map .int)))) fun e => ifS (seqOf e) fun ds => SeqAt.shaped x = true ∧ PyData.canLayAll0 ds = true ∧ P (.d (.bool (xor neg (ds.any fun z => PyData.eqv z x)))) M) = _
  rw [pk_d, pk_d]
  show (SeqAt.shaped (.int d) = true ∧ PyData.canLayAll0 (ns.map .int) = true ∧ P (.d (.bool (xor neg ((ns.map .int).any fun z => PyData.eqv z (.int d))))) M) = _
  have : ((ns.map PyData.int).any fun z => PyData.eqv z (.int d)) = decide (d ∈ ns) := by
    rw [List.any_map]
    have : ((fun z => PyData.eqv z (.int d)) ∘ PyData.int) = fun z => decide (z = d) := by funext z; exact eqv_int z d
    rw [this]
    by_cases h : d ∈ ns
    · rw [decide_eq_true h]; exact List.any_eq_true.mpr ⟨d, h, decide_eq_true rfl⟩
    · rw [decide_eq_false h]; exact List.any_eq_false.mpr fun x hx => by
        simp only [decide_eq_true_eq]; rintro rfl; exact h hx
  rw [this]
  have h1 : SeqAt.shaped (.int d) = true := by simp [SeqAt.shaped, PyData.canLay0, PyData.depth]
  simp [h1, canInts]
end K31

set_option Elab.async false
set_option linter.all false
set_option maxRecDepth 100000
set_option maxHeartbeats 8000000
namespace K31
open PySem PySem.Spec PyProof.Rows L2 G
variable {P : Program} {w : World} {K : PySem.W.Frag} {mg : Str → Option Value} {base : Heap} {k : Nat}

theorem shaped_t2 {a : Str} {i : Int} (h : PyData.strOk a = true) : SeqAt.shaped (.tuple [.str a, .int i]) = true := by
  simp [SeqAt.shaped, PyData.canLay0, PyData.canLayAll0, PyData.depth, PyData.depthAll, h]
theorem gEq_t2 {a b : Str} {i j : Int} {M : Sto} {P : Xv → Sto → Prop} (ha : PyData.strOk a = true) (hb : PyData.strOk b = true) : gEq (.d (.tuple [.str a, .int i])) (.d (.tuple [.str b, .int j])) M P = P (.d (.bool (decide (a = b ∧ i = j)))) M := by
  show ifS (pk M _) (fun d => ifS (pk M _) fun e => (scEq d e = true ∨ (SeqAt.shaped d = true ∧ SeqAt.shaped e = true)) ∧ P (.d (.bool (PyData.eqv d e))) M) = _
  rw [pk_d, pk_d]
  show (((_ : Bool) = true ∨ (SeqAt.shaped _ = true ∧ SeqAt.shaped _ = true)) ∧ P (.d (.bool (PyData.eqv (.tuple [.str a, .int i]) (.tuple [.str b, .int j])))) M) = _
  have : PyData.eqv (.tuple [.str a, .int i]) (.tuple [.str b, .int j]) = decide (a = b ∧ i = j) := by
    simp only [PyData.eqv, PyData.eqvAll, Bool.and_true]
    rw [show (a == b) = decide (a = b) from by rw [← eqv_str]; simp only [PyData.eqv], show (i == j) = decide (i = j) from by rw [← eqv_int]; simp only [PyData.eqv]]
    simp
  rw [this]
  simp [shaped_t2 ha, shaped_t2 hb]
theorem fzL_one {M M' : Sto} {v : Xv} {d : PyData} (e : fz M v = some (d, M')) : fzL M [v] = some ([d], M') := by
  have e1 : fzL M [v] = (match frzN 6 M v with
    | some (d, M') => match frzLf (frzN 6) M' [] with
      | some (ds, M'') => some (d :: ds, M'')
      | none => none
    | none => none) := rfl
  rw [e1, show frzN 6 M v = some (d, M') from e]
  rfl
theorem ap0 {L : Sto} {xs : List Xv} {y : Xv} {P : Xv → Sto → Prop} : gApd (.c 0) y (.lst xs :: L) P = (xs.length < sizeLine ∧ P (.d .none) (.lst (xs ++ [y]) :: L)) := rfl
theorem is0 {L : Sto} {xs : List Xv} : isLst (.lst xs :: L) (.c 0) = True := rfl
theorem isN_opt (o : Option Int) : isN (.d (optI o)) = decide (o = none) := by cases o <;> rfl
def stM (cs : List Int) (i : Int) : Sto := [.lst (dX (cs.map .int)), .lst [.d (.int i), .c 0]]
structure StOk (cs : List Int) (i : Int) : Prop where
  ne : 0 < cs.length
  nn : ∀ c ∈ cs, 0 ≤ c
  le : cs.length ≤ 63
  i0 : 0 ≤ i
def pf_tk : PF := fun xs M R => ∃ cs i most, xs = [.c 1, .d (.int most)] ∧ M = stM cs i ∧ StOk cs i ∧ 0 < most ∧ most < 1000000 ∧ ∀ v cs' i', StOk cs' i' → 0 ≤ v → v < most → R (.d (.int v)) (stM cs' i')
theorem hd_st0 (cs : List Int) (i : Int) (L : Sto) : hd (stM cs i ++ L) (.c 0) = .lst (dX (cs.map .int)) := rfl
theorem hd_st1 (cs : List Int) (i : Int) (L : Sto) : hd (stM cs i ++ L) (.c 1) = .lst [.d (.int i), .c 0] := rfl
theorem hd_st0' (cs : List Int) (i : Int) : hd (stM cs i) (.c 0) = .lst (dX (cs.map .int)) := rfl
theorem hd_st1' (cs : List Int) (i : Int) : hd (stM cs i) (.c 1) = .lst [.d (.int i), .c 0] := rfl
theorem atI_ints {cs : List Int} {n : Int} (h0 : 0 ≤ n) (h1 : n < cs.length) : ∃ c, c ∈ cs ∧ atI (dX (cs.map .int)) n = some (.d (.int c)) ∧ ixN (dX (cs.map .int)).length n = some n.toNat := by
  have hl : n.toNat < cs.length := by omega
  refine ⟨cs[n.toNat], List.getElem_mem hl, ?_, ?_⟩
  · have e : ((n.toNat : Nat) : Int) = n := by omega
    have := L2.atI_nat (xs := dX (cs.map .int)) (j := n.toNat) (v := .d (.int cs[n.toNat])) (by simp [dX, hl])
    rwa [e] at this
  · unfold ixN
    rw [if_pos h0, if_pos (by rw [List.length_map, List.length_map]; exact h1)]
theorem gSet_c0 (cs : List Int) (i n v : Int) (Q : Sto → Prop) (h0 : 0 ≤ n) (h1 : n < cs.length) : gSet (.c 0) (.d (.int n)) (.d (.int v)) (stM cs i) Q = Q (stM (cs.set n.toNat v) i) := by
  obtain ⟨c, _, _, e⟩ := atI_ints h0 h1
  show ifS (ixN (dX (cs.map .int)).length n) (fun k => Q ((stM cs i).set 0 (.lst ((dX (cs.map .int)).set k (.d (.int v)))))) = _
  rw [e, ifS_some]
  have : (dX (cs.map .int)).set n.toNat (.d (.int v)) = dX ((cs.set n.toNat v).map .int) := by simp [dX, List.map_set]
  rw [this]
  rfl
theorem gSet_c1 (cs : List Int) (i v : Int) (Q : Sto → Prop) : gSet (.c 1) (.d (.int 0)) (.d (.int v)) (stM cs i) Q = Q (stM cs v) := rfl
theorem gLen_c0 (cs : List Int) (i : Int) (P : Xv → Sto → Prop) : gLen [.c 0] (stM cs i) P = P (.d (.int cs.length)) (stM cs i) := by
  show P (.d (.int (dX (cs.map .int)).length)) _ = _
  rw [List.length_map, List.length_map]
theorem gIx_st1 (cs : List Int) (i : Int) (P : Xv → Sto → Prop) : gIx (.c 1) (.d (.int 1)) (stM cs i) P = P (.c 0) (stM cs i) := rfl
theorem gIx_st0 (cs : List Int) (i : Int) (P : Xv → Sto → Prop) : gIx (.c 1) (.d (.int 0)) (stM cs i) P = P (.d (.int i)) (stM cs i) := rfl
theorem gIx_c0 {cs : List Int} {i n c : Int} {P : Xv → Sto → Prop} (e : atI (dX (cs.map .int)) n = some (.d (.int c))) : gIx (.c 0) (.d (.int n)) (stM cs i) P = P (.d (.int c)) (stM cs i) := by
  show ifS (atI (dX (cs.map .int)) n) _ = _
  rw [e, ifS_some]
theorem ok_take (D : DefOk K mg "_law_take" ["state", "most"] (defArgs s__law_take) (defBody s__law_take) (defScope s__law_take)) (Z : Fx K mg base) : Cal P w K mg base 1 "_law_take" ["state", "most"] (pfPre 2 pf_tk) := by
  refine Cal.mkPre (k := 0) D sc__law_take (sd__law_take Z) (fun xs M R ⟨_, _, _, e, _⟩ => by rw [e]; rfl) (fun xs M R h => ?_)
  obtain ⟨cs, i, most, rfl, rfl, ok, m0, m1, h⟩ := h
  have fin : ∀ v cs' i', StOk cs' i' → 0 ≤ v → v < most → EndsPre 2 R (.rt (.d (.int v))) (stM cs' i') := fun v cs' i' a b c => ⟨Nat.le_refl 2, h v cs' i' a b c⟩
  unfold b__law_take
  have hn : (0 : Int) < cs.length := by have := ok.ne; omega
  have i1 : 0 ≤ i % (cs.length : Int) := Int.emod_nonneg _ (by omega)
  have i2 : i % (cs.length : Int) < cs.length := Int.emod_lt_of_pos _ hn
  obtain ⟨c, hc, ec, _⟩ := atI_ints i1 i2
  have c0 := ok.nn c hc
  simp only [startX, rSeq, rAsg, rgName, rVar, rC, rBin, rD, rCl, rFz, rTb, rTr, rIf, rIfS, rRet, rRetN, rNx, rCons, rNil, rTup, rTupC, rLst, rApp, rAppF, rCall, rPar, rNeg, rNot, rAnd, rOr, rChain, rLc, riSeq, rYes, rDrop, rFor, rApd, rExt, rgTup, rgCons, rgNil, rgSub, rIsiX, riRng1, riRng2, slot_z, slot_s, set_z, set_s, at0, at1, at2, at3, at4, at5, at6, dX_c, dX_n, gIx_tup, gIx_lst, gEq_ii, gEq_ss, gNe_ii, gNe_ss, gAdd_ii, gSub_ii, gLt_ii, gLe_ii, gGt_ii, gGe_ii, gIsN_d, gLen_l, gMax_ii, gMin_ii, gInt_b, gInt_i, gAbs_i, gApd_last, isLst_last, boX_b, tru_l, fzL_dX, fzL_n, fzL_cd, Option.map_some, fz_d, pk_d, ifS_some, hd_int, hd_str, hd_bool, hd_none, hd_list, hd_tuple, wipeX, List.map_cons, List.map_nil, List.length_cons, List.length_nil, List.replicate_succ, List.replicate_zero, List.cons_append, List.nil_append, List.append_nil, decide_eq_true_eq, if_true, if_false, Nat.reduceAdd, Nat.reduceSub, Nat.reduceLeDiff, Nat.zero_add, Nat.sub_zero, N__law_take, gIx_st1, gIx_st0, gLen_c0, gMod_ii _ _ _ _ hn, gIx_c0 ec]
  split
  · simp only [startX, rSeq, rAsg, rgName, rVar, rC, rBin, rD, rCl, rFz, rTb, rTr, rIf, rIfS, rRet, rRetN, rNx, rCons, rNil, rTup, rTupC, rLst, rApp, rAppF, rCall, rPar, rNeg, rNot, rAnd, rOr, rChain, rLc, riSeq, rYes, rDrop, rFor, rApd, rExt, rgTup, rgCons, rgNil, rgSub, rIsiX, riRng1, riRng2, slot_z, slot_s, set_z, set_s, at0, at1, at2, at3, at4, at5, at6, dX_c, dX_n, gIx_tup, gIx_lst, gEq_ii, gEq_ss, gNe_ii, gNe_ss, gAdd_ii, gSub_ii, gLt_ii, gLe_ii, gGt_ii, gGe_ii, gIsN_d, gLen_l, gMax_ii, gMin_ii, gInt_b, gInt_i, gAbs_i, gApd_last, isLst_last, boX_b, tru_l, fzL_dX, fzL_n, fzL_cd, Option.map_some, fz_d, pk_d, ifS_some, hd_int, hd_str, hd_bool, hd_none, hd_list, hd_tuple, wipeX, List.map_cons, List.map_nil, List.length_cons, List.length_nil, List.replicate_succ, List.replicate_zero, List.cons_append, List.nil_append, List.append_nil, decide_eq_true_eq, if_true, if_false, Nat.reduceAdd, Nat.reduceSub, Nat.reduceLeDiff, Nat.zero_add, Nat.sub_zero, gDiv_ii _ _ _ _ (show 0 < most ∧ most < 1073741824 by omega), gSet_c0 _ _ _ _ _ i1 i2, gMod_ii _ _ _ _ m0]
    refine fin _ _ _ ⟨by simpa using ok.ne, fun x hx => ?_, by simpa using ok.le, ok.i0⟩ (Int.emod_nonneg _ (by omega)) (Int.emod_lt_of_pos _ m0)
    rcases List.mem_or_eq_of_mem_set hx with z | z
    · exact ok.nn x z
    · rw [z]; exact Int.ediv_nonneg c0 (by omega)
  · simp only [startX, rSeq, rAsg, rgName, rVar, rC, rBin, rD, rCl, rFz, rTb, rTr, rIf, rIfS, rRet, rRetN, rNx, rCons, rNil, rTup, rTupC, rLst, rApp, rAppF, rCall, rPar, rNeg, rNot, rAnd, rOr, rChain, rLc, riSeq, rYes, rDrop, rFor, rApd, rExt, rgTup, rgCons, rgNil, rgSub, rIsiX, riRng1, riRng2, slot_z, slot_s, set_z, set_s, at0, at1, at2, at3, at4, at5, at6, dX_c, dX_n, gIx_tup, gIx_lst, gEq_ii, gEq_ss, gNe_ii, gNe_ss, gAdd_ii, gSub_ii, gLt_ii, gLe_ii, gGt_ii, gGe_ii, gIsN_d, gLen_l, gMax_ii, gMin_ii, gInt_b, gInt_i, gAbs_i, gApd_last, isLst_last, boX_b, tru_l, fzL_dX, fzL_n, fzL_cd, Option.map_some, fz_d, pk_d, ifS_some, hd_int, hd_str, hd_bool, hd_none, hd_list, hd_tuple, wipeX, List.map_cons, List.map_nil, List.length_cons, List.length_nil, List.replicate_succ, List.replicate_zero, List.cons_append, List.nil_append, List.append_nil, decide_eq_true_eq, if_true, if_false, Nat.reduceAdd, Nat.reduceSub, Nat.reduceLeDiff, Nat.zero_add, Nat.sub_zero, gSet_c1, gIx_st1, gIx_st0, gMul_r _ 48271 _ _ (by decide), gMul_r _ 69621 _ _ (by decide), gMul_r _ 16807 _ _ (by decide), gMul_r _ 7919 _ _ (by decide), gMod_ii _ 2147483647 _ _ (by decide), gMod_ii _ 1000000007 _ _ (by decide), gDiv_ii _ 7 _ _ (by decide), gMod_ii _ _ _ _ m0]
    exact fin _ _ _ ⟨ok.ne, ok.nn, ok.le, by have := ok.i0; omega⟩ (Int.emod_nonneg _ (by omega)) (Int.emod_lt_of_pos _ m0)
/-- drawing, as it is used -/
theorem u_tk {cs : List Int} {i most : Int} {L : Sto} {P : Xv → Sto → Prop} (ok : StOk cs i) (m0 : 0 < most) (m1 : most < 1000000) (h : ∀ v cs' i', StOk cs' i' → 0 ≤ v → v < most → P (.d (.int v)) (stM cs' i' ++ L)) :
    pfPre 2 pf_tk [.c 1, .d (.int most)] (stM cs i ++ L) P := by
  have below : ∀ cs' i', belowM 2 (stM cs' i') = true := fun cs' i' => by
    show ((dX (cs'.map .int)).all (belowX 2) && ([Xv.d (.int i'), .c 0].all (belowX 2) && true)) = true
    rw [belowX_dX]; rfl
  have e1 : (stM cs i ++ L).take 2 = stM cs i := rfl
  have e2 : (stM cs i ++ L).drop 2 = L := rfl
  refine ⟨by simp [stM], rfl, by rw [e1]; exact below _ _, cs, i, most, rfl, e1, ok, m0, m1, fun v cs' i' a b c => ⟨rfl, rfl, below _ _, ?_⟩⟩
  rw [e2]
  exact h v cs' i' a b c
def pf_st : PF := fun xs M R => ∃ ns : List Int, xs = [.d (.list (ns.map .int))] ∧ M = [] ∧ ∀ cs i, StOk cs i → R (.c 1) (stM cs i)
theorem ok_state (D : DefOk K mg "_law_state" ["script"] (defArgs s__law_state) (defBody s__law_state) (defScope s__law_state)) (Z : Fx K mg base) : Cal P w K mg base 1 "_law_state" ["script"] pf_st := by
  refine Cal.mk_ (k := 0) D sc__law_state (sd__law_state Z) (fun xs M R ⟨_, e, _⟩ => by rw [e]; rfl) (fun xs M R h => ?_)
  obtain ⟨ns, rfl, rfl, h⟩ := h
  have hx : cutX (dX (ns.map .int)) none (some 63) = dX ((cutX ns none (some 63)).map .int) := by
    show cutX ((ns.map PyData.int).map Xv.d) none (some 63) = _
    rw [cutX_map, cutX_map]
  have hl : (cutX ns none (some 63)).length ≤ 63 := by
    unfold cutX
    rw [List.length_take, show HT.sIx ns.length ns.length (some 63) = min 63 ns.length from HT.sIx_nat ns.length ns.length 63]
    omega
  generalize cutX ns none (some 63) = ys at hx hl
  have h2 : (2 : Nat) ≤ sizeLine := by decide
  unfold b__law_state
  simp only [startX, rSeq, rAsg, rgName, rVar, rC, rBin, rD, rCl, rFz, rTb, rTr, rIf, rIfS, rRet, rRetN, rNx, rCons, rNil, rTup, rTupC, rLst, rApp, rAppF, rCall, rPar, rNeg, rNot, rAnd, rOr, rChain, rLc, riSeq, rYes, rDrop, rFor, rApd, rExt, rgTup, rgCons, rgNil, rgSub, rIsiX, riRng1, riRng2, slot_z, slot_s, set_z, set_s, at0, at1, at2, at3, at4, at5, at6, dX_c, dX_n, gIx_tup, gIx_lst, gEq_ii, gEq_ss, gNe_ii, gNe_ss, gAdd_ii, gSub_ii, gLt_ii, gLe_ii, gGt_ii, gGe_ii, gIsN_d, gLen_l, gMax_ii, gMin_ii, gInt_b, gInt_i, gAbs_i, gApd_last, isLst_last, boX_b, tru_l, fzL_dX, fzL_n, fzL_cd, Option.map_some, fz_d, pk_d, ifS_some, hd_int, hd_str, hd_bool, hd_none, hd_list, hd_tuple, wipeX, List.map_cons, List.map_nil, List.length_cons, List.length_nil, List.replicate_succ, List.replicate_zero, List.cons_append, List.nil_append, List.append_nil, decide_eq_true_eq, if_true, if_false, Nat.reduceAdd, Nat.reduceSub, Nat.reduceLeDiff, Nat.zero_add, Nat.sub_zero, N__law_state, rSl, rNoP, rPart, gSl, rCh, hx]
  refine lcW_map PyData.int (fun _ => true) (fun i => .int (if i < 0 then -i else i)) (by trivial) ys [] (by rw [sizeLine_eq]; simp; omega) (fun b hb Kt Kf h1 h2 => ?_) ?_
  · simp only [startX, rSeq, rAsg, rgName, rVar, rC, rBin, rD, rCl, rFz, rTb, rTr, rIf, rIfS, rRet, rRetN, rNx, rCons, rNil, rTup, rTupC, rLst, rApp, rAppF, rCall, rPar, rNeg, rNot, rAnd, rOr, rChain, rLc, riSeq, rYes, rDrop, rFor, rApd, rExt, rgTup, rgCons, rgNil, rgSub, rIsiX, riRng1, riRng2, slot_z, slot_s, set_z, set_s, at0, at1, at2, at3, at4, at5, at6, dX_c, dX_n, gIx_tup, gIx_lst, gEq_ii, gEq_ss, gNe_ii, gNe_ss, gAdd_ii, gSub_ii, gLt_ii, gLe_ii, gGt_ii, gGe_ii, gIsN_d, gLen_l, gMax_ii, gMin_ii, gInt_b, gInt_i, gAbs_i, gApd_last, isLst_last, boX_b, tru_l, fzL_dX, fzL_n, fzL_cd, Option.map_some, fz_d, pk_d, ifS_some, hd_int, hd_str, hd_bool, hd_none, hd_list, hd_tuple, wipeX, List.map_cons, List.map_nil, List.length_cons, List.length_nil, List.replicate_succ, List.replicate_zero, List.cons_append, List.nil_append, List.append_nil, decide_eq_true_eq, if_true, if_false, Nat.reduceAdd, Nat.reduceSub, Nat.reduceLeDiff, Nat.zero_add, Nat.sub_zero]
    exact h1 rfl
  · have hf : (ys.filter fun _ => true) = ys := List.filter_eq_self.mpr fun _ _ => rfl
    rw [hf, List.nil_append]
    have hm : ys.map (fun i => PyData.int (if i < 0 then -i else i)) = (ys.map fun i => if i < 0 then -i else i).map .int := by rw [List.map_map]; rfl
    rw [hm]
    by_cases e : ys = []
    · subst e
      left
      simp only [startX, rSeq, rAsg, rgName, rVar, rC, rBin, rD, rCl, rFz, rTb, rTr, rIf, rIfS, rRet, rRetN, rNx, rCons, rNil, rTup, rTupC, rLst, rApp, rAppF, rCall, rPar, rNeg, rNot, rAnd, rOr, rChain, rLc, riSeq, rYes, rDrop, rFor, rApd, rExt, rgTup, rgCons, rgNil, rgSub, rIsiX, riRng1, riRng2, slot_z, slot_s, set_z, set_s, at0, at1, at2, at3, at4, at5, at6, dX_c, dX_n, gIx_tup, gIx_lst, gEq_ii, gEq_ss, gNe_ii, gNe_ss, gAdd_ii, gSub_ii, gLt_ii, gLe_ii, gGt_ii, gGe_ii, gIsN_d, gLen_l, gMax_ii, gMin_ii, gInt_b, gInt_i, gAbs_i, gApd_last, isLst_last, boX_b, tru_l, fzL_dX, fzL_n, fzL_cd, Option.map_some, fz_d, pk_d, ifS_some, hd_int, hd_str, hd_bool, hd_none, hd_list, hd_tuple, wipeX, List.map_cons, List.map_nil, List.length_cons, List.length_nil, List.replicate_succ, List.replicate_zero, List.cons_append, List.nil_append, List.append_nil, decide_eq_true_eq, if_true, if_false, Nat.reduceAdd, Nat.reduceSub, Nat.reduceLeDiff, Nat.zero_add, Nat.sub_zero]
      rw [if_pos (by rfl)]
      exact ⟨by decide, .inr ⟨h2, h [0] 0 ⟨by simp, by simp, by simp, by omega⟩⟩⟩
    · right
      have hp : 0 < ys.length := List.length_pos_iff.mpr e
      show gLen [.c 0] [.lst (dX ((ys.map fun i => if i < 0 then -i else i).map .int))] _
      have : ∀ P : Xv → Sto → Prop, gLen [.c 0] [Ob.lst (dX ((ys.map fun i => if i < 0 then -i else i).map .int))] P = P (.d (.int ys.length)) [Ob.lst (dX ((ys.map fun i => if i < 0 then -i else i).map .int))] := fun P => by
        show P (.d (.int (dX _).length)) _ = _
        rw [List.length_map, List.length_map, List.length_map]
      rw [this]
      simp only [startX, rSeq, rAsg, rgName, rVar, rC, rBin, rD, rCl, rFz, rTb, rTr, rIf, rIfS, rRet, rRetN, rNx, rCons, rNil, rTup, rTupC, rLst, rApp, rAppF, rCall, rPar, rNeg, rNot, rAnd, rOr, rChain, rLc, riSeq, rYes, rDrop, rFor, rApd, rExt, rgTup, rgCons, rgNil, rgSub, rIsiX, riRng1, riRng2, slot_z, slot_s, set_z, set_s, at0, at1, at2, at3, at4, at5, at6, dX_c, dX_n, gIx_tup, gIx_lst, gEq_ii, gEq_ss, gNe_ii, gNe_ss, gAdd_ii, gSub_ii, gLt_ii, gLe_ii, gGt_ii, gGe_ii, gIsN_d, gLen_l, gMax_ii, gMin_ii, gInt_b, gInt_i, gAbs_i, gApd_last, isLst_last, boX_b, tru_l, fzL_dX, fzL_n, fzL_cd, Option.map_some, fz_d, pk_d, ifS_some, hd_int, hd_str, hd_bool, hd_none, hd_list, hd_tuple, wipeX, List.map_cons, List.map_nil, List.length_cons, List.length_nil, List.replicate_succ, List.replicate_zero, List.cons_append, List.nil_append, List.append_nil, decide_eq_true_eq, if_true, if_false, Nat.reduceAdd, Nat.reduceSub, Nat.reduceLeDiff, Nat.zero_add, Nat.sub_zero]
      rw [if_neg (by omega)]
      refine ⟨h2, h (ys.map fun i => if i < 0 then -i else i) 0 ⟨by simpa using hp, fun c hc => ?_, by simpa using hl, by omega⟩⟩
      obtain ⟨i, _, rfl⟩ := List.mem_map.mp hc
      split <;> omega
theorem getD_mem {α : Type} {xs : List α} {a : α} {i : Nat} (h : i < xs.length) : xs.getD i a ∈ xs := by
  simp [List.getD, h]
theorem pk_lst {M : Sto} {j : Nat} {ds : List PyData} (h : M[j]? = some (.lst (dX ds))) : pk M (.c j) = some (.list ds) := by
  show pkN 6 M (.c j) = _
  have e : ∀ ds : List PyData, pkLf (pkN 5 M) (dX ds) = some ds := fun ds => by
    induction ds with
    | nil => rfl
    | cons d ds ih =>
      show pkLf (pkN 5 M) (.d d :: dX ds) = _
      rw [pkLf, pkN_d, ih]
  unfold pkN
  simp only [h, e]
theorem hd_at {M : Sto} {j : Nat} {xs : List Xv} (e : M[j]? = some (.lst xs)) : hd M (.c j) = .lst xs := by
  unfold hd
  simp only [e]
theorem gApd_at {M : Sto} {j : Nat} {xs : List Xv} {y : Xv} {P : Xv → Sto → Prop} (e : M[j]? = some (.lst xs)) (h : xs.length < sizeLine ∧ P (.d .none) (M.set j (.lst (xs ++ [y])))) : gApd (.c j) y M P := by
  unfold gApd
  simp only [e]
  exact h
theorem isLst_at {M : Sto} {j : Nat} {xs : List Xv} (e : M[j]? = some (.lst xs)) : isLst M (.c j) = True := by
  unfold isLst
  rw [hd_at e]
theorem gSort_at {M : Sto} {j : Nat} {ds : List PyData} {P : List Xv → Sto → Prop} (e : M[j]? = some (.lst (dX ds))) (s : Srt ds) (p : P (dX (sortD ds)) M) : gSort [.c j] M P := by
  unfold gSort
  simp only [hd_at e, datX_dX, ifS_some]
  exact ⟨s, p⟩
theorem gSort_d {ds : List PyData} {M : Sto} {P : List Xv → Sto → Prop} (s : Srt ds) (p : P (dX (sortD ds)) M) : gSort [.d (.list ds)] M P := by
  unfold gSort
  simp only [hd_list, datX_dX, ifS_some]
  exact ⟨s, p⟩
theorem gSl_l {α : Type} (enc : α → PyData) (xs : List α) (a b : Option Int) (M : Sto) (P : Xv → Sto → Prop) : gSl (.d (.list (xs.map enc))) a b M P = P (.d (.list ((cutX xs a b).map enc))) M := by
  show ifS (fzL M (cutX (dX (xs.map enc)) a b)) _ = _
  rw [show cutX (dX (xs.map enc)) a b = dX ((cutX xs a b).map enc) by unfold dX; rw [cutX_map, cutX_map], fzL_dX]
  rfl
theorem gSl_t (ds : List PyData) (lo hi : Option Int) (M : Sto) (P : Xv → Sto → Prop) : gSl (.d (.tuple ds)) lo hi M P = P (.d (.tuple (cutX ds lo hi))) M := rfl
theorem cut_to {α : Type} (xs : List α) (n : Nat) : cutX xs none (some (n : Int)) = xs.take n := by
  unfold cutX
  rw [HT.sIx_nat]
  show (xs.drop 0).take (min n xs.length - 0) = _
  rw [List.drop_zero, Nat.sub_zero, Nat.min_comm]
  by_cases h : n ≤ xs.length
  · rw [Nat.min_eq_right h]
  · rw [Nat.min_eq_left (by omega), List.take_of_length_le (Nat.le_refl _), List.take_of_length_le (by omega)]
theorem cut_from {α : Type} (xs : List α) (n : Nat) : cutX xs (some (n : Int)) none = xs.drop n := by
  unfold cutX
  rw [HT.sIx_nat]
  show (xs.drop (min n xs.length)).take (xs.length - min n xs.length) = _
  by_cases h : n ≤ xs.length
  · rw [Nat.min_eq_left h, List.take_of_length_le (by rw [List.length_drop]; omega)]
  · rw [Nat.min_eq_right (by omega), List.drop_of_length_le (Nat.le_refl _), List.drop_of_length_le (by omega), List.take_nil]
end K31

set_option Elab.async false
set_option linter.all false
set_option maxRecDepth 100000
set_option maxHeartbeats 8000000
namespace K31
open PySem PySem.Spec PyProof.Rows L2 G
variable {P : Program} {w : World} {K : PySem.W.Frag} {mg : Str → Option Value} {base : Heap} {k : Nat}
/-! ### transfers, what is written in of them; shares and what is left, plain -/
structure Tr where
  app : Str
  giver : Str
  taker : Str
  size : Int
  n : Int
  told : Int
def trD (t : Tr) : PyData := .tuple [.str t.app, .str t.giver, .str t.taker, .int t.size, .int t.n, .int t.told]
structure Rg where
  app : Str
  giver : Str
  n : Int
  size : Int
  day : Int
def rgD (r : Rg) : PyData := .tuple [.str r.app, .str r.giver, .int r.n, .int r.size, .int r.day]
abbrev Held := List (Str × Int)
structure Le where
  giver : Str
  n : Int
  taker : Str
  rest : Int
def leK (e : Le) : List Key := [.inr e.giver, .inl e.n]
def getO : Held → Str → Option Int
  | [], _ => none
  | p :: r, g => if p.1 = g then some p.2 else getO r g
def getS (h : Held) (g : Str) : Int := (getO h g).getD 0
def putS (h : Held) (g : Str) (v : Int) : Held := if (h.any fun p => decide (p.1 = g)) = true then h.map (fun p => if p.1 = g then (p.1, v) else p) else h ++ [(g, v)]
def findL : List Le → List Key → Option Le
  | [], _ => none
  | e :: r, k => if leK e = k then some e else findL r k
def putL (L : List Le) (e : Le) : List Le := if (L.any fun x => decide (leK x = leK e)) = true then L.map (fun x => if leK x = leK e then e else x) else L ++ [e]
def setR (L : List Le) (k : List Key) (v : Int) : List Le := L.map fun e => if leK e = k then { e with rest := v } else e
def moveV (q : Held × List Le) (g : Str) (n size : Int) : Held × List Le := match findL q.2 [.inr g, .inl n] with
  | none => q
  | some e =>
    let a := min (min size e.rest) (getS q.1 g)
    let h1 := putS q.1 g (getS q.1 g - a)
    (putS h1 e.taker (getS h1 e.taker + a), setR q.2 [.inr g, .inl n] (e.rest - a))
/-- the store's lists -/
def hX (h : Held) : List (Key × Xv) := h.map fun p => (.inr p.1, .d (.int p.2))
def hP (h : Held) : List (PyData × Xv) := h.map fun p => (.str p.1, .d (.int p.2))
def lX (f : Le → PyData) (L : List Le) : List (List Key × Xv) := L.map fun e => (leK e, .d (f e))
def resD (e : Le) : PyData := .int e.rest
def tkrD (e : Le) : PyData := .str e.taker
def lwD (e : Le) : PyData := .list [.str e.taker, .int e.rest]
theorem hP_of (h : Held) : ((hX h).map fun p => (kD p.1, p.2)) = hP h := by
  unfold hX hP
  rw [List.map_map]; rfl
theorem keyEq_ss (a b : Str) : keyEq (.str a) (.str b) = decide (a = b) := by
  by_cases c : a = b
  · subst c; simp [keyEq]
  · rw [decide_eq_false c]; simp [keyEq, c]
theorem dget_hP : ∀ (h : Held) (g : Str), dget (hP h) (.str g) = (getO h g).map fun v => .d (.int v)
  | [], _ => rfl
  | p :: h, g => by
    show (if keyEq (.str p.1) (.str g) then some (Xv.d (.int p.2)) else dget (hP h) (.str g)) = ((if p.1 = g then some p.2 else getO h g)).map _
    rw [keyEq_ss, dget_hP h g]
    by_cases c : p.1 = g
    · rw [if_pos c, decide_eq_true c]; rfl
    · rw [if_neg c, decide_eq_false c]; rfl
theorem dget_S (h : Held) (g : Str) : (dget (hP h) (.str g)).getD (.d (.int 0)) = .d (.int (getS h g)) := by
  rw [dget_hP]
  unfold getS
  cases getO h g <;> rfl
theorem putX_h (h : Held) (g : Str) (v : Int) : putX (hX h) (.inr g) (.d (.int v)) = hX (putS h g v) := by
  have e : ((hX h).any fun kv => decide (kv.1 = (.inr g : Key))) = h.any fun p => decide (p.1 = g) := by
    unfold hX
    rw [List.any_map]
    refine congrArg (fun f => h.any f) (funext fun p => ?_)
    show decide ((Sum.inr p.1 : Key) = .inr g) = decide (p.1 = g)
    simp
  unfold putX putS
  rw [e]
  split
  · unfold hX
    rw [List.map_map, List.map_map]
    refine List.map_congr_left fun p _ => ?_
    show (if (Sum.inr p.1 : Key) = .inr g then (Sum.inr p.1, Xv.d (.int v)) else (Sum.inr p.1, Xv.d (.int p.2))) = _
    by_cases c : p.1 = g
    · rw [if_pos (by rw [c])]
      simp [c]
    · rw [if_neg (by simpa using c)]
      simp [c]
  · unfold hX
    rw [List.map_append]; rfl
theorem any_lX (f : Le → PyData) (L : List Le) (k : List Key) : ((lX f L).any fun kv => decide (kv.1 = k)) = L.any fun e => decide (leK e = k) := by
  unfold lX
  rw [List.any_map]; rfl
theorem putX_l (f : Le → PyData) (L : List Le) (e : Le) : putX (lX f L) (leK e) (.d (f e)) = lX f (putL L e) := by
  unfold putX putL
  rw [any_lX]
  split
  · unfold lX
    rw [List.map_map, List.map_map]
    refine List.map_congr_left fun x _ => ?_
    show (if leK x = leK e then (leK x, Xv.d (f e)) else (leK x, Xv.d (f x))) = (leK (if leK x = leK e then e else x), Xv.d (f (if leK x = leK e then e else x)))
    split
    · rename_i c; rw [c]
    · rfl
  · unfold lX
    rw [List.map_append]; rfl
theorem findL_mem : ∀ {L : List Le} {k : List Key} {e : Le}, findL L k = some e → e ∈ L ∧ leK e = k
  | [], _, _, h => by cases h
  | x :: L, k, e, h => by
    unfold findL at h
    split at h
    · cases h; exact ⟨List.mem_cons_self, by assumption⟩
    · obtain ⟨a, b⟩ := findL_mem h
      exact ⟨List.mem_cons_of_mem _ a, b⟩
theorem valX_l (f : Le → PyData) : ∀ (L : List Le) (k : List Key), valX (lX f L) k = (findL L k).map fun e => .d (f e)
  | [], _ => rfl
  | e :: L, k => by
    show (if leK e = k then some (Xv.d (f e)) else valX (lX f L) k) = (if leK e = k then some e else findL L k).map _
    rw [valX_l f L k]
    split <;> rfl
theorem leK_set (k : List Key) (v : Int) (e : Le) : leK (if leK e = k then { e with rest := v } else e) = leK e := by split <;> rfl
theorem putX_set {f : Le → PyData} {L : List Le} {k : List Key} {v : Int} {y : PyData} (hf : ∀ e ∈ L, leK e = k → f { e with rest := v } = y) (hk : ∃ e ∈ L, leK e = k) : putX (lX f L) k (.d y) = lX f (setR L k v) := by
  unfold putX
  rw [any_lX]
  obtain ⟨e, he, ek⟩ := hk
  rw [if_pos (List.any_eq_true.mpr ⟨e, he, decide_eq_true ek⟩)]
  unfold lX setR
  rw [List.map_map, List.map_map]
  refine List.map_congr_left fun x hx => ?_
  show (if leK x = k then (leK x, Xv.d y) else (leK x, Xv.d (f x))) = (leK (if leK x = k then { x with rest := v } else x), Xv.d (f (if leK x = k then { x with rest := v } else x)))
  rw [leK_set]
  split
  · rename_i c; rw [hf x hx c]
  · rfl
theorem lX_set {f : Le → PyData} {L : List Le} {k : List Key} {v : Int} (hf : ∀ e : Le, f { e with rest := v } = f e) : lX f (setR L k v) = lX f L := by
  unfold lX setR
  rw [List.map_map]
  refine List.map_congr_left fun x hx => ?_
  show (leK (if leK x = k then { x with rest := v } else x), Xv.d (f (if leK x = k then { x with rest := v } else x))) = _
  rw [leK_set]
  split
  · rw [hf]
  · rfl
theorem putL_keys (L : List Le) (e : Le) : (putL L e).map leK = if (L.any fun x => decide (leK x = leK e)) = true then L.map leK else L.map leK ++ [leK e] := by
  unfold putL
  split
  · rw [List.map_map]
    refine List.map_congr_left fun x _ => ?_
    show leK (if leK x = leK e then e else x) = leK x
    split
    · rename_i c; rw [c]
    · rfl
  · rw [List.map_append]; rfl
theorem setR_keys (L : List Le) (k : List Key) (v : Int) : (setR L k v).map leK = L.map leK := by
  unfold setR
  rw [List.map_map]
  exact List.map_congr_left fun x _ => leK_set k v x
theorem putL_nd {L : List Le} {e : Le} (h : (L.map leK).Nodup) : ((putL L e).map leK).Nodup := by
  rw [putL_keys]
  split
  · exact h
  · rename_i c
    rw [List.nodup_append]
    refine ⟨h, by simp, fun a ha b hb z => ?_⟩
    rw [List.mem_singleton.mp hb] at z
    subst z
    obtain ⟨x, hx, ex⟩ := List.mem_map.mp ha
    exact c (List.any_eq_true.mpr ⟨x, hx, decide_eq_true ex⟩)
theorem putL_len (L : List Le) (e : Le) : (putL L e).length ≤ L.length + 1 := by
  unfold putL
  split <;> simp
theorem setR_len (L : List Le) (k : List Key) (v : Int) : (setR L k v).length = L.length := List.length_map _
theorem putS_len (h : Held) (g : Str) (v : Int) : (putS h g v).length ≤ h.length + 1 := by
  unfold putS
  split <;> simp
theorem nd_eq : ∀ {L : List Le}, (L.map leK).Nodup → ∀ a ∈ L, ∀ b ∈ L, leK a = leK b → a = b
  | x :: L, nd, a, ha, b, hb, e => by
    rw [List.map_cons, List.nodup_cons] at nd
    rcases List.mem_cons.mp ha with q1 | h1
    · rcases List.mem_cons.mp hb with q2 | h2
      · rw [q1, q2]
      · exact absurd (List.mem_map.mpr ⟨b, h2, by rw [← e, q1]⟩) nd.1
    · rcases List.mem_cons.mp hb with q2 | h2
      · exact absurd (List.mem_map.mpr ⟨a, h1, by rw [e, q2]⟩) nd.1
      · exact nd_eq nd.2 a h1 b h2 e
theorem findL_some : ∀ {L : List Le} {k : List Key}, k ∈ L.map leK → ∃ e, findL L k = some e
  | x :: L, k, h => by
    unfold findL
    by_cases c : leK x = k
    · rw [if_pos c]; exact ⟨x, rfl⟩
    · rw [if_neg c]
      rw [List.map_cons] at h
      rcases List.mem_cons.mp h with z | z
      · exact absurd z.symm c
      · exact findL_some z
theorem keys_ky (a : Str) (i : Int) : keysX (dX [.str a, .int i]) = some [.inr a, .inl i] := rfl
end K31

set_option Elab.async false
set_option linter.all false
set_option maxRecDepth 100000
set_option maxHeartbeats 8000000
namespace K31
open PySem PySem.Spec PyProof.Rows L2 G
variable {P : Program} {w : World} {K : PySem.W.Frag} {mg : Str → Option Value} {base : Heap} {k : Nat}
/-! ### readings that pass through -/
def Ev (r : RE) (σ : Sl) (M : Sto) (x : Xv) : Prop := ∀ P : Xv → Sto → Prop, P x M → r σ M P
def EvF (r : RF) (σ : Sl) (M : Sto) (xs : List Xv) : Prop := ∀ P : List Xv → Sto → Prop, P xs M → r σ M P
def EvK (r : RK) (σ : Sl) (M : Sto) (ks : List Key) : Prop := ∀ P : List Key → Sto → Prop, P ks M → r σ M P
section
variable {σ : Sl} {M : Sto}
theorem Ev.var {i : Nat} {x : Xv} (h : slot σ i = some x) : Ev (rVar i) σ M x := fun P p => by unfold rVar; rw [h]; exact p
theorem Ev.c (d : PyData) : Ev (rC d) σ M (.d d) := fun P p => p
theorem Ev.bin {g : G2} {ra rb : RE} {x y z : Xv} (ha : Ev ra σ M x) (hb : Ev rb σ M y) (hg : ∀ P : Xv → Sto → Prop, P z M → g x y M P) : Ev (rBin g ra rb) σ M z := fun P p => ha _ (hb _ (hg _ p))
theorem EvF.nil : EvF rNil σ M [] := fun P p => p
theorem EvF.cons {ra : RE} {rr : RF} {x : Xv} {xs : List Xv} (ha : Ev ra σ M x) (hr : EvF rr σ M xs) : EvF (rCons ra rr) σ M (x :: xs) := fun P p => ha _ (hr _ p)
theorem Ev.lstD {rs : RF} {ds : List PyData} (h : EvF rs σ M (dX ds)) (hl : ds.length ≤ 10000) : Ev (rD (rLst rs)) σ M (.d (.list ds)) := fun P p => h _ ⟨by rw [show (dX ds).length = ds.length from List.length_map ..]; exact small hl, by show ifS (fzL M (dX ds)) _; rw [fzL_dX]; exact p⟩
theorem EvK.tup {rs : RF} {xs : List Xv} {ks : List Key} (h : EvF rs σ M xs) (hl : xs.length ≤ 10000) (e : keysX xs = some ks) : EvK (rKt rs) σ M ks := fun P p => h _ ⟨small hl, by show ifS (keysX xs) _; rw [e]; exact p⟩
theorem EvK.cell {i j : Nat} {xs : List Xv} {ks : List Key} (h : slot σ i = some (.c j)) (em : M[j]? = some (.tup xs)) (e : keysX xs = some ks) : EvK (rKc (rVar i)) σ M ks := fun P p => by
  unfold rKc
  refine Ev.var h _ ?_
  simp only [em]
  rw [e]
  exact p
theorem Ev.ixT {ro : RE} {rk : RK} {o : Xv} {ks : List Key} {kvs : List (List Key × Xv)} {z : Xv} (ho : Ev ro σ M o) (hk : EvK rk σ M ks) (hd_ : hd M o = .dit kvs) (e : valX kvs ks = some z) : Ev (G.rIxT ro rk) σ M z := fun P p => by
  unfold G.rIxT
  refine ho _ (hk _ ?_)
  rw [hd_]
  show ifS (valX kvs ks) _
  rw [e]
  exact p
theorem Ev.get {ro rk : RE} {o : Xv} {kvs : List (PyData × Xv)} {g : Str} {d : PyData} {z : Xv} (ho : Ev ro σ M o) (hk : Ev rk σ M (.d (.str g))) (hd_ : hd M o = .dic kvs) (e : (dget kvs (.str g)).getD (.d d) = z) : Ev (rGet2 ro rk (rC d)) σ M z := fun P p => by
  unfold rGet2
  refine ho _ ⟨isDic_of hd_, hk _ ?_⟩
  show gGet o (.d (.str g)) (.d d) M P
  rw [gGet_s hd_, e]
  exact p
theorem Ev.fld {C : Addr} {f : Str} {i j : Nat} {fs : List (Str × Xv)} {z : Xv} (h : slot σ i = some (.c j)) (em : M[j]? = some (.ins C fs)) (e : fs.lookup f = some z) : Ev (rFld C f (rVar i)) σ M z := fun P p => by
  unfold rFld
  refine Ev.var h _ ?_
  have : insAt C M (.c j) = some (j, fs) := by simp only [insAt, em, if_true]
  rw [this]
  show ifS (fs.lookup f) _
  rw [e]
  exact p
theorem asg_ev {r : RE} {g : RG} {x : Xv} {P : Out → Sto → Prop} (h : Ev r σ M x) (q : g x σ M fun σ1 M2 => P (.nx σ1) M2) : rAsg r g σ M P := h _ q
theorem Ev.app {g : GL} {rs : RF} {xs : List Xv} {z : Xv} (h : EvF rs σ M xs) (hg : ∀ P : Xv → Sto → Prop, P z M → g xs M P) : Ev (rApp g rs) σ M z := fun P p => h _ (hg _ p)
theorem subT_ev {ro : RE} {rk : RK} {j : Nat} {ks : List Key} {x : Xv} {kvs : List (List Key × Xv)} {P : Sl → Sto → Prop} (ho : Ev ro σ M (.c j)) (hk : EvK rk σ M ks) (em : M[j]? = some (.dit kvs)) (hl : kvs.length ≤ 10000) (q : P σ (M.set j (.dit (putX kvs ks x)))) : rgSubT ro rk x σ M P := by
  unfold rgSubT
  refine ho _ (hk _ ?_)
  unfold gSetT
  simp only [em]
  exact ⟨by rw [sizeLine_eq]; omega, q⟩
theorem sub_ev {ro ri : RE} {j : Nat} {g : Str} {x : Xv} {kvs : List (Key × Xv)} {P : Sl → Sto → Prop} (ho : Ev ro σ M (.c j)) (hi : Ev ri σ M (.d (.str g))) (em : M[j]? = some (.dic kvs)) (hl : kvs.length ≤ 10000) (q : P σ (M.set j (.dic (putX kvs (.inr g) x)))) : rgSub ro ri x σ M P := by
  unfold rgSub
  refine ho _ (hi _ ?_)
  unfold gSet
  simp only [em]
  show ifS (keyOf (.str g)) _
  exact ⟨by rw [sizeLine_eq]; omega, q⟩
end
theorem gMin3_i (i j l : Int) (M : Sto) (P : Xv → Sto → Prop) (p : P (.d (.int (min (min i j) l))) M) : gMin3 [.d (.int i), .d (.int j), .d (.int l)] M P := p
/-! ### an instance of Title in the store -/
def flds (p : Nat) : List (Str × Xv) := [("held", .c (p + 1)), ("left", .c (p + 2)), ("takers", .c (p + 3))]
def tM (C : Addr) (A : Sto) (h : Held) (L : List Le) (B : Sto) : Sto := A ++ (.ins C (flds A.length) :: .dic (hX h) :: .dit (lX resD L) :: .dit (lX tkrD L) :: B)
theorem getA {A R : Sto} (j : Nat) : (A ++ R)[A.length + j]? = R[j]? := by rw [List.getElem?_append_right (Nat.le_add_right _ _), Nat.add_sub_cancel_left]
theorem getA0 {A R : Sto} : (A ++ R)[A.length]? = R[0]? := by rw [List.getElem?_append_right (Nat.le_refl _), Nat.sub_self]
theorem setA {A R : Sto} (j : Nat) (o : Ob) : (A ++ R).set (A.length + j) o = A ++ R.set j o := by rw [List.set_append_right _ _ (Nat.le_add_right _ _), Nat.add_sub_cancel_left]
section
variable {C : Addr} {A B : Sto} {h h' : Held} {L L' : List Le}
theorem t0 : (tM C A h L B)[A.length]? = some (.ins C (flds A.length)) := getA0
theorem t1 : (tM C A h L B)[A.length + 1]? = some (.dic (hX h)) := getA 1
theorem t2 : (tM C A h L B)[A.length + 2]? = some (.dit (lX resD L)) := getA 2
theorem t3 : (tM C A h L B)[A.length + 3]? = some (.dit (lX tkrD L)) := getA 3
theorem hd_dic {M : Sto} {j : Nat} {kvs : List (Key × Xv)} (e : M[j]? = some (.dic kvs)) : hd M (.c j) = .dic (kvs.map fun p => (kD p.1, p.2)) := by simp only [hd, e]
theorem hd_dit {M : Sto} {j : Nat} {kvs : List (List Key × Xv)} (e : M[j]? = some (.dit kvs)) : hd M (.c j) = .dit kvs := by simp only [hd, e]
theorem hd1 : hd (tM C A h L B) (.c (A.length + 1)) = .dic (hP h) := by rw [hd_dic t1, hP_of]
theorem hd2_ : hd (tM C A h L B) (.c (A.length + 2)) = .dit (lX resD L) := hd_dit t2
theorem hd3_ : hd (tM C A h L B) (.c (A.length + 3)) = .dit (lX tkrD L) := hd_dit t3
theorem st1 : (tM C A h L B).set (A.length + 1) (.dic (hX h')) = tM C A h' L B := setA 1 _
theorem st2 (e : lX tkrD L' = lX tkrD L) : (tM C A h L B).set (A.length + 2) (.dit (lX resD L')) = tM C A h L' B := by
  unfold tM
  rw [setA 2, e]; rfl
theorem tB (x : Ob) : tM C A h L B ++ [x] = tM C A h L (B ++ [x]) := by
  unfold tM
  rw [List.append_assoc]; rfl
theorem tlen : (tM C A h L B).length = A.length + 4 + B.length := by
  unfold tM
  rw [List.length_append]
  simp only [List.length_cons]
  omega
theorem tlast (x : Ob) : (tM C A h L (B ++ [x]))[A.length + 4 + B.length]? = some x := by
  unfold tM
  rw [Nat.add_assoc, getA]
  rw [show 4 + B.length = B.length + 4 by omega]
  have : (B ++ [x])[B.length]? = some x := by simp
  exact this
theorem f1 : List.lookup ("held" : Str) (flds A.length) = some (Xv.c (A.length + 1)) := rfl
theorem f2 : List.lookup ("left" : Str) (flds A.length) = some (Xv.c (A.length + 2)) := rfl
theorem f3 : List.lookup ("takers" : Str) (flds A.length) = some (Xv.c (A.length + 3)) := rfl
end
def pf_move (C : Addr) : PF := fun xs M R => ∃ (A : Sto) (h : Held) (L : List Le) (B : Sto) (g : Str) (n size : Int), xs = [.c A.length, .d (.str g), .d (.int n), .d (.int size)] ∧ M = tM C A h L B ∧ [.inr g, .inl n] ∈ L.map leK ∧ (L.map leK).Nodup ∧ h.length ≤ 1000 ∧ L.length ≤ 1000 ∧
  ∀ B' : Sto, R (.d .none) (tM C A (moveV (h, L) g n size).1 (moveV (h, L) g n size).2 (B ++ B'))
theorem ok_move (D : MethOk K (He.ga K "Title") "move" "Title.move" ["self", "giver", "number", "size"] (defArgs s_Title_move) (defBody s_Title_move) (defScope s_Title_move)) (Z : Fx K mg base) : MCal P w K mg base (k + 1) (He.ga K "Title") "move" ["self", "giver", "number", "size"] (pf_move (He.ga K "Title")) := by
  refine MCal.mk_ D sc_Title_move (sd_Title_move Z) (fun xs M R ⟨_, _, _, _, _, _, _, e, _⟩ => by rw [e]; rfl) (fun xs M R hp => ?_)
  obtain ⟨A, h, L, B, g, n, size, rfl, rfl, hk, nd, hl, ll, hp⟩ := hp
  generalize He.ga K "Title" = C at hp ⊢
  obtain ⟨e, he⟩ := findL_some hk
  obtain ⟨em, ek⟩ := findL_mem he
  have hp := hp [.tup [.d (.str g), .d (.int n)]]
  unfold moveV at hp
  simp only [he] at hp
  unfold b_Title_move
  refine seq_step ?_
  simp only [rAsg, rTupC, rCons, rNil, rVar, rgName, N_Title_move, startX, slot_z, slot_s, set_z, set_s, List.length_cons, List.length_nil, List.map_cons, List.map_nil, List.replicate, List.cons_append, List.nil_append]
  refine ⟨by decide, ?_⟩
  rw [tB, tlen]
  obtain ⟨kt, ekt⟩ : ∃ kt : Ob, Ob.tup [.d (.str g), .d (.int n)] = kt := ⟨_, rfl⟩
  rw [ekt] at hp ⊢
  have kc : ∀ (σ : Sl) (h : Held) (L : List Le), slot σ 4 = some (.c (A.length + 4 + B.length)) → EvK (rKc (rVar 4)) σ (tM C A h L (B ++ [kt])) [.inr g, .inl n] := fun σ h L s4 => EvK.cell (xs := [.d (.str g), .d (.int n)]) s4 (by rw [tlast, ← ekt]) (keys_ky g n)
  have lf : ∀ (σ : Sl) (h : Held), slot σ 0 = some (.c A.length) → slot σ 4 = some (.c (A.length + 4 + B.length)) → Ev (G.rIxT (rFld C "left" (rVar 0)) (rKc (rVar 4))) σ (tM C A h L (B ++ [kt])) (.d (.int e.rest)) := fun σ h s0 s4 => Ev.ixT (Ev.fld s0 t0 f2) (kc σ h L s4) hd2_ (by rw [valX_l, he]; rfl)
  have tk : ∀ (σ : Sl) (h : Held), slot σ 0 = some (.c A.length) → slot σ 4 = some (.c (A.length + 4 + B.length)) → Ev (G.rIxT (rFld C "takers" (rVar 0)) (rKc (rVar 4))) σ (tM C A h L (B ++ [kt])) (.d (.str e.taker)) := fun σ h s0 s4 => Ev.ixT (Ev.fld s0 t0 f3) (kc σ h L s4) hd3_ (by rw [valX_l, he]; rfl)
  have gt : ∀ (σ : Sl) (h : Held) (L : List Le) (B : Sto) (i : Nat) (x : Str), slot σ 0 = some (.c A.length) → slot σ i = some (.d (.str x)) → Ev (rGet2 (rFld C "held" (rVar 0)) (rVar i) (rC (.int 0))) σ (tM C A h L B) (.d (.int (getS h x))) := fun σ h L B i x s0 si => Ev.get (Ev.fld s0 t0 f1) (Ev.var si) hd1 (dget_S h x)
  have kx : ∃ x ∈ L, leK x = [.inr g, .inl n] := ⟨e, em, ek⟩
  obtain ⟨a, ea⟩ : ∃ a, min (min size e.rest) (getS h g) = a := ⟨_, rfl⟩
  rw [ea] at hp
  refine seq_step (asg_ev (x := .d (.int a)) (Ev.app (EvF.cons (Ev.var rfl) (EvF.cons (lf _ h rfl rfl) (EvF.cons (gt _ h L _ 1 g rfl rfl) EvF.nil))) fun P p => gMin3_i _ _ _ _ _ (by rw [ea]; exact p)) ?_)
  refine seq_step (asg_ev (tk _ h rfl rfl) ?_)
  refine seq_step (asg_ev (x := .d (.int (e.rest - a))) (Ev.bin (lf _ h rfl rfl) (Ev.var rfl) fun P p => by rw [gSub_ii]; exact p) (subT_ev (Ev.fld rfl t0 f2) (kc _ h L rfl) t2 (by unfold lX; rw [List.length_map]; omega) ?_))
  rw [putX_set (f := resD) (v := e.rest - a) (fun _ _ _ => rfl) kx, st2 (lX_set fun _ => rfl)]
  refine seq_step (asg_ev (x := .d (.int (getS h g - a))) (Ev.bin (gt _ h _ _ 1 g rfl rfl) (Ev.var rfl) fun P p => by rw [gSub_ii]; exact p) (sub_ev (Ev.fld rfl t0 f1) (Ev.var rfl) t1 (by unfold hX; rw [List.length_map]; omega) ?_))
  rw [putX_h, st1]
  refine asg_ev (x := .d (.int (getS (putS h g (getS h g - a)) e.taker + a))) (Ev.bin (gt _ (putS h g (getS h g - a)) _ _ 5 e.taker rfl rfl) (Ev.var rfl) fun P p => by rw [gAdd_ii]; exact p) (sub_ev (Ev.fld rfl t0 f1) (Ev.var rfl) t1 (by have := putS_len h g (getS h g - a); unfold hX; rw [List.length_map]; omega) ?_)
  rw [putX_h, st1]
  exact hp
end K31

set_option Elab.async false
set_option linter.all false
set_option maxRecDepth 100000
set_option maxHeartbeats 8000000
namespace K31
open PySem PySem.Spec PyProof.Rows L2 G
variable {P : Program} {w : World} {K : PySem.W.Frag} {mg : Str → Option Value} {base : Heap} {k : Nat}
/-! ### titles, plain -/
def stepT (nm : Str) (day : Int) (L : List Le) (t : Tr) : List Le := if t.app = nm ∧ t.told ≤ day then putL L ⟨t.giver, t.n, t.taker, t.size⟩ else L
def stepR (nm : Str) (day : Int) (q : Held × List Le) (r : Rg) : Held × List Le := if r.app = nm ∧ r.day ≤ day then moveV q r.giver r.n r.size else q
def leftV (T : List Tr) (nm : Str) (day : Int) : List Le := T.foldl (stepT nm day) []
def titleV (own : Str) (T : List Tr) (R : List Rg) (nm : Str) (day : Int) : Held × List Le := R.foldl (stepR nm day) ([(own, 1000)], leftV T nm day)
structure RegOk (T : List Tr) (R : List Rg) : Prop where
  tl : T.length ≤ 16
  rl : R.length ≤ 30
  of : ∀ r ∈ R, ∃ t ∈ T, t.app = r.app ∧ t.giver = r.giver ∧ t.n = r.n ∧ t.told ≤ r.day
  st : ∀ t ∈ T, PyData.strOk t.taker = true
  sg : ∀ r ∈ R, PyData.strOk r.giver = true
theorem moveV_keys (q : Held × List Le) (g : Str) (n size : Int) : (moveV q g n size).2.map leK = q.2.map leK := by
  unfold moveV
  split
  · rfl
  · exact setR_keys _ _ _
theorem moveV_len (q : Held × List Le) (g : Str) (n size : Int) : (moveV q g n size).1.length ≤ q.1.length + 2 ∧ (moveV q g n size).2.length = q.2.length := by
  unfold moveV
  split
  · exact ⟨by omega, rfl⟩
  · rename_i e he
    refine ⟨?_, setR_len _ _ _⟩
    have h1 := putS_len q.1 g (getS q.1 g - min (min size e.rest) (getS q.1 g))
    have h2 := putS_len (putS q.1 g (getS q.1 g - min (min size e.rest) (getS q.1 g))) e.taker (getS (putS q.1 g (getS q.1 g - min (min size e.rest) (getS q.1 g))) e.taker + min (min size e.rest) (getS q.1 g))
    simp only at h1 h2 ⊢
    omega
theorem putL_mem (L : List Le) (e : Le) : leK e ∈ (putL L e).map leK := by
  rw [putL_keys]
  split
  · rename_i c
    obtain ⟨x, hx, ex⟩ := List.any_eq_true.mp c
    exact List.mem_map.mpr ⟨x, hx, of_decide_eq_true ex⟩
  · simp
theorem putL_mono {L : List Le} {e : Le} {q : List Key} (h : q ∈ L.map leK) : q ∈ (putL L e).map leK := by
  rw [putL_keys]
  split
  · exact h
  · exact List.mem_append_left _ h
theorem foldT_mono {nm : Str} {day : Int} {q : List Key} : ∀ {T : List Tr} {L : List Le}, q ∈ L.map leK → q ∈ (T.foldl (stepT nm day) L).map leK
  | [], _, h => h
  | t :: T, L, h => by
    refine foldT_mono (T := T) (L := stepT nm day L t) ?_
    unfold stepT
    split
    · exact putL_mono h
    · exact h
theorem foldT_mem {nm : Str} {day : Int} : ∀ {T : List Tr} {L : List Le}, ∀ t ∈ T, t.app = nm ∧ t.told ≤ day → [.inr t.giver, .inl t.n] ∈ (T.foldl (stepT nm day) L).map leK
  | x :: T, L, t, ht, c => by
    rcases List.mem_cons.mp ht with rfl | h
    · refine foldT_mono (T := T) (L := stepT nm day L t) ?_
      unfold stepT
      rw [if_pos c]
      exact putL_mem L ⟨t.giver, t.n, t.taker, t.size⟩
    · exact foldT_mem (T := T) (L := stepT nm day L x) t h c
theorem foldT_nd {nm : Str} {day : Int} : ∀ {T : List Tr} {L : List Le}, (L.map leK).Nodup → ((T.foldl (stepT nm day) L).map leK).Nodup
  | [], _, h => h
  | t :: T, L, h => by
    refine foldT_nd (T := T) (L := stepT nm day L t) ?_
    unfold stepT
    split
    · exact putL_nd h
    · exact h
theorem foldT_len {nm : Str} {day : Int} : ∀ {T : List Tr} {L : List Le}, (T.foldl (stepT nm day) L).length ≤ L.length + T.length
  | [], L => Nat.le_refl _
  | t :: T, L => by
    have h := foldT_len (nm := nm) (day := day) (T := T) (L := stepT nm day L t)
    have h2 : (stepT nm day L t).length ≤ L.length + 1 := by
      unfold stepT
      split
      · exact putL_len _ _
      · omega
    show (T.foldl (stepT nm day) (stepT nm day L t)).length ≤ _
    rw [List.length_cons]; omega
theorem leftV_key {T : List Tr} {R : List Rg} (g : RegOk T R) {nm : Str} {day : Int} {r : Rg} (hr : r ∈ R) (c : r.app = nm ∧ r.day ≤ day) : [.inr r.giver, .inl r.n] ∈ (leftV T nm day).map leK := by
  obtain ⟨t, ht, e1, e2, e3, e4⟩ := g.of r hr
  rw [← e2, ← e3]
  exact foldT_mem t ht ⟨e1.trans c.1, by omega⟩
theorem foldR_len {nm : Str} {day : Int} : ∀ {R : List Rg} {q : Held × List Le}, (R.foldl (stepR nm day) q).1.length ≤ q.1.length + 2 * R.length
  | [], q => by simp
  | r :: R, q => by
    have h := foldR_len (nm := nm) (day := day) (R := R) (q := stepR nm day q r)
    have h2 : (stepR nm day q r).1.length ≤ q.1.length + 2 := by
      unfold stepR
      split
      · exact (moveV_len _ _ _ _).1
      · omega
    show (R.foldl (stepR nm day) (stepR nm day q r)).1.length ≤ _
    rw [List.length_cons]; omega
/-! ### the law's move -/
def lM (A : Sto) (h : Held) (L : List Le) (B : Sto) : Sto := A ++ (.dic (hX h) :: .dit (lX lwD L) :: B)
section
variable {A B : Sto} {h h' : Held} {L L' : List Le}
theorem l0 : (lM A h L B)[A.length]? = some (.dic (hX h)) := getA0
theorem l1 : (lM A h L B)[A.length + 1]? = some (.dit (lX lwD L)) := getA 1
theorem hdl0 : hd (lM A h L B) (.c A.length) = .dic (hP h) := by rw [hd_dic l0, hP_of]
theorem hdl1 : hd (lM A h L B) (.c (A.length + 1)) = .dit (lX lwD L) := hd_dit l1
theorem sl0 : (lM A h L B).set A.length (.dic (hX h')) = lM A h' L B := setA 0 _
theorem sl1 : (lM A h L B).set (A.length + 1) (.dit (lX lwD L')) = lM A h L' B := setA 1 _
end
def pf_lmove : PF := fun xs M R => ∃ (A : Sto) (h : Held) (L : List Le) (B : Sto) (g : Str) (n size : Int), xs = [.c A.length, .c (A.length + 1), .d (.tuple [.str g, .int n, .int size])] ∧ M = lM A h L B ∧ [.inr g, .inl n] ∈ L.map leK ∧ (L.map leK).Nodup ∧ h.length ≤ 1000 ∧ L.length ≤ 1000 ∧
  R (.d .none) (lM A (moveV (h, L) g n size).1 (moveV (h, L) g n size).2 B)
theorem ok_lmove (D : DefOk K mg "_law_move" ["held", "left", "step"] (defArgs s__law_move) (defBody s__law_move) (defScope s__law_move)) (Z : Fx K mg base) : Cal P w K mg base (k + 1) "_law_move" ["held", "left", "step"] pf_lmove := by
  refine Cal.mk_ D sc__law_move (sd__law_move Z) (fun xs M R ⟨_, _, _, _, _, _, _, e, _⟩ => by rw [e]; rfl) (fun xs M R hp => ?_)
  obtain ⟨A, h, L, B, g, n, size, rfl, rfl, hk, nd, hl, ll, hp⟩ := hp
  obtain ⟨e, he⟩ := findL_some hk
  obtain ⟨em, ek⟩ := findL_mem he
  unfold moveV at hp
  simp only [he] at hp
  obtain ⟨a, ea⟩ : ∃ a, min (min size e.rest) (getS h g) = a := ⟨_, rfl⟩
  rw [ea] at hp
  unfold b__law_move
  refine seq_step ?_
  simp only [startX, rAsg, rgName, rVar, rC, rBin, rD, rCl, rFz, rTb, rTr, rIf, rIfS, rRet, rRetN, rNx, rCons, rNil, rTup, rTupC, rLst, rApp, rAppF, rCall, rPar, rNeg, rNot, rAnd, rOr, rChain, rLc, riSeq, rYes, rDrop, rFor, rApd, rExt, rgTup, rgCons, rgNil, rgSub, rIsiX, riRng1, riRng2, slot_z, slot_s, set_z, set_s, at0, at1, at2, at3, at4, at5, at6, dX_c, dX_n, gIx_tup, gIx_lst, gEq_ii, gEq_ss, gNe_ii, gNe_ss, gAdd_ii, gSub_ii, gLt_ii, gLe_ii, gGt_ii, gGe_ii, gIsN_d, gLen_l, gMax_ii, gMin_ii, gInt_b, gInt_i, gAbs_i, gApd_last, isLst_last, boX_b, tru_l, fzL_dX, fzL_n, fzL_cd, Option.map_some, fz_d, pk_d, ifS_some, hd_int, hd_str, hd_bool, hd_none, hd_list, hd_tuple, wipeX, List.map_cons, List.map_nil, List.length_cons, List.length_nil, List.replicate_succ, List.replicate_zero, List.cons_append, List.nil_append, List.append_nil, decide_eq_true_eq, if_true, if_false, Nat.reduceAdd, Nat.reduceSub, Nat.reduceLeDiff, Nat.zero_add, Nat.sub_zero, N__law_move]
  have kc : ∀ (σ : Sl) (M : Sto), slot σ 3 = some (.d (.str g)) → slot σ 4 = some (.d (.int n)) → EvK (rKt (rCons (rVar 3) (rCons (rVar 4) (rNil)))) σ M [.inr g, .inl n] := fun σ M s3 s4 => EvK.tup (xs := [.d (.str g), .d (.int n)]) (EvF.cons (Ev.var s3) (EvF.cons (Ev.var s4) EvF.nil)) (by simp) (keys_ky g n)
  have gt : ∀ (σ : Sl) (h : Held) (L : List Le) (i : Nat) (x : Str), slot σ 0 = some (.c A.length) → slot σ i = some (.d (.str x)) → Ev (rGet2 (rVar 0) (rVar i) (rC (.int 0))) σ (lM A h L B) (.d (.int (getS h x))) := fun σ h L i x s0 si => Ev.get (Ev.var s0) (Ev.var si) hdl0 (dget_S h x)
  have kx : ∃ x ∈ L, leK x = [.inr g, .inl n] := ⟨e, em, ek⟩
  refine ⟨trivial, ?_⟩
  refine seq_step (asg_ev (x := .d (lwD e)) (Ev.ixT (Ev.var rfl) (kc _ _ rfl rfl) hdl1 (by rw [valX_l, he]; rfl)) ?_)
  refine ⟨rfl, ?_⟩
  simp only [dX_c, dX_n, rgCons, rgNil, rgName, set_z, set_s]
  refine seq_step (asg_ev (x := .d (.int a)) (Ev.app (EvF.cons (Ev.var rfl) (EvF.cons (Ev.var rfl) (EvF.cons (gt _ h L 3 g rfl rfl) EvF.nil))) fun P p => gMin3_i size e.rest _ _ _ (by rw [ea]; exact p)) ?_)
  refine seq_step (asg_ev (x := .d (.list [.str e.taker, .int (e.rest - a)])) (Ev.lstD (EvF.cons (Ev.var rfl) (EvF.cons (Ev.bin (x := .d (.int e.rest)) (y := .d (.int a)) (Ev.var rfl) (Ev.var rfl) fun P p => by rw [gSub_ii]; exact p) EvF.nil)) (by simp)) (subT_ev (Ev.var rfl) (kc _ _ rfl rfl) l1 (by unfold lX; rw [List.length_map]; omega) ?_))
  rw [putX_set (f := lwD) (v := e.rest - a) (fun x hx ex => by rw [nd_eq nd x hx e em (ex.trans ek.symm)]; rfl) kx, sl1]
  refine seq_step (asg_ev (x := .d (.int (getS h g - a))) (Ev.bin (gt _ h _ 3 g rfl rfl) (Ev.var rfl) fun P p => by rw [gSub_ii]; exact p) (sub_ev (Ev.var rfl) (Ev.var rfl) l0 (by unfold hX; rw [List.length_map]; omega) ?_))
  rw [putX_h, sl0]
  refine asg_ev (x := .d (.int (getS (putS h g (getS h g - a)) e.taker + a))) (Ev.bin (gt _ (putS h g (getS h g - a)) _ 6 e.taker rfl rfl) (Ev.var rfl) fun P p => by rw [gAdd_ii]; exact p) (sub_ev (Ev.var rfl) (Ev.var rfl) l0 (by have := putS_len h g (getS h g - a); unfold hX; rw [List.length_map]; omega) ?_)
  rw [putX_h, sl0]
  exact hp
end K31

set_option Elab.async false
set_option linter.all false
set_option maxRecDepth 100000
set_option maxHeartbeats 8000000
namespace K31
open PySem PySem.Spec PyProof.Rows L2 G
variable {P : Program} {w : World} {K : PySem.W.Frag} {mg : Str → Option Value} {base : Heap} {k : Nat}
/-! ### the law's title -/
structure Is2 (s : PyData) (T : List Tr) (R : List Rg) : Prop where
  ft : fldD s "transfers" = some (.list (T.map trD))
  fr : fldD s "registered" = some (.list (R.map rgD))
theorem hd_t (t : Tr) (M : Sto) : hd M (.d (trD t)) = .tup [.d (.str t.app), .d (.str t.giver), .d (.str t.taker), .d (.int t.size), .d (.int t.n), .d (.int t.told)] := rfl
theorem hd_r (t : Rg) (M : Sto) : hd M (.d (rgD t)) = .tup [.d (.str t.app), .d (.str t.giver), .d (.int t.n), .d (.int t.size), .d (.int t.day)] := rfl
theorem gSet_dA {A R : Sto} {kvs : List (Key × Xv)} {g : Str} {x : Xv} {Q : Sto → Prop} (hl : kvs.length ≤ 10000) (q : Q (A ++ (.dic (putX kvs (.inr g) x) :: R))) : gSet (.c A.length) (.d (.str g)) x (A ++ (.dic kvs :: R)) Q := by
  unfold gSet
  have e : (A ++ (Ob.dic kvs :: R))[A.length]? = some (.dic kvs) := getA0
  simp only [e]
  show ifS (keyOf (.str g)) _
  refine ⟨by rw [sizeLine_eq]; omega, ?_⟩
  rw [show (A ++ (Ob.dic kvs :: R)).set A.length (.dic (putX kvs (.inr g) x)) = A ++ (.dic (putX kvs (.inr g) x) :: R) from setA 0 _]
  exact q
theorem gIx_a3 (a : App) (M : Sto) (P : Xv → Sto → Prop) : gIx (.d (appD a)) (.d (.int 3)) M P = P (.d (.str a.own)) M := by simp only [appD, gIx_tup, dX_c, at3, ifS_some]
def pf_ltitle : PF := fun xs M R' => ∃ (s : PyData) (m : Sd) (nm : Str) (a : App) (day : Int) (T : List Tr) (R : List Rg), xs = [.d s, .d (.str nm), .d (.int day)] ∧ Is s m ∧ Gd m ∧ rowOf m nm = some a ∧ Is2 s T R ∧ RegOk T R ∧
  R' (.c (M.length + 2)) (M ++ [.dic (hX (titleV a.own T R nm day).1), .dit (lX lwD (titleV a.own T R nm day).2), .tup [.c M.length, .c (M.length + 1)]])
theorem ok_ltitle (D : DefOk K mg "_law_title" ["s", "name", "day"] (defArgs s__law_title) (defBody s__law_title) (defScope s__law_title)) (Z : Fx K mg base) (C1 : Cal P w K mg base k "_law_row" ["s", "name"] (pfD pd_row_of)) (C2 : Cal P w K mg base k "_law_move" ["held", "left", "step"] pf_lmove) : Cal P w K mg base (k + 1) "_law_title" ["s", "name", "day"] pf_ltitle := by
  refine Cal.mk_ D sc__law_title (sd__law_title Z C1 C2) (fun xs M R ⟨_, _, _, _, _, _, _, e, _⟩ => by rw [e]; rfl) (fun xs A R' hp => ?_)
  obtain ⟨s, m, nm, a, day, T, R, rfl, I, g, er, I2, ro, hp⟩ := hp
  have s2 : (2 : Nat) ≤ sizeLine := by decide
  have s3 : (3 : Nat) ≤ sizeLine := by decide
  obtain ⟨V, hV⟩ : ∃ V, titleV a.own T R nm day = V := ⟨_, rfl⟩
  rw [hV] at hp
  have hV : R.foldl (stepR nm day) ([(a.own, 1000)], leftV T nm day) = V := hV
  unfold b__law_title
  refine seq_step ?_
  simp only [startX, rAsg, rgName, rVar, rC, rBin, rD, rCl, rFz, rTb, rTr, rIf, rIfS, rRet, rRetN, rNx, rCons, rNil, rTup, rTupC, rLst, rApp, rAppF, rCall, rPar, rNeg, rNot, rAnd, rOr, rChain, rLc, riSeq, rYes, rDrop, rFor, rApd, rExt, rgTup, rgCons, rgNil, rgSub, rIsiX, riRng1, riRng2, slot_z, slot_s, set_z, set_s, at0, at1, at2, at3, at4, at5, at6, dX_c, dX_n, gIx_tup, gIx_lst, gEq_ii, gEq_ss, gNe_ii, gNe_ss, gAdd_ii, gSub_ii, gLt_ii, gLe_ii, gGt_ii, gGe_ii, gIsN_d, gLen_l, gMax_ii, gMin_ii, gInt_b, gInt_i, gAbs_i, gApd_last, isLst_last, boX_b, tru_l, fzL_dX, fzL_n, fzL_cd, Option.map_some, fz_d, pk_d, ifS_some, hd_int, hd_str, hd_bool, hd_none, hd_list, hd_tuple, wipeX, List.map_cons, List.map_nil, List.length_cons, List.length_nil, List.replicate_succ, List.replicate_zero, List.cons_append, List.nil_append, List.append_nil, decide_eq_true_eq, if_true, if_false, Nat.reduceAdd, Nat.reduceSub, Nat.reduceLeDiff, Nat.zero_add, Nat.sub_zero, N__law_title, rDicE]
  refine seq_step ?_
  simp only [startX, rAsg, rgName, rVar, rC, rBin, rD, rCl, rFz, rTb, rTr, rIf, rIfS, rRet, rRetN, rNx, rCons, rNil, rTup, rTupC, rLst, rApp, rAppF, rCall, rPar, rNeg, rNot, rAnd, rOr, rChain, rLc, riSeq, rYes, rDrop, rFor, rApd, rExt, rgTup, rgCons, rgNil, rgSub, rIsiX, riRng1, riRng2, slot_z, slot_s, set_z, set_s, at0, at1, at2, at3, at4, at5, at6, dX_c, dX_n, gIx_tup, gIx_lst, gEq_ii, gEq_ss, gNe_ii, gNe_ss, gAdd_ii, gSub_ii, gLt_ii, gLe_ii, gGt_ii, gGe_ii, gIsN_d, gLen_l, gMax_ii, gMin_ii, gInt_b, gInt_i, gAbs_i, gApd_last, isLst_last, boX_b, tru_l, fzL_dX, fzL_n, fzL_cd, Option.map_some, fz_d, pk_d, ifS_some, hd_int, hd_str, hd_bool, hd_none, hd_list, hd_tuple, wipeX, List.map_cons, List.map_nil, List.length_cons, List.length_nil, List.replicate_succ, List.replicate_zero, List.cons_append, List.nil_append, List.append_nil, decide_eq_true_eq, if_true, if_false, Nat.reduceAdd, Nat.reduceSub, Nat.reduceLeDiff, Nat.zero_add, Nat.sub_zero, rgSub]
  refine u_row I g er ?_
  simp only [gIx_a3]
  refine gSet_dA (by simp) ?_
  rw [show putX ([] : List (Key × Xv)) (.inr a.own) (.d (.int 1000)) = hX [(a.own, 1000)] from rfl]
  try simp only [startX, rAsg, rgName, rVar, rC, rBin, rD, rCl, rFz, rTb, rTr, rIf, rIfS, rRet, rRetN, rNx, rCons, rNil, rTup, rTupC, rLst, rApp, rAppF, rCall, rPar, rNeg, rNot, rAnd, rOr, rChain, rLc, riSeq, rYes, rDrop, rFor, rApd, rExt, rgTup, rgCons, rgNil, rgSub, rIsiX, riRng1, riRng2, slot_z, slot_s, set_z, set_s, at0, at1, at2, at3, at4, at5, at6, dX_c, dX_n, gIx_tup, gIx_lst, gEq_ii, gEq_ss, gNe_ii, gNe_ss, gAdd_ii, gSub_ii, gLt_ii, gLe_ii, gGt_ii, gGe_ii, gIsN_d, gLen_l, gMax_ii, gMin_ii, gInt_b, gInt_i, gAbs_i, gApd_last, isLst_last, boX_b, tru_l, fzL_dX, fzL_n, fzL_cd, Option.map_some, fz_d, pk_d, ifS_some, hd_int, hd_str, hd_bool, hd_none, hd_list, hd_tuple, wipeX, List.map_cons, List.map_nil, List.length_cons, List.length_nil, List.replicate_succ, List.replicate_zero, List.cons_append, List.nil_append, List.append_nil, decide_eq_true_eq, if_true, if_false, Nat.reduceAdd, Nat.reduceSub, Nat.reduceLeDiff, Nat.zero_add, Nat.sub_zero]
  refine seq_step ?_
  simp only [startX, rAsg, rgName, rVar, rC, rBin, rD, rCl, rFz, rTb, rTr, rIf, rIfS, rRet, rRetN, rNx, rCons, rNil, rTup, rTupC, rLst, rApp, rAppF, rCall, rPar, rNeg, rNot, rAnd, rOr, rChain, rLc, riSeq, rYes, rDrop, rFor, rApd, rExt, rgTup, rgCons, rgNil, rgSub, rIsiX, riRng1, riRng2, slot_z, slot_s, set_z, set_s, at0, at1, at2, at3, at4, at5, at6, dX_c, dX_n, gIx_tup, gIx_lst, gEq_ii, gEq_ss, gNe_ii, gNe_ss, gAdd_ii, gSub_ii, gLt_ii, gLe_ii, gGt_ii, gGe_ii, gIsN_d, gLen_l, gMax_ii, gMin_ii, gInt_b, gInt_i, gAbs_i, gApd_last, isLst_last, boX_b, tru_l, fzL_dX, fzL_n, fzL_cd, Option.map_some, fz_d, pk_d, ifS_some, hd_int, hd_str, hd_bool, hd_none, hd_list, hd_tuple, wipeX, List.map_cons, List.map_nil, List.length_cons, List.length_nil, List.replicate_succ, List.replicate_zero, List.cons_append, List.nil_append, List.append_nil, decide_eq_true_eq, if_true, if_false, Nat.reduceAdd, Nat.reduceSub, Nat.reduceLeDiff, Nat.zero_add, Nat.sub_zero, rDitE]
  rw [show (A ++ [Ob.dic (hX [(a.own, 1000)])]).length = A.length + 1 by simp, show A ++ [Ob.dic (hX [(a.own, 1000)])] ++ [.dit []] = lM A [(a.own, 1000)] [] [] by unfold lM; rw [List.append_assoc]; rfl]
  have tl := ro.tl
  have rl := ro.rl
  refine seq_step ?_
  simp only [startX, rAsg, rgName, rVar, rC, rBin, rD, rCl, rFz, rTb, rTr, rIf, rIfS, rRet, rRetN, rNx, rCons, rNil, rTup, rTupC, rLst, rApp, rAppF, rCall, rPar, rNeg, rNot, rAnd, rOr, rChain, rLc, riSeq, rYes, rDrop, rFor, rApd, rExt, rgTup, rgCons, rgNil, rgSub, rIsiX, riRng1, riRng2, slot_z, slot_s, set_z, set_s, at0, at1, at2, at3, at4, at5, at6, dX_c, dX_n, gIx_tup, gIx_lst, gEq_ii, gEq_ss, gNe_ii, gNe_ss, gAdd_ii, gSub_ii, gLt_ii, gLe_ii, gGt_ii, gGe_ii, gIsN_d, gLen_l, gMax_ii, gMin_ii, gInt_b, gInt_i, gAbs_i, gApd_last, isLst_last, boX_b, tru_l, fzL_dX, fzL_n, fzL_cd, Option.map_some, fz_d, pk_d, ifS_some, hd_int, hd_str, hd_bool, hd_none, hd_list, hd_tuple, wipeX, List.map_cons, List.map_nil, List.length_cons, List.length_nil, List.replicate_succ, List.replicate_zero, List.cons_append, List.nil_append, List.append_nil, decide_eq_true_eq, if_true, if_false, Nat.reduceAdd, Nat.reduceSub, Nat.reduceLeDiff, Nat.zero_add, Nat.sub_zero, gIx_fld I2.ft]
  refine loopW_inv (fun xs σ M => ∃ (rest : List Tr) (L : List Le) (o5 o6 o7 o8 o9 o10 : Option Xv), xs = dX (rest.map trD) ∧ rest.foldl (stepT nm day) L = leftV T nm day ∧ L.length + rest.length ≤ 16 ∧ M = lM A [(a.own, 1000)] L [] ∧
    σ = [some (.d s), some (.d (.str nm)), some (.d (.int day)), some (.c A.length), some (.c (A.length + 1)), o5, o6, o7, o8, o9, o10, none, none]) ?_ ?_ _ _ _ ⟨T, [], _, _, _, _, _, _, rfl, rfl, by simpa using tl, rfl, rfl⟩
  · rintro x xs σ M ⟨rest, L, o5, o6, o7, o8, o9, o10, e, ev, ll, rfl, rfl⟩ CC hC
    obtain ⟨t, rest, rfl⟩ : ∃ a r, rest = a :: r := by
      cases rest with
      | nil => cases e
      | cons a r => exact ⟨a, r, rfl⟩
    rw [List.map_cons, dX_c] at e
    cases e
    rw [List.length_cons] at ll
    have ev : rest.foldl (stepT nm day) (stepT nm day L t) = leftV T nm day := ev
    unfold stepT at ev
    refine ⟨trivial, ?_⟩
    simp only [rgTup, hd_t, List.length_cons, List.length_nil, rgCons, rgNil, rgName, set_z, set_s]
    refine ⟨trivial, ?_⟩
    obtain ⟨AA, hAA⟩ : ∃ AA, (rAsg (rD (rLst (rCons (rVar 7) (rCons (rVar 8) (rNil))))) (rgSubT (rVar 4) (rKt (rCons (rVar 6) (rCons (rVar 9) (rNil)))))) = AA := ⟨_, rfl⟩
    rw [hAA]
    simp only [startX, rAsg, rgName, rVar, rC, rBin, rD, rCl, rFz, rTb, rTr, rIf, rIfS, rRet, rRetN, rNx, rCons, rNil, rTup, rTupC, rLst, rApp, rAppF, rCall, rPar, rNeg, rNot, rAnd, rOr, rChain, rLc, riSeq, rYes, rDrop, rFor, rApd, rExt, rgTup, rgCons, rgNil, rgSub, rIsiX, riRng1, riRng2, slot_z, slot_s, set_z, set_s, at0, at1, at2, at3, at4, at5, at6, dX_c, dX_n, gIx_tup, gIx_lst, gEq_ii, gEq_ss, gNe_ii, gNe_ss, gAdd_ii, gSub_ii, gLt_ii, gLe_ii, gGt_ii, gGe_ii, gIsN_d, gLen_l, gMax_ii, gMin_ii, gInt_b, gInt_i, gAbs_i, gApd_last, isLst_last, boX_b, tru_l, fzL_dX, fzL_n, fzL_cd, Option.map_some, fz_d, pk_d, ifS_some, hd_int, hd_str, hd_bool, hd_none, hd_list, hd_tuple, wipeX, List.map_cons, List.map_nil, List.length_cons, List.length_nil, List.replicate_succ, List.replicate_zero, List.cons_append, List.nil_append, List.append_nil, decide_eq_true_eq, if_true, if_false, Nat.reduceAdd, Nat.reduceSub, Nat.reduceLeDiff, Nat.zero_add, Nat.sub_zero]
    by_cases c1 : t.app = nm
    case neg =>
      rw [if_neg c1]
      rw [if_neg (fun z => c1 z.1)] at ev
      exact hC _ _ ⟨rest, L, _, _, _, _, _, _, rfl, ev, by omega, rfl, rfl⟩
    by_cases c2 : t.told ≤ day
    case neg =>
      rw [if_pos c1, if_neg c2]
      rw [if_neg (fun z => c2 z.2)] at ev
      exact hC _ _ ⟨rest, L, _, _, _, _, _, _, rfl, ev, by omega, rfl, rfl⟩
    rw [if_pos c1, if_pos c2, ← hAA]
    rw [if_pos ⟨c1, c2⟩] at ev
    refine asg_ev (x := .d (.list [.str t.taker, .int t.size])) (Ev.lstD (EvF.cons (Ev.var rfl) (EvF.cons (Ev.var rfl) EvF.nil)) (by simp)) (subT_ev (Ev.var rfl) (EvK.tup (xs := [.d (.str t.giver), .d (.int t.n)]) (EvF.cons (Ev.var rfl) (EvF.cons (Ev.var rfl) EvF.nil)) (by simp) (keys_ky _ _)) l1 (by unfold lX; rw [List.length_map]; omega) ?_)
    rw [show putX (lX lwD L) [.inr t.giver, .inl t.n] (.d (.list [.str t.taker, .int t.size])) = lX lwD (putL L ⟨t.giver, t.n, t.taker, t.size⟩) from putX_l lwD L ⟨t.giver, t.n, t.taker, t.size⟩, sl1]
    exact hC _ _ ⟨rest, _, _, _, _, _, _, _, rfl, ev, by have := putL_len L ⟨t.giver, t.n, t.taker, t.size⟩; omega, rfl, rfl⟩
  rintro σ M ⟨rest, L, o5, o6, o7, o8, o9, o10, e, ev, ll, rfl, rfl⟩
  have e0 : rest = [] := by
    cases rest with
    | nil => rfl
    | cons a r => cases e
  subst e0
  have ev : L = leftV T nm day := ev
  subst ev
  refine ⟨trivial, ?_⟩
  refine seq_step ?_
  simp only [startX, rAsg, rgName, rVar, rC, rBin, rD, rCl, rFz, rTb, rTr, rIf, rIfS, rRet, rRetN, rNx, rCons, rNil, rTup, rTupC, rLst, rApp, rAppF, rCall, rPar, rNeg, rNot, rAnd, rOr, rChain, rLc, riSeq, rYes, rDrop, rFor, rApd, rExt, rgTup, rgCons, rgNil, rgSub, rIsiX, riRng1, riRng2, slot_z, slot_s, set_z, set_s, at0, at1, at2, at3, at4, at5, at6, dX_c, dX_n, gIx_tup, gIx_lst, gEq_ii, gEq_ss, gNe_ii, gNe_ss, gAdd_ii, gSub_ii, gLt_ii, gLe_ii, gGt_ii, gGe_ii, gIsN_d, gLen_l, gMax_ii, gMin_ii, gInt_b, gInt_i, gAbs_i, gApd_last, isLst_last, boX_b, tru_l, fzL_dX, fzL_n, fzL_cd, Option.map_some, fz_d, pk_d, ifS_some, hd_int, hd_str, hd_bool, hd_none, hd_list, hd_tuple, wipeX, List.map_cons, List.map_nil, List.length_cons, List.length_nil, List.replicate_succ, List.replicate_zero, List.cons_append, List.nil_append, List.append_nil, decide_eq_true_eq, if_true, if_false, Nat.reduceAdd, Nat.reduceSub, Nat.reduceLeDiff, Nat.zero_add, Nat.sub_zero, gIx_fld I2.fr]
  have nd : ((leftV T nm day).map leK).Nodup := foldT_nd (by simp)
  have lv : (leftV T nm day).length ≤ 16 := by have := foldT_len (nm := nm) (day := day) (T := T) (L := []); simp at this; unfold leftV; omega
  refine loopW_inv (fun xs σ M => ∃ (rest : List Rg) (q : Held × List Le) (o5 o6 o7 o8 o9 o10 o11 o12 : Option Xv), xs = dX (rest.map rgD) ∧ (∀ r ∈ rest, r ∈ R) ∧ rest.foldl (stepR nm day) q = V ∧ q.2.map leK = (leftV T nm day).map leK ∧ q.1.length + 2 * rest.length ≤ 100 ∧ M = lM A q.1 q.2 [] ∧
    σ = [some (.d s), some (.d (.str nm)), some (.d (.int day)), some (.c A.length), some (.c (A.length + 1)), o5, o6, o7, o8, o9, o10, o11, o12]) ?_ ?_ _ _ _ ⟨R, ([(a.own, 1000)], leftV T nm day), _, _, _, _, _, _, _, _, rfl, fun r hr => hr, hV, rfl, by show 1 + 2 * R.length ≤ 100; omega, rfl, rfl⟩
  · rintro x xs σ M ⟨rest, q, o5, o6, o7, o8, o9, o10, o11, o12, e, hr, ev, ek, ql, rfl, rfl⟩ CC hC
    obtain ⟨r, rest, rfl⟩ : ∃ a r, rest = a :: r := by
      cases rest with
      | nil => cases e
      | cons a r => exact ⟨a, r, rfl⟩
    rw [List.map_cons, dX_c] at e
    cases e
    rw [List.length_cons] at ql
    have ev : rest.foldl (stepR nm day) (stepR nm day q r) = V := ev
    unfold stepR at ev
    have hr2 : ∀ x ∈ rest, x ∈ R := fun x hx => hr x (List.mem_cons_of_mem _ hx)
    refine ⟨trivial, ?_⟩
    simp only [rgTup, hd_r, List.length_cons, List.length_nil, rgCons, rgNil, rgName, set_z, set_s]
    refine ⟨trivial, ?_⟩
    simp only [startX, rAsg, rgName, rVar, rC, rBin, rD, rCl, rFz, rTb, rTr, rIf, rIfS, rRet, rRetN, rNx, rCons, rNil, rTup, rTupC, rLst, rApp, rAppF, rCall, rPar, rNeg, rNot, rAnd, rOr, rChain, rLc, riSeq, rYes, rDrop, rFor, rApd, rExt, rgTup, rgCons, rgNil, rgSub, rIsiX, riRng1, riRng2, slot_z, slot_s, set_z, set_s, at0, at1, at2, at3, at4, at5, at6, dX_c, dX_n, gIx_tup, gIx_lst, gEq_ii, gEq_ss, gNe_ii, gNe_ss, gAdd_ii, gSub_ii, gLt_ii, gLe_ii, gGt_ii, gGe_ii, gIsN_d, gLen_l, gMax_ii, gMin_ii, gInt_b, gInt_i, gAbs_i, gApd_last, isLst_last, boX_b, tru_l, fzL_dX, fzL_n, fzL_cd, Option.map_some, fz_d, pk_d, ifS_some, hd_int, hd_str, hd_bool, hd_none, hd_list, hd_tuple, wipeX, List.map_cons, List.map_nil, List.length_cons, List.length_nil, List.replicate_succ, List.replicate_zero, List.cons_append, List.nil_append, List.append_nil, decide_eq_true_eq, if_true, if_false, Nat.reduceAdd, Nat.reduceSub, Nat.reduceLeDiff, Nat.zero_add, Nat.sub_zero]
    by_cases c1 : r.app = nm
    case neg =>
      rw [if_neg c1]
      rw [if_neg (fun z => c1 z.1)] at ev
      exact hC _ _ ⟨rest, q, _, _, _, _, _, _, _, _, rfl, hr2, ev, ek, by omega, rfl, rfl⟩
    by_cases c2 : r.day ≤ day
    case neg =>
      rw [if_pos c1, if_neg c2]
      rw [if_neg (fun z => c2 z.2)] at ev
      exact hC _ _ ⟨rest, q, _, _, _, _, _, _, _, _, rfl, hr2, ev, ek, by omega, rfl, rfl⟩
    rw [if_pos c1, if_pos c2]
    rw [if_pos ⟨c1, c2⟩] at ev
    have hk := leftV_key ro (hr r List.mem_cons_self) ⟨c1, c2⟩
    obtain ⟨ml1, ml2⟩ := moveV_len q r.giver r.n r.size
    have ql2 : q.2.length ≤ 16 := by
      have := congrArg List.length ek
      rw [List.length_map, List.length_map] at this
      omega
    refine ⟨s3, A, q.1, q.2, [], r.giver, r.n, r.size, rfl, rfl, by rw [ek]; exact hk, by rw [ek]; exact nd, by omega, by omega, ?_⟩
    try simp only [startX, rAsg, rgName, rVar, rC, rBin, rD, rCl, rFz, rTb, rTr, rIf, rIfS, rRet, rRetN, rNx, rCons, rNil, rTup, rTupC, rLst, rApp, rAppF, rCall, rPar, rNeg, rNot, rAnd, rOr, rChain, rLc, riSeq, rYes, rDrop, rFor, rApd, rExt, rgTup, rgCons, rgNil, rgSub, rIsiX, riRng1, riRng2, slot_z, slot_s, set_z, set_s, at0, at1, at2, at3, at4, at5, at6, dX_c, dX_n, gIx_tup, gIx_lst, gEq_ii, gEq_ss, gNe_ii, gNe_ss, gAdd_ii, gSub_ii, gLt_ii, gLe_ii, gGt_ii, gGe_ii, gIsN_d, gLen_l, gMax_ii, gMin_ii, gInt_b, gInt_i, gAbs_i, gApd_last, isLst_last, boX_b, tru_l, fzL_dX, fzL_n, fzL_cd, Option.map_some, fz_d, pk_d, ifS_some, hd_int, hd_str, hd_bool, hd_none, hd_list, hd_tuple, wipeX, List.map_cons, List.map_nil, List.length_cons, List.length_nil, List.replicate_succ, List.replicate_zero, List.cons_append, List.nil_append, List.append_nil, decide_eq_true_eq, if_true, if_false, Nat.reduceAdd, Nat.reduceSub, Nat.reduceLeDiff, Nat.zero_add, Nat.sub_zero]
    exact hC _ _ ⟨rest, moveV q r.giver r.n r.size, _, _, _, _, _, _, _, _, rfl, hr2, ev, by rw [moveV_keys]; exact ek, by omega, rfl, rfl⟩
  · rintro σ M ⟨rest, q, o5, o6, o7, o8, o9, o10, o11, o12, e, hr, ev, ek, ql, rfl, rfl⟩
    have e0 : rest = [] := by
      cases rest with
      | nil => rfl
      | cons a r => cases e
    subst e0
    have ev : q = V := ev
    subst ev
    refine ⟨trivial, ?_⟩
    simp only [startX, rAsg, rgName, rVar, rC, rBin, rD, rCl, rFz, rTb, rTr, rIf, rIfS, rRet, rRetN, rNx, rCons, rNil, rTup, rTupC, rLst, rApp, rAppF, rCall, rPar, rNeg, rNot, rAnd, rOr, rChain, rLc, riSeq, rYes, rDrop, rFor, rApd, rExt, rgTup, rgCons, rgNil, rgSub, rIsiX, riRng1, riRng2, slot_z, slot_s, set_z, set_s, at0, at1, at2, at3, at4, at5, at6, dX_c, dX_n, gIx_tup, gIx_lst, gEq_ii, gEq_ss, gNe_ii, gNe_ss, gAdd_ii, gSub_ii, gLt_ii, gLe_ii, gGt_ii, gGe_ii, gIsN_d, gLen_l, gMax_ii, gMin_ii, gInt_b, gInt_i, gAbs_i, gApd_last, isLst_last, boX_b, tru_l, fzL_dX, fzL_n, fzL_cd, Option.map_some, fz_d, pk_d, ifS_some, hd_int, hd_str, hd_bool, hd_none, hd_list, hd_tuple, wipeX, List.map_cons, List.map_nil, List.length_cons, List.length_nil, List.replicate_succ, List.replicate_zero, List.cons_append, List.nil_append, List.append_nil, decide_eq_true_eq, if_true, if_false, Nat.reduceAdd, Nat.reduceSub, Nat.reduceLeDiff, Nat.zero_add, Nat.sub_zero]
    refine ⟨s2, ?_⟩
    unfold lM
    rw [show (A ++ [Ob.dic (hX q.1), .dit (lX lwD q.2)]).length = A.length + 2 by simp, List.append_assoc]
    exact hp
end K31

set_option Elab.async false
set_option linter.all false
set_option maxRecDepth 100000
set_option maxHeartbeats 8000000
namespace K31
open PySem PySem.Spec PyProof.Rows L2 G
variable {P : Program} {w : World} {K : PySem.W.Frag} {mg : Str → Option Value} {base : Heap} {k : Nat}
/-! ### the program's title -/
def tM2 (C : Addr) (A : Sto) (h : Held) (x y : List (List Key × Xv)) (B : Sto) : Sto := A ++ (.ins C (flds A.length) :: .dic (hX h) :: .dit x :: .dit y :: B)
section
variable {C : Addr} {A B R : Sto} {h h' : Held} {L L' : List Le} {x x' y y' : List (List Key × Xv)} {fs : List (Str × Xv)}
theorem tM_eq : tM C A h L B = tM2 C A h (lX resD L) (lX tkrD L) B := rfl
theorem u0 : (tM2 C A h x y B)[A.length]? = some (.ins C (flds A.length)) := getA0
theorem u2 : (tM2 C A h x y B)[A.length + 2]? = some (.dit x) := getA 2
theorem u3 : (tM2 C A h x y B)[A.length + 3]? = some (.dit y) := getA 3
theorem su2 : (tM2 C A h x y B).set (A.length + 2) (.dit x') = tM2 C A h x' y B := setA 2 _
theorem su3 : (tM2 C A h x y B).set (A.length + 3) (.dit y') = tM2 C A h x y' B := setA 3 _
theorem insA : insAt C (A ++ (.ins C fs :: R)) (.c A.length) = some (A.length, fs) := by
  have e : (A ++ (Ob.ins C fs :: R))[A.length]? = some (.ins C fs) := getA0
  simp only [insAt, e, if_true]
theorem insT : insAt C (tM C A h L B) (.c A.length) = some (A.length, flds A.length) := insA
theorem setI (o : Ob) : (A ++ (.ins C fs :: R)).set A.length o = A ++ (o :: R) := setA 0 o
end
theorem p1 (x : Xv) : putA "held" x [] = [(("held" : Str), x)] := rfl
theorem p2 (x y : Xv) : putA "left" y [(("held" : Str), x)] = [(("held" : Str), x), (("left" : Str), y)] := by
  show (if ("held" : Str) = "left" then _ else (("held" : Str), x) :: putA "left" y []) = _
  rw [if_neg (by decide +kernel)]; rfl
theorem p3 (x y z : Xv) : putA "takers" z [(("held" : Str), x), (("left" : Str), y)] = [(("held" : Str), x), (("left" : Str), y), (("takers" : Str), z)] := by
  show (if ("held" : Str) = "takers" then _ else (("held" : Str), x) :: (if ("left" : Str) = "takers" then _ else (("left" : Str), y) :: putA "takers" z [])) = _
  rw [if_neg (by decide +kernel), if_neg (by decide +kernel)]; rfl
theorem len1 (A : Sto) (x : Ob) : (A ++ [x]).length = A.length + 1 := by simp
theorem len2 (A : Sto) (x y : Ob) : (A ++ [x, y]).length = A.length + 2 := by simp
theorem len3 (A : Sto) (x y z : Ob) : (A ++ [x, y, z]).length = A.length + 3 := by simp
theorem noMove (p : Nat) : List.lookup ("move" : Str) (flds p) = none := by
  show (match (("move" : Str) == "held") with | true => some (Xv.c (p + 1)) | false => match (("move" : Str) == "left") with | true => some (Xv.c (p + 2)) | false => match (("move" : Str) == "takers") with | true => some (Xv.c (p + 3)) | false => none) = none
  rw [show (("move" : Str) == "held") = false by decide +kernel, show (("move" : Str) == "left") = false by decide +kernel, show (("move" : Str) == "takers") = false by decide +kernel]
theorem noShares (p : Nat) : List.lookup ("shares" : Str) (flds p) = none := by
  show (match (("shares" : Str) == "held") with | true => some (Xv.c (p + 1)) | false => match (("shares" : Str) == "left") with | true => some (Xv.c (p + 2)) | false => match (("shares" : Str) == "takers") with | true => some (Xv.c (p + 3)) | false => none) = none
  rw [show (("shares" : Str) == "held") = false by decide +kernel, show (("shares" : Str) == "left") = false by decide +kernel, show (("shares" : Str) == "takers") = false by decide +kernel]
def pf_init (C : Addr) : PF := fun xs M R' => ∃ (A : Sto) (s : PyData) (m : Sd) (nm : Str) (a : App) (day : Int) (T : List Tr) (R : List Rg), xs = [.c A.length, .d s, .d (.str nm), .d (.int day)] ∧ M = A ++ [.ins C []] ∧ Is s m ∧ Gd m ∧ rowOf m nm = some a ∧ Is2 s T R ∧ RegOk T R ∧
  ∀ B : Sto, R' (.d .none) (tM C A (titleV a.own T R nm day).1 (titleV a.own T R nm day).2 B)
theorem ok_init (D : MkOk K mg "Title" (He.ga K "Title") "Title.__init__" ["self", "state", "name", "day"] (defArgs s_Title___init__) (defBody s_Title___init__) (defScope s_Title___init__)) (Z : Fx K mg base) (C1 : Cal P w K mg base k "row_of" ["state", "name"] (pfD pd_row_of)) (M1 : MCal P w K mg base k (He.ga K "Title") "move" ["self", "giver", "number", "size"] (pf_move (He.ga K "Title"))) : MkCal P w K mg base (k + 1) "Title" (He.ga K "Title") ["self", "state", "name", "day"] (pf_init (He.ga K "Title")) := by
  refine MkCal.mk_ (k := k) D sc_Title___init__ (sd_Title___init__ Z C1 M1) (fun xs M R ⟨_, _, _, _, _, _, _, _, e, _⟩ => by rw [e]; rfl) (fun xs M R' hp => ?_)
  obtain ⟨A, s, m, nm, a, day, T, R, rfl, rfl, I, g, er, I2, ro, hp⟩ := hp
  generalize He.ga K "Title" = C at hp ⊢
  have s2 : (2 : Nat) ≤ sizeLine := by decide
  obtain ⟨V, hV⟩ : ∃ V, titleV a.own T R nm day = V := ⟨_, rfl⟩
  rw [hV] at hp
  have hV : R.foldl (stepR nm day) ([(a.own, 1000)], leftV T nm day) = V := hV
  unfold b_Title___init__
  refine seq_step ?_
  simp only [startX, rAsg, rgName, rVar, rC, rBin, rD, rCl, rFz, rTb, rTr, rIf, rIfS, rRet, rRetN, rNx, rCons, rNil, rTup, rTupC, rLst, rApp, rAppF, rCall, rPar, rNeg, rNot, rAnd, rOr, rChain, rLc, riSeq, rYes, rDrop, rFor, rApd, rExt, rgTup, rgCons, rgNil, rgSub, rIsiX, riRng1, riRng2, slot_z, slot_s, set_z, set_s, at0, at1, at2, at3, at4, at5, at6, dX_c, dX_n, gIx_tup, gIx_lst, gEq_ii, gEq_ss, gNe_ii, gNe_ss, gAdd_ii, gSub_ii, gLt_ii, gLe_ii, gGt_ii, gGe_ii, gIsN_d, gLen_l, gMax_ii, gMin_ii, gInt_b, gInt_i, gAbs_i, gApd_last, isLst_last, boX_b, tru_l, fzL_dX, fzL_n, fzL_cd, Option.map_some, fz_d, pk_d, ifS_some, hd_int, hd_str, hd_bool, hd_none, hd_list, hd_tuple, wipeX, List.map_cons, List.map_nil, List.length_cons, List.length_nil, List.replicate_succ, List.replicate_zero, List.cons_append, List.nil_append, List.append_nil, decide_eq_true_eq, if_true, if_false, Nat.reduceAdd, Nat.reduceSub, Nat.reduceLeDiff, Nat.zero_add, Nat.sub_zero, N_Title___init__, rSetF, rDic, rpCons, rpNil]
  refine u_row I g er ?_
  simp only [gIx_a3]
  refine ifS_mk rfl ⟨by simp, ?_⟩
  rw [show mergeX ([] : List (Key × Xv)) [(.inr a.own, .d (.int 1000))] = hX [(a.own, 1000)] from rfl]
  rw [List.append_assoc]
  simp only [List.cons_append, List.nil_append, insA, ifS_some, setI, p1, len1]
  refine ⟨by decide, ?_⟩
  try simp only [startX, rAsg, rgName, rVar, rC, rBin, rD, rCl, rFz, rTb, rTr, rIf, rIfS, rRet, rRetN, rNx, rCons, rNil, rTup, rTupC, rLst, rApp, rAppF, rCall, rPar, rNeg, rNot, rAnd, rOr, rChain, rLc, riSeq, rYes, rDrop, rFor, rApd, rExt, rgTup, rgCons, rgNil, rgSub, rIsiX, riRng1, riRng2, slot_z, slot_s, set_z, set_s, at0, at1, at2, at3, at4, at5, at6, dX_c, dX_n, gIx_tup, gIx_lst, gEq_ii, gEq_ss, gNe_ii, gNe_ss, gAdd_ii, gSub_ii, gLt_ii, gLe_ii, gGt_ii, gGe_ii, gIsN_d, gLen_l, gMax_ii, gMin_ii, gInt_b, gInt_i, gAbs_i, gApd_last, isLst_last, boX_b, tru_l, fzL_dX, fzL_n, fzL_cd, Option.map_some, fz_d, pk_d, ifS_some, hd_int, hd_str, hd_bool, hd_none, hd_list, hd_tuple, wipeX, List.map_cons, List.map_nil, List.length_cons, List.length_nil, List.replicate_succ, List.replicate_zero, List.cons_append, List.nil_append, List.append_nil, decide_eq_true_eq, if_true, if_false, Nat.reduceAdd, Nat.reduceSub, Nat.reduceLeDiff, Nat.zero_add, Nat.sub_zero]
  refine seq_step ?_
  simp only [startX, rAsg, rgName, rVar, rC, rBin, rD, rCl, rFz, rTb, rTr, rIf, rIfS, rRet, rRetN, rNx, rCons, rNil, rTup, rTupC, rLst, rApp, rAppF, rCall, rPar, rNeg, rNot, rAnd, rOr, rChain, rLc, riSeq, rYes, rDrop, rFor, rApd, rExt, rgTup, rgCons, rgNil, rgSub, rIsiX, riRng1, riRng2, slot_z, slot_s, set_z, set_s, at0, at1, at2, at3, at4, at5, at6, dX_c, dX_n, gIx_tup, gIx_lst, gEq_ii, gEq_ss, gNe_ii, gNe_ss, gAdd_ii, gSub_ii, gLt_ii, gLe_ii, gGt_ii, gGe_ii, gIsN_d, gLen_l, gMax_ii, gMin_ii, gInt_b, gInt_i, gAbs_i, gApd_last, isLst_last, boX_b, tru_l, fzL_dX, fzL_n, fzL_cd, Option.map_some, fz_d, pk_d, ifS_some, hd_int, hd_str, hd_bool, hd_none, hd_list, hd_tuple, wipeX, List.map_cons, List.map_nil, List.length_cons, List.length_nil, List.replicate_succ, List.replicate_zero, List.cons_append, List.nil_append, List.append_nil, decide_eq_true_eq, if_true, if_false, Nat.reduceAdd, Nat.reduceSub, Nat.reduceLeDiff, Nat.zero_add, Nat.sub_zero, rSetF, rDitE]
  rw [List.append_assoc]
  simp only [List.cons_append, List.nil_append, insA, ifS_some, setI, p2, len2]
  refine ⟨by simp, ?_⟩
  try simp only [startX, rAsg, rgName, rVar, rC, rBin, rD, rCl, rFz, rTb, rTr, rIf, rIfS, rRet, rRetN, rNx, rCons, rNil, rTup, rTupC, rLst, rApp, rAppF, rCall, rPar, rNeg, rNot, rAnd, rOr, rChain, rLc, riSeq, rYes, rDrop, rFor, rApd, rExt, rgTup, rgCons, rgNil, rgSub, rIsiX, riRng1, riRng2, slot_z, slot_s, set_z, set_s, at0, at1, at2, at3, at4, at5, at6, dX_c, dX_n, gIx_tup, gIx_lst, gEq_ii, gEq_ss, gNe_ii, gNe_ss, gAdd_ii, gSub_ii, gLt_ii, gLe_ii, gGt_ii, gGe_ii, gIsN_d, gLen_l, gMax_ii, gMin_ii, gInt_b, gInt_i, gAbs_i, gApd_last, isLst_last, boX_b, tru_l, fzL_dX, fzL_n, fzL_cd, Option.map_some, fz_d, pk_d, ifS_some, hd_int, hd_str, hd_bool, hd_none, hd_list, hd_tuple, wipeX, List.map_cons, List.map_nil, List.length_cons, List.length_nil, List.replicate_succ, List.replicate_zero, List.cons_append, List.nil_append, List.append_nil, decide_eq_true_eq, if_true, if_false, Nat.reduceAdd, Nat.reduceSub, Nat.reduceLeDiff, Nat.zero_add, Nat.sub_zero]
  refine seq_step ?_
  simp only [startX, rAsg, rgName, rVar, rC, rBin, rD, rCl, rFz, rTb, rTr, rIf, rIfS, rRet, rRetN, rNx, rCons, rNil, rTup, rTupC, rLst, rApp, rAppF, rCall, rPar, rNeg, rNot, rAnd, rOr, rChain, rLc, riSeq, rYes, rDrop, rFor, rApd, rExt, rgTup, rgCons, rgNil, rgSub, rIsiX, riRng1, riRng2, slot_z, slot_s, set_z, set_s, at0, at1, at2, at3, at4, at5, at6, dX_c, dX_n, gIx_tup, gIx_lst, gEq_ii, gEq_ss, gNe_ii, gNe_ss, gAdd_ii, gSub_ii, gLt_ii, gLe_ii, gGt_ii, gGe_ii, gIsN_d, gLen_l, gMax_ii, gMin_ii, gInt_b, gInt_i, gAbs_i, gApd_last, isLst_last, boX_b, tru_l, fzL_dX, fzL_n, fzL_cd, Option.map_some, fz_d, pk_d, ifS_some, hd_int, hd_str, hd_bool, hd_none, hd_list, hd_tuple, wipeX, List.map_cons, List.map_nil, List.length_cons, List.length_nil, List.replicate_succ, List.replicate_zero, List.cons_append, List.nil_append, List.append_nil, decide_eq_true_eq, if_true, if_false, Nat.reduceAdd, Nat.reduceSub, Nat.reduceLeDiff, Nat.zero_add, Nat.sub_zero, rSetF, rDitE]
  rw [List.append_assoc]
  simp only [List.cons_append, List.nil_append, insA, ifS_some, setI, p3, len3]
  refine ⟨by simp, ?_⟩
  try simp only [startX, rAsg, rgName, rVar, rC, rBin, rD, rCl, rFz, rTb, rTr, rIf, rIfS, rRet, rRetN, rNx, rCons, rNil, rTup, rTupC, rLst, rApp, rAppF, rCall, rPar, rNeg, rNot, rAnd, rOr, rChain, rLc, riSeq, rYes, rDrop, rFor, rApd, rExt, rgTup, rgCons, rgNil, rgSub, rIsiX, riRng1, riRng2, slot_z, slot_s, set_z, set_s, at0, at1, at2, at3, at4, at5, at6, dX_c, dX_n, gIx_tup, gIx_lst, gEq_ii, gEq_ss, gNe_ii, gNe_ss, gAdd_ii, gSub_ii, gLt_ii, gLe_ii, gGt_ii, gGe_ii, gIsN_d, gLen_l, gMax_ii, gMin_ii, gInt_b, gInt_i, gAbs_i, gApd_last, isLst_last, boX_b, tru_l, fzL_dX, fzL_n, fzL_cd, Option.map_some, fz_d, pk_d, ifS_some, hd_int, hd_str, hd_bool, hd_none, hd_list, hd_tuple, wipeX, List.map_cons, List.map_nil, List.length_cons, List.length_nil, List.replicate_succ, List.replicate_zero, List.cons_append, List.nil_append, List.append_nil, decide_eq_true_eq, if_true, if_false, Nat.reduceAdd, Nat.reduceSub, Nat.reduceLeDiff, Nat.zero_add, Nat.sub_zero]
  rw [show (A ++ [Ob.ins C [("held", .c (A.length + 1)), ("left", .c (A.length + 2)), ("takers", .c (A.length + 3))], .dic (hX [(a.own, 1000)]), .dit [], .dit []]) = tM C A [(a.own, 1000)] [] [] from rfl]
  have tl := ro.tl
  have rl := ro.rl
  refine seq_step ?_
  obtain ⟨AA, hAA⟩ : ∃ AA, (rSeq (rAsg (rVar 7) (rgSubT (rFld C "left" (rVar 0)) (rKt (rCons (rVar 5) (rCons (rVar 8) (rNil)))))) (rAsg (rVar 6) (rgSubT (rFld C "takers" (rVar 0)) (rKt (rCons (rVar 5) (rCons (rVar 8) (rNil))))))) = AA := ⟨_, rfl⟩
  rw [hAA]
  simp only [startX, rAsg, rgName, rVar, rC, rBin, rD, rCl, rFz, rTb, rTr, rIf, rIfS, rRet, rRetN, rNx, rCons, rNil, rTup, rTupC, rLst, rApp, rAppF, rCall, rPar, rNeg, rNot, rAnd, rOr, rChain, rLc, riSeq, rYes, rDrop, rFor, rApd, rExt, rgTup, rgCons, rgNil, rgSub, rIsiX, riRng1, riRng2, slot_z, slot_s, set_z, set_s, at0, at1, at2, at3, at4, at5, at6, dX_c, dX_n, gIx_tup, gIx_lst, gEq_ii, gEq_ss, gNe_ii, gNe_ss, gAdd_ii, gSub_ii, gLt_ii, gLe_ii, gGt_ii, gGe_ii, gIsN_d, gLen_l, gMax_ii, gMin_ii, gInt_b, gInt_i, gAbs_i, gApd_last, isLst_last, boX_b, tru_l, fzL_dX, fzL_n, fzL_cd, Option.map_some, fz_d, pk_d, ifS_some, hd_int, hd_str, hd_bool, hd_none, hd_list, hd_tuple, wipeX, List.map_cons, List.map_nil, List.length_cons, List.length_nil, List.replicate_succ, List.replicate_zero, List.cons_append, List.nil_append, List.append_nil, decide_eq_true_eq, if_true, if_false, Nat.reduceAdd, Nat.reduceSub, Nat.reduceLeDiff, Nat.zero_add, Nat.sub_zero, gIx_fld I2.ft]
  refine loopW_inv (fun xs σ M => ∃ (rest : List Tr) (L : List Le) (o4 o5 o6 o7 o8 o9 : Option Xv), xs = dX (rest.map trD) ∧ rest.foldl (stepT nm day) L = leftV T nm day ∧ L.length + rest.length ≤ 16 ∧ M = tM C A [(a.own, 1000)] L [] ∧
    σ = [some (.c A.length), some (.d s), some (.d (.str nm)), some (.d (.int day)), o4, o5, o6, o7, o8, o9, none]) ?_ ?_ _ _ _ ⟨T, [], _, _, _, _, _, _, rfl, rfl, by simpa using tl, rfl, rfl⟩
  · rintro x xs σ M ⟨rest, L, o4, o5, o6, o7, o8, o9, e, ev, ll, rfl, rfl⟩ CC hC
    obtain ⟨t, rest, rfl⟩ : ∃ a r, rest = a :: r := by
      cases rest with
      | nil => cases e
      | cons a r => exact ⟨a, r, rfl⟩
    rw [List.map_cons, dX_c] at e
    cases e
    rw [List.length_cons] at ll
    have ev : rest.foldl (stepT nm day) (stepT nm day L t) = leftV T nm day := ev
    unfold stepT at ev
    refine ⟨trivial, ?_⟩
    simp only [rgTup, hd_t, List.length_cons, List.length_nil, rgCons, rgNil, rgName, set_z, set_s]
    refine ⟨trivial, ?_⟩
    simp only [startX, rAsg, rgName, rVar, rC, rBin, rD, rCl, rFz, rTb, rTr, rIf, rIfS, rRet, rRetN, rNx, rCons, rNil, rTup, rTupC, rLst, rApp, rAppF, rCall, rPar, rNeg, rNot, rAnd, rOr, rChain, rLc, riSeq, rYes, rDrop, rFor, rApd, rExt, rgTup, rgCons, rgNil, rgSub, rIsiX, riRng1, riRng2, slot_z, slot_s, set_z, set_s, at0, at1, at2, at3, at4, at5, at6, dX_c, dX_n, gIx_tup, gIx_lst, gEq_ii, gEq_ss, gNe_ii, gNe_ss, gAdd_ii, gSub_ii, gLt_ii, gLe_ii, gGt_ii, gGe_ii, gIsN_d, gLen_l, gMax_ii, gMin_ii, gInt_b, gInt_i, gAbs_i, gApd_last, isLst_last, boX_b, tru_l, fzL_dX, fzL_n, fzL_cd, Option.map_some, fz_d, pk_d, ifS_some, hd_int, hd_str, hd_bool, hd_none, hd_list, hd_tuple, wipeX, List.map_cons, List.map_nil, List.length_cons, List.length_nil, List.replicate_succ, List.replicate_zero, List.cons_append, List.nil_append, List.append_nil, decide_eq_true_eq, if_true, if_false, Nat.reduceAdd, Nat.reduceSub, Nat.reduceLeDiff, Nat.zero_add, Nat.sub_zero]
    by_cases c1 : t.app = nm
    case neg =>
      rw [if_neg c1]
      rw [if_neg (fun z => c1 z.1)] at ev
      exact hC _ _ ⟨rest, L, _, _, _, _, _, _, rfl, ev, by omega, rfl, rfl⟩
    by_cases c2 : t.told ≤ day
    case neg =>
      rw [if_pos c1, if_neg c2]
      rw [if_neg (fun z => c2 z.2)] at ev
      exact hC _ _ ⟨rest, L, _, _, _, _, _, _, rfl, ev, by omega, rfl, rfl⟩
    rw [if_pos c1, if_pos c2, ← hAA]
    rw [if_pos ⟨c1, c2⟩] at ev
    obtain ⟨e1, he1⟩ : ∃ e1 : Le, (⟨t.giver, t.n, t.taker, t.size⟩ : Le) = e1 := ⟨_, rfl⟩
    rw [he1] at ev
    have kk : ([.inr t.giver, .inl t.n] : List Key) = leK e1 := by rw [← he1]; rfl
    have q1 : PyData.int t.size = resD e1 := by rw [← he1]; rfl
    have q2 : PyData.str t.taker = tkrD e1 := by rw [← he1]; rfl
    refine seq_step (asg_ev (Ev.var rfl) (subT_ev (Ev.fld rfl t0 f2) (EvK.tup (xs := [.d (.str t.giver), .d (.int t.n)]) (EvF.cons (Ev.var rfl) (EvF.cons (Ev.var rfl) EvF.nil)) (by simp) (keys_ky _ _)) t2 (by unfold lX; rw [List.length_map]; omega) ?_))
    rw [kk, q1, putX_l, tM_eq, su2]
    refine asg_ev (Ev.var rfl) (subT_ev (Ev.fld rfl u0 f3) (EvK.tup (xs := [.d (.str t.giver), .d (.int t.n)]) (EvF.cons (Ev.var rfl) (EvF.cons (Ev.var rfl) EvF.nil)) (by simp) (keys_ky _ _)) u3 (by unfold lX; rw [List.length_map]; omega) ?_)
    rw [kk, q2, putX_l, su3, ← tM_eq]
    exact hC _ _ ⟨rest, _, _, _, _, _, _, _, rfl, ev, by have := putL_len L e1; omega, rfl, rfl⟩
  rintro σ M ⟨rest, L, o4, o5, o6, o7, o8, o9, e, ev, ll, rfl, rfl⟩
  have e0 : rest = [] := by
    cases rest with
    | nil => rfl
    | cons a r => cases e
  subst e0
  have ev : L = leftV T nm day := ev
  subst ev
  clear hAA
  refine ⟨trivial, ?_⟩
  simp only [startX, rAsg, rgName, rVar, rC, rBin, rD, rCl, rFz, rTb, rTr, rIf, rIfS, rRet, rRetN, rNx, rCons, rNil, rTup, rTupC, rLst, rApp, rAppF, rCall, rPar, rNeg, rNot, rAnd, rOr, rChain, rLc, riSeq, rYes, rDrop, rFor, rApd, rExt, rgTup, rgCons, rgNil, rgSub, rIsiX, riRng1, riRng2, slot_z, slot_s, set_z, set_s, at0, at1, at2, at3, at4, at5, at6, dX_c, dX_n, gIx_tup, gIx_lst, gEq_ii, gEq_ss, gNe_ii, gNe_ss, gAdd_ii, gSub_ii, gLt_ii, gLe_ii, gGt_ii, gGe_ii, gIsN_d, gLen_l, gMax_ii, gMin_ii, gInt_b, gInt_i, gAbs_i, gApd_last, isLst_last, boX_b, tru_l, fzL_dX, fzL_n, fzL_cd, Option.map_some, fz_d, pk_d, ifS_some, hd_int, hd_str, hd_bool, hd_none, hd_list, hd_tuple, wipeX, List.map_cons, List.map_nil, List.length_cons, List.length_nil, List.replicate_succ, List.replicate_zero, List.cons_append, List.nil_append, List.append_nil, decide_eq_true_eq, if_true, if_false, Nat.reduceAdd, Nat.reduceSub, Nat.reduceLeDiff, Nat.zero_add, Nat.sub_zero, gIx_fld I2.fr]
  have nd : ((leftV T nm day).map leK).Nodup := foldT_nd (by simp)
  have lv : (leftV T nm day).length ≤ 16 := by have := foldT_len (nm := nm) (day := day) (T := T) (L := []); simp at this; unfold leftV; omega
  refine loopW_inv (fun xs σ M => ∃ (rest : List Rg) (q : Held × List Le) (B : Sto) (o4 o5 o6 o7 o8 o9 o10 : Option Xv), xs = dX (rest.map rgD) ∧ (∀ r ∈ rest, r ∈ R) ∧ rest.foldl (stepR nm day) q = V ∧ q.2.map leK = (leftV T nm day).map leK ∧ q.1.length + 2 * rest.length ≤ 100 ∧ M = tM C A q.1 q.2 B ∧
    σ = [some (.c A.length), some (.d s), some (.d (.str nm)), some (.d (.int day)), o4, o5, o6, o7, o8, o9, o10]) ?_ ?_ _ _ _ ⟨R, ([(a.own, 1000)], leftV T nm day), [], _, _, _, _, _, _, _, rfl, fun r hr => hr, hV, rfl, by show 1 + 2 * R.length ≤ 100; omega, rfl, rfl⟩
  · rintro x xs σ M ⟨rest, q, B, o4, o5, o6, o7, o8, o9, o10, e, hr, ev, ek, ql, rfl, rfl⟩ CC hC
    obtain ⟨r, rest, rfl⟩ : ∃ a r, rest = a :: r := by
      cases rest with
      | nil => cases e
      | cons a r => exact ⟨a, r, rfl⟩
    rw [List.map_cons, dX_c] at e
    cases e
    rw [List.length_cons] at ql
    have ev : rest.foldl (stepR nm day) (stepR nm day q r) = V := ev
    unfold stepR at ev
    have hr2 : ∀ x ∈ rest, x ∈ R := fun x hx => hr x (List.mem_cons_of_mem _ hx)
    refine ⟨trivial, ?_⟩
    simp only [rgTup, hd_r, List.length_cons, List.length_nil, rgCons, rgNil, rgName, set_z, set_s]
    refine ⟨trivial, ?_⟩
    simp only [startX, rAsg, rgName, rVar, rC, rBin, rD, rCl, rFz, rTb, rTr, rIf, rIfS, rRet, rRetN, rNx, rCons, rNil, rTup, rTupC, rLst, rApp, rAppF, rCall, rPar, rNeg, rNot, rAnd, rOr, rChain, rLc, riSeq, rYes, rDrop, rFor, rApd, rExt, rgTup, rgCons, rgNil, rgSub, rIsiX, riRng1, riRng2, slot_z, slot_s, set_z, set_s, at0, at1, at2, at3, at4, at5, at6, dX_c, dX_n, gIx_tup, gIx_lst, gEq_ii, gEq_ss, gNe_ii, gNe_ss, gAdd_ii, gSub_ii, gLt_ii, gLe_ii, gGt_ii, gGe_ii, gIsN_d, gLen_l, gMax_ii, gMin_ii, gInt_b, gInt_i, gAbs_i, gApd_last, isLst_last, boX_b, tru_l, fzL_dX, fzL_n, fzL_cd, Option.map_some, fz_d, pk_d, ifS_some, hd_int, hd_str, hd_bool, hd_none, hd_list, hd_tuple, wipeX, List.map_cons, List.map_nil, List.length_cons, List.length_nil, List.replicate_succ, List.replicate_zero, List.cons_append, List.nil_append, List.append_nil, decide_eq_true_eq, if_true, if_false, Nat.reduceAdd, Nat.reduceSub, Nat.reduceLeDiff, Nat.zero_add, Nat.sub_zero, rMeth, insT]
    by_cases c1 : r.app = nm
    case neg =>
      rw [if_neg c1]
      rw [if_neg (fun z => c1 z.1)] at ev
      exact hC _ _ ⟨rest, q, B, _, _, _, _, _, _, _, rfl, hr2, ev, ek, by omega, rfl, rfl⟩
    by_cases c2 : r.day ≤ day
    case neg =>
      rw [if_pos c1, if_neg c2]
      rw [if_neg (fun z => c2 z.2)] at ev
      exact hC _ _ ⟨rest, q, B, _, _, _, _, _, _, _, rfl, hr2, ev, ek, by omega, rfl, rfl⟩
    rw [if_pos c1, if_pos c2]
    rw [if_pos ⟨c1, c2⟩] at ev
    have hk := leftV_key ro (hr r List.mem_cons_self) ⟨c1, c2⟩
    obtain ⟨ml1, ml2⟩ := moveV_len q r.giver r.n r.size
    have ql2 : q.2.length ≤ 16 := by
      have := congrArg List.length ek
      rw [List.length_map, List.length_map] at this
      omega
    refine ⟨noMove _, A, q.1, q.2, B, r.giver, r.n, r.size, rfl, rfl, by rw [ek]; exact hk, by rw [ek]; exact nd, by omega, by omega, fun B' => ?_⟩
    try simp only [startX, rAsg, rgName, rVar, rC, rBin, rD, rCl, rFz, rTb, rTr, rIf, rIfS, rRet, rRetN, rNx, rCons, rNil, rTup, rTupC, rLst, rApp, rAppF, rCall, rPar, rNeg, rNot, rAnd, rOr, rChain, rLc, riSeq, rYes, rDrop, rFor, rApd, rExt, rgTup, rgCons, rgNil, rgSub, rIsiX, riRng1, riRng2, slot_z, slot_s, set_z, set_s, at0, at1, at2, at3, at4, at5, at6, dX_c, dX_n, gIx_tup, gIx_lst, gEq_ii, gEq_ss, gNe_ii, gNe_ss, gAdd_ii, gSub_ii, gLt_ii, gLe_ii, gGt_ii, gGe_ii, gIsN_d, gLen_l, gMax_ii, gMin_ii, gInt_b, gInt_i, gAbs_i, gApd_last, isLst_last, boX_b, tru_l, fzL_dX, fzL_n, fzL_cd, Option.map_some, fz_d, pk_d, ifS_some, hd_int, hd_str, hd_bool, hd_none, hd_list, hd_tuple, wipeX, List.map_cons, List.map_nil, List.length_cons, List.length_nil, List.replicate_succ, List.replicate_zero, List.cons_append, List.nil_append, List.append_nil, decide_eq_true_eq, if_true, if_false, Nat.reduceAdd, Nat.reduceSub, Nat.reduceLeDiff, Nat.zero_add, Nat.sub_zero]
    exact hC _ _ ⟨rest, moveV q r.giver r.n r.size, _, _, _, _, _, _, _, _, rfl, hr2, ev, by rw [moveV_keys]; exact ek, by omega, rfl, rfl⟩
  · rintro σ M ⟨rest, q, B, o4, o5, o6, o7, o8, o9, o10, e, hr, ev, ek, ql, rfl, rfl⟩
    have e0 : rest = [] := by
      cases rest with
      | nil => rfl
      | cons a r => cases e
    subst e0
    have ev : q = V := ev
    subst ev
    exact ⟨trivial, hp B⟩
end K31

set_option Elab.async false
set_option linter.all false
set_option maxRecDepth 100000
set_option maxHeartbeats 8000000
namespace K31
open PySem PySem.Spec PyProof.Rows L2 G
variable {P : Program} {w : World} {K : PySem.W.Frag} {mg : Str → Option Value} {base : Heap} {k : Nat}
/-! ### shares -/
noncomputable def shV (h : Held) : List (Str × Int) := ((sortS (h.map (·.1))).filter fun p => decide (0 < getS h p)).map fun p => (p, getS h p)
def shD (p : Str × Int) : PyData := .tuple [.str p.1, .int p.2]
theorem strKeys_h : ∀ h : Held, strKeys (hP h) = some (h.map (·.1))
  | [] => rfl
  | p :: h => by
    show (strKeys (hP h)).map (p.1 :: ·) = _
    rw [strKeys_h h]; rfl
theorem getO_mem : ∀ {h : Held} {p : Str}, p ∈ h.map (·.1) → ∃ v, getO h p = some v
  | q :: h, p, hm => by
    unfold getO
    by_cases c : q.1 = p
    · rw [if_pos c]; exact ⟨_, rfl⟩
    · rw [if_neg c]
      rw [List.map_cons] at hm
      rcases List.mem_cons.mp hm with z | z
      · exact absurd z.symm c
      · exact getO_mem z
theorem gIx_h {M : Sto} {j : Nat} {h : Held} {p : Str} (e : hd M (.c j) = .dic (hP h)) (hm : p ∈ h.map (·.1)) (P : Xv → Sto → Prop) : gIx (.c j) (.d (.str p)) M P = P (.d (.int (getS h p))) M := by
  obtain ⟨v, ev⟩ := getO_mem hm
  unfold gIx
  rw [e]
  show ifS (keyOf (.str p)) (fun _ => ifS (dget (hP h) (.str p)) fun z => P z M) = _
  rw [dget_hP, ev]
  unfold getS
  rw [ev]; rfl
def pf_shares (C : Addr) : PF := fun xs M R => ∃ (A : Sto) (h : Held) (L : List Le) (B : Sto), xs = [.c A.length] ∧ M = tM C A h L B ∧ h.length < 64 ∧ R (.c (tM C A h L B).length) (tM C A h L (B ++ [.lst (dX ((shV h).map shD))]))
theorem ok_shares (D : MethOk K (He.ga K "Title") "shares" "Title.shares" ["self"] (defArgs s_Title_shares) (defBody s_Title_shares) (defScope s_Title_shares)) (Z : Fx K mg base) : MCal P w K mg base (k + 1) (He.ga K "Title") "shares" ["self"] (pf_shares (He.ga K "Title")) := by
  refine MCal.mk_ D sc_Title_shares (sd_Title_shares Z) (fun xs M R ⟨_, _, _, _, e, _⟩ => by rw [e]; rfl) (fun xs M R hp => ?_)
  obtain ⟨A, h, L, B, rfl, rfl, hl, hp⟩ := hp
  generalize He.ga K "Title" = C at hp ⊢
  have s2 : (2 : Nat) ≤ sizeLine := by decide
  have hm : ∀ p ∈ sortS (h.map (·.1)), p ∈ h.map (·.1) := fun p hp => (sortS_perm _).mem_iff.mp hp
  have sl : (sortS (h.map (·.1))).length < 64 := by rw [(sortS_perm _).length_eq, List.length_map]; exact hl
  unfold b_Title_shares
  simp only [startX, rAsg, rgName, rVar, rC, rBin, rD, rCl, rFz, rTb, rTr, rIf, rIfS, rRet, rRetN, rNx, rCons, rNil, rTup, rTupC, rLst, rApp, rAppF, rCall, rPar, rNeg, rNot, rAnd, rOr, rChain, rLc, riSeq, rYes, rDrop, rFor, rApd, rExt, rgTup, rgCons, rgNil, rgSub, rIsiX, riRng1, riRng2, slot_z, slot_s, set_z, set_s, at0, at1, at2, at3, at4, at5, at6, dX_c, dX_n, gIx_tup, gIx_lst, gEq_ii, gEq_ss, gNe_ii, gNe_ss, gAdd_ii, gSub_ii, gLt_ii, gLe_ii, gGt_ii, gGe_ii, gIsN_d, gLen_l, gMax_ii, gMin_ii, gInt_b, gInt_i, gAbs_i, gApd_last, isLst_last, boX_b, tru_l, fzL_dX, fzL_n, fzL_cd, Option.map_some, fz_d, pk_d, ifS_some, hd_int, hd_str, hd_bool, hd_none, hd_list, hd_tuple, wipeX, List.map_cons, List.map_nil, List.length_cons, List.length_nil, List.replicate_succ, List.replicate_zero, List.cons_append, List.nil_append, List.append_nil, decide_eq_true_eq, if_true, if_false, Nat.reduceAdd, Nat.reduceSub, Nat.reduceLeDiff, Nat.zero_add, Nat.sub_zero, N_Title_shares, rFld, insT, f1]
  refine gSort2_dic hd1 (strKeys_h h) (by rw [List.length_map]; exact hl) ?_
  try simp only [startX, rAsg, rgName, rVar, rC, rBin, rD, rCl, rFz, rTb, rTr, rIf, rIfS, rRet, rRetN, rNx, rCons, rNil, rTup, rTupC, rLst, rApp, rAppF, rCall, rPar, rNeg, rNot, rAnd, rOr, rChain, rLc, riSeq, rYes, rDrop, rFor, rApd, rExt, rgTup, rgCons, rgNil, rgSub, rIsiX, riRng1, riRng2, slot_z, slot_s, set_z, set_s, at0, at1, at2, at3, at4, at5, at6, dX_c, dX_n, gIx_tup, gIx_lst, gEq_ii, gEq_ss, gNe_ii, gNe_ss, gAdd_ii, gSub_ii, gLt_ii, gLe_ii, gGt_ii, gGe_ii, gIsN_d, gLen_l, gMax_ii, gMin_ii, gInt_b, gInt_i, gAbs_i, gApd_last, isLst_last, boX_b, tru_l, fzL_dX, fzL_n, fzL_cd, Option.map_some, fz_d, pk_d, ifS_some, hd_int, hd_str, hd_bool, hd_none, hd_list, hd_tuple, wipeX, List.map_cons, List.map_nil, List.length_cons, List.length_nil, List.replicate_succ, List.replicate_zero, List.cons_append, List.nil_append, List.append_nil, decide_eq_true_eq, if_true, if_false, Nat.reduceAdd, Nat.reduceSub, Nat.reduceLeDiff, Nat.zero_add, Nat.sub_zero]
  refine lcW_map PyData.str (fun p => decide (0 < getS h p)) (fun p => shD (p, getS h p)) (by trivial) _ [] (small (by simp only [List.length_nil]; omega)) (fun p hq Kt Kf h1 h2 => ?_) ?_
  · simp only [startX, rAsg, rgName, rVar, rC, rBin, rD, rCl, rFz, rTb, rTr, rIf, rIfS, rRet, rRetN, rNx, rCons, rNil, rTup, rTupC, rLst, rApp, rAppF, rCall, rPar, rNeg, rNot, rAnd, rOr, rChain, rLc, riSeq, rYes, rDrop, rFor, rApd, rExt, rgTup, rgCons, rgNil, rgSub, rIsiX, riRng1, riRng2, slot_z, slot_s, set_z, set_s, at0, at1, at2, at3, at4, at5, at6, dX_c, dX_n, gIx_tup, gIx_lst, gEq_ii, gEq_ss, gNe_ii, gNe_ss, gAdd_ii, gSub_ii, gLt_ii, gLe_ii, gGt_ii, gGe_ii, gIsN_d, gLen_l, gMax_ii, gMin_ii, gInt_b, gInt_i, gAbs_i, gApd_last, isLst_last, boX_b, tru_l, fzL_dX, fzL_n, fzL_cd, Option.map_some, fz_d, pk_d, ifS_some, hd_int, hd_str, hd_bool, hd_none, hd_list, hd_tuple, wipeX, List.map_cons, List.map_nil, List.length_cons, List.length_nil, List.replicate_succ, List.replicate_zero, List.cons_append, List.nil_append, List.append_nil, decide_eq_true_eq, if_true, if_false, Nat.reduceAdd, Nat.reduceSub, Nat.reduceLeDiff, Nat.zero_add, Nat.sub_zero, rFld, insT, f1, gIx_h hd1 (hm p hq)]
    split
    · rename_i z; exact ⟨s2, h1 (decide_eq_true z)⟩
    · rename_i z; exact h2 (decide_eq_false z)
  try simp only [startX, rAsg, rgName, rVar, rC, rBin, rD, rCl, rFz, rTb, rTr, rIf, rIfS, rRet, rRetN, rNx, rCons, rNil, rTup, rTupC, rLst, rApp, rAppF, rCall, rPar, rNeg, rNot, rAnd, rOr, rChain, rLc, riSeq, rYes, rDrop, rFor, rApd, rExt, rgTup, rgCons, rgNil, rgSub, rIsiX, riRng1, riRng2, slot_z, slot_s, set_z, set_s, at0, at1, at2, at3, at4, at5, at6, dX_c, dX_n, gIx_tup, gIx_lst, gEq_ii, gEq_ss, gNe_ii, gNe_ss, gAdd_ii, gSub_ii, gLt_ii, gLe_ii, gGt_ii, gGe_ii, gIsN_d, gLen_l, gMax_ii, gMin_ii, gInt_b, gInt_i, gAbs_i, gApd_last, isLst_last, boX_b, tru_l, fzL_dX, fzL_n, fzL_cd, Option.map_some, fz_d, pk_d, ifS_some, hd_int, hd_str, hd_bool, hd_none, hd_list, hd_tuple, wipeX, List.map_cons, List.map_nil, List.length_cons, List.length_nil, List.replicate_succ, List.replicate_zero, List.cons_append, List.nil_append, List.append_nil, decide_eq_true_eq, if_true, if_false, Nat.reduceAdd, Nat.reduceSub, Nat.reduceLeDiff, Nat.zero_add, Nat.sub_zero]
  unfold shV at hp
  rw [List.map_map] at hp
  rw [tB]
  exact hp
def pf_lshares : PF := fun xs M R => ∃ (j : Nat) (h : Held), xs = [.c j] ∧ M[j]? = some (.dic (hX h)) ∧ h.length < 64 ∧ R (.d (.list ((shV h).map shD))) M
theorem ok_lshares (D : DefOk K mg "_law_shares" ["held"] (defArgs s__law_shares) (defBody s__law_shares) (defScope s__law_shares)) (Z : Fx K mg base) : Cal P w K mg base (k + 1) "_law_shares" ["held"] pf_lshares := by
  refine Cal.mk_ D sc__law_shares (sd__law_shares Z) (fun xs M R ⟨_, _, e, _⟩ => by rw [e]; rfl) (fun xs M R hp => ?_)
  obtain ⟨j, h, rfl, em, hl, hp⟩ := hp
  have s2 : (2 : Nat) ≤ sizeLine := by decide
  have hm : ∀ p ∈ sortS (h.map (·.1)), p ∈ h.map (·.1) := fun p hp => (sortS_perm _).mem_iff.mp hp
  have sl : (sortS (h.map (·.1))).length < 64 := by rw [(sortS_perm _).length_eq, List.length_map]; exact hl
  have he : hd M (.c j) = .dic (hP h) := by rw [hd_dic em, hP_of]
  unfold b__law_shares
  simp only [startX, rAsg, rgName, rVar, rC, rBin, rD, rCl, rFz, rTb, rTr, rIf, rIfS, rRet, rRetN, rNx, rCons, rNil, rTup, rTupC, rLst, rApp, rAppF, rCall, rPar, rNeg, rNot, rAnd, rOr, rChain, rLc, riSeq, rYes, rDrop, rFor, rApd, rExt, rgTup, rgCons, rgNil, rgSub, rIsiX, riRng1, riRng2, slot_z, slot_s, set_z, set_s, at0, at1, at2, at3, at4, at5, at6, dX_c, dX_n, gIx_tup, gIx_lst, gEq_ii, gEq_ss, gNe_ii, gNe_ss, gAdd_ii, gSub_ii, gLt_ii, gLe_ii, gGt_ii, gGe_ii, gIsN_d, gLen_l, gMax_ii, gMin_ii, gInt_b, gInt_i, gAbs_i, gApd_last, isLst_last, boX_b, tru_l, fzL_dX, fzL_n, fzL_cd, Option.map_some, fz_d, pk_d, ifS_some, hd_int, hd_str, hd_bool, hd_none, hd_list, hd_tuple, wipeX, List.map_cons, List.map_nil, List.length_cons, List.length_nil, List.replicate_succ, List.replicate_zero, List.cons_append, List.nil_append, List.append_nil, decide_eq_true_eq, if_true, if_false, Nat.reduceAdd, Nat.reduceSub, Nat.reduceLeDiff, Nat.zero_add, Nat.sub_zero, N__law_shares]
  refine gSort2_dic he (strKeys_h h) (by rw [List.length_map]; exact hl) ?_
  try simp only [startX, rAsg, rgName, rVar, rC, rBin, rD, rCl, rFz, rTb, rTr, rIf, rIfS, rRet, rRetN, rNx, rCons, rNil, rTup, rTupC, rLst, rApp, rAppF, rCall, rPar, rNeg, rNot, rAnd, rOr, rChain, rLc, riSeq, rYes, rDrop, rFor, rApd, rExt, rgTup, rgCons, rgNil, rgSub, rIsiX, riRng1, riRng2, slot_z, slot_s, set_z, set_s, at0, at1, at2, at3, at4, at5, at6, dX_c, dX_n, gIx_tup, gIx_lst, gEq_ii, gEq_ss, gNe_ii, gNe_ss, gAdd_ii, gSub_ii, gLt_ii, gLe_ii, gGt_ii, gGe_ii, gIsN_d, gLen_l, gMax_ii, gMin_ii, gInt_b, gInt_i, gAbs_i, gApd_last, isLst_last, boX_b, tru_l, fzL_dX, fzL_n, fzL_cd, Option.map_some, fz_d, pk_d, ifS_some, hd_int, hd_str, hd_bool, hd_none, hd_list, hd_tuple, wipeX, List.map_cons, List.map_nil, List.length_cons, List.length_nil, List.replicate_succ, List.replicate_zero, List.cons_append, List.nil_append, List.append_nil, decide_eq_true_eq, if_true, if_false, Nat.reduceAdd, Nat.reduceSub, Nat.reduceLeDiff, Nat.zero_add, Nat.sub_zero]
  refine lcW_map PyData.str (fun p => decide (0 < getS h p)) (fun p => shD (p, getS h p)) (by trivial) _ [] (small (by simp only [List.length_nil]; omega)) (fun p hq Kt Kf h1 h2 => ?_) ?_
  · simp only [startX, rAsg, rgName, rVar, rC, rBin, rD, rCl, rFz, rTb, rTr, rIf, rIfS, rRet, rRetN, rNx, rCons, rNil, rTup, rTupC, rLst, rApp, rAppF, rCall, rPar, rNeg, rNot, rAnd, rOr, rChain, rLc, riSeq, rYes, rDrop, rFor, rApd, rExt, rgTup, rgCons, rgNil, rgSub, rIsiX, riRng1, riRng2, slot_z, slot_s, set_z, set_s, at0, at1, at2, at3, at4, at5, at6, dX_c, dX_n, gIx_tup, gIx_lst, gEq_ii, gEq_ss, gNe_ii, gNe_ss, gAdd_ii, gSub_ii, gLt_ii, gLe_ii, gGt_ii, gGe_ii, gIsN_d, gLen_l, gMax_ii, gMin_ii, gInt_b, gInt_i, gAbs_i, gApd_last, isLst_last, boX_b, tru_l, fzL_dX, fzL_n, fzL_cd, Option.map_some, fz_d, pk_d, ifS_some, hd_int, hd_str, hd_bool, hd_none, hd_list, hd_tuple, wipeX, List.map_cons, List.map_nil, List.length_cons, List.length_nil, List.replicate_succ, List.replicate_zero, List.cons_append, List.nil_append, List.append_nil, decide_eq_true_eq, if_true, if_false, Nat.reduceAdd, Nat.reduceSub, Nat.reduceLeDiff, Nat.zero_add, Nat.sub_zero, gIx_h he (hm p hq)]
    split
    · rename_i z; exact ⟨s2, h1 (decide_eq_true z)⟩
    · rename_i z; exact h2 (decide_eq_false z)
  try simp only [startX, rAsg, rgName, rVar, rC, rBin, rD, rCl, rFz, rTb, rTr, rIf, rIfS, rRet, rRetN, rNx, rCons, rNil, rTup, rTupC, rLst, rApp, rAppF, rCall, rPar, rNeg, rNot, rAnd, rOr, rChain, rLc, riSeq, rYes, rDrop, rFor, rApd, rExt, rgTup, rgCons, rgNil, rgSub, rIsiX, riRng1, riRng2, slot_z, slot_s, set_z, set_s, at0, at1, at2, at3, at4, at5, at6, dX_c, dX_n, gIx_tup, gIx_lst, gEq_ii, gEq_ss, gNe_ii, gNe_ss, gAdd_ii, gSub_ii, gLt_ii, gLe_ii, gGt_ii, gGe_ii, gIsN_d, gLen_l, gMax_ii, gMin_ii, gInt_b, gInt_i, gAbs_i, gApd_last, isLst_last, boX_b, tru_l, fzL_dX, fzL_n, fzL_cd, Option.map_some, fz_d, pk_d, ifS_some, hd_int, hd_str, hd_bool, hd_none, hd_list, hd_tuple, wipeX, List.map_cons, List.map_nil, List.length_cons, List.length_nil, List.replicate_succ, List.replicate_zero, List.cons_append, List.nil_append, List.append_nil, decide_eq_true_eq, if_true, if_false, Nat.reduceAdd, Nat.reduceSub, Nat.reduceLeDiff, Nat.zero_add, Nat.sub_zero]
  unfold shV at hp
  rw [List.map_map] at hp
  exact hp
theorem titleV_len {T : List Tr} {R : List Rg} (ro : RegOk T R) {own nm : Str} {day : Int} : (titleV own T R nm day).1.length < 64 := by
  have h := foldR_len (nm := nm) (day := day) (R := R) (q := ([(own, 1000)], leftV T nm day))
  have rl := ro.rl
  have h : (titleV own T R nm day).1.length ≤ 1 + 2 * R.length := h
  omega
end K31

set_option Elab.async false
set_option linter.all false
set_option maxRecDepth 100000
set_option maxHeartbeats 8000000
namespace K31
open PySem PySem.Spec PyProof.Rows L2 G
variable {P : Program} {w : World} {K : PySem.W.Frag} {mg : Str → Option Value} {base : Heap} {k : Nat}
theorem putS_all {X : Str → Prop} {h : Held} {g : Str} {v : Int} (hh : ∀ p ∈ h, X p.1) (hg : X g) : ∀ p ∈ putS h g v, X p.1 := fun p hp => by
  unfold putS at hp
  split at hp
  · obtain ⟨q, hq, rfl⟩ := List.mem_map.mp hp
    split
    · exact hh q hq
    · exact hh q hq
  · rcases List.mem_append.mp hp with z | z
    · exact hh p z
    · rw [List.mem_singleton.mp z]; exact hg
theorem moveV_all {X : Str → Prop} {q : Held × List Le} {g : Str} {n size : Int} (hh : ∀ p ∈ q.1, X p.1) (hl : ∀ e ∈ q.2, X e.taker) (hg : X g) : (∀ p ∈ (moveV q g n size).1, X p.1) ∧ ∀ e ∈ (moveV q g n size).2, X e.taker := by
  unfold moveV
  split
  · exact ⟨hh, hl⟩
  · rename_i e he
    refine ⟨putS_all (putS_all hh hg) (hl e (findL_mem he).1), fun x hx => ?_⟩
    obtain ⟨y, hy, rfl⟩ := List.mem_map.mp hx
    split
    · exact hl y hy
    · exact hl y hy
theorem foldT_all {X : Str → Prop} {nm : Str} {day : Int} : ∀ {T : List Tr} {L : List Le}, (∀ t ∈ T, X t.taker) → (∀ e ∈ L, X e.taker) → ∀ e ∈ T.foldl (stepT nm day) L, X e.taker
  | [], _, _, h => h
  | t :: T, L, ht, h => by
    refine foldT_all (T := T) (L := stepT nm day L t) (fun x hx => ht x (List.mem_cons_of_mem _ hx)) ?_
    unfold stepT
    split
    · intro e he
      unfold putL at he
      split at he
      · obtain ⟨y, hy, rfl⟩ := List.mem_map.mp he
        split
        · exact ht t List.mem_cons_self
        · exact h y hy
      · rcases List.mem_append.mp he with z | z
        · exact h e z
        · rw [List.mem_singleton.mp z]; exact ht t List.mem_cons_self
    · exact h
theorem foldR_all {X : Str → Prop} {nm : Str} {day : Int} : ∀ {R : List Rg} {q : Held × List Le}, (∀ r ∈ R, X r.giver) → (∀ p ∈ q.1, X p.1) → (∀ e ∈ q.2, X e.taker) → ∀ p ∈ (R.foldl (stepR nm day) q).1, X p.1
  | [], _, _, h, _ => h
  | r :: R, q, hr, h, hl => by
    have m := moveV_all (g := r.giver) (n := r.n) (size := r.size) h hl (hr r List.mem_cons_self)
    refine foldR_all (R := R) (q := stepR nm day q r) (fun x hx => hr x (List.mem_cons_of_mem _ hx)) ?_ ?_
    · unfold stepR
      split
      · exact m.1
      · exact h
    · unfold stepR
      split
      · exact m.2
      · exact hl
theorem titleV_so {T : List Tr} {R : List Rg} (ro : RegOk T R) {own nm : Str} {day : Int} (ho : PyData.strOk own = true) : ∀ p ∈ (titleV own T R nm day).1, PyData.strOk p.1 = true :=
  foldR_all (X := fun x => PyData.strOk x = true) ro.sg (fun p hp => by rw [List.mem_singleton.mp hp]; exact ho) (foldT_all (X := fun x => PyData.strOk x = true) ro.st (by simp))
theorem shV_mem {h : Held} : ∀ p ∈ (shV h).map (·.1), ∃ q ∈ h, q.1 = p := fun p hp => by
  obtain ⟨q, hq, rfl⟩ := List.mem_map.mp hp
  unfold shV at hq
  obtain ⟨x, hx, rfl⟩ := List.mem_map.mp hq
  have := (sortS_perm _).mem_iff.mp (List.mem_filter.mp hx).1
  obtain ⟨y, hy, e⟩ := List.mem_map.mp this
  exact ⟨y, hy, e⟩
theorem gIx_a0 (a : App) (M : Sto) (P : Xv → Sto → Prop) : gIx (.d (appD a)) (.d (.int 0)) M P = P (.d (.str a.nm)) M := by simp only [appD, gIx_tup, dX_c, at0, ifS_some]
theorem gIx_a2 (a : App) (M : Sto) (P : Xv → Sto → Prop) : gIx (.d (appD a)) (.d (.int 2)) M P = P (.d (.int a.filed)) M := by simp only [appD, gIx_tup, dX_c, at2, ifS_some]
theorem hd_sh (p : Str × Int) (M : Sto) : hd M (.d (shD p)) = .tup [.d (.str p.1), .d (.int p.2)] := rfl
theorem shV_len {h : Held} (hl : h.length < 64) : (shV h).length ≤ 64 := by
  unfold shV
  rw [List.length_map]
  have h1 := List.length_filter_le (fun p => decide (0 < getS h p)) (sortS (h.map (·.1)))
  rw [(sortS_perm _).length_eq, List.length_map] at h1
  omega
/-! ### the rows that are left, by key -/
def sortE {α : Type} (enc : α → PyData) (xs : List α) : List α := xs.mergeSort fun a b => dLe (enc a) (enc b)
theorem sortD_enc {α : Type} (enc : α → PyData) (xs : List α) : sortD (xs.map enc) = (sortE enc xs).map enc := by
  have h : ∀ a ∈ xs, ∀ b ∈ xs, (fun a b => dLe (enc a) (enc b)) a b = dLe (enc a) (enc b) := fun a _ b _ => rfl
  exact (List.map_mergeSort h).symm
def keyD (e : Le) : PyData := .tuple [.str e.giver, .int e.n]
def rowD (e : Le) : PyData := .tuple [.str e.giver, .int e.n, .str e.taker, .int e.rest]
def openV (L : List Le) : List Le := (sortE keyD L).filter fun e => decide (0 < e.rest)
theorem openV_mem {L : List Le} {e : Le} (h : e ∈ openV L) : e ∈ L ∧ 0 < e.rest := by
  obtain ⟨h1, h2⟩ := List.mem_filter.mp h
  exact ⟨(List.mergeSort_perm _ _).mem_iff.mp h1, of_decide_eq_true h2⟩
theorem openV_len (L : List Le) : (openV L).length ≤ L.length := by
  have h1 : (openV L).length ≤ (sortE keyD L).length := List.length_filter_le _ _
  have h2 : (sortE keyD L).length = L.length := (List.mergeSort_perm _ _).length_eq
  omega
theorem kT_lX (f : Le → PyData) (L : List Le) : ((lX f L).map fun p => kT p.1) = L.map keyD := by
  unfold lX
  rw [List.map_map]
  rfl
theorem srt_key {L : List Le} (h : L.length ≤ 1000) : Srt (L.map keyD) := by
  refine ⟨fun x hx y hy => ?_, .inl fun x hx => ?_, fun x hx => ?_, by rw [List.length_map, sizeLine_eq]; omega⟩
  · obtain ⟨_, _, rfl⟩ := List.mem_map.mp hx
    obtain ⟨_, _, rfl⟩ := List.mem_map.mp hy
    simp [keyD, PySem.W.alike, PySem.W.alikeAll]
  · obtain ⟨_, _, rfl⟩ := List.mem_map.mp hx
    exact ⟨_, _, rfl⟩
  · obtain ⟨_, _, rfl⟩ := List.mem_map.mp hx
    simp [keyD, PyData.depth, PyData.depthAll]
theorem gSort4_dit {M : Sto} {j : Nat} {kvs : List (List Key × Xv)} {P : List Xv → Sto → Prop} (e : hd M (.c j) = .dit kvs) (s : Srt (kvs.map fun p => kT p.1)) (p : P (dX (sortD (kvs.map fun p => kT p.1))) M) : gSort4 [.c j] M P := by
  unfold gSort4
  simp only [e]
  exact ⟨s, p⟩
theorem EvK.dat {σ : Sl} {M : Sto} {i : Nat} {e : Le} (h : slot σ i = some (.d (keyD e))) : EvK (rKd (rVar i)) σ M (leK e) := fun P p => by
  unfold rKd
  refine Ev.var h _ ?_
  show ifS (keysX (dX [.str e.giver, .int e.n])) _
  rw [keys_ky]
  exact p
theorem find_of {L : List Le} (nd : (L.map leK).Nodup) {e : Le} (em : e ∈ L) : findL L (leK e) = some e := by
  obtain ⟨x, hx⟩ := findL_some (L := L) (List.mem_map.mpr ⟨e, em, rfl⟩)
  obtain ⟨xm, xk⟩ := findL_mem hx
  rw [hx, nd_eq nd x xm e em xk]
theorem Ev.tb {r : RE} {σ : Sl} {M : Sto} {b : Bool} {P : Bool → Sto → Prop} (h : Ev r σ M (.d (.bool b))) (p : P b M) : rTb r σ M P := h _ p
theorem Ev.tup {rs : RF} {σ : Sl} {M : Sto} {ds : List PyData} (h : EvF rs σ M (dX ds)) (hl : ds.length ≤ 10000) : Ev (rTup rs) σ M (.d (.tuple ds)) := fun P p => h _ ⟨by rw [show (dX ds).length = ds.length from List.length_map ..]; exact small hl, by show ifS (fzL M (dX ds)) _; rw [fzL_dX]; exact p⟩
theorem gAdd_tt (ds es : List PyData) (M : Sto) (P : Xv → Sto → Prop) : gAdd (.d (.tuple ds)) (.d (.tuple es)) M P = (ds.length + es.length ≤ sizeLine ∧ P (.d (.tuple (ds ++ es))) M) := rfl
theorem sortE_len {α : Type} (enc : α → PyData) (xs : List α) : (sortE enc xs).length = xs.length := (List.mergeSort_perm _ _).length_eq
def pf_orows (C : Addr) : PF := fun xs M R => ∃ (A : Sto) (h : Held) (L : List Le) (B : Sto), xs = [.c A.length] ∧ M = tM C A h L B ∧ (L.map leK).Nodup ∧ L.length ≤ 1000 ∧ R (.d (.list ((openV L).map rowD))) (tM C A h L B)
theorem ok_orows (D : MethOk K (He.ga K "Title") "open_rows" "Title.open_rows" ["self"] (defArgs s_Title_open_rows) (defBody s_Title_open_rows) (defScope s_Title_open_rows)) (Z : Fx K mg base) : MCal P w K mg base (k + 1) (He.ga K "Title") "open_rows" ["self"] (pf_orows (He.ga K "Title")) := by
  refine MCal.mk_ D sc_Title_open_rows (sd_Title_open_rows Z) (fun xs M R ⟨_, _, _, _, e, _⟩ => by rw [e]; rfl) (fun xs M R hp => ?_)
  obtain ⟨A, h, L, B, rfl, rfl, nd, ll, hp⟩ := hp
  generalize He.ga K "Title" = C at hp ⊢
  unfold b_Title_open_rows
  obtain ⟨rt, hrt⟩ : ∃ r : RT, rTb (rBin gGt (G.rIxT (rFld C "left" (rVar 0)) (rKd (rVar 2))) (rC (.int 0))) = r := ⟨_, rfl⟩
  obtain ⟨re, hre⟩ : ∃ r : RE, rBin gAdd (rVar 2) (rTup (rCons (G.rIxT (rFld C "takers" (rVar 0)) (rKd (rVar 2))) (rCons (G.rIxT (rFld C "left" (rVar 0)) (rKd (rVar 2))) (rNil)))) = r := ⟨_, rfl⟩
  rw [hrt, hre]
  have lf : ∀ (σ : Sl) (e : Le), e ∈ L → slot σ 0 = some (.c A.length) → slot σ 2 = some (.d (keyD e)) → Ev (G.rIxT (rFld C "left" (rVar 0)) (rKd (rVar 2))) σ (tM C A h L B) (.d (.int e.rest)) := fun σ e em s0 s2 => Ev.ixT (Ev.fld s0 t0 f2) (EvK.dat s2) hd2_ (by rw [valX_l, find_of nd em]; rfl)
  have tk : ∀ (σ : Sl) (e : Le), e ∈ L → slot σ 0 = some (.c A.length) → slot σ 2 = some (.d (keyD e)) → Ev (G.rIxT (rFld C "takers" (rVar 0)) (rKd (rVar 2))) σ (tM C A h L B) (.d (.str e.taker)) := fun σ e em s0 s2 => Ev.ixT (Ev.fld s0 t0 f3) (EvK.dat s2) hd3_ (by rw [valX_l, find_of nd em]; rfl)
  refine seq_step ?_
  simp only [startX, rAsg, rgName, rVar, rC, rBin, rD, rCl, rFz, rTb, rTr, rIf, rIfS, rRet, rRetN, rNx, rCons, rNil, rTup, rTupC, rLst, rApp, rAppF, rCall, rPar, rNeg, rNot, rAnd, rOr, rChain, rLc, riSeq, rYes, rDrop, rFor, rApd, rExt, rgTup, rgCons, rgNil, rgSub, rIsiX, riRng1, riRng2, slot_z, slot_s, set_z, set_s, at0, at1, at2, at3, at4, at5, at6, dX_c, dX_n, gIx_tup, gIx_lst, gEq_ii, gEq_ss, gNe_ii, gNe_ss, gAdd_ii, gSub_ii, gLt_ii, gLe_ii, gGt_ii, gGe_ii, gIsN_d, gLen_l, gMax_ii, gMin_ii, gInt_b, gInt_i, gAbs_i, gApd_last, isLst_last, boX_b, tru_l, fzL_dX, fzL_n, fzL_cd, Option.map_some, fz_d, pk_d, ifS_some, hd_int, hd_str, hd_bool, hd_none, hd_list, hd_tuple, wipeX, List.map_cons, List.map_nil, List.length_cons, List.length_nil, List.replicate_succ, List.replicate_zero, List.cons_append, List.nil_append, List.append_nil, decide_eq_true_eq, if_true, if_false, Nat.reduceAdd, Nat.reduceSub, Nat.reduceLeDiff, Nat.zero_add, Nat.sub_zero, N_Title_open_rows, rFld, insT, f2]
  refine gSort4_dit hd2_ (by rw [kT_lX]; exact srt_key ll) ?_
  rw [kT_lX, sortD_enc]
  try simp only [startX, rAsg, rgName, rVar, rC, rBin, rD, rCl, rFz, rTb, rTr, rIf, rIfS, rRet, rRetN, rNx, rCons, rNil, rTup, rTupC, rLst, rApp, rAppF, rCall, rPar, rNeg, rNot, rAnd, rOr, rChain, rLc, riSeq, rYes, rDrop, rFor, rApd, rExt, rgTup, rgCons, rgNil, rgSub, rIsiX, riRng1, riRng2, slot_z, slot_s, set_z, set_s, at0, at1, at2, at3, at4, at5, at6, dX_c, dX_n, gIx_tup, gIx_lst, gEq_ii, gEq_ss, gNe_ii, gNe_ss, gAdd_ii, gSub_ii, gLt_ii, gLe_ii, gGt_ii, gGe_ii, gIsN_d, gLen_l, gMax_ii, gMin_ii, gInt_b, gInt_i, gAbs_i, gApd_last, isLst_last, boX_b, tru_l, fzL_dX, fzL_n, fzL_cd, Option.map_some, fz_d, pk_d, ifS_some, hd_int, hd_str, hd_bool, hd_none, hd_list, hd_tuple, wipeX, List.map_cons, List.map_nil, List.length_cons, List.length_nil, List.replicate_succ, List.replicate_zero, List.cons_append, List.nil_append, List.append_nil, decide_eq_true_eq, if_true, if_false, Nat.reduceAdd, Nat.reduceSub, Nat.reduceLeDiff, Nat.zero_add, Nat.sub_zero]
  refine lcW_map keyD (fun e => decide (0 < e.rest)) keyD (by trivial) _ [] (small (by rw [sortE_len]; simp only [List.length_nil]; omega)) (fun e he Kt Kf h1 h2 => ?_) ?_
  · have em : e ∈ L := (List.mergeSort_perm _ _).mem_iff.mp he
    simp only [rgName, set_z, set_s]
    rw [← hrt]
    refine Ev.tb (b := decide (0 < e.rest)) (Ev.bin (x := .d (.int e.rest)) (y := .d (.int 0)) (lf _ e em rfl rfl) (Ev.c _) fun P p => by rw [gGt_ii]; exact p) ?_
    split
    · rename_i z; exact h1 z
    · rename_i z; exact h2 (by simpa using z)
  try simp only [startX, rAsg, rgName, rVar, rC, rBin, rD, rCl, rFz, rTb, rTr, rIf, rIfS, rRet, rRetN, rNx, rCons, rNil, rTup, rTupC, rLst, rApp, rAppF, rCall, rPar, rNeg, rNot, rAnd, rOr, rChain, rLc, riSeq, rYes, rDrop, rFor, rApd, rExt, rgTup, rgCons, rgNil, rgSub, rIsiX, riRng1, riRng2, slot_z, slot_s, set_z, set_s, at0, at1, at2, at3, at4, at5, at6, dX_c, dX_n, gIx_tup, gIx_lst, gEq_ii, gEq_ss, gNe_ii, gNe_ss, gAdd_ii, gSub_ii, gLt_ii, gLe_ii, gGt_ii, gGe_ii, gIsN_d, gLen_l, gMax_ii, gMin_ii, gInt_b, gInt_i, gAbs_i, gApd_last, isLst_last, boX_b, tru_l, fzL_dX, fzL_n, fzL_cd, Option.map_some, fz_d, pk_d, ifS_some, hd_int, hd_str, hd_bool, hd_none, hd_list, hd_tuple, wipeX, List.map_cons, List.map_nil, List.length_cons, List.length_nil, List.replicate_succ, List.replicate_zero, List.cons_append, List.nil_append, List.append_nil, decide_eq_true_eq, if_true, if_false, Nat.reduceAdd, Nat.reduceSub, Nat.reduceLeDiff, Nat.zero_add, Nat.sub_zero]
  refine lcW_map keyD (fun _ => true) rowD (by trivial) ((sortE keyD L).filter fun e => decide (0 < e.rest)) [] (small (by have := openV_len L; unfold openV at this; simp only [List.length_nil]; omega)) (fun e he Kt Kf h1 h2 => ?_) ?_
  · have em : e ∈ L := (openV_mem he).1
    simp only [rgName, set_z, set_s, rYes]
    rw [if_pos trivial, ← hre]
    refine Ev.bin (x := .d (keyD e)) (y := .d (.tuple [.str e.taker, .int e.rest])) (z := .d (rowD e)) (Ev.var rfl) (Ev.tup (EvF.cons (tk _ e em rfl rfl) (EvF.cons (lf _ e em rfl rfl) EvF.nil)) (by simp)) (fun P p => ?_) _ (h1 rfl)
    unfold keyD
    rw [gAdd_tt]
    exact ⟨by show 2 + 2 ≤ sizeLine; decide, p⟩
  rw [show (((sortE keyD L).filter fun e => decide (0 < e.rest)).filter fun _ => true) = (sortE keyD L).filter fun e => decide (0 < e.rest) from List.filter_eq_self.mpr fun _ _ => rfl]
  try simp only [startX, rAsg, rgName, rVar, rC, rBin, rD, rCl, rFz, rTb, rTr, rIf, rIfS, rRet, rRetN, rNx, rCons, rNil, rTup, rTupC, rLst, rApp, rAppF, rCall, rPar, rNeg, rNot, rAnd, rOr, rChain, rLc, riSeq, rYes, rDrop, rFor, rApd, rExt, rgTup, rgCons, rgNil, rgSub, rIsiX, riRng1, riRng2, slot_z, slot_s, set_z, set_s, at0, at1, at2, at3, at4, at5, at6, dX_c, dX_n, gIx_tup, gIx_lst, gEq_ii, gEq_ss, gNe_ii, gNe_ss, gAdd_ii, gSub_ii, gLt_ii, gLe_ii, gGt_ii, gGe_ii, gIsN_d, gLen_l, gMax_ii, gMin_ii, gInt_b, gInt_i, gAbs_i, gApd_last, isLst_last, boX_b, tru_l, fzL_dX, fzL_n, fzL_cd, Option.map_some, fz_d, pk_d, ifS_some, hd_int, hd_str, hd_bool, hd_none, hd_list, hd_tuple, wipeX, List.map_cons, List.map_nil, List.length_cons, List.length_nil, List.replicate_succ, List.replicate_zero, List.cons_append, List.nil_append, List.append_nil, decide_eq_true_eq, if_true, if_false, Nat.reduceAdd, Nat.reduceSub, Nat.reduceLeDiff, Nat.zero_add, Nat.sub_zero]
  exact hp
def pf_lleft : PF := fun xs M R => ∃ (j : Nat) (L : List Le), xs = [.c j] ∧ M[j]? = some (.dit (lX lwD L)) ∧ (L.map leK).Nodup ∧ L.length ≤ 1000 ∧ R (.d (.list ((openV L).map rowD))) M
theorem ok_lleft (D : DefOk K mg "_law_left" ["left"] (defArgs s__law_left) (defBody s__law_left) (defScope s__law_left)) (Z : Fx K mg base) : Cal P w K mg base (k + 1) "_law_left" ["left"] pf_lleft := by
  refine Cal.mk_ D sc__law_left (sd__law_left Z) (fun xs M R ⟨_, _, e, _⟩ => by rw [e]; rfl) (fun xs M R hp => ?_)
  obtain ⟨j, L, rfl, em0, nd, ll, hp⟩ := hp
  have hdj : hd M (.c j) = .dit (lX lwD L) := hd_dit em0
  unfold b__law_left
  obtain ⟨rt, hrt⟩ : ∃ r : RT, rTb (rBin gGt (rBin gIx (G.rIxT (rVar 0) (rKd (rVar 1))) (rC (.int 1))) (rC (.int 0))) = r := ⟨_, rfl⟩
  obtain ⟨re, hre⟩ : ∃ r : RE, rTup (rCons (rBin gIx (rVar 1) (rC (.int 0))) (rCons (rBin gIx (rVar 1) (rC (.int 1))) (rCons (rBin gIx (G.rIxT (rVar 0) (rKd (rVar 1))) (rC (.int 0))) (rCons (rBin gIx (G.rIxT (rVar 0) (rKd (rVar 1))) (rC (.int 1))) (rNil))))) = r := ⟨_, rfl⟩
  rw [hrt, hre]
  have lf : ∀ (σ : Sl) (e : Le), e ∈ L → slot σ 0 = some (.c j) → slot σ 1 = some (.d (keyD e)) → Ev (G.rIxT (rVar 0) (rKd (rVar 1))) σ M (.d (lwD e)) := fun σ e em s0 s2 => Ev.ixT (Ev.var s0) (EvK.dat s2) hdj (by rw [valX_l, find_of nd em]; rfl)
  have l0 : ∀ (σ : Sl) (e : Le), e ∈ L → slot σ 0 = some (.c j) → slot σ 1 = some (.d (keyD e)) → Ev (rBin gIx (G.rIxT (rVar 0) (rKd (rVar 1))) (rC (.int 0))) σ M (.d (.str e.taker)) := fun σ e em s0 s2 => Ev.bin (y := .d (.int 0)) (lf σ e em s0 s2) (Ev.c _) fun P p => p
  have l1 : ∀ (σ : Sl) (e : Le), e ∈ L → slot σ 0 = some (.c j) → slot σ 1 = some (.d (keyD e)) → Ev (rBin gIx (G.rIxT (rVar 0) (rKd (rVar 1))) (rC (.int 1))) σ M (.d (.int e.rest)) := fun σ e em s0 s2 => Ev.bin (y := .d (.int 1)) (lf σ e em s0 s2) (Ev.c _) fun P p => p
  simp only [startX, rAsg, rgName, rVar, rC, rBin, rD, rCl, rFz, rTb, rTr, rIf, rIfS, rRet, rRetN, rNx, rCons, rNil, rTup, rTupC, rLst, rApp, rAppF, rCall, rPar, rNeg, rNot, rAnd, rOr, rChain, rLc, riSeq, rYes, rDrop, rFor, rApd, rExt, rgTup, rgCons, rgNil, rgSub, rIsiX, riRng1, riRng2, slot_z, slot_s, set_z, set_s, at0, at1, at2, at3, at4, at5, at6, dX_c, dX_n, gIx_tup, gIx_lst, gEq_ii, gEq_ss, gNe_ii, gNe_ss, gAdd_ii, gSub_ii, gLt_ii, gLe_ii, gGt_ii, gGe_ii, gIsN_d, gLen_l, gMax_ii, gMin_ii, gInt_b, gInt_i, gAbs_i, gApd_last, isLst_last, boX_b, tru_l, fzL_dX, fzL_n, fzL_cd, Option.map_some, fz_d, pk_d, ifS_some, hd_int, hd_str, hd_bool, hd_none, hd_list, hd_tuple, wipeX, List.map_cons, List.map_nil, List.length_cons, List.length_nil, List.replicate_succ, List.replicate_zero, List.cons_append, List.nil_append, List.append_nil, decide_eq_true_eq, if_true, if_false, Nat.reduceAdd, Nat.reduceSub, Nat.reduceLeDiff, Nat.zero_add, Nat.sub_zero, N__law_left]
  refine gSort4_dit hdj (by rw [kT_lX]; exact srt_key ll) ?_
  rw [kT_lX, sortD_enc]
  try simp only [startX, rAsg, rgName, rVar, rC, rBin, rD, rCl, rFz, rTb, rTr, rIf, rIfS, rRet, rRetN, rNx, rCons, rNil, rTup, rTupC, rLst, rApp, rAppF, rCall, rPar, rNeg, rNot, rAnd, rOr, rChain, rLc, riSeq, rYes, rDrop, rFor, rApd, rExt, rgTup, rgCons, rgNil, rgSub, rIsiX, riRng1, riRng2, slot_z, slot_s, set_z, set_s, at0, at1, at2, at3, at4, at5, at6, dX_c, dX_n, gIx_tup, gIx_lst, gEq_ii, gEq_ss, gNe_ii, gNe_ss, gAdd_ii, gSub_ii, gLt_ii, gLe_ii, gGt_ii, gGe_ii, gIsN_d, gLen_l, gMax_ii, gMin_ii, gInt_b, gInt_i, gAbs_i, gApd_last, isLst_last, boX_b, tru_l, fzL_dX, fzL_n, fzL_cd, Option.map_some, fz_d, pk_d, ifS_some, hd_int, hd_str, hd_bool, hd_none, hd_list, hd_tuple, wipeX, List.map_cons, List.map_nil, List.length_cons, List.length_nil, List.replicate_succ, List.replicate_zero, List.cons_append, List.nil_append, List.append_nil, decide_eq_true_eq, if_true, if_false, Nat.reduceAdd, Nat.reduceSub, Nat.reduceLeDiff, Nat.zero_add, Nat.sub_zero]
  refine lcW_map keyD (fun e => decide (0 < e.rest)) rowD (by trivial) _ [] (small (by rw [sortE_len]; simp only [List.length_nil]; omega)) (fun e he Kt Kf h1 h2 => ?_) ?_
  · have em : e ∈ L := (List.mergeSort_perm _ _).mem_iff.mp he
    simp only [rgName, set_z, set_s]
    rw [← hrt]
    refine Ev.tb (b := decide (0 < e.rest)) (Ev.bin (x := .d (.int e.rest)) (y := .d (.int 0)) (l1 _ e em rfl rfl) (Ev.c _) fun P p => by rw [gGt_ii]; exact p) ?_
    split
    · rename_i z
      rw [← hre]
      refine Ev.tup (ds := [.str e.giver, .int e.n, .str e.taker, .int e.rest]) (EvF.cons (Ev.bin (x := .d (keyD e)) (y := .d (.int 0)) (Ev.var rfl) (Ev.c _) fun P p => p) (EvF.cons (Ev.bin (x := .d (keyD e)) (y := .d (.int 1)) (Ev.var rfl) (Ev.c _) fun P p => p) (EvF.cons (l0 _ e em rfl rfl) (EvF.cons (l1 _ e em rfl rfl) EvF.nil)))) (by simp) _ (h1 z)
    · rename_i z; exact h2 (by simpa using z)
  try simp only [startX, rAsg, rgName, rVar, rC, rBin, rD, rCl, rFz, rTb, rTr, rIf, rIfS, rRet, rRetN, rNx, rCons, rNil, rTup, rTupC, rLst, rApp, rAppF, rCall, rPar, rNeg, rNot, rAnd, rOr, rChain, rLc, riSeq, rYes, rDrop, rFor, rApd, rExt, rgTup, rgCons, rgNil, rgSub, rIsiX, riRng1, riRng2, slot_z, slot_s, set_z, set_s, at0, at1, at2, at3, at4, at5, at6, dX_c, dX_n, gIx_tup, gIx_lst, gEq_ii, gEq_ss, gNe_ii, gNe_ss, gAdd_ii, gSub_ii, gLt_ii, gLe_ii, gGt_ii, gGe_ii, gIsN_d, gLen_l, gMax_ii, gMin_ii, gInt_b, gInt_i, gAbs_i, gApd_last, isLst_last, boX_b, tru_l, fzL_dX, fzL_n, fzL_cd, Option.map_some, fz_d, pk_d, ifS_some, hd_int, hd_str, hd_bool, hd_none, hd_list, hd_tuple, wipeX, List.map_cons, List.map_nil, List.length_cons, List.length_nil, List.replicate_succ, List.replicate_zero, List.cons_append, List.nil_append, List.append_nil, decide_eq_true_eq, if_true, if_false, Nat.reduceAdd, Nat.reduceSub, Nat.reduceLeDiff, Nat.zero_add, Nat.sub_zero]
  exact hp
end K31

set_option Elab.async false
set_option linter.all false
set_option maxRecDepth 100000
set_option maxHeartbeats 8000000
namespace K31
open PySem PySem.Spec PyProof.Rows L2 G
variable {P : Program} {w : World} {K : PySem.W.Frag} {mg : Str → Option Value} {base : Heap} {k : Nat}
structure Wt (s : PyData) (m : Sd) (T : List Tr) (R : List Rg) : Prop where
  I : Is s m
  g : Gd m
  I2 : Is2 s T R
  ro : RegOk T R
  un : ∀ a ∈ m.apps, rowOf m a.nm = some a
  la : m.apps.length ≤ 5
  so : ∀ a ∈ m.apps, PyData.strOk a.own = true
theorem noOpen (p : Nat) : List.lookup ("open_rows" : Str) (flds p) = none := by
  show List.lookup ("open_rows" : Str) [("held", _), ("left", _), ("takers", _)] = none
  unfold List.lookup
  rw [show (("open_rows" : Str) == "held") = false by decide +kernel]
  unfold List.lookup
  rw [show (("open_rows" : Str) == "left") = false by decide +kernel]
  unfold List.lookup
  rw [show (("open_rows" : Str) == "takers") = false by decide +kernel]
  rfl
theorem titleV_nd (own : Str) (T : List Tr) (R : List Rg) (nm : Str) (day : Int) : ((titleV own T R nm day).2.map leK).Nodup := by
  have : ∀ (R : List Rg) (q : Held × List Le), (R.foldl (stepR nm day) q).2.map leK = q.2.map leK := by
    intro R
    induction R with
    | nil => intro q; rfl
    | cons r R ih =>
      intro q
      rw [List.foldl_cons, ih]
      unfold stepR
      split
      · exact moveV_keys ..
      · rfl
  unfold titleV
  rw [this]
  exact foldT_nd List.nodup_nil
theorem titleV_ll {T : List Tr} {R : List Rg} (ro : RegOk T R) {own nm : Str} {day : Int} : (titleV own T R nm day).2.length ≤ 16 := by
  have : ∀ (R : List Rg) (q : Held × List Le), (R.foldl (stepR nm day) q).2.length = q.2.length := by
    intro R
    induction R with
    | nil => intro q; rfl
    | cons r R ih =>
      intro q
      rw [List.foldl_cons, ih]
      unfold stepR
      split
      · exact (moveV_len ..).2
      · rfl
  unfold titleV
  rw [this]
  have := foldT_len (nm := nm) (day := day) (T := T) (L := [])
  have tl := ro.tl
  rw [List.length_nil] at this
  show (leftV T nm day).length ≤ 16
  unfold leftV
  omega
def pf_fsh : PF := fun xs A R' => ∃ (s : PyData) (m : Sd) (T : List Tr) (R : List Rg) (nm : Str) (a : App) (day : Int), xs = [.d s, .d (.str nm), .d (.int day)] ∧ Is s m ∧ Gd m ∧ rowOf m nm = some a ∧ Is2 s T R ∧ RegOk T R ∧
  ∀ B : Sto, R' (.c (A.length + B.length)) (A ++ (B ++ [.lst (dX ((shV (titleV a.own T R nm day).1).map shD))]))
theorem ok_fsh {j : Nat} (hj : j + 1 ≤ k) (D : DefOk K mg "shares" ["state", "name", "day"] (defArgs s_shares) (defBody s_shares) (defScope s_shares)) (Z : Fx K mg base)
    (M0 : MkCal P w K mg base j "Title" (He.ga K "Title") ["self", "state", "name", "day"] (pf_init (He.ga K "Title"))) (M1 : MCal P w K mg base k (He.ga K "Title") "shares" ["self"] (pf_shares (He.ga K "Title"))) : Cal P w K mg base (k + 1) "shares" ["state", "name", "day"] pf_fsh := by
  refine Cal.mk_ (k := k) D sc_shares (sd_shares Z hj M0 M1) (fun xs M R ⟨_, _, _, _, _, _, _, e, _⟩ => by rw [e]; rfl) (fun xs A R' hp => ?_)
  obtain ⟨s, m, T, R, nm, a, day, rfl, I, g, er, I2, ro, hp⟩ := hp
  generalize He.ga K "Title" = C
  unfold b_shares
  simp only [startX, rAsg, rgName, rVar, rC, rBin, rD, rCl, rFz, rTb, rTr, rIf, rIfS, rRet, rRetN, rNx, rCons, rNil, rTup, rTupC, rLst, rApp, rAppF, rCall, rPar, rNeg, rNot, rAnd, rOr, rChain, rLc, riSeq, rYes, rDrop, rFor, rApd, rExt, rgTup, rgCons, rgNil, rgSub, rIsiX, riRng1, riRng2, slot_z, slot_s, set_z, set_s, at0, at1, at2, at3, at4, at5, at6, dX_c, dX_n, gIx_tup, gIx_lst, gEq_ii, gEq_ss, gNe_ii, gNe_ss, gAdd_ii, gSub_ii, gLt_ii, gLe_ii, gGt_ii, gGe_ii, gIsN_d, gLen_l, gMax_ii, gMin_ii, gInt_b, gInt_i, gAbs_i, gApd_last, isLst_last, boX_b, tru_l, fzL_dX, fzL_n, fzL_cd, Option.map_some, fz_d, pk_d, ifS_some, hd_int, hd_str, hd_bool, hd_none, hd_list, hd_tuple, wipeX, List.map_cons, List.map_nil, List.length_cons, List.length_nil, List.replicate_succ, List.replicate_zero, List.cons_append, List.nil_append, List.append_nil, decide_eq_true_eq, if_true, if_false, Nat.reduceAdd, Nat.reduceSub, Nat.reduceLeDiff, Nat.zero_add, Nat.sub_zero, N_shares, rMeth0, rMake]
  refine ⟨A, s, m, nm, a, day, T, R, rfl, rfl, I, g, er, I2, ro, fun B' => ⟨trivial, ?_⟩⟩
  rw [insT, ifS_some]
  refine ⟨noShares _, A, _, _, B', rfl, rfl, titleV_len ro, ?_⟩
  obtain ⟨V, hV⟩ : ∃ V, titleV a.own T R nm day = V := ⟨_, rfl⟩
  rw [hV] at hp ⊢
  have := hp (.ins C (flds A.length) :: .dic (hX V.1) :: .dit (lX resD V.2) :: .dit (lX tkrD V.2) :: B')
  rw [tlen]
  unfold tM
  simp only [List.length_cons, List.cons_append] at this ⊢
  rw [show A.length + 4 + B'.length = A.length + (B'.length + 1 + 1 + 1 + 1) by omega]
  exact this
def pf_fop : PF := fun xs A R' => ∃ (s : PyData) (m : Sd) (T : List Tr) (R : List Rg) (nm : Str) (a : App) (day : Int), xs = [.d s, .d (.str nm), .d (.int day)] ∧ Is s m ∧ Gd m ∧ rowOf m nm = some a ∧ Is2 s T R ∧ RegOk T R ∧
  ∀ B : Sto, R' (.d (.list ((openV (titleV a.own T R nm day).2).map rowD))) (A ++ B)
theorem ok_fop {j : Nat} (hj : j + 1 ≤ k) (D : DefOk K mg "open_transfers" ["state", "name", "day"] (defArgs s_open_transfers) (defBody s_open_transfers) (defScope s_open_transfers)) (Z : Fx K mg base)
    (M0 : MkCal P w K mg base j "Title" (He.ga K "Title") ["self", "state", "name", "day"] (pf_init (He.ga K "Title"))) (M1 : MCal P w K mg base k (He.ga K "Title") "open_rows" ["self"] (pf_orows (He.ga K "Title"))) : Cal P w K mg base (k + 1) "open_transfers" ["state", "name", "day"] pf_fop := by
  refine Cal.mk_ (k := k) D sc_open_transfers (sd_open_transfers Z hj M0 M1) (fun xs M R ⟨_, _, _, _, _, _, _, e, _⟩ => by rw [e]; rfl) (fun xs A R' hp => ?_)
  obtain ⟨s, m, T, R, nm, a, day, rfl, I, g, er, I2, ro, hp⟩ := hp
  generalize He.ga K "Title" = C
  unfold b_open_transfers
  simp only [startX, rAsg, rgName, rVar, rC, rBin, rD, rCl, rFz, rTb, rTr, rIf, rIfS, rRet, rRetN, rNx, rCons, rNil, rTup, rTupC, rLst, rApp, rAppF, rCall, rPar, rNeg, rNot, rAnd, rOr, rChain, rLc, riSeq, rYes, rDrop, rFor, rApd, rExt, rgTup, rgCons, rgNil, rgSub, rIsiX, riRng1, riRng2, slot_z, slot_s, set_z, set_s, at0, at1, at2, at3, at4, at5, at6, dX_c, dX_n, gIx_tup, gIx_lst, gEq_ii, gEq_ss, gNe_ii, gNe_ss, gAdd_ii, gSub_ii, gLt_ii, gLe_ii, gGt_ii, gGe_ii, gIsN_d, gLen_l, gMax_ii, gMin_ii, gInt_b, gInt_i, gAbs_i, gApd_last, isLst_last, boX_b, tru_l, fzL_dX, fzL_n, fzL_cd, Option.map_some, fz_d, pk_d, ifS_some, hd_int, hd_str, hd_bool, hd_none, hd_list, hd_tuple, wipeX, List.map_cons, List.map_nil, List.length_cons, List.length_nil, List.replicate_succ, List.replicate_zero, List.cons_append, List.nil_append, List.append_nil, decide_eq_true_eq, if_true, if_false, Nat.reduceAdd, Nat.reduceSub, Nat.reduceLeDiff, Nat.zero_add, Nat.sub_zero, N_open_transfers, rMeth0, rMake]
  refine ⟨A, s, m, nm, a, day, T, R, rfl, rfl, I, g, er, I2, ro, fun B' => ⟨trivial, ?_⟩⟩
  rw [insT, ifS_some]
  refine ⟨noOpen _, A, _, _, B', rfl, rfl, titleV_nd .., by have := titleV_ll ro (own := a.own) (nm := nm) (day := day); omega, ?_⟩
  exact hp _
/-! ### steps that are done -/
structure Stp where
  g : Str
  n : Int
  z : Int
def spD (t : Stp) : PyData := .tuple [.str t.g, .int t.n, .int t.z]
def moveS (q : Held × List Le) (t : Stp) : Held × List Le := moveV q t.g t.n t.z
theorem hd_sp (t : Stp) (M : Sto) : hd M (.d (spD t)) = .tup [.d (.str t.g), .d (.int t.n), .d (.int t.z)] := rfl
theorem foldS_len : ∀ {S : List Stp} {q : Held × List Le}, (S.foldl moveS q).1.length ≤ q.1.length + 2 * S.length ∧ (S.foldl moveS q).2.map leK = q.2.map leK
  | [], q => ⟨by simp, rfl⟩
  | t :: S, q => by
    have h := foldS_len (S := S) (q := moveS q t)
    have h1 := (moveV_len q t.g t.n t.z).1
    have h2 := moveV_keys q t.g t.n t.z
    rw [List.foldl_cons, List.length_cons]
    unfold moveS at h ⊢
    exact ⟨by omega, h.2.trans h2⟩
def pf_moved : PF := fun xs A R' => ∃ (s : PyData) (m : Sd) (T : List Tr) (R : List Rg) (nm : Str) (a : App) (day : Int) (S : List Stp), xs = [.d s, .d (.str nm), .d (.int day), .d (.list (S.map spD))] ∧ Is s m ∧ Gd m ∧ rowOf m nm = some a ∧ Is2 s T R ∧ RegOk T R ∧ S.length ≤ 100 ∧
  (∀ t ∈ S, [.inr t.g, .inl t.n] ∈ (titleV a.own T R nm day).2.map leK) ∧ (S.foldl moveS (titleV a.own T R nm day)).1.length < 64 ∧
  ∀ B : Sto, R' (.c (A.length + B.length)) (A ++ (B ++ [.lst (dX ((shV (S.foldl moveS (titleV a.own T R nm day)).1).map shD))]))
theorem ok_moved {j : Nat} (hj : j + 1 ≤ k) (D : DefOk K mg "moved" ["state", "name", "day", "steps"] (defArgs s_moved) (defBody s_moved) (defScope s_moved)) (Z : Fx K mg base)
    (M0 : MkCal P w K mg base j "Title" (He.ga K "Title") ["self", "state", "name", "day"] (pf_init (He.ga K "Title"))) (M1 : MCal P w K mg base k (He.ga K "Title") "move" ["self", "giver", "number", "size"] (pf_move (He.ga K "Title"))) (M2 : MCal P w K mg base k (He.ga K "Title") "shares" ["self"] (pf_shares (He.ga K "Title"))) : Cal P w K mg base (k + 1) "moved" ["state", "name", "day", "steps"] pf_moved := by
  refine Cal.mk_ (k := k) D sc_moved (sd_moved Z hj M0 M1 M2) (fun xs M R ⟨_, _, _, _, _, _, _, _, e, _⟩ => by rw [e]; rfl) (fun xs A R' hp => ?_)
  obtain ⟨s, m, T, R, nm, a, day, S, rfl, I, g, er, I2, ro, sl, sk, hl, hp⟩ := hp
  generalize He.ga K "Title" = C
  have nd := titleV_nd a.own T R nm day
  have tl := titleV_len ro (own := a.own) (nm := nm) (day := day)
  have ll := titleV_ll ro (own := a.own) (nm := nm) (day := day)
  unfold b_moved
  refine seq_step ?_
  simp only [startX, rAsg, rgName, rVar, rC, rBin, rD, rCl, rFz, rTb, rTr, rIf, rIfS, rRet, rRetN, rNx, rCons, rNil, rTup, rTupC, rLst, rApp, rAppF, rCall, rPar, rNeg, rNot, rAnd, rOr, rChain, rLc, riSeq, rYes, rDrop, rFor, rApd, rExt, rgTup, rgCons, rgNil, rgSub, rIsiX, riRng1, riRng2, slot_z, slot_s, set_z, set_s, at0, at1, at2, at3, at4, at5, at6, dX_c, dX_n, gIx_tup, gIx_lst, gEq_ii, gEq_ss, gNe_ii, gNe_ss, gAdd_ii, gSub_ii, gLt_ii, gLe_ii, gGt_ii, gGe_ii, gIsN_d, gLen_l, gMax_ii, gMin_ii, gInt_b, gInt_i, gAbs_i, gApd_last, isLst_last, boX_b, tru_l, fzL_dX, fzL_n, fzL_cd, Option.map_some, fz_d, pk_d, ifS_some, hd_int, hd_str, hd_bool, hd_none, hd_list, hd_tuple, wipeX, List.map_cons, List.map_nil, List.length_cons, List.length_nil, List.replicate_succ, List.replicate_zero, List.cons_append, List.nil_append, List.append_nil, decide_eq_true_eq, if_true, if_false, Nat.reduceAdd, Nat.reduceSub, Nat.reduceLeDiff, Nat.zero_add, Nat.sub_zero, N_moved, rMake]
  refine ⟨A, s, m, nm, a, day, T, R, rfl, rfl, I, g, er, I2, ro, fun B' => ?_⟩
  obtain ⟨V, hV⟩ : ∃ V, titleV a.own T R nm day = V := ⟨_, rfl⟩
  rw [hV] at hp hl sk nd tl ll ⊢
  obtain ⟨Z0, hZ0⟩ : ∃ Z0, S.foldl moveS V = Z0 := ⟨_, rfl⟩
  rw [hZ0] at hp hl
  refine ⟨trivial, ?_⟩
  refine seq_step ?_
  simp only [startX, rAsg, rgName, rVar, rC, rBin, rD, rCl, rFz, rTb, rTr, rIf, rIfS, rRet, rRetN, rNx, rCons, rNil, rTup, rTupC, rLst, rApp, rAppF, rCall, rPar, rNeg, rNot, rAnd, rOr, rChain, rLc, riSeq, rYes, rDrop, rFor, rApd, rExt, rgTup, rgCons, rgNil, rgSub, rIsiX, riRng1, riRng2, slot_z, slot_s, set_z, set_s, at0, at1, at2, at3, at4, at5, at6, dX_c, dX_n, gIx_tup, gIx_lst, gEq_ii, gEq_ss, gNe_ii, gNe_ss, gAdd_ii, gSub_ii, gLt_ii, gLe_ii, gGt_ii, gGe_ii, gIsN_d, gLen_l, gMax_ii, gMin_ii, gInt_b, gInt_i, gAbs_i, gApd_last, isLst_last, boX_b, tru_l, fzL_dX, fzL_n, fzL_cd, Option.map_some, fz_d, pk_d, ifS_some, hd_int, hd_str, hd_bool, hd_none, hd_list, hd_tuple, wipeX, List.map_cons, List.map_nil, List.length_cons, List.length_nil, List.replicate_succ, List.replicate_zero, List.cons_append, List.nil_append, List.append_nil, decide_eq_true_eq, if_true, if_false, Nat.reduceAdd, Nat.reduceSub, Nat.reduceLeDiff, Nat.zero_add, Nat.sub_zero, rMeth]
  refine loopW_inv (fun xs σ M => ∃ (rest : List Stp) (q : Held × List Le) (B : Sto) (o5 o6 o7 : Option Xv), xs = dX (rest.map spD) ∧ (∀ t ∈ rest, t ∈ S) ∧ rest.foldl moveS q = Z0 ∧ q.2.map leK = V.2.map leK ∧ q.1.length + 2 * rest.length ≤ 300 ∧ M = tM C A q.1 q.2 B ∧
    σ = [some (.d s), some (.d (.str nm)), some (.d (.int day)), some (.d (.list (S.map spD))), some (.c A.length), o5, o6, o7]) ?_ ?_ _ _ _ ⟨S, V, B', _, _, _, rfl, fun t ht => ht, hZ0, rfl, by omega, rfl, rfl⟩
  · rintro x xs σ M ⟨rest, q, B, o5, o6, o7, e, hs, ev, hk, ql, rfl, rfl⟩ CC hC
    obtain ⟨t, rest, rfl⟩ : ∃ a r, rest = a :: r := by
      cases rest with
      | nil => cases e
      | cons a r => exact ⟨a, r, rfl⟩
    rw [List.map_cons, dX_c] at e
    cases e
    rw [List.length_cons] at ql
    refine ⟨trivial, ?_⟩
    simp only [rgTup, hd_sp, List.length_cons, List.length_nil, rgCons, rgNil, rgName, set_z, set_s]
    refine ⟨trivial, ?_⟩
    simp only [startX, rAsg, rgName, rVar, rC, rBin, rD, rCl, rFz, rTb, rTr, rIf, rIfS, rRet, rRetN, rNx, rCons, rNil, rTup, rTupC, rLst, rApp, rAppF, rCall, rPar, rNeg, rNot, rAnd, rOr, rChain, rLc, riSeq, rYes, rDrop, rFor, rApd, rExt, rgTup, rgCons, rgNil, rgSub, rIsiX, riRng1, riRng2, slot_z, slot_s, set_z, set_s, at0, at1, at2, at3, at4, at5, at6, dX_c, dX_n, gIx_tup, gIx_lst, gEq_ii, gEq_ss, gNe_ii, gNe_ss, gAdd_ii, gSub_ii, gLt_ii, gLe_ii, gGt_ii, gGe_ii, gIsN_d, gLen_l, gMax_ii, gMin_ii, gInt_b, gInt_i, gAbs_i, gApd_last, isLst_last, boX_b, tru_l, fzL_dX, fzL_n, fzL_cd, Option.map_some, fz_d, pk_d, ifS_some, hd_int, hd_str, hd_bool, hd_none, hd_list, hd_tuple, wipeX, List.map_cons, List.map_nil, List.length_cons, List.length_nil, List.replicate_succ, List.replicate_zero, List.cons_append, List.nil_append, List.append_nil, decide_eq_true_eq, if_true, if_false, Nat.reduceAdd, Nat.reduceSub, Nat.reduceLeDiff, Nat.zero_add, Nat.sub_zero, rMeth]
    rw [insT, ifS_some]
    have tk := sk t (hs t List.mem_cons_self)
    have qn : q.2.length = V.2.length := by have := congrArg List.length hk; rw [List.length_map, List.length_map] at this; exact this
    refine ⟨noMove _, A, q.1, q.2, B, t.g, t.n, t.z, rfl, rfl, by rw [hk]; exact tk, by rw [hk]; exact nd, by omega, by omega, fun B2 => ?_⟩
    have ml := (moveV_len q t.g t.n t.z).1
    exact hC _ _ ⟨rest, moveV q t.g t.n t.z, B ++ B2, _, _, _, rfl, fun x hx => hs x (List.mem_cons_of_mem _ hx), ev, (moveV_keys ..).trans hk, by omega, rfl, rfl⟩
  · rintro σ M ⟨rest, q, B, o5, o6, o7, e, hs, ev, hk, ql, rfl, rfl⟩
    have e0 : rest = [] := by
      cases rest with
      | nil => rfl
      | cons a r => cases e
    subst e0
    have ev : q = Z0 := ev
    subst ev
    refine ⟨trivial, ?_⟩
    simp only [startX, rAsg, rgName, rVar, rC, rBin, rD, rCl, rFz, rTb, rTr, rIf, rIfS, rRet, rRetN, rNx, rCons, rNil, rTup, rTupC, rLst, rApp, rAppF, rCall, rPar, rNeg, rNot, rAnd, rOr, rChain, rLc, riSeq, rYes, rDrop, rFor, rApd, rExt, rgTup, rgCons, rgNil, rgSub, rIsiX, riRng1, riRng2, slot_z, slot_s, set_z, set_s, at0, at1, at2, at3, at4, at5, at6, dX_c, dX_n, gIx_tup, gIx_lst, gEq_ii, gEq_ss, gNe_ii, gNe_ss, gAdd_ii, gSub_ii, gLt_ii, gLe_ii, gGt_ii, gGe_ii, gIsN_d, gLen_l, gMax_ii, gMin_ii, gInt_b, gInt_i, gAbs_i, gApd_last, isLst_last, boX_b, tru_l, fzL_dX, fzL_n, fzL_cd, Option.map_some, fz_d, pk_d, ifS_some, hd_int, hd_str, hd_bool, hd_none, hd_list, hd_tuple, wipeX, List.map_cons, List.map_nil, List.length_cons, List.length_nil, List.replicate_succ, List.replicate_zero, List.cons_append, List.nil_append, List.append_nil, decide_eq_true_eq, if_true, if_false, Nat.reduceAdd, Nat.reduceSub, Nat.reduceLeDiff, Nat.zero_add, Nat.sub_zero, rMeth0]
    rw [insT, ifS_some]
    refine ⟨noShares _, A, _, _, B, rfl, rfl, hl, ?_⟩
    have := hp (.ins C (flds A.length) :: .dic (hX q.1) :: .dit (lX resD q.2) :: .dit (lX tkrD q.2) :: B)
    rw [tlen]
    unfold tM
    simp only [List.length_cons, List.cons_append] at this ⊢
    rw [show A.length + 4 + B.length = A.length + (B.length + 1 + 1 + 1 + 1) by omega]
    exact this
end K31

set_option Elab.async false
set_option linter.all false
set_option maxRecDepth 100000
set_option maxHeartbeats 8000000
namespace K31
open PySem PySem.Spec PyProof.Rows L2 G
variable {P : Program} {w : World} {K : PySem.W.Frag} {mg : Str → Option Value} {base : Heap} {k : Nat}
def CBy (a : App) (d : Int) : Prop := ∃ n j : Int, (0 ≤ j ∧ j < 4) ∧ (d = a.filed + 365 * n + j ∨ d = a.filed + 365 * n + 182 + j)
structure Sx (m : Sd) : Prop where
  g : Gd m
  al : m.apps.length ≤ 5
  cl : ∀ d ∈ m.closed, ∃ a ∈ m.apps, CBy a d
  fi : ∀ a ∈ m.apps, 0 ≤ a.filed ∧ a.filed < 200
  l20 : ∀ l ∈ m.lands, 0 ≤ l.2 ∧ l.2 ≤ 20
/-- the persons -/
def ppS : List Str := ["ann", "bob", "cy", "dan", "eve", "fay"]
def ppD : PyData := .list (ppS.map .str)
theorem keysX_ints : ∀ ns : List Int, keysX (dX (ns.map .int)) = some (ns.map .inl)
  | [] => rfl
  | n :: ns => by
    show (keyOf (.int n)).bind (fun k => (keysX (dX (ns.map .int))).map (k :: ·)) = _
    rw [keysX_ints ns]; rfl
theorem ints_of_all : ∀ {ds : List PyData}, (∀ d ∈ ds, ∃ i, d = .int i) → ∃ ns : List Int, ds = ns.map .int
  | [], _ => ⟨[], rfl⟩
  | d :: ds, h => by
    obtain ⟨i, rfl⟩ := h d List.mem_cons_self
    obtain ⟨ns, rfl⟩ := ints_of_all fun x hx => h x (List.mem_cons_of_mem _ hx)
    exact ⟨i :: ns, rfl⟩
theorem addK_fold_len : ∀ (ns ks : List Key), (ns.foldl addK ks).length ≤ ks.length + ns.length
  | [], ks => by simp
  | n :: ns, ks => by
    have h1 := addK_fold_len ns (addK ks n)
    have h2 := addK_len ks n
    rw [List.foldl_cons, List.length_cons]; omega
theorem addK_nodup : ∀ (ns : List Key) (ks : List Key), ks.Nodup → (ns.foldl addK ks).Nodup
  | [], _, h => h
  | n :: ns, ks, h => by
    refine addK_nodup ns _ ?_
    unfold addK
    split
    · exact h
    · rename_i z
      exact List.nodup_cons.mpr ⟨fun m => z (any_key.mpr m), h⟩
theorem uniqK_nodup (ns : List Key) : (uniqK ns).Nodup := by
  unfold uniqK
  refine List.Pairwise.map _ (fun a b h z => h ?_) (addK_nodup ns [] List.nodup_nil)
  cases a <;> cases b <;> (first | (cases z; rfl) | cases z)
theorem sset_ints (cl : List Int) : ∃ C' : List Int, sortD (uniqK (cl.map .inl)) = C'.map .int ∧ (∀ x, x ∈ C' ↔ x ∈ cl) ∧ C'.length ≤ cl.length ∧ C'.Nodup := by
  have perm := List.mergeSort_perm (uniqK (cl.map .inl)) dLe
  have mem : ∀ d, d ∈ sortD (uniqK (cl.map .inl)) ↔ ∃ i ∈ cl, d = .int i := fun d => by
    rw [perm.mem_iff, uniqK_mem, List.map_map]
    exact ⟨fun h => let ⟨i, hi, e⟩ := List.mem_map.mp h; ⟨i, hi, e.symm⟩, fun ⟨i, hi, e⟩ => List.mem_map.mpr ⟨i, hi, e.symm⟩⟩
  obtain ⟨C', e⟩ := ints_of_all (ds := sortD (uniqK (cl.map .inl))) fun d hd => let ⟨i, _, e⟩ := (mem d).mp hd; ⟨i, e⟩
  refine ⟨C', e, fun x => ?_, ?_, ?_⟩
  · constructor
    · intro hx
      obtain ⟨i, hi, e2⟩ := (mem (.int x)).mp (by rw [e]; exact List.mem_map.mpr ⟨x, hx, rfl⟩)
      cases e2; exact hi
    · intro hx
      have : PyData.int x ∈ sortD (uniqK (cl.map .inl)) := (mem _).mpr ⟨x, hx, rfl⟩
      rw [e] at this
      obtain ⟨y, hy, e2⟩ := List.mem_map.mp this
      cases e2; exact hy
  · have h1 := congrArg List.length e
    rw [List.length_map, List.length_mergeSort] at h1
    rw [← h1]
    unfold uniqK
    rw [List.length_map]
    have := addK_fold_len (cl.map .inl) []
    simpa using this
  · have nd : (sortD (uniqK (cl.map .inl))).Nodup := (List.Perm.nodup_iff perm).mpr (uniqK_nodup _)
    rw [e] at nd
    exact List.Pairwise.of_map PyData.int (fun a b h z => h (by rw [z])) nd
noncomputable def setZ (tk : List Int) : List Int := Classical.choose (sset_ints tk)
theorem setZ_eq (tk : List Int) : sortD (uniqK (tk.map .inl)) = (setZ tk).map .int := (Classical.choose_spec (sset_ints tk)).1
theorem setZ_mem (tk : List Int) : ∀ x ∈ setZ tk, x ∈ tk := fun x h => ((Classical.choose_spec (sset_ints tk)).2.1 x).mp h
theorem setZ_len (tk : List Int) : (setZ tk).length ≤ tk.length := (Classical.choose_spec (sset_ints tk)).2.2.1
/-- sorted(set(taken)), told -/
theorem sset_sz {tk : List Int} (hl : tk.length ≤ 1000) : (tk.map (Sum.inl : Int → Key)).length + 1 < scanBound := by
  rw [List.length_map]
  have : scanBound = 4096 := rfl
  omega
theorem sset_al (tk : List Int) : PySem.W.AllAlike ((tk.map (Sum.inl : Int → Key)).map kD) := by
  intro x hx y hy
  rw [List.map_map] at hx hy
  obtain ⟨_, _, rfl⟩ := List.mem_map.mp hx
  obtain ⟨_, _, rfl⟩ := List.mem_map.mp hy
  simp [kD, PySem.W.alike]
theorem setZ_iff (tk : List Int) (x : Int) : x ∈ setZ tk ↔ x ∈ tk := (Classical.choose_spec (sset_ints tk)).2.1 x
theorem setZ_nd (tk : List Int) : (setZ tk).Nodup := (Classical.choose_spec (sset_ints tk)).2.2.2
theorem setZ_pw (tk : List Int) : (setZ tk).Pairwise (· < ·) := by
  have h := PySem.W.sort_pairwise dLe_total (uniqK (tk.map .inl))
  have e : (uniqK (tk.map .inl)).mergeSort dLe = (setZ tk).map .int := setZ_eq tk
  rw [e, List.pairwise_map] at h
  refine List.Pairwise.imp₂ (R := fun a b => dLe (PyData.int a) (.int b) = true) (S := (· ≠ ·)) ?_ h (setZ_nd tk)
  intro a b h1 h2
  have h1 : (!PySem.W.dataLt (.int b) (.int a)) = true := h1
  rw [PySem.W.dataLt_int] at h1
  simp at h1
  omega
/-! ### what a fee costs by the law; the first day that is short -/
/-! ### cells behind the drawing state -/
section
variable {cs : List Int} {i : Int} {L pre post : Sto} {xs : List Xv} {y : Xv} {P : Xv → Sto → Prop} {a b c d : Ob}
theorem len_st : (stM cs i ++ L).length = L.length + 2 := by simp [stM]
theorem len_st0 : (stM cs i).length = 2 := rfl
theorem ap2 : gApd (.c 2) y (stM cs i ++ .lst xs :: L) P = (xs.length < sizeLine ∧ P (.d .none) (stM cs i ++ .lst (xs ++ [y]) :: L)) := rfl
theorem ap3 : gApd (.c 3) y (stM cs i ++ a :: .lst xs :: L) P = (xs.length < sizeLine ∧ P (.d .none) (stM cs i ++ a :: .lst (xs ++ [y]) :: L)) := rfl
theorem ap4 : gApd (.c 4) y (stM cs i ++ a :: b :: .lst xs :: L) P = (xs.length < sizeLine ∧ P (.d .none) (stM cs i ++ a :: b :: .lst (xs ++ [y]) :: L)) := rfl
theorem ap5 : gApd (.c 5) y (stM cs i ++ a :: b :: c :: .lst xs :: L) P = (xs.length < sizeLine ∧ P (.d .none) (stM cs i ++ a :: b :: c :: .lst (xs ++ [y]) :: L)) := rfl
theorem is2 : isLst (stM cs i ++ .lst xs :: L) (.c 2) = True := rfl
theorem is3 : isLst (stM cs i ++ a :: .lst xs :: L) (.c 3) = True := rfl
theorem is4 : isLst (stM cs i ++ a :: b :: .lst xs :: L) (.c 4) = True := rfl
theorem is5 : isLst (stM cs i ++ a :: b :: c :: .lst xs :: L) (.c 5) = True := rfl
theorem hd2 : hd (stM cs i ++ .lst xs :: L) (.c 2) = .lst xs := rfl
theorem hd3 : hd (stM cs i ++ a :: .lst xs :: L) (.c 3) = .lst xs := rfl
theorem hd4 : hd (stM cs i ++ a :: b :: .lst xs :: L) (.c 4) = .lst xs := rfl
theorem hd5 : hd (stM cs i ++ a :: b :: c :: .lst xs :: L) (.c 5) = .lst xs := rfl
theorem ix2 (v : Int) : gIx (.c 2) (.d (.int v)) (stM cs i ++ .lst xs :: L) P = ifS (atI xs v) fun z => P z (stM cs i ++ .lst xs :: L) := rfl
theorem ln2 : gLen [.c 2] (stM cs i ++ .lst xs :: L) P = P (.d (.int xs.length)) (stM cs i ++ .lst xs :: L) := rfl
theorem get4 : (stM cs i ++ a :: b :: .lst xs :: L)[4]? = some (.lst xs) := rfl
theorem set4 (o o' : Ob) : (stM cs i ++ a :: b :: o :: L).set 4 o' = stM cs i ++ a :: b :: o' :: L := rfl
end
theorem fz2 {cs : List Int} {i : Int} {L : Sto} {ds : List PyData} : fz (stM cs i ++ .lst (dX ds) :: L) (.c 2) = some (.list ds, stM cs i ++ .frz (.list ds) :: L) := fz_lst rfl
theorem fz3 {cs : List Int} {i : Int} {L : Sto} {a : Ob} {ds : List PyData} : fz (stM cs i ++ a :: .lst (dX ds) :: L) (.c 3) = some (.list ds, stM cs i ++ a :: .frz (.list ds) :: L) := fz_lst rfl
theorem hd3f {cs : List Int} {i : Int} {L : Sto} {a : Ob} {ds : List PyData} : hd (stM cs i ++ a :: .frz (.list ds) :: L) (.c 3) = .lst (dX ds) := rfl
theorem keyX_s (x : Str) : keyX (.d (.str x)) = some (.inr x) := rfl
def feeLe (x y : Str × Int × Int) : Bool := dLe (feeD x) (feeD y)
theorem sort_fees (fs : List (Str × Int × Int)) : ∃ F', sortD (fs.map feeD) = F'.map feeD ∧ F' = fs.mergeSort feeLe := by
  refine ⟨_, ?_, rfl⟩
  have h : ∀ a ∈ fs, ∀ b ∈ fs, feeLe a b = dLe (feeD a) (feeD b) := fun a _ b _ => rfl
  exact (List.map_mergeSort h).symm
theorem gSort_c {M : Sto} {j : Nat} {ds : List PyData} {P : List Xv → Sto → Prop} : gSort [.c j] M P = match hd M (.c j) with
    | .lst ys => ifS (datX ys) fun ds => Srt ds ∧ P (dX (sortD ds)) M
    | _ => False := rfl
theorem u_tk0 {cs : List Int} {i most : Int} {P : Xv → Sto → Prop} (ok : StOk cs i) (m0 : 0 < most) (m1 : most < 1000000) (h : ∀ v cs' i', StOk cs' i' → 0 ≤ v → v < most → P (.d (.int v)) (stM cs' i')) :
    pfPre 2 pf_tk [.c 1, .d (.int most)] (stM cs i) P := by
  have := u_tk (L := []) (P := P) ok m0 m1 fun v cs' i' a b c => by rw [List.append_nil]; exact h v cs' i' a b c
  rwa [List.append_nil] at this
def nmA (k : Int) : Str := ("a" : Str) ++ (toString k : String)
def nmK (k : Int) : Str := ("k" : Str) ++ (toString k : String)

structure LandsOk (ls : List (Str × Int)) : Prop where
  nn : ∀ l ∈ ls, 0 ≤ l.2 ∧ l.2 ≤ 20
  nm : ∀ l ∈ ls, l.1 = "east" ∨ l.1 = "north" ∨ l.1 = "west"
theorem at_land {n : Int} (h0 : 0 ≤ n) (h1 : n < 3) : ∃ x : Str, (x = "east" ∨ x = "north" ∨ x = "west") ∧ atI [Xv.d (.str "east"), .d (.str "north"), .d (.str "west")] n = some (.d (.str x)) := by
  have : n = 0 ∨ n = 1 ∨ n = 2 := by omega
  rcases this with rfl | rfl | rfl
  · exact ⟨_, .inl rfl, at0 _ _⟩
  · exact ⟨_, .inr (.inl rfl), at1 _ _ _⟩
  · exact ⟨_, .inr (.inr rfl), at2 _ _ _ _⟩
theorem at_fee {n v : Int} (h0 : 0 ≤ n) (h1 : n < 3) (v0 : 0 ≤ v) (v1 : v < 4) : ∃ x : Int, (0 ≤ x ∧ x ≤ 20) ∧ atI [Xv.d (.int 0), .d (.int (1 + v)), .d (.int 20)] n = some (.d (.int x)) := by
  have : n = 0 ∨ n = 1 ∨ n = 2 := by omega
  rcases this with rfl | rfl | rfl
  · exact ⟨_, by omega, at0 _ _⟩
  · exact ⟨_, by omega, at1 _ _ _⟩
  · exact ⟨_, by omega, at2 _ _ _ _⟩
theorem gStr_i (n : Int) (M : Sto) (P : Xv → Sto → Prop) : gStr [.d (.int n)] M P = (n.natAbs.log2 < 1920 ∧ P (.d (.str (toString n : String))) M) := rfl
theorem gAdd_ss (a b : Str) (M : Sto) (P : Xv → Sto → Prop) : gAdd (.d (.str a)) (.d (.str b)) M P = (a.length + b.length ≤ sizeLine ∧ P (.d (.str (a ++ b))) M) := rfl
def nmOk (x : Str) : Prop := PyData.strOk x = true ∧ x.cps.size ≤ 8
theorem nm_facts {n : Int} (h0 : 0 ≤ n) (h1 : n < 8) : n.natAbs.log2 < 1920 ∧ ("k" : Str).length + ((toString n : String) : Str).length ≤ sizeLine ∧ ("a" : Str).length + ((toString n : String) : Str).length ≤ sizeLine ∧ nmOk (nmK n) ∧ nmOk (nmA n) := by
  have : n = 0 ∨ n = 1 ∨ n = 2 ∨ n = 3 ∨ n = 4 ∨ n = 5 ∨ n = 6 ∨ n = 7 := by omega
  unfold nmOk
  rcases this with rfl | rfl | rfl | rfl | rfl | rfl | rfl | rfl <;> decide +kernel
theorem nmA_inj {n m : Int} (h0 : 0 ≤ n) (h1 : n < m) (h2 : m < 5) : nmA n ≠ nmA m := by
  have a : n = 0 ∨ n = 1 ∨ n = 2 ∨ n = 3 := by omega
  have b : m = 1 ∨ m = 2 ∨ m = 3 ∨ m = 4 := by omega
  rcases a with rfl | rfl | rfl | rfl <;> rcases b with rfl | rfl | rfl | rfl <;> first | (exfalso; omega) | decide +kernel
theorem at_in {α : Type} {xs : List α} (enc : α → PyData) {v : Int} (h0 : 0 ≤ v) (h1 : v < xs.length) : ∃ a, a ∈ xs ∧ atI (dX (xs.map enc)) v = some (.d (enc a)) := by
  have hl : v.toNat < xs.length := by omega
  refine ⟨xs[v.toNat], List.getElem_mem hl, ?_⟩
  have e : ((v.toNat : Nat) : Int) = v := by omega
  have := L2.atI_nat (xs := dX (xs.map enc)) (j := v.toNat) (v := .d (enc xs[v.toNat])) (by simp [dX, hl])
  rwa [e] at this
def optS : Option Str → PyData
  | none => .none
  | some x => .str x
def kindD (p : Str × Option Str) : PyData := .tuple [.str p.1, optS p.2]
structure KsOk (ks : List (Str × Option Str)) : Prop where
  a : ∀ p ∈ ks, nmOk p.1
  b : ∀ p ∈ ks, ∀ x, p.2 = some x → nmOk x
structure AppsOk (apps : List App) (lo : Int) (ls : List (Str × Int)) : Prop where
  nm : ∀ a ∈ apps, ∃ j, 0 ≤ j ∧ j < lo ∧ a.nm = nmA j
  un : ∀ a ∈ apps, ∀ b ∈ apps, a.nm = b.nm → a = b
  la : ∀ a ∈ apps, ∃ l ∈ ls, a.land = l.1
  fi : ∀ a ∈ apps, 0 ≤ a.filed ∧ a.filed < 200
  wd : ∀ a ∈ apps, ∀ i, a.wd = some i → 0 ≤ i ∧ i < 3000
  ow : ∀ a ∈ apps, nmOk a.own
  nd : (apps.map (·.nm)).Nodup
structure FrOk (fs : List (Str × Int × Int)) (apps : List App) : Prop where
  of : ∀ f ∈ fs, ∃ a ∈ apps, f.1 = a.nm ∧ a.filed ≤ f.2.2
  bd : ∀ f ∈ fs, 0 ≤ f.2.1 ∧ f.2.1 < 30 ∧ 0 ≤ f.2.2 ∧ f.2.2 < 20000
def verD (a : App) : PyData := .tuple [.str a.nm, .list []]
def stKvs (ks : List (Str × Option Str)) (ls : List (Str × Int)) (apps : List App) (C : List Int) (F : List (Str × Int × Int)) : List (Key × PyData) := [(.inr "kinds", .list (ks.map kindD)), (.inr "quantities", .list [.str "len", .str "mass"]), (.inr "closed", .list (C.map .int)), (.inr "lands", .list (ls.map landD)), (.inr "documents", .list []), (.inr "applications", .list (apps.map appD)), (.inr "priors", .list []), (.inr "cites", .list []), (.inr "fields", .list []), (.inr "versions", .list (apps.map verD)), (.inr "fees", .list (F.map feeD)), (.inr "transfers", .list []), (.inr "registered", .list []), (.inr "licences", .list []), (.inr "products", .list []), (.inr "drops", .list []), (.inr "bends", .list []), (.inr "rates", .list []), (.inr "sales", .list []), (.inr "oppositions", .list [])]
def stD (ks : List (Str × Option Str)) (ls : List (Str × Int)) (apps : List App) (C : List Int) (F : List (Str × Int × Int)) : PyData := .dict ((stKvs ks ls apps C F).map fun p => (kD p.1, p.2))
def kys17 : List Key := [.inr "kinds", .inr "quantities", .inr "closed", .inr "lands", .inr "documents", .inr "applications", .inr "priors", .inr "cites", .inr "fields", .inr "versions", .inr "fees", .inr "transfers", .inr "registered", .inr "licences", .inr "products", .inr "drops", .inr "bends"]
def kys3 : List Key := [.inr "rates", .inr "sales", .inr "oppositions"]
def kys20 : List Key := [.inr "kinds", .inr "quantities", .inr "closed", .inr "lands", .inr "documents", .inr "applications", .inr "priors", .inr "cites", .inr "fields", .inr "versions", .inr "fees", .inr "transfers", .inr "registered", .inr "licences", .inr "products", .inr "drops", .inr "bends", .inr "rates", .inr "sales", .inr "oppositions"]
theorem nd17 : kys17.Nodup := by decide +kernel
theorem nd3 : kys3.Nodup := by decide +kernel
theorem nd20 : kys20.Nodup := by decide +kernel
theorem mergeX_k17 {l : List (Key × Xv)} (h : l.map (·.1) = kys17) : mergeX [] l = l := by
  have := mergeX_nodup (kvs := l) (acc := []) (by rw [List.nil_append, h]; exact nd17)
  simpa using this
theorem mergeX_k3 {l : List (Key × Xv)} (h : l.map (·.1) = kys3) : mergeX [] l = l := by
  have := mergeX_nodup (kvs := l) (acc := []) (by rw [List.nil_append, h]; exact nd3)
  simpa using this
theorem is_st (ks : List (Str × Option Str)) (ls : List (Str × Int)) (apps : List App) (C : List Int) (F : List (Str × Int × Int)) : Is (stD ks ls apps C F) ⟨apps, ls, C, F⟩ := ⟨by kernel_rfl, by kernel_rfl, by kernel_rfl, by kernel_rfl⟩
theorem fee_le {x y : Str × Int × Int} (h : feeLe x y = true) (h1 : x.1 = y.1) (h2 : x.2.1 = y.2.1) : x.2.2 ≤ y.2.2 := by
  obtain ⟨a, n, d⟩ := x
  obtain ⟨b, m, e⟩ := y
  simp only at h1 h2
  subst h1 h2
  have h : (!PySem.W.dataLt (.tuple [.str a, .int n, .int e]) (.tuple [.str a, .int n, .int d])) = true := h
  rw [PySem.W.dataLt_tuple, PySem.W.dataLt_cons (by simp [PySem.W.alike]), if_pos (by rw [eqv_str]; exact decide_eq_true rfl), PySem.W.dataLt_cons (by simp [PySem.W.alike]), if_pos (by rw [eqv_int]; exact decide_eq_true rfl), PySem.W.dataLt_cons (by simp [PySem.W.alike])] at h
  by_cases q : PyData.eqv (.int e) (.int d) = true
  · rw [eqv_int] at q
    have := of_decide_eq_true q
    show d ≤ e
    omega
  · rw [if_neg q, PySem.W.dataLt_int] at h
    simp at h
    exact h
theorem gd_st {ls : List (Str × Int)} {apps : List App} {lo : Int} {C cl : List Int} {fs : List (Str × Int × Int)} (ll : ls.length ≤ 3) (al : apps.length ≤ 5) (hlo : lo ≤ 5) (lok : LandsOk ls) (aok : AppsOk apps lo ls) (hC : C.length ≤ 800) (fok : FrOk fs apps) (hf : fs.length ≤ 100) (hp : fs.Pairwise fun x y => feeLe x y = true) :
    Gd ⟨apps, ls, C, fs⟩ := by
  have fm : ∀ f, f ∈ fs → f ∈ fs := fun f h => h
  have sa : ∀ a ∈ apps, PyData.strOk a.nm = true := fun a ha => by
    obtain ⟨j, j0, j1, e⟩ := aok.nm a ha
    rw [e]
    exact (nm_facts j0 (by omega)).2.2.2.2.1
  refine ⟨by show apps.length ≤ 10000; omega, by show ls.length ≤ 10000; omega, by show C.length ≤ 10000; omega, by show fs.length ≤ 10000; omega, sa, fun f h => ?_, fun l hl => ?_, fun a ha => ?_, fun nm n => ?_, fun nm a e n d hd => ?_⟩
  · obtain ⟨a, ha, e, _⟩ := fok.of f (fm f h)
    rw [e]; exact sa a ha
  · have := lok.nn l hl; omega
  · obtain ⟨l, hl, el⟩ := aok.la a ha
    unfold feesOf
    have : l ∈ ls.filter fun l => decide (l.1 = a.land) := List.mem_filter.mpr ⟨hl, decide_eq_true el.symm⟩
    show ∃ c, ((ls.filter fun l => decide (l.1 = a.land)).map (·.2)).head? = some c
    cases hq : ls.filter fun l => decide (l.1 = a.land) with
    | nil => rw [hq] at this; cases this
    | cons y ys => exact ⟨y.2, rfl⟩
  · unfold daysOf
    rw [List.pairwise_map, List.pairwise_filter]
    refine hp.imp fun {x y} h hx hy => ?_
    simp only [decide_eq_true_eq] at hx hy
    exact fee_le h (hx.1.trans hy.1.symm) (hx.2.trans hy.2.symm)
  · obtain ⟨ha, ea⟩ := rowOf_mem e
    unfold daysOf at hd
    obtain ⟨f, hf, rfl⟩ := List.mem_map.mp hd
    obtain ⟨hf, q⟩ := List.mem_filter.mp hf
    simp only [decide_eq_true_eq] at q
    obtain ⟨b, hb, e1, e2⟩ := fok.of f (fm f hf)
    have : a = b := aok.un a ha b hb (by rw [ea, ← q.1, e1])
    rw [this]; exact e2
def nmOk2 (x : Str) : Prop := PyData.strOk x = true ∧ x.cps.size ≤ 12
theorem kvc {n : Nat} {k : Str} {v : PyData} {ps : List (PyData × PyData)} (hk : nmOk2 k) (h : Rp 40000 8 v) (t : RpKv (n * 40014) 8 ps) : RpKv ((n + 1) * 40014) 8 ((kD (.inr k), v) :: ps) := by
  have := RpKv.cons (Rp.str (dp := 8) hk.1 hk.2) h t
  refine ⟨this.lv, Nat.le_trans this.wt (by omega), this.dt, this.sh⟩
theorem rp_lst {α : Type} {enc : α → PyData} {xs : List α} {n w dp : Nat} (hn : xs.length ≤ n) (h : ∀ x ∈ xs, Rp w dp (enc x)) (hw : n * (w + 1) ≤ 40000) (hd : dp + 1 ≤ 8) : Rp 40000 8 (.list (xs.map enc)) := by
  refine Rp.mono (Rp.lst (RpAll.of (n := n) (by rw [List.length_map]; exact hn) fun d hd => ?_)) hw hd
  obtain ⟨x, hx, rfl⟩ := List.mem_map.mp hd
  exact h x hx
theorem rp_nm {x : Str} {dp : Nat} (h : nmOk x) : Rp 8 dp (.str x) := Rp.str h.1 h.2
theorem rp_st {ks : List (Str × Option Str)} {ls : List (Str × Int)} {apps : List App} {lo : Int} {C : List Int} {fs : List (Str × Int × Int)} (kl : ks.length ≤ 7) (kok : KsOk ks) (ll : ls.length ≤ 3) (al : apps.length ≤ 5) (hlo : lo ≤ 5) (lok : LandsOk ls) (aok : AppsOk apps lo ls) (hC : C.length ≤ 800)
    (cok : ∀ x ∈ C, 0 ≤ x ∧ x < 20000) (fok : FrOk fs apps) (hf : fs.length ≤ 100) : Rp (20 * 40014) 9 (stD ks ls apps C fs) := by
  have nA : ∀ a ∈ apps, nmOk a.nm := fun a ha => by
    obtain ⟨j, j0, j1, e⟩ := aok.nm a ha
    rw [e]
    exact (nm_facts j0 (by omega)).2.2.2.2
  have land : ∀ x : Str, (x = "east" ∨ x = "north" ∨ x = "west") → nmOk x := fun x h => by
    rcases h with rfl | rfl | rfl <;> (unfold nmOk; decide +kernel)
  have hk : Rp 40000 8 (.list (ks.map kindD)) := rp_lst (n := 7) (w := 100) (dp := 3) kl (fun p hp => by
    have h2 : Rp 8 2 (optS p.2) := by
      cases q : p.2 with
      | none => exact Rp.mono (Rp.none (dp := 0)) (by omega) (by omega)
      | some x => exact rp_nm (kok.b p hp x q)
    exact Rp.mono (Rp.tup (.cons (rp_nm (kok.a p hp)) (.cons h2 .nil))) (by omega) (by omega)) (by omega) (by omega)
  have hl : Rp 40000 8 (.list (ls.map landD)) := rp_lst (n := 3) (w := 100) (dp := 3) ll (fun l hl => by
    have := lok.nn l hl
    exact Rp.mono (Rp.tup (dp := 2) (.cons (rp_nm (land _ (lok.nm l hl))) (.cons (Rp.int (by decide)) (.cons (Rp.int (by omega)) .nil)))) (by omega) (by omega)) (by omega) (by omega)
  have ha : Rp 40000 8 (.list (apps.map appD)) := rp_lst (n := 5) (w := 300) (dp := 4) al (fun a ha => by
    have f := aok.fi a ha
    obtain ⟨l, hl, el⟩ := aok.la a ha
    have h2 : Rp 40 3 (optI a.wd) := by
      cases q : a.wd with
      | none => exact Rp.mono (Rp.none (dp := 0)) (by omega) (by omega)
      | some x => have := aok.wd a ha x q; exact Rp.int (by omega)
    have hnl : Rp 8 3 (.str a.land) := by rw [el]; exact rp_nm (land _ (lok.nm l hl))
    exact Rp.mono (Rp.tup (dp := 3) (.cons (rp_nm (nA a ha)) (.cons hnl (.cons (Rp.int (by omega)) (.cons (rp_nm (aok.ow a ha)) (.cons (Rp.mono (Rp.lst (dp := 2) .nil) (Nat.le_refl 0) (by omega)) (.cons Rp.none (.cons h2 .nil)))))))) (by omega) (by omega)) (by omega) (by omega)
  have hv : Rp 40000 8 (.list (apps.map verD)) := rp_lst (n := 5) (w := 100) (dp := 4) al (fun a ha => Rp.mono (Rp.tup (dp := 3) (.cons (rp_nm (nA a ha)) (.cons (Rp.lst (dp := 2) .nil) .nil))) (by omega) (by omega)) (by omega) (by omega)
  have hc : Rp 40000 8 (.list (C.map .int)) := rp_lst (n := 800) (w := 40) (dp := 3) hC (fun x hx => by have := cok x hx; exact Rp.int (by omega)) (by omega) (by omega)
  have hfe : Rp 40000 8 (.list (fs.map feeD)) := rp_lst (n := 100) (w := 200) (dp := 3) hf (fun f hf => by
    have hm := hf
    obtain ⟨a, ha, e, _⟩ := fok.of f hm
    have b := fok.bd f hm
    have hn : Rp 8 2 (.str f.1) := by rw [e]; exact rp_nm (nA a ha)
    exact Rp.mono (Rp.tup (dp := 2) (.cons hn (.cons (Rp.int (by omega)) (.cons (Rp.int (by omega)) .nil)))) (by omega) (by omega)) (by omega) (by omega)
  have he : Rp 40000 8 (.list []) := Rp.mono (Rp.lst (dp := 2) .nil) (by omega) (by omega)
  have hq : Rp 40000 8 (.list [.str "len", .str "mass"]) := Rp.mono (Rp.lst (dp := 2) (.cons (rp_nm (by unfold nmOk; decide +kernel)) (.cons (rp_nm (by unfold nmOk; decide +kernel)) .nil))) (by omega) (by omega)
  have z : RpKv (0 * 40014) 8 [] := by rw [Nat.zero_mul]; exact RpKv.nil
  exact Rp.dict (kvc (by unfold nmOk2; decide +kernel) hk (kvc (by unfold nmOk2; decide +kernel) hq (kvc (by unfold nmOk2; decide +kernel) hc (kvc (by unfold nmOk2; decide +kernel) hl (kvc (by unfold nmOk2; decide +kernel) he (kvc (by unfold nmOk2; decide +kernel) ha (kvc (by unfold nmOk2; decide +kernel) he (kvc (by unfold nmOk2; decide +kernel) he (kvc (by unfold nmOk2; decide +kernel) he (kvc (by unfold nmOk2; decide +kernel) hv (kvc (by unfold nmOk2; decide +kernel) hfe (kvc (by unfold nmOk2; decide +kernel) he (kvc (by unfold nmOk2; decide +kernel) he (kvc (by unfold nmOk2; decide +kernel) he (kvc (by unfold nmOk2; decide +kernel) he (kvc (by unfold nmOk2; decide +kernel) he (kvc (by unfold nmOk2; decide +kernel) he (kvc (by unfold nmOk2; decide +kernel) he (kvc (by unfold nmOk2; decide +kernel) he (kvc (by unfold nmOk2; decide +kernel) he (z)))))))))))))))))))))
structure OffOk (ks : List (Str × Option Str)) (ls : List (Str × Int)) (apps : List App) (C : List Int) (F : List (Str × Int × Int)) : Prop where
  kl : ks.length ≤ 7
  kok : KsOk ks
  ll : ls.length ≤ 3
  al : apps.length ≤ 5
  lok : LandsOk ls
  aok : ∃ lo, lo ≤ 5 ∧ AppsOk apps lo ls
  cl : C.length ≤ 800
  cok : ∀ x ∈ C, (0 ≤ x ∧ x < 20000) ∧ ∃ a ∈ apps, CBy a x
  fok : FrOk F apps
  fl : F.length ≤ 100
  fp : F.Pairwise fun x y => feeLe x y = true
def stX (ks : List (Str × Option Str)) (ls : List (Str × Int)) (apps : List App) (C : List Int) (F : List (Str × Int × Int)) : List (Key × Xv) := (stKvs ks ls apps C F).map fun p => (p.1, Xv.d p.2)
def pf_off : PF := fun xs M R => ∃ cs i, xs = [.c 1] ∧ M = stM cs i ∧ StOk cs i ∧ ∀ ks ls apps C F A cs' i', OffOk ks ls apps C F → A.length = 4 → StOk cs' i' → R (.c 7) (stM cs' i' ++ (A ++ [.dic (stX ks ls apps C F), .tup [.c 6, .d ppD]]))
theorem ok_office (D : DefOk K mg "_law_office" ["state"] (defArgs s__law_office) (defBody s__law_office) (defScope s__law_office)) (Z : Fx K mg base) (C1 : Cal P w K mg base 1 "_law_take" ["state", "most"] (pfPre 2 pf_tk)) : Cal P w K mg base 2 "_law_office" ["state"] pf_off := by
  refine Cal.mk_ (k := 1) D sc__law_office (sd__law_office Z C1) (fun xs M R ⟨_, _, e, _⟩ => by rw [e]; rfl) (fun xs M R h => ?_)
  obtain ⟨cs, i, rfl, rfl, ok, h⟩ := h
  have s1 : (1 : Nat) ≤ sizeLine := by decide
  have s2 : (2 : Nat) ≤ sizeLine := by decide
  have s3 : (3 : Nat) ≤ sizeLine := by decide
  have s0 : (0 : Nat) ≤ sizeLine := by decide
  have s6 : (6 : Nat) ≤ sizeLine := by decide
  have s7 : (7 : Nat) ≤ sizeLine := by decide
  unfold b__law_office
  simp only [startX, rSeq, rAsg, rgName, rVar, rC, rBin, rD, rCl, rFz, rTb, rTr, rIf, rIfS, rRet, rRetN, rNx, rCons, rNil, rTup, rTupC, rLst, rApp, rAppF, rCall, rPar, rNeg, rNot, rAnd, rOr, rChain, rLc, riSeq, rYes, rDrop, rFor, rApd, rExt, rgTup, rgCons, rgNil, rgSub, rIsiX, riRng1, riRng2, slot_z, slot_s, set_z, set_s, at0, at1, at2, at3, at4, at5, at6, dX_c, dX_n, gIx_tup, gIx_lst, gEq_ii, gEq_ss, gNe_ii, gNe_ss, gAdd_ii, gSub_ii, gLt_ii, gLe_ii, gGt_ii, gGe_ii, gIsN_d, gLen_l, gMax_ii, gMin_ii, gInt_b, gInt_i, gAbs_i, gApd_last, isLst_last, boX_b, tru_l, fzL_dX, fzL_n, fzL_cd, Option.map_some, fz_d, pk_d, ifS_some, hd_int, hd_str, hd_bool, hd_none, hd_list, hd_tuple, wipeX, List.map_cons, List.map_nil, List.length_cons, List.length_nil, List.replicate_succ, List.replicate_zero, List.cons_append, List.nil_append, List.append_nil, decide_eq_true_eq, if_true, if_false, Nat.reduceAdd, Nat.reduceSub, Nat.reduceLeDiff, Nat.zero_add, Nat.sub_zero, N__law_office]
  refine ⟨s6, ?_⟩
  refine u_tk0 ok (by decide) (by decide) fun v cs i ok v0 v1 => ?_
  simp only [startX, rSeq, rAsg, rgName, rVar, rC, rBin, rD, rCl, rFz, rTb, rTr, rIf, rIfS, rRet, rRetN, rNx, rCons, rNil, rTup, rTupC, rLst, rApp, rAppF, rCall, rPar, rNeg, rNot, rAnd, rOr, rChain, rLc, riSeq, rYes, rDrop, rFor, rApd, rExt, rgTup, rgCons, rgNil, rgSub, rIsiX, riRng1, riRng2, slot_z, slot_s, set_z, set_s, at0, at1, at2, at3, at4, at5, at6, dX_c, dX_n, gIx_tup, gIx_lst, gEq_ii, gEq_ss, gNe_ii, gNe_ss, gAdd_ii, gSub_ii, gLt_ii, gLe_ii, gGt_ii, gGe_ii, gIsN_d, gLen_l, gMax_ii, gMin_ii, gInt_b, gInt_i, gAbs_i, gApd_last, isLst_last, boX_b, tru_l, fzL_dX, fzL_n, fzL_cd, Option.map_some, fz_d, pk_d, ifS_some, hd_int, hd_str, hd_bool, hd_none, hd_list, hd_tuple, wipeX, List.map_cons, List.map_nil, List.length_cons, List.length_nil, List.replicate_succ, List.replicate_zero, List.cons_append, List.nil_append, List.append_nil, decide_eq_true_eq, if_true, if_false, Nat.reduceAdd, Nat.reduceSub, Nat.reduceLeDiff, Nat.zero_add, Nat.sub_zero]
  refine ⟨by omega, by omega, ?_⟩
  -- the lands
  refine lcW_inv (fun xs acc M => ∃ n lo ls cs i, xs = rangeX lo n ∧ 0 ≤ lo ∧ lo + n ≤ 3 ∧ acc = dX (ls.map landD) ∧ ls.length = lo.toNat ∧ LandsOk ls ∧ 0 < ls.length + n ∧ M = stM cs i ∧ StOk cs i) ?_ ?_ _ _ _ ⟨(1 + v).toNat, 0, [], cs, i, rfl, by omega, by omega, rfl, rfl, ⟨by simp, by simp⟩, by simp; omega, rfl, ok⟩
  · rintro x xs acc M ⟨n, lo, ls, cs, i, e, l0, l1, rfl, hl, lok, hp, rfl, ok⟩ C hC
    obtain ⟨n, rfl⟩ : ∃ n', n = n' + 1 := by
      cases n with
      | zero => cases e
      | succ n => exact ⟨n, rfl⟩
    rw [rangeX_succ] at e
    cases e
    refine ⟨trivial, ?_⟩
    simp only [startX, rSeq, rAsg, rgName, rVar, rC, rBin, rD, rCl, rFz, rTb, rTr, rIf, rIfS, rRet, rRetN, rNx, rCons, rNil, rTup, rTupC, rLst, rApp, rAppF, rCall, rPar, rNeg, rNot, rAnd, rOr, rChain, rLc, riSeq, rYes, rDrop, rFor, rApd, rExt, rgTup, rgCons, rgNil, rgSub, rIsiX, riRng1, riRng2, slot_z, slot_s, set_z, set_s, at0, at1, at2, at3, at4, at5, at6, dX_c, dX_n, gIx_tup, gIx_lst, gEq_ii, gEq_ss, gNe_ii, gNe_ss, gAdd_ii, gSub_ii, gLt_ii, gLe_ii, gGt_ii, gGe_ii, gIsN_d, gLen_l, gMax_ii, gMin_ii, gInt_b, gInt_i, gAbs_i, gApd_last, isLst_last, boX_b, tru_l, fzL_dX, fzL_n, fzL_cd, Option.map_some, fz_d, pk_d, ifS_some, hd_int, hd_str, hd_bool, hd_none, hd_list, hd_tuple, wipeX, List.map_cons, List.map_nil, List.length_cons, List.length_nil, List.replicate_succ, List.replicate_zero, List.cons_append, List.nil_append, List.append_nil, decide_eq_true_eq, if_true, if_false, Nat.reduceAdd, Nat.reduceSub, Nat.reduceLeDiff, Nat.zero_add, Nat.sub_zero]
    obtain ⟨nm, hnm, enm⟩ := at_land l0 (show lo < 3 by omega)
    refine ⟨s3, ?_⟩
    simp only [enm, ifS_some]
    refine u_tk0 ok (by decide) (by decide) fun v2 cs i ok a0 a1 => ?_
    simp only [startX, rSeq, rAsg, rgName, rVar, rC, rBin, rD, rCl, rFz, rTb, rTr, rIf, rIfS, rRet, rRetN, rNx, rCons, rNil, rTup, rTupC, rLst, rApp, rAppF, rCall, rPar, rNeg, rNot, rAnd, rOr, rChain, rLc, riSeq, rYes, rDrop, rFor, rApd, rExt, rgTup, rgCons, rgNil, rgSub, rIsiX, riRng1, riRng2, slot_z, slot_s, set_z, set_s, at0, at1, at2, at3, at4, at5, at6, dX_c, dX_n, gIx_tup, gIx_lst, gEq_ii, gEq_ss, gNe_ii, gNe_ss, gAdd_ii, gSub_ii, gLt_ii, gLe_ii, gGt_ii, gGe_ii, gIsN_d, gLen_l, gMax_ii, gMin_ii, gInt_b, gInt_i, gAbs_i, gApd_last, isLst_last, boX_b, tru_l, fzL_dX, fzL_n, fzL_cd, Option.map_some, fz_d, pk_d, ifS_some, hd_int, hd_str, hd_bool, hd_none, hd_list, hd_tuple, wipeX, List.map_cons, List.map_nil, List.length_cons, List.length_nil, List.replicate_succ, List.replicate_zero, List.cons_append, List.nil_append, List.append_nil, decide_eq_true_eq, if_true, if_false, Nat.reduceAdd, Nat.reduceSub, Nat.reduceLeDiff, Nat.zero_add, Nat.sub_zero]
    refine ⟨s3, ?_⟩
    refine u_tk0 ok (by decide) (by decide) fun v3 cs i ok b0 b1 => ?_
    obtain ⟨fe, hfe, efe⟩ := at_fee b0 b1 a0 a1
    simp only [startX, rSeq, rAsg, rgName, rVar, rC, rBin, rD, rCl, rFz, rTb, rTr, rIf, rIfS, rRet, rRetN, rNx, rCons, rNil, rTup, rTupC, rLst, rApp, rAppF, rCall, rPar, rNeg, rNot, rAnd, rOr, rChain, rLc, riSeq, rYes, rDrop, rFor, rApd, rExt, rgTup, rgCons, rgNil, rgSub, rIsiX, riRng1, riRng2, slot_z, slot_s, set_z, set_s, at0, at1, at2, at3, at4, at5, at6, dX_c, dX_n, gIx_tup, gIx_lst, gEq_ii, gEq_ss, gNe_ii, gNe_ss, gAdd_ii, gSub_ii, gLt_ii, gLe_ii, gGt_ii, gGe_ii, gIsN_d, gLen_l, gMax_ii, gMin_ii, gInt_b, gInt_i, gAbs_i, gApd_last, isLst_last, boX_b, tru_l, fzL_dX, fzL_n, fzL_cd, Option.map_some, fz_d, pk_d, ifS_some, hd_int, hd_str, hd_bool, hd_none, hd_list, hd_tuple, wipeX, List.map_cons, List.map_nil, List.length_cons, List.length_nil, List.replicate_succ, List.replicate_zero, List.cons_append, List.nil_append, List.append_nil, decide_eq_true_eq, if_true, if_false, Nat.reduceAdd, Nat.reduceSub, Nat.reduceLeDiff, Nat.zero_add, Nat.sub_zero, efe]
    refine ⟨s3, by rw [List.length_map, List.length_map, hl, sizeLine_eq]; omega, hC _ _ ⟨n, lo + 1, ls ++ [(nm, fe)], cs, i, rfl, by omega, by omega, by simp [dX, landD], by simp; omega, ⟨fun l hl => ?_, fun l hl => ?_⟩, by simp; omega, rfl, ok⟩⟩
    · rcases List.mem_append.mp hl with z | z
      · exact lok.nn l z
      · rw [List.mem_singleton.mp z]; exact hfe
    · rcases List.mem_append.mp hl with z | z
      · exact lok.nm l z
      · rw [List.mem_singleton.mp z]; exact hnm
  rintro acc M ⟨n, lo, ls, cs, i, e, l0, l1, rfl, hl, lok, hp, rfl, ok⟩
  refine ⟨trivial, ?_⟩
  have hn : n = 0 := by
    cases n with
    | zero => rfl
    | succ n => rw [rangeX_succ] at e; cases e
  subst hn
  have ll3 : ls.length ≤ 3 := by omega
  simp only [startX, rSeq, rAsg, rgName, rVar, rC, rBin, rD, rCl, rFz, rTb, rTr, rIf, rIfS, rRet, rRetN, rNx, rCons, rNil, rTup, rTupC, rLst, rApp, rAppF, rCall, rPar, rNeg, rNot, rAnd, rOr, rChain, rLc, riSeq, rYes, rDrop, rFor, rApd, rExt, rgTup, rgCons, rgNil, rgSub, rIsiX, riRng1, riRng2, slot_z, slot_s, set_z, set_s, at0, at1, at2, at3, at4, at5, at6, dX_c, dX_n, gIx_tup, gIx_lst, gEq_ii, gEq_ss, gNe_ii, gNe_ss, gAdd_ii, gSub_ii, gLt_ii, gLe_ii, gGt_ii, gGe_ii, gIsN_d, gLen_l, gMax_ii, gMin_ii, gInt_b, gInt_i, gAbs_i, gApd_last, isLst_last, boX_b, tru_l, fzL_dX, fzL_n, fzL_cd, Option.map_some, fz_d, pk_d, ifS_some, hd_int, hd_str, hd_bool, hd_none, hd_list, hd_tuple, wipeX, List.map_cons, List.map_nil, List.length_cons, List.length_nil, List.replicate_succ, List.replicate_zero, List.cons_append, List.nil_append, List.append_nil, decide_eq_true_eq, if_true, if_false, Nat.reduceAdd, Nat.reduceSub, Nat.reduceLeDiff, Nat.zero_add, Nat.sub_zero, len_st0]
  refine ⟨s2, s1, ?_⟩
  refine u_tk ok (by decide) (by decide) fun v cs i ok v0 v1 => ?_
  simp only [startX, rSeq, rAsg, rgName, rVar, rC, rBin, rD, rCl, rFz, rTb, rTr, rIf, rIfS, rRet, rRetN, rNx, rCons, rNil, rTup, rTupC, rLst, rApp, rAppF, rCall, rPar, rNeg, rNot, rAnd, rOr, rChain, rLc, riSeq, rYes, rDrop, rFor, rApd, rExt, rgTup, rgCons, rgNil, rgSub, rIsiX, riRng1, riRng2, slot_z, slot_s, set_z, set_s, at0, at1, at2, at3, at4, at5, at6, dX_c, dX_n, gIx_tup, gIx_lst, gEq_ii, gEq_ss, gNe_ii, gNe_ss, gAdd_ii, gSub_ii, gLt_ii, gLe_ii, gGt_ii, gGe_ii, gIsN_d, gLen_l, gMax_ii, gMin_ii, gInt_b, gInt_i, gAbs_i, gApd_last, isLst_last, boX_b, tru_l, fzL_dX, fzL_n, fzL_cd, Option.map_some, fz_d, pk_d, ifS_some, hd_int, hd_str, hd_bool, hd_none, hd_list, hd_tuple, wipeX, List.map_cons, List.map_nil, List.length_cons, List.length_nil, List.replicate_succ, List.replicate_zero, List.cons_append, List.nil_append, List.append_nil, decide_eq_true_eq, if_true, if_false, Nat.reduceAdd, Nat.reduceSub, Nat.reduceLeDiff, Nat.zero_add, Nat.sub_zero]
  refine ⟨⟨by omega, by omega, by omega, by omega⟩, ?_⟩
  -- the kinds
  generalize hppl : PyData.list [PyData.str (Str.ofString "ann"), PyData.str (Str.ofString "bob"), PyData.str (Str.ofString "cy"), PyData.str (Str.ofString "dan"), PyData.str (Str.ofString "eve"), PyData.str (Str.ofString "fay")] = ppl
  refine loopW_inv (fun xs σ M => ∃ n lo ks cs i o3, xs = rangeX lo n ∧ 1 ≤ lo ∧ lo + n ≤ 7 ∧ KsOk ks ∧ ks.length = lo.toNat ∧ M = stM cs i ++ [.lst (dX (ks.map kindD))] ∧ StOk cs i ∧
    σ = [some (.c 1), some (.d ppl), some (.d (.list (ls.map landD))), o3, some (.c 2), none, none, none, none, none, none, none, none, none, none]) ?_ ?_ _ _ _
    ⟨(3 + v - 1).toNat, 1, [("k0", none)], cs, i, _, rfl, by omega, by omega, ⟨fun p hp => ?_, fun p hp x hx => ?_⟩, rfl, rfl, ok, rfl⟩
  rotate_left 2
  · rw [List.mem_singleton.mp hp]; exact ⟨by decide +kernel, by decide +kernel⟩
  · rw [List.mem_singleton.mp hp] at hx; cases hx
  · rintro x xs σ M ⟨n, lo, ks, cs, i, o3, e, l0, l1, kok, kl, rfl, ok, rfl⟩ C hC
    obtain ⟨n, rfl⟩ : ∃ n', n = n' + 1 := by
      cases n with
      | zero => cases e
      | succ n => exact ⟨n, rfl⟩
    rw [rangeX_succ] at e
    cases e
    obtain ⟨f1, f2, _, f3, _⟩ := nm_facts (n := lo) (by omega) (by omega)
    have hkl : (dX (ks.map kindD)).length = ks.length := by rw [List.length_map, List.length_map]
    refine ⟨trivial, ?_⟩
    simp only [startX, rSeq, rAsg, rgName, rVar, rC, rBin, rD, rCl, rFz, rTb, rTr, rIf, rIfS, rRet, rRetN, rNx, rCons, rNil, rTup, rTupC, rLst, rApp, rAppF, rCall, rPar, rNeg, rNot, rAnd, rOr, rChain, rLc, riSeq, rYes, rDrop, rFor, rApd, rExt, rgTup, rgCons, rgNil, rgSub, rIsiX, riRng1, riRng2, slot_z, slot_s, set_z, set_s, at0, at1, at2, at3, at4, at5, at6, dX_c, dX_n, gIx_tup, gIx_lst, gEq_ii, gEq_ss, gNe_ii, gNe_ss, gAdd_ii, gSub_ii, gLt_ii, gLe_ii, gGt_ii, gGe_ii, gIsN_d, gLen_l, gMax_ii, gMin_ii, gInt_b, gInt_i, gAbs_i, gApd_last, isLst_last, boX_b, tru_l, fzL_dX, fzL_n, fzL_cd, Option.map_some, fz_d, pk_d, ifS_some, hd_int, hd_str, hd_bool, hd_none, hd_list, hd_tuple, wipeX, List.map_cons, List.map_nil, List.length_cons, List.length_nil, List.replicate_succ, List.replicate_zero, List.cons_append, List.nil_append, List.append_nil, decide_eq_true_eq, if_true, if_false, Nat.reduceAdd, Nat.reduceSub, Nat.reduceLeDiff, Nat.zero_add, Nat.sub_zero, is2, gStr_i, gAdd_ss, ln2, hkl, true_and]
    refine ⟨f1, f2, ?_⟩
    refine u_tk ok (by omega) (by omega) fun v2 cs i ok a0 a1 => ?_
    obtain ⟨p, hp, ep⟩ := at_in kindD a0 a1
    simp only [startX, rSeq, rAsg, rgName, rVar, rC, rBin, rD, rCl, rFz, rTb, rTr, rIf, rIfS, rRet, rRetN, rNx, rCons, rNil, rTup, rTupC, rLst, rApp, rAppF, rCall, rPar, rNeg, rNot, rAnd, rOr, rChain, rLc, riSeq, rYes, rDrop, rFor, rApd, rExt, rgTup, rgCons, rgNil, rgSub, rIsiX, riRng1, riRng2, slot_z, slot_s, set_z, set_s, at0, at1, at2, at3, at4, at5, at6, dX_c, dX_n, gIx_tup, gIx_lst, gEq_ii, gEq_ss, gNe_ii, gNe_ss, gAdd_ii, gSub_ii, gLt_ii, gLe_ii, gGt_ii, gGe_ii, gIsN_d, gLen_l, gMax_ii, gMin_ii, gInt_b, gInt_i, gAbs_i, gApd_last, isLst_last, boX_b, tru_l, fzL_dX, fzL_n, fzL_cd, Option.map_some, fz_d, pk_d, ifS_some, hd_int, hd_str, hd_bool, hd_none, hd_list, hd_tuple, wipeX, List.map_cons, List.map_nil, List.length_cons, List.length_nil, List.replicate_succ, List.replicate_zero, List.cons_append, List.nil_append, List.append_nil, decide_eq_true_eq, if_true, if_false, Nat.reduceAdd, Nat.reduceSub, Nat.reduceLeDiff, Nat.zero_add, Nat.sub_zero, ix2, ep, kindD]
    refine ⟨s2, ?_⟩
    refine u_tk ok (by decide) (by decide) fun v3 cs i ok b0 b1 => ?_
    simp only [startX, rSeq, rAsg, rgName, rVar, rC, rBin, rD, rCl, rFz, rTb, rTr, rIf, rIfS, rRet, rRetN, rNx, rCons, rNil, rTup, rTupC, rLst, rApp, rAppF, rCall, rPar, rNeg, rNot, rAnd, rOr, rChain, rLc, riSeq, rYes, rDrop, rFor, rApd, rExt, rgTup, rgCons, rgNil, rgSub, rIsiX, riRng1, riRng2, slot_z, slot_s, set_z, set_s, at0, at1, at2, at3, at4, at5, at6, dX_c, dX_n, gIx_tup, gIx_lst, gEq_ii, gEq_ss, gNe_ii, gNe_ss, gAdd_ii, gSub_ii, gLt_ii, gLe_ii, gGt_ii, gGe_ii, gIsN_d, gLen_l, gMax_ii, gMin_ii, gInt_b, gInt_i, gAbs_i, gApd_last, isLst_last, boX_b, tru_l, fzL_dX, fzL_n, fzL_cd, Option.map_some, fz_d, pk_d, ifS_some, hd_int, hd_str, hd_bool, hd_none, hd_list, hd_tuple, wipeX, List.map_cons, List.map_nil, List.length_cons, List.length_nil, List.replicate_succ, List.replicate_zero, List.cons_append, List.nil_append, List.append_nil, decide_eq_true_eq, if_true, if_false, Nat.reduceAdd, Nat.reduceSub, Nat.reduceLeDiff, Nat.zero_add, Nat.sub_zero]
    have ee : ∃ o : Option Str, (∀ x, o = some x → nmOk x) ∧ atI [Xv.d .none, .d (.str p.1)] (if (decide (0 < v3)) = true then 1 else 0) = some (.d (optS o)) := by
      by_cases c : 0 < v3
      · exact ⟨some p.1, fun x hx => by cases hx; exact kok.a p hp, by simp only [decide_eq_true_eq]; rw [if_pos c]; exact at1 _ _ _⟩
      · exact ⟨none, nofun, by simp only [decide_eq_true_eq]; rw [if_neg c]; exact at0 _ _⟩
    obtain ⟨o, ho, eo⟩ := ee
    simp only [decide_eq_true_eq] at eo
    simp only [startX, rSeq, rAsg, rgName, rVar, rC, rBin, rD, rCl, rFz, rTb, rTr, rIf, rIfS, rRet, rRetN, rNx, rCons, rNil, rTup, rTupC, rLst, rApp, rAppF, rCall, rPar, rNeg, rNot, rAnd, rOr, rChain, rLc, riSeq, rYes, rDrop, rFor, rApd, rExt, rgTup, rgCons, rgNil, rgSub, rIsiX, riRng1, riRng2, slot_z, slot_s, set_z, set_s, at0, at1, at2, at3, at4, at5, at6, dX_c, dX_n, gIx_tup, gIx_lst, gEq_ii, gEq_ss, gNe_ii, gNe_ss, gAdd_ii, gSub_ii, gLt_ii, gLe_ii, gGt_ii, gGe_ii, gIsN_d, gLen_l, gMax_ii, gMin_ii, gInt_b, gInt_i, gAbs_i, gApd_last, isLst_last, boX_b, tru_l, fzL_dX, fzL_n, fzL_cd, Option.map_some, fz_d, pk_d, ifS_some, hd_int, hd_str, hd_bool, hd_none, hd_list, hd_tuple, wipeX, List.map_cons, List.map_nil, List.length_cons, List.length_nil, List.replicate_succ, List.replicate_zero, List.cons_append, List.nil_append, List.append_nil, decide_eq_true_eq, if_true, if_false, Nat.reduceAdd, Nat.reduceSub, Nat.reduceLeDiff, Nat.zero_add, Nat.sub_zero, eo, ap2]
    refine ⟨s2, by rw [List.length_map, List.length_map, sizeLine_eq]; omega, hC _ _ ⟨n, lo + 1, ks ++ [(nmK lo, o)], cs, i, _, rfl, by omega, by omega, ⟨fun q hq => ?_, fun q hq x hx => ?_⟩, by simp; omega, by simp [dX, kindD, nmK], ok, rfl⟩⟩
    · rcases List.mem_append.mp hq with z | z
      · exact kok.a q z
      · rw [List.mem_singleton.mp z]; exact f3
    · rcases List.mem_append.mp hq with z | z
      · exact kok.b q z x hx
      · rw [List.mem_singleton.mp z] at hx; exact ho x hx
  rintro σ M ⟨n, lo, ks, cs, i, o3, e, l0, l1, kok, kl, rfl, ok, rfl⟩
  refine ⟨trivial, ?_⟩
  clear e
  have kl7 : ks.length ≤ 7 := by omega
  simp only [startX, rSeq, rAsg, rgName, rVar, rC, rBin, rD, rCl, rFz, rTb, rTr, rIf, rIfS, rRet, rRetN, rNx, rCons, rNil, rTup, rTupC, rLst, rApp, rAppF, rCall, rPar, rNeg, rNot, rAnd, rOr, rChain, rLc, riSeq, rYes, rDrop, rFor, rApd, rExt, rgTup, rgCons, rgNil, rgSub, rIsiX, riRng1, riRng2, slot_z, slot_s, set_z, set_s, at0, at1, at2, at3, at4, at5, at6, dX_c, dX_n, gIx_tup, gIx_lst, gEq_ii, gEq_ss, gNe_ii, gNe_ss, gAdd_ii, gSub_ii, gLt_ii, gLe_ii, gGt_ii, gGe_ii, gIsN_d, gLen_l, gMax_ii, gMin_ii, gInt_b, gInt_i, gAbs_i, gApd_last, isLst_last, boX_b, tru_l, fzL_dX, fzL_n, fzL_cd, Option.map_some, fz_d, pk_d, ifS_some, hd_int, hd_str, hd_bool, hd_none, hd_list, hd_tuple, wipeX, List.map_cons, List.map_nil, List.length_cons, List.length_nil, List.replicate_succ, List.replicate_zero, List.cons_append, List.nil_append, List.append_nil, decide_eq_true_eq, if_true, if_false, Nat.reduceAdd, Nat.reduceSub, Nat.reduceLeDiff, Nat.zero_add, Nat.sub_zero, len_st, List.append_assoc]
  refine ⟨s0, ?_⟩
  generalize hK : Ob.lst (dX (ks.map kindD)) = KB
  refine u_tk ok (by decide) (by decide) fun v cs i ok v0 v1 => ?_
  simp only [startX, rSeq, rAsg, rgName, rVar, rC, rBin, rD, rCl, rFz, rTb, rTr, rIf, rIfS, rRet, rRetN, rNx, rCons, rNil, rTup, rTupC, rLst, rApp, rAppF, rCall, rPar, rNeg, rNot, rAnd, rOr, rChain, rLc, riSeq, rYes, rDrop, rFor, rApd, rExt, rgTup, rgCons, rgNil, rgSub, rIsiX, riRng1, riRng2, slot_z, slot_s, set_z, set_s, at0, at1, at2, at3, at4, at5, at6, dX_c, dX_n, gIx_tup, gIx_lst, gEq_ii, gEq_ss, gNe_ii, gNe_ss, gAdd_ii, gSub_ii, gLt_ii, gLe_ii, gGt_ii, gGe_ii, gIsN_d, gLen_l, gMax_ii, gMin_ii, gInt_b, gInt_i, gAbs_i, gApd_last, isLst_last, boX_b, tru_l, fzL_dX, fzL_n, fzL_cd, Option.map_some, fz_d, pk_d, ifS_some, hd_int, hd_str, hd_bool, hd_none, hd_list, hd_tuple, wipeX, List.map_cons, List.map_nil, List.length_cons, List.length_nil, List.replicate_succ, List.replicate_zero, List.cons_append, List.nil_append, List.append_nil, decide_eq_true_eq, if_true, if_false, Nat.reduceAdd, Nat.reduceSub, Nat.reduceLeDiff, Nat.zero_add, Nat.sub_zero]
  refine ⟨by omega, by omega, ?_⟩
  -- the applications
  refine loopW_inv (fun xs σ M => ∃ n lo apps cs i o3 o6 o7, xs = rangeX lo n ∧ 0 ≤ lo ∧ lo + n ≤ 5 ∧ AppsOk apps lo ls ∧ apps.length = lo.toNat ∧ M = stM cs i ++ [KB, .lst (dX (apps.map appD))] ∧ StOk cs i ∧
    σ = [some (.c 1), some (.d ppl), some (.d (.list (ls.map landD))), o3, some (.c 2), some (.c 3), o6, o7, none, none, none, none, none, none, none]) ?_ ?_ _ _ _
    ⟨(1 + v).toNat, 0, [], cs, i, _, _, _, rfl, by omega, by omega, ⟨by simp, by simp, by simp, by simp, by simp, by simp, by simp⟩, rfl, rfl, ok, rfl⟩
  · rintro x xs σ M ⟨n, lo, apps, cs, i, o3, o6, o7, e, l0, l1, aok, al, rfl, ok, rfl⟩ C hC
    obtain ⟨n, rfl⟩ : ∃ n', n = n' + 1 := by
      cases n with
      | zero => cases e
      | succ n => exact ⟨n, rfl⟩
    rw [rangeX_succ] at e
    cases e
    obtain ⟨f1, _, f2, _, f3⟩ := nm_facts (n := lo) (by omega) (by omega)
    refine ⟨trivial, ?_⟩
    simp only [startX, rSeq, rAsg, rgName, rVar, rC, rBin, rD, rCl, rFz, rTb, rTr, rIf, rIfS, rRet, rRetN, rNx, rCons, rNil, rTup, rTupC, rLst, rApp, rAppF, rCall, rPar, rNeg, rNot, rAnd, rOr, rChain, rLc, riSeq, rYes, rDrop, rFor, rApd, rExt, rgTup, rgCons, rgNil, rgSub, rIsiX, riRng1, riRng2, slot_z, slot_s, set_z, set_s, at0, at1, at2, at3, at4, at5, at6, dX_c, dX_n, gIx_tup, gIx_lst, gEq_ii, gEq_ss, gNe_ii, gNe_ss, gAdd_ii, gSub_ii, gLt_ii, gLe_ii, gGt_ii, gGe_ii, gIsN_d, gLen_l, gMax_ii, gMin_ii, gInt_b, gInt_i, gAbs_i, gApd_last, isLst_last, boX_b, tru_l, fzL_dX, fzL_n, fzL_cd, Option.map_some, fz_d, pk_d, ifS_some, hd_int, hd_str, hd_bool, hd_none, hd_list, hd_tuple, wipeX, List.map_cons, List.map_nil, List.length_cons, List.length_nil, List.replicate_succ, List.replicate_zero, List.cons_append, List.nil_append, List.append_nil, decide_eq_true_eq, if_true, if_false, Nat.reduceAdd, Nat.reduceSub, Nat.reduceLeDiff, Nat.zero_add, Nat.sub_zero]
    refine u_tk ok (by decide) (by decide) fun v2 cs i ok a0 a1 => ?_
    simp only [startX, rSeq, rAsg, rgName, rVar, rC, rBin, rD, rCl, rFz, rTb, rTr, rIf, rIfS, rRet, rRetN, rNx, rCons, rNil, rTup, rTupC, rLst, rApp, rAppF, rCall, rPar, rNeg, rNot, rAnd, rOr, rChain, rLc, riSeq, rYes, rDrop, rFor, rApd, rExt, rgTup, rgCons, rgNil, rgSub, rIsiX, riRng1, riRng2, slot_z, slot_s, set_z, set_s, at0, at1, at2, at3, at4, at5, at6, dX_c, dX_n, gIx_tup, gIx_lst, gEq_ii, gEq_ss, gNe_ii, gNe_ss, gAdd_ii, gSub_ii, gLt_ii, gLe_ii, gGt_ii, gGe_ii, gIsN_d, gLen_l, gMax_ii, gMin_ii, gInt_b, gInt_i, gAbs_i, gApd_last, isLst_last, boX_b, tru_l, fzL_dX, fzL_n, fzL_cd, Option.map_some, fz_d, pk_d, ifS_some, hd_int, hd_str, hd_bool, hd_none, hd_list, hd_tuple, wipeX, List.map_cons, List.map_nil, List.length_cons, List.length_nil, List.replicate_succ, List.replicate_zero, List.cons_append, List.nil_append, List.append_nil, decide_eq_true_eq, if_true, if_false, Nat.reduceAdd, Nat.reduceSub, Nat.reduceLeDiff, Nat.zero_add, Nat.sub_zero]
    have hll : ((ls.map landD).length : Int) = ls.length := by rw [List.length_map]
    have hls : 0 < ls.length := by omega
    have fin : ∀ (wd : Option Int) (cs : List Int) (i : Int) (l : Str × Int) (f : Int) (o : Str), StOk cs i → (∀ j, wd = some j → 0 ≤ j ∧ j < 3000) → l ∈ ls → 0 ≤ f → f < 200 → nmOk o → ∀ o6 o7, (dX (apps.map appD)).length < sizeLine ∧
        C [some (.c 1), some (.d ppl), some (.d (.list (ls.map landD))), some (.d (.int lo)), some (.c 2), some (.c 3), o6, o7, none, none, none, none, none, none, none]
          (stM cs i ++ [KB, .lst (dX (apps.map appD) ++ [.d (appD ⟨nmA lo, l.1, f, o, wd⟩)])]) := fun wd cs i l f o ok hw hl f0 f1 ho o6 o7 => by
      refine ⟨by rw [List.length_map, List.length_map, al, sizeLine_eq]; omega, hC _ _ ⟨n, lo + 1, apps ++ [⟨nmA lo, l.1, f, o, wd⟩], cs, i, _, o6, o7, rfl, by omega, by omega, ?_, by simp; omega, by simp [dX], ok, rfl⟩⟩
      have mem : ∀ x, x ∈ apps ++ [⟨nmA lo, l.1, f, o, wd⟩] → x ∈ apps ∨ x = ⟨nmA lo, l.1, f, o, wd⟩ := fun x hx => (List.mem_append.mp hx).imp id List.mem_singleton.mp
      have new : ∀ x ∈ apps, x.nm ≠ nmA lo := fun x hx e => by
        obtain ⟨j, j0, j1, e2⟩ := aok.nm x hx
        exact nmA_inj j0 j1 (by omega) (e2.symm.trans e)
      refine ⟨fun x hx => ?_, fun x hx y hy e => ?_, fun x hx => ?_, fun x hx => ?_, fun x hx j hj => ?_, fun x hx => ?_, ?_⟩
      · rcases mem x hx with z | rfl
        · obtain ⟨j, j0, j1, e2⟩ := aok.nm x z; exact ⟨j, j0, by omega, e2⟩
        · exact ⟨lo, l0, by omega, rfl⟩
      · rcases mem x hx with z | rfl <;> rcases mem y hy with z2 | rfl
        · exact aok.un x z y z2 e
        · exact absurd e (new x z)
        · exact absurd e.symm (new y z2)
        · rfl
      · rcases mem x hx with z | rfl
        · exact aok.la x z
        · exact ⟨l, hl, rfl⟩
      · rcases mem x hx with z | rfl
        · exact aok.fi x z
        · exact ⟨f0, f1⟩
      · rcases mem x hx with z | rfl
        · exact aok.wd x z j hj
        · exact hw j hj
      · rcases mem x hx with z | rfl
        · exact aok.ow x z
        · exact ho
      · rw [List.map_append, List.nodup_append]
        refine ⟨aok.nd, by simp, fun x hx y hy => ?_⟩
        obtain ⟨q, hq, rfl⟩ := List.mem_map.mp hx
        rw [List.mem_singleton.mp hy]
        exact new q hq
    have hpp : ∀ v : Int, 0 ≤ v → v < 6 → ∃ o : Str, nmOk o ∧ ∀ (M : Sto) (P : Xv → Sto → Prop), gIx (.d ppl) (.d (.int v)) M P = P (.d (.str o)) M := fun v h0 h1 => by
      subst hppl
      have : v = 0 ∨ v = 1 ∨ v = 2 ∨ v = 3 ∨ v = 4 ∨ v = 5 := by omega
      rcases this with rfl | rfl | rfl | rfl | rfl | rfl
      · exact ⟨"ann", by unfold nmOk; decide +kernel, fun M P => rfl⟩
      · exact ⟨"bob", by unfold nmOk; decide +kernel, fun M P => rfl⟩
      · exact ⟨"cy", by unfold nmOk; decide +kernel, fun M P => rfl⟩
      · exact ⟨"dan", by unfold nmOk; decide +kernel, fun M P => rfl⟩
      · exact ⟨"eve", by unfold nmOk; decide +kernel, fun M P => rfl⟩
      · exact ⟨"fay", by unfold nmOk; decide +kernel, fun M P => rfl⟩
    split
    rotate_left
    · refine u_tk ok (by decide) (by decide) fun vw cs i ok w0 w1 => ?_
      simp only [startX, rSeq, rAsg, rgName, rVar, rC, rBin, rD, rCl, rFz, rTb, rTr, rIf, rIfS, rRet, rRetN, rNx, rCons, rNil, rTup, rTupC, rLst, rApp, rAppF, rCall, rPar, rNeg, rNot, rAnd, rOr, rChain, rLc, riSeq, rYes, rDrop, rFor, rApd, rExt, rgTup, rgCons, rgNil, rgSub, rIsiX, riRng1, riRng2, slot_z, slot_s, set_z, set_s, at0, at1, at2, at3, at4, at5, at6, dX_c, dX_n, gIx_tup, gIx_lst, gEq_ii, gEq_ss, gNe_ii, gNe_ss, gAdd_ii, gSub_ii, gLt_ii, gLe_ii, gGt_ii, gGe_ii, gIsN_d, gLen_l, gMax_ii, gMin_ii, gInt_b, gInt_i, gAbs_i, gApd_last, isLst_last, boX_b, tru_l, fzL_dX, fzL_n, fzL_cd, Option.map_some, fz_d, pk_d, ifS_some, hd_int, hd_str, hd_bool, hd_none, hd_list, hd_tuple, wipeX, List.map_cons, List.map_nil, List.length_cons, List.length_nil, List.replicate_succ, List.replicate_zero, List.cons_append, List.nil_append, List.append_nil, decide_eq_true_eq, if_true, if_false, Nat.reduceAdd, Nat.reduceSub, Nat.reduceLeDiff, Nat.zero_add, Nat.sub_zero, gStr_i, gAdd_ss]
      refine ⟨f1, f2, ?_⟩
      rw [hll]
      refine u_tk ok (by omega) (by omega) fun v3 cs i ok b0 b1 => ?_
      obtain ⟨l, hl, el⟩ := at_in landD b0 b1
      simp only [startX, rSeq, rAsg, rgName, rVar, rC, rBin, rD, rCl, rFz, rTb, rTr, rIf, rIfS, rRet, rRetN, rNx, rCons, rNil, rTup, rTupC, rLst, rApp, rAppF, rCall, rPar, rNeg, rNot, rAnd, rOr, rChain, rLc, riSeq, rYes, rDrop, rFor, rApd, rExt, rgTup, rgCons, rgNil, rgSub, rIsiX, riRng1, riRng2, slot_z, slot_s, set_z, set_s, at0, at1, at2, at3, at4, at5, at6, dX_c, dX_n, gIx_tup, gIx_lst, gEq_ii, gEq_ss, gNe_ii, gNe_ss, gAdd_ii, gSub_ii, gLt_ii, gLe_ii, gGt_ii, gGe_ii, gIsN_d, gLen_l, gMax_ii, gMin_ii, gInt_b, gInt_i, gAbs_i, gApd_last, isLst_last, boX_b, tru_l, fzL_dX, fzL_n, fzL_cd, Option.map_some, fz_d, pk_d, ifS_some, hd_int, hd_str, hd_bool, hd_none, hd_list, hd_tuple, wipeX, List.map_cons, List.map_nil, List.length_cons, List.length_nil, List.replicate_succ, List.replicate_zero, List.cons_append, List.nil_append, List.append_nil, decide_eq_true_eq, if_true, if_false, Nat.reduceAdd, Nat.reduceSub, Nat.reduceLeDiff, Nat.zero_add, Nat.sub_zero, el, landD]
      refine u_tk ok (by decide) (by decide) fun v4 cs i ok c0 c1 => ?_
      simp only [startX, rSeq, rAsg, rgName, rVar, rC, rBin, rD, rCl, rFz, rTb, rTr, rIf, rIfS, rRet, rRetN, rNx, rCons, rNil, rTup, rTupC, rLst, rApp, rAppF, rCall, rPar, rNeg, rNot, rAnd, rOr, rChain, rLc, riSeq, rYes, rDrop, rFor, rApd, rExt, rgTup, rgCons, rgNil, rgSub, rIsiX, riRng1, riRng2, slot_z, slot_s, set_z, set_s, at0, at1, at2, at3, at4, at5, at6, dX_c, dX_n, gIx_tup, gIx_lst, gEq_ii, gEq_ss, gNe_ii, gNe_ss, gAdd_ii, gSub_ii, gLt_ii, gLe_ii, gGt_ii, gGe_ii, gIsN_d, gLen_l, gMax_ii, gMin_ii, gInt_b, gInt_i, gAbs_i, gApd_last, isLst_last, boX_b, tru_l, fzL_dX, fzL_n, fzL_cd, Option.map_some, fz_d, pk_d, ifS_some, hd_int, hd_str, hd_bool, hd_none, hd_list, hd_tuple, wipeX, List.map_cons, List.map_nil, List.length_cons, List.length_nil, List.replicate_succ, List.replicate_zero, List.cons_append, List.nil_append, List.append_nil, decide_eq_true_eq, if_true, if_false, Nat.reduceAdd, Nat.reduceSub, Nat.reduceLeDiff, Nat.zero_add, Nat.sub_zero]
      refine u_tk ok (by decide) (by decide) fun v5 cs i ok d0 d1 => ?_
      obtain ⟨o, ho, eo⟩ := hpp v5 d0 d1
      simp only [startX, rSeq, rAsg, rgName, rVar, rC, rBin, rD, rCl, rFz, rTb, rTr, rIf, rIfS, rRet, rRetN, rNx, rCons, rNil, rTup, rTupC, rLst, rApp, rAppF, rCall, rPar, rNeg, rNot, rAnd, rOr, rChain, rLc, riSeq, rYes, rDrop, rFor, rApd, rExt, rgTup, rgCons, rgNil, rgSub, rIsiX, riRng1, riRng2, slot_z, slot_s, set_z, set_s, at0, at1, at2, at3, at4, at5, at6, dX_c, dX_n, gIx_tup, gIx_lst, gEq_ii, gEq_ss, gNe_ii, gNe_ss, gAdd_ii, gSub_ii, gLt_ii, gLe_ii, gGt_ii, gGe_ii, gIsN_d, gLen_l, gMax_ii, gMin_ii, gInt_b, gInt_i, gAbs_i, gApd_last, isLst_last, boX_b, tru_l, fzL_dX, fzL_n, fzL_cd, Option.map_some, fz_d, pk_d, ifS_some, hd_int, hd_str, hd_bool, hd_none, hd_list, hd_tuple, wipeX, List.map_cons, List.map_nil, List.length_cons, List.length_nil, List.replicate_succ, List.replicate_zero, List.cons_append, List.nil_append, List.append_nil, decide_eq_true_eq, if_true, if_false, Nat.reduceAdd, Nat.reduceSub, Nat.reduceLeDiff, Nat.zero_add, Nat.sub_zero, eo, ap3, is3, true_and]
      exact ⟨s0, s7, fin (some (200 + vw)) cs i l v4 o ok (fun j hj => by cases hj; omega) hl c0 c1 ho _ _⟩
    · simp only [startX, rSeq, rAsg, rgName, rVar, rC, rBin, rD, rCl, rFz, rTb, rTr, rIf, rIfS, rRet, rRetN, rNx, rCons, rNil, rTup, rTupC, rLst, rApp, rAppF, rCall, rPar, rNeg, rNot, rAnd, rOr, rChain, rLc, riSeq, rYes, rDrop, rFor, rApd, rExt, rgTup, rgCons, rgNil, rgSub, rIsiX, riRng1, riRng2, slot_z, slot_s, set_z, set_s, at0, at1, at2, at3, at4, at5, at6, dX_c, dX_n, gIx_tup, gIx_lst, gEq_ii, gEq_ss, gNe_ii, gNe_ss, gAdd_ii, gSub_ii, gLt_ii, gLe_ii, gGt_ii, gGe_ii, gIsN_d, gLen_l, gMax_ii, gMin_ii, gInt_b, gInt_i, gAbs_i, gApd_last, isLst_last, boX_b, tru_l, fzL_dX, fzL_n, fzL_cd, Option.map_some, fz_d, pk_d, ifS_some, hd_int, hd_str, hd_bool, hd_none, hd_list, hd_tuple, wipeX, List.map_cons, List.map_nil, List.length_cons, List.length_nil, List.replicate_succ, List.replicate_zero, List.cons_append, List.nil_append, List.append_nil, decide_eq_true_eq, if_true, if_false, Nat.reduceAdd, Nat.reduceSub, Nat.reduceLeDiff, Nat.zero_add, Nat.sub_zero, gStr_i, gAdd_ss]
      refine ⟨f1, f2, ?_⟩
      rw [hll]
      refine u_tk ok (by omega) (by omega) fun v3 cs i ok b0 b1 => ?_
      obtain ⟨l, hl, el⟩ := at_in landD b0 b1
      simp only [startX, rSeq, rAsg, rgName, rVar, rC, rBin, rD, rCl, rFz, rTb, rTr, rIf, rIfS, rRet, rRetN, rNx, rCons, rNil, rTup, rTupC, rLst, rApp, rAppF, rCall, rPar, rNeg, rNot, rAnd, rOr, rChain, rLc, riSeq, rYes, rDrop, rFor, rApd, rExt, rgTup, rgCons, rgNil, rgSub, rIsiX, riRng1, riRng2, slot_z, slot_s, set_z, set_s, at0, at1, at2, at3, at4, at5, at6, dX_c, dX_n, gIx_tup, gIx_lst, gEq_ii, gEq_ss, gNe_ii, gNe_ss, gAdd_ii, gSub_ii, gLt_ii, gLe_ii, gGt_ii, gGe_ii, gIsN_d, gLen_l, gMax_ii, gMin_ii, gInt_b, gInt_i, gAbs_i, gApd_last, isLst_last, boX_b, tru_l, fzL_dX, fzL_n, fzL_cd, Option.map_some, fz_d, pk_d, ifS_some, hd_int, hd_str, hd_bool, hd_none, hd_list, hd_tuple, wipeX, List.map_cons, List.map_nil, List.length_cons, List.length_nil, List.replicate_succ, List.replicate_zero, List.cons_append, List.nil_append, List.append_nil, decide_eq_true_eq, if_true, if_false, Nat.reduceAdd, Nat.reduceSub, Nat.reduceLeDiff, Nat.zero_add, Nat.sub_zero, el, landD]
      refine u_tk ok (by decide) (by decide) fun v4 cs i ok c0 c1 => ?_
      simp only [startX, rSeq, rAsg, rgName, rVar, rC, rBin, rD, rCl, rFz, rTb, rTr, rIf, rIfS, rRet, rRetN, rNx, rCons, rNil, rTup, rTupC, rLst, rApp, rAppF, rCall, rPar, rNeg, rNot, rAnd, rOr, rChain, rLc, riSeq, rYes, rDrop, rFor, rApd, rExt, rgTup, rgCons, rgNil, rgSub, rIsiX, riRng1, riRng2, slot_z, slot_s, set_z, set_s, at0, at1, at2, at3, at4, at5, at6, dX_c, dX_n, gIx_tup, gIx_lst, gEq_ii, gEq_ss, gNe_ii, gNe_ss, gAdd_ii, gSub_ii, gLt_ii, gLe_ii, gGt_ii, gGe_ii, gIsN_d, gLen_l, gMax_ii, gMin_ii, gInt_b, gInt_i, gAbs_i, gApd_last, isLst_last, boX_b, tru_l, fzL_dX, fzL_n, fzL_cd, Option.map_some, fz_d, pk_d, ifS_some, hd_int, hd_str, hd_bool, hd_none, hd_list, hd_tuple, wipeX, List.map_cons, List.map_nil, List.length_cons, List.length_nil, List.replicate_succ, List.replicate_zero, List.cons_append, List.nil_append, List.append_nil, decide_eq_true_eq, if_true, if_false, Nat.reduceAdd, Nat.reduceSub, Nat.reduceLeDiff, Nat.zero_add, Nat.sub_zero]
      refine u_tk ok (by decide) (by decide) fun v5 cs i ok d0 d1 => ?_
      obtain ⟨o, ho, eo⟩ := hpp v5 d0 d1
      simp only [startX, rSeq, rAsg, rgName, rVar, rC, rBin, rD, rCl, rFz, rTb, rTr, rIf, rIfS, rRet, rRetN, rNx, rCons, rNil, rTup, rTupC, rLst, rApp, rAppF, rCall, rPar, rNeg, rNot, rAnd, rOr, rChain, rLc, riSeq, rYes, rDrop, rFor, rApd, rExt, rgTup, rgCons, rgNil, rgSub, rIsiX, riRng1, riRng2, slot_z, slot_s, set_z, set_s, at0, at1, at2, at3, at4, at5, at6, dX_c, dX_n, gIx_tup, gIx_lst, gEq_ii, gEq_ss, gNe_ii, gNe_ss, gAdd_ii, gSub_ii, gLt_ii, gLe_ii, gGt_ii, gGe_ii, gIsN_d, gLen_l, gMax_ii, gMin_ii, gInt_b, gInt_i, gAbs_i, gApd_last, isLst_last, boX_b, tru_l, fzL_dX, fzL_n, fzL_cd, Option.map_some, fz_d, pk_d, ifS_some, hd_int, hd_str, hd_bool, hd_none, hd_list, hd_tuple, wipeX, List.map_cons, List.map_nil, List.length_cons, List.length_nil, List.replicate_succ, List.replicate_zero, List.cons_append, List.nil_append, List.append_nil, decide_eq_true_eq, if_true, if_false, Nat.reduceAdd, Nat.reduceSub, Nat.reduceLeDiff, Nat.zero_add, Nat.sub_zero, eo, ap3, is3, true_and]
      exact ⟨s0, s7, fin none cs i l v4 o ok nofun hl c0 c1 ho _ _⟩
  rintro σ M ⟨n, lo, apps, cs, i, o3, o6, o7, e, l0, l1, aok, al, rfl, ok, rfl⟩
  refine ⟨trivial, ?_⟩
  clear e
  have al5 : apps.length ≤ 5 := by omega
  simp only [startX, rSeq, rAsg, rgName, rVar, rC, rBin, rD, rCl, rFz, rTb, rTr, rIf, rIfS, rRet, rRetN, rNx, rCons, rNil, rTup, rTupC, rLst, rApp, rAppF, rCall, rPar, rNeg, rNot, rAnd, rOr, rChain, rLc, riSeq, rYes, rDrop, rFor, rApd, rExt, rgTup, rgCons, rgNil, rgSub, rIsiX, riRng1, riRng2, slot_z, slot_s, set_z, set_s, at0, at1, at2, at3, at4, at5, at6, dX_c, dX_n, gIx_tup, gIx_lst, gEq_ii, gEq_ss, gNe_ii, gNe_ss, gAdd_ii, gSub_ii, gLt_ii, gLe_ii, gGt_ii, gGe_ii, gIsN_d, gLen_l, gMax_ii, gMin_ii, gInt_b, gInt_i, gAbs_i, gApd_last, isLst_last, boX_b, tru_l, fzL_dX, fzL_n, fzL_cd, Option.map_some, fz_d, pk_d, ifS_some, hd_int, hd_str, hd_bool, hd_none, hd_list, hd_tuple, wipeX, List.map_cons, List.map_nil, List.length_cons, List.length_nil, List.replicate_succ, List.replicate_zero, List.cons_append, List.nil_append, List.append_nil, decide_eq_true_eq, if_true, if_false, Nat.reduceAdd, Nat.reduceSub, Nat.reduceLeDiff, Nat.zero_add, Nat.sub_zero, len_st, List.append_assoc]
  refine ⟨s0, s0, ?_⟩
  simp only [hd3]
  generalize hA : Ob.lst (dX (apps.map appD)) = AB
  -- the rows
  refine loopW_inv (fun xs σ M => ∃ rest cl fs cs i o3 o6 o7 o10 o11 o12 o13 o14, xs = dX (rest.map appD) ∧ (∀ a ∈ rest, a ∈ apps) ∧ M = stM cs i ++ [KB, AB, .lst (dX (cl.map .int)), .lst (dX (fs.map feeD))] ∧ StOk cs i ∧
    cl.length + 160 * rest.length ≤ 800 ∧ fs.length + 20 * rest.length ≤ 100 ∧ (∀ x ∈ cl, (0 ≤ x ∧ x < 20000) ∧ ∃ a ∈ apps, CBy a x) ∧ FrOk fs apps ∧
    σ = [some (.c 1), some (.d ppl), some (.d (.list (ls.map landD))), o3, some (.c 2), some (.c 3), o6, o7, some (.c 4), some (.c 5), o10, o11, o12, o13, o14]) ?_ ?_ _ _ _
    ⟨apps, [], [], cs, i, _, _, _, _, _, _, _, _, rfl, fun _ h => h, rfl, ok, by simp; omega, by simp; omega, by simp, ⟨by simp, by simp⟩, rfl⟩
  · rintro x xs σ M ⟨rest, cl, fs, cs, i, o3, o6, o7, o10, o11, o12, o13, o14, e, hr, rfl, ok, lc, lf, cok, fok, rfl⟩ C hC
    obtain ⟨a, rest, rfl⟩ : ∃ a r, rest = a :: r := by
      cases rest with
      | nil => cases e
      | cons a r => exact ⟨a, r, rfl⟩
    rw [List.map_cons, dX_c] at e
    cases e
    rw [List.length_cons] at lc lf
    have ha := hr a List.mem_cons_self
    obtain ⟨a0, a1⟩ := aok.fi a ha
    refine ⟨rfl, ?_⟩
    simp only [startX, rSeq, rAsg, rgName, rVar, rC, rBin, rD, rCl, rFz, rTb, rTr, rIf, rIfS, rRet, rRetN, rNx, rCons, rNil, rTup, rTupC, rLst, rApp, rAppF, rCall, rPar, rNeg, rNot, rAnd, rOr, rChain, rLc, riSeq, rYes, rDrop, rFor, rApd, rExt, rgTup, rgCons, rgNil, rgSub, rIsiX, riRng1, riRng2, slot_z, slot_s, set_z, set_s, at0, at1, at2, at3, at4, at5, at6, dX_c, dX_n, gIx_tup, gIx_lst, gEq_ii, gEq_ss, gNe_ii, gNe_ss, gAdd_ii, gSub_ii, gLt_ii, gLe_ii, gGt_ii, gGe_ii, gIsN_d, gLen_l, gMax_ii, gMin_ii, gInt_b, gInt_i, gAbs_i, gApd_last, isLst_last, boX_b, tru_l, fzL_dX, fzL_n, fzL_cd, Option.map_some, fz_d, pk_d, ifS_some, hd_int, hd_str, hd_bool, hd_none, hd_list, hd_tuple, wipeX, List.map_cons, List.map_nil, List.length_cons, List.length_nil, List.replicate_succ, List.replicate_zero, List.cons_append, List.nil_append, List.append_nil, decide_eq_true_eq, if_true, if_false, Nat.reduceAdd, Nat.reduceSub, Nat.reduceLeDiff, Nat.zero_add, Nat.sub_zero]
    refine lcW_map landD (fun l => decide (l.1 = a.land)) (fun l => .int l.2) (by trivial) ls [] (by rw [sizeLine_eq]; simp; omega) (fun b hb Kt Kf h1 h2 => ?_) ?_
    · simp only [startX, rSeq, rAsg, rgName, rVar, rC, rBin, rD, rCl, rFz, rTb, rTr, rIf, rIfS, rRet, rRetN, rNx, rCons, rNil, rTup, rTupC, rLst, rApp, rAppF, rCall, rPar, rNeg, rNot, rAnd, rOr, rChain, rLc, riSeq, rYes, rDrop, rFor, rApd, rExt, rgTup, rgCons, rgNil, rgSub, rIsiX, riRng1, riRng2, slot_z, slot_s, set_z, set_s, at0, at1, at2, at3, at4, at5, at6, dX_c, dX_n, gIx_tup, gIx_lst, gEq_ii, gEq_ss, gNe_ii, gNe_ss, gAdd_ii, gSub_ii, gLt_ii, gLe_ii, gGt_ii, gGe_ii, gIsN_d, gLen_l, gMax_ii, gMin_ii, gInt_b, gInt_i, gAbs_i, gApd_last, isLst_last, boX_b, tru_l, fzL_dX, fzL_n, fzL_cd, Option.map_some, fz_d, pk_d, ifS_some, hd_int, hd_str, hd_bool, hd_none, hd_list, hd_tuple, wipeX, List.map_cons, List.map_nil, List.length_cons, List.length_nil, List.replicate_succ, List.replicate_zero, List.cons_append, List.nil_append, List.append_nil, decide_eq_true_eq, if_true, if_false, Nat.reduceAdd, Nat.reduceSub, Nat.reduceLeDiff, Nat.zero_add, Nat.sub_zero, landD, appD]
      split
      · rename_i z; exact h1 (decide_eq_true z)
      · rename_i z; exact h2 (decide_eq_false z)
    obtain ⟨l, hl, el⟩ := aok.la a ha
    obtain ⟨c, hc⟩ : ∃ c, ((ls.filter fun l => decide (l.1 = a.land)).map (·.2)).head? = some c := by
      have : l ∈ ls.filter fun l => decide (l.1 = a.land) := List.mem_filter.mpr ⟨hl, decide_eq_true el.symm⟩
      cases hq : ls.filter fun l => decide (l.1 = a.land) with
      | nil => rw [hq] at this; cases this
      | cons y ys => exact ⟨y.2, rfl⟩
    have hcb : 0 ≤ c ∧ c ≤ 20 := by
      obtain ⟨y, hy, rfl⟩ := List.mem_map.mp (List.mem_of_head? hc)
      exact lok.nn y (List.mem_filter.mp hy).1
    have e0 : atI (dX ((ls.filter fun l => decide (l.1 = a.land)).map fun l => PyData.int l.2)) 0 = some (.d (.int c)) := by
      have := at_head hc PyData.int
      rw [List.map_map] at this
      exact this
    simp only [startX, rSeq, rAsg, rgName, rVar, rC, rBin, rD, rCl, rFz, rTb, rTr, rIf, rIfS, rRet, rRetN, rNx, rCons, rNil, rTup, rTupC, rLst, rApp, rAppF, rCall, rPar, rNeg, rNot, rAnd, rOr, rChain, rLc, riSeq, rYes, rDrop, rFor, rApd, rExt, rgTup, rgCons, rgNil, rgSub, rIsiX, riRng1, riRng2, slot_z, slot_s, set_z, set_s, at0, at1, at2, at3, at4, at5, at6, dX_c, dX_n, gIx_tup, gIx_lst, gEq_ii, gEq_ss, gNe_ii, gNe_ss, gAdd_ii, gSub_ii, gLt_ii, gLe_ii, gGt_ii, gGe_ii, gIsN_d, gLen_l, gMax_ii, gMin_ii, gInt_b, gInt_i, gAbs_i, gApd_last, isLst_last, boX_b, tru_l, fzL_dX, fzL_n, fzL_cd, Option.map_some, fz_d, pk_d, ifS_some, hd_int, hd_str, hd_bool, hd_none, hd_list, hd_tuple, wipeX, List.map_cons, List.map_nil, List.length_cons, List.length_nil, List.replicate_succ, List.replicate_zero, List.cons_append, List.nil_append, List.append_nil, decide_eq_true_eq, if_true, if_false, Nat.reduceAdd, Nat.reduceSub, Nat.reduceLeDiff, Nat.zero_add, Nat.sub_zero, e0]
    refine ⟨⟨by omega, by omega, by omega, by omega⟩, ?_⟩
    -- the fees of a row
    obtain ⟨B1, hB1⟩ : ∃ B, B + 160 * rest.length ≤ 800 ∧ cl.length + 160 ≤ B := ⟨cl.length + 160, by omega, by omega⟩
    obtain ⟨B2, hB2⟩ : ∃ B, B + 20 * rest.length ≤ 100 ∧ fs.length + 20 ≤ B := ⟨fs.length + 20, by omega, by omega⟩
    refine loopW_inv (fun xs σ M => ∃ n lo cl fs cs i o3 o11 o12 o13 o14, xs = rangeX lo n ∧ 1 ≤ lo ∧ lo + n ≤ 21 ∧ M = stM cs i ++ [KB, AB, .lst (dX (cl.map .int)), .lst (dX (fs.map feeD))] ∧ StOk cs i ∧
      cl.length + 8 * n ≤ B1 ∧ fs.length + n ≤ B2 ∧ (∀ x ∈ cl, (0 ≤ x ∧ x < 20000) ∧ ∃ a ∈ apps, CBy a x) ∧ FrOk fs apps ∧
      σ = [some (.c 1), some (.d ppl), some (.d (.list (ls.map landD))), o3, some (.c 2), some (.c 3), o6, some (.d (appD a)), some (.c 4), some (.c 5), some (.d (.int c)), o11, o12, o13, o14]) ?_ ?_ _ _ _
      ⟨(c + 1 - 1).toNat, 1, cl, fs, cs, i, _, _, _, _, _, rfl, by omega, by omega, rfl, ok, by omega, by omega, cok, fok, rfl⟩
    · rintro x xs σ M ⟨n, lo, cl, fs, cs, i, o3, o11, o12, o13, o14, e, l0, l1, rfl, ok, lc, lf, cok, fok, rfl⟩ C hC
      obtain ⟨n, rfl⟩ : ∃ n', n = n' + 1 := by
        cases n with
        | zero => cases e
        | succ n => exact ⟨n, rfl⟩
      rw [rangeX_succ] at e
      cases e
      refine ⟨trivial, ?_⟩
      simp only [rgName, set_z, set_s]
      refine seq_step ?_
      simp only [startX, rAsg, rgName, rVar, rC, rBin, rD, rCl, rFz, rTb, rTr, rIf, rIfS, rRet, rRetN, rNx, rCons, rNil, rTup, rTupC, rLst, rApp, rAppF, rCall, rPar, rNeg, rNot, rAnd, rOr, rChain, rLc, riSeq, rYes, rDrop, rFor, rApd, rExt, rgTup, rgCons, rgNil, rgSub, rIsiX, riRng1, riRng2, slot_z, slot_s, set_z, set_s, at0, at1, at2, at3, at4, at5, at6, dX_c, dX_n, gIx_tup, gIx_lst, gEq_ii, gEq_ss, gNe_ii, gNe_ss, gAdd_ii, gSub_ii, gLt_ii, gLe_ii, gGt_ii, gGe_ii, gIsN_d, gLen_l, gMax_ii, gMin_ii, gInt_b, gInt_i, gAbs_i, gApd_last, isLst_last, boX_b, tru_l, fzL_dX, fzL_n, fzL_cd, Option.map_some, fz_d, pk_d, ifS_some, hd_int, hd_str, hd_bool, hd_none, hd_list, hd_tuple, wipeX, List.map_cons, List.map_nil, List.length_cons, List.length_nil, List.replicate_succ, List.replicate_zero, List.cons_append, List.nil_append, List.append_nil, decide_eq_true_eq, if_true, if_false, Nat.reduceAdd, Nat.reduceSub, Nat.reduceLeDiff, Nat.zero_add, Nat.sub_zero, appD, gMul_l 365 _ _ _ (by decide)]
      refine seq_cut (fun σ1 M1 => ∃ (cl' : List Int) (cs : List Int) (i : Int), σ1 = [some (.c 1), some (.d ppl), some (.d (.list (ls.map landD))), o3, some (.c 2), some (.c 3), o6, some (.d (appD a)), some (.c 4), some (.c 5), some (.d (.int c)), o11, some (.d (.int lo)), some (.d (.int (a.filed + 365 * lo))), o14] ∧ M1 = stM cs i ++ [KB, AB, .lst (dX (cl'.map .int)), .lst (dX (fs.map feeD))] ∧ StOk cs i ∧ cl'.length ≤ cl.length + 4 ∧ ∀ x ∈ cl', (0 ≤ x ∧ x < 20000) ∧ ∃ a ∈ apps, CBy a x) ?_ ?_
      · intro K' hK'
        simp only [startX, rAsg, rgName, rVar, rC, rBin, rD, rCl, rFz, rTb, rTr, rIf, rIfS, rRet, rRetN, rNx, rCons, rNil, rTup, rTupC, rLst, rApp, rAppF, rCall, rPar, rNeg, rNot, rAnd, rOr, rChain, rLc, riSeq, rYes, rDrop, rFor, rApd, rExt, rgTup, rgCons, rgNil, rgSub, rIsiX, riRng1, riRng2, slot_z, slot_s, set_z, set_s, at0, at1, at2, at3, at4, at5, at6, dX_c, dX_n, gIx_tup, gIx_lst, gEq_ii, gEq_ss, gNe_ii, gNe_ss, gAdd_ii, gSub_ii, gLt_ii, gLe_ii, gGt_ii, gGe_ii, gIsN_d, gLen_l, gMax_ii, gMin_ii, gInt_b, gInt_i, gAbs_i, gApd_last, isLst_last, boX_b, tru_l, fzL_dX, fzL_n, fzL_cd, Option.map_some, fz_d, pk_d, ifS_some, hd_int, hd_str, hd_bool, hd_none, hd_list, hd_tuple, wipeX, List.map_cons, List.map_nil, List.length_cons, List.length_nil, List.replicate_succ, List.replicate_zero, List.cons_append, List.nil_append, List.append_nil, decide_eq_true_eq, if_true, if_false, Nat.reduceAdd, Nat.reduceSub, Nat.reduceLeDiff, Nat.zero_add, Nat.sub_zero]
        refine u_tk ok (by decide) (by decide) fun v1 cs i ok p0 p1 => ?_
        simp only [startX, rAsg, rgName, rVar, rC, rBin, rD, rCl, rFz, rTb, rTr, rIf, rIfS, rRet, rRetN, rNx, rCons, rNil, rTup, rTupC, rLst, rApp, rAppF, rCall, rPar, rNeg, rNot, rAnd, rOr, rChain, rLc, riSeq, rYes, rDrop, rFor, rApd, rExt, rgTup, rgCons, rgNil, rgSub, rIsiX, riRng1, riRng2, slot_z, slot_s, set_z, set_s, at0, at1, at2, at3, at4, at5, at6, dX_c, dX_n, gIx_tup, gIx_lst, gEq_ii, gEq_ss, gNe_ii, gNe_ss, gAdd_ii, gSub_ii, gLt_ii, gLe_ii, gGt_ii, gGe_ii, gIsN_d, gLen_l, gMax_ii, gMin_ii, gInt_b, gInt_i, gAbs_i, gApd_last, isLst_last, boX_b, tru_l, fzL_dX, fzL_n, fzL_cd, Option.map_some, fz_d, pk_d, ifS_some, hd_int, hd_str, hd_bool, hd_none, hd_list, hd_tuple, wipeX, List.map_cons, List.map_nil, List.length_cons, List.length_nil, List.replicate_succ, List.replicate_zero, List.cons_append, List.nil_append, List.append_nil, decide_eq_true_eq, if_true, if_false, Nat.reduceAdd, Nat.reduceSub, Nat.reduceLeDiff, Nat.zero_add, Nat.sub_zero]
        split
        · simp only [startX, rAsg, rgName, rVar, rC, rBin, rD, rCl, rFz, rTb, rTr, rIf, rIfS, rRet, rRetN, rNx, rCons, rNil, rTup, rTupC, rLst, rApp, rAppF, rCall, rPar, rNeg, rNot, rAnd, rOr, rChain, rLc, riSeq, rYes, rDrop, rFor, rApd, rExt, rgTup, rgCons, rgNil, rgSub, rIsiX, riRng1, riRng2, slot_z, slot_s, set_z, set_s, at0, at1, at2, at3, at4, at5, at6, dX_c, dX_n, gIx_tup, gIx_lst, gEq_ii, gEq_ss, gNe_ii, gNe_ss, gAdd_ii, gSub_ii, gLt_ii, gLe_ii, gGt_ii, gGe_ii, gIsN_d, gLen_l, gMax_ii, gMin_ii, gInt_b, gInt_i, gAbs_i, gApd_last, isLst_last, boX_b, tru_l, fzL_dX, fzL_n, fzL_cd, Option.map_some, fz_d, pk_d, ifS_some, hd_int, hd_str, hd_bool, hd_none, hd_list, hd_tuple, wipeX, List.map_cons, List.map_nil, List.length_cons, List.length_nil, List.replicate_succ, List.replicate_zero, List.cons_append, List.nil_append, List.append_nil, decide_eq_true_eq, if_true, if_false, Nat.reduceAdd, Nat.reduceSub, Nat.reduceLeDiff, Nat.zero_add, Nat.sub_zero, is4, true_and]
          refine u_tk ok (by decide) (by decide) fun v2 cs i ok q0 q1 => ?_
          simp only [startX, rAsg, rgName, rVar, rC, rBin, rD, rCl, rFz, rTb, rTr, rIf, rIfS, rRet, rRetN, rNx, rCons, rNil, rTup, rTupC, rLst, rApp, rAppF, rCall, rPar, rNeg, rNot, rAnd, rOr, rChain, rLc, riSeq, rYes, rDrop, rFor, rApd, rExt, rgTup, rgCons, rgNil, rgSub, rIsiX, riRng1, riRng2, slot_z, slot_s, set_z, set_s, at0, at1, at2, at3, at4, at5, at6, dX_c, dX_n, gIx_tup, gIx_lst, gEq_ii, gEq_ss, gNe_ii, gNe_ss, gAdd_ii, gSub_ii, gLt_ii, gLe_ii, gGt_ii, gGe_ii, gIsN_d, gLen_l, gMax_ii, gMin_ii, gInt_b, gInt_i, gAbs_i, gApd_last, isLst_last, boX_b, tru_l, fzL_dX, fzL_n, fzL_cd, Option.map_some, fz_d, pk_d, ifS_some, hd_int, hd_str, hd_bool, hd_none, hd_list, hd_tuple, wipeX, List.map_cons, List.map_nil, List.length_cons, List.length_nil, List.replicate_succ, List.replicate_zero, List.cons_append, List.nil_append, List.append_nil, decide_eq_true_eq, if_true, if_false, Nat.reduceAdd, Nat.reduceSub, Nat.reduceLeDiff, Nat.zero_add, Nat.sub_zero]
          refine ⟨by omega, by omega, ?_⟩
          have er : rangeX 0 (1 + v2).toNat = dX ((List.range (1 + v2).toNat).map fun j : Nat => .int (0 + (j : Int))) := by unfold rangeX dX; rw [List.map_map]; rfl
          rw [er]
          refine lcW_map _ (fun _ => true) (fun j : Nat => .int ((a.filed + 365 * lo) + (0 + (j : Int)))) (by trivial) _ [] (by rw [sizeLine_eq]; simp; omega) (fun b hb Kt Kf h1 h2 => ?_) ?_
          · simp only [startX, rAsg, rgName, rVar, rC, rBin, rD, rCl, rFz, rTb, rTr, rIf, rIfS, rRet, rRetN, rNx, rCons, rNil, rTup, rTupC, rLst, rApp, rAppF, rCall, rPar, rNeg, rNot, rAnd, rOr, rChain, rLc, riSeq, rYes, rDrop, rFor, rApd, rExt, rgTup, rgCons, rgNil, rgSub, rIsiX, riRng1, riRng2, slot_z, slot_s, set_z, set_s, at0, at1, at2, at3, at4, at5, at6, dX_c, dX_n, gIx_tup, gIx_lst, gEq_ii, gEq_ss, gNe_ii, gNe_ss, gAdd_ii, gSub_ii, gLt_ii, gLe_ii, gGt_ii, gGe_ii, gIsN_d, gLen_l, gMax_ii, gMin_ii, gInt_b, gInt_i, gAbs_i, gApd_last, isLst_last, boX_b, tru_l, fzL_dX, fzL_n, fzL_cd, Option.map_some, fz_d, pk_d, ifS_some, hd_int, hd_str, hd_bool, hd_none, hd_list, hd_tuple, wipeX, List.map_cons, List.map_nil, List.length_cons, List.length_nil, List.replicate_succ, List.replicate_zero, List.cons_append, List.nil_append, List.append_nil, decide_eq_true_eq, if_true, if_false, Nat.reduceAdd, Nat.reduceSub, Nat.reduceLeDiff, Nat.zero_add, Nat.sub_zero]
            exact h1 rfl
          · have ef : ((List.range (1 + v2).toNat).filter fun _ => true) = List.range (1 + v2).toNat := List.filter_eq_self.mpr fun _ _ => rfl
            have em : (List.range (1 + v2).toNat).map (fun j : Nat => PyData.int ((a.filed + 365 * lo) + (0 + (j : Int)))) = ((List.range (1 + v2).toNat).map fun j : Nat => (a.filed + 365 * lo) + (0 + (j : Int))).map .int := by rw [List.map_map]; rfl
            have hn : ((List.range (1 + v2).toNat).map fun j : Nat => (a.filed + 365 * lo) + (0 + (j : Int))).length ≤ 4 := by simp; omega
            have hb : ∀ x ∈ (List.range (1 + v2).toNat).map fun j : Nat => (a.filed + 365 * lo) + (0 + (j : Int)), (0 ≤ x ∧ x < 20000) ∧ ∃ a ∈ apps, CBy a x := fun x hx => by
              obtain ⟨j, hj, rfl⟩ := List.mem_map.mp hx
              have := List.mem_range.mp hj
              exact ⟨by omega, a, ha, lo, (j : Int), by omega, .inl (by omega)⟩
            rw [ef, em]
            generalize ((List.range (1 + v2).toNat).map fun j : Nat => (a.filed + 365 * lo) + (0 + (j : Int))) = new at hn hb
            simp only [startX, rAsg, rgName, rVar, rC, rBin, rD, rCl, rFz, rTb, rTr, rIf, rIfS, rRet, rRetN, rNx, rCons, rNil, rTup, rTupC, rLst, rApp, rAppF, rCall, rPar, rNeg, rNot, rAnd, rOr, rChain, rLc, riSeq, rYes, rDrop, rFor, rApd, rExt, rgTup, rgCons, rgNil, rgSub, rIsiX, riRng1, riRng2, slot_z, slot_s, set_z, set_s, at0, at1, at2, at3, at4, at5, at6, dX_c, dX_n, gIx_tup, gIx_lst, gEq_ii, gEq_ss, gNe_ii, gNe_ss, gAdd_ii, gSub_ii, gLt_ii, gLe_ii, gGt_ii, gGe_ii, gIsN_d, gLen_l, gMax_ii, gMin_ii, gInt_b, gInt_i, gAbs_i, gApd_last, isLst_last, boX_b, tru_l, fzL_dX, fzL_n, fzL_cd, Option.map_some, fz_d, pk_d, ifS_some, hd_int, hd_str, hd_bool, hd_none, hd_list, hd_tuple, wipeX, List.map_cons, List.map_nil, List.length_cons, List.length_nil, List.replicate_succ, List.replicate_zero, List.cons_append, List.nil_append, List.append_nil, decide_eq_true_eq, if_true, if_false, Nat.reduceAdd, Nat.reduceSub, Nat.reduceLeDiff, Nat.zero_add, Nat.sub_zero, get4, set4]
            refine ⟨by rw [List.length_map, List.length_map, List.length_map, List.length_map, sizeLine_eq]; omega, hK' _ _ ⟨cl ++ new, cs, i, rfl, by simp [dX], ok, by simp; omega, fun x hx => (List.mem_append.mp hx).elim (cok x) (hb x)⟩⟩
        · exact hK' _ _ ⟨cl, cs, i, rfl, rfl, ok, by omega, cok⟩
      rintro _ _ ⟨cl2, cs, i, rfl, rfl, ok, lc2, cok2⟩
      refine seq_cut (fun σ1 M1 => ∃ (cl' : List Int) (cs : List Int) (i : Int), σ1 = [some (.c 1), some (.d ppl), some (.d (.list (ls.map landD))), o3, some (.c 2), some (.c 3), o6, some (.d (appD a)), some (.c 4), some (.c 5), some (.d (.int c)), o11, some (.d (.int lo)), some (.d (.int (a.filed + 365 * lo))), o14] ∧ M1 = stM cs i ++ [KB, AB, .lst (dX (cl'.map .int)), .lst (dX (fs.map feeD))] ∧ StOk cs i ∧ cl'.length ≤ cl2.length + 4 ∧ ∀ x ∈ cl', (0 ≤ x ∧ x < 20000) ∧ ∃ a ∈ apps, CBy a x) ?_ ?_
      · intro K' hK'
        simp only [startX, rAsg, rgName, rVar, rC, rBin, rD, rCl, rFz, rTb, rTr, rIf, rIfS, rRet, rRetN, rNx, rCons, rNil, rTup, rTupC, rLst, rApp, rAppF, rCall, rPar, rNeg, rNot, rAnd, rOr, rChain, rLc, riSeq, rYes, rDrop, rFor, rApd, rExt, rgTup, rgCons, rgNil, rgSub, rIsiX, riRng1, riRng2, slot_z, slot_s, set_z, set_s, at0, at1, at2, at3, at4, at5, at6, dX_c, dX_n, gIx_tup, gIx_lst, gEq_ii, gEq_ss, gNe_ii, gNe_ss, gAdd_ii, gSub_ii, gLt_ii, gLe_ii, gGt_ii, gGe_ii, gIsN_d, gLen_l, gMax_ii, gMin_ii, gInt_b, gInt_i, gAbs_i, gApd_last, isLst_last, boX_b, tru_l, fzL_dX, fzL_n, fzL_cd, Option.map_some, fz_d, pk_d, ifS_some, hd_int, hd_str, hd_bool, hd_none, hd_list, hd_tuple, wipeX, List.map_cons, List.map_nil, List.length_cons, List.length_nil, List.replicate_succ, List.replicate_zero, List.cons_append, List.nil_append, List.append_nil, decide_eq_true_eq, if_true, if_false, Nat.reduceAdd, Nat.reduceSub, Nat.reduceLeDiff, Nat.zero_add, Nat.sub_zero]
        refine u_tk ok (by decide) (by decide) fun v1 cs i ok p0 p1 => ?_
        simp only [startX, rAsg, rgName, rVar, rC, rBin, rD, rCl, rFz, rTb, rTr, rIf, rIfS, rRet, rRetN, rNx, rCons, rNil, rTup, rTupC, rLst, rApp, rAppF, rCall, rPar, rNeg, rNot, rAnd, rOr, rChain, rLc, riSeq, rYes, rDrop, rFor, rApd, rExt, rgTup, rgCons, rgNil, rgSub, rIsiX, riRng1, riRng2, slot_z, slot_s, set_z, set_s, at0, at1, at2, at3, at4, at5, at6, dX_c, dX_n, gIx_tup, gIx_lst, gEq_ii, gEq_ss, gNe_ii, gNe_ss, gAdd_ii, gSub_ii, gLt_ii, gLe_ii, gGt_ii, gGe_ii, gIsN_d, gLen_l, gMax_ii, gMin_ii, gInt_b, gInt_i, gAbs_i, gApd_last, isLst_last, boX_b, tru_l, fzL_dX, fzL_n, fzL_cd, Option.map_some, fz_d, pk_d, ifS_some, hd_int, hd_str, hd_bool, hd_none, hd_list, hd_tuple, wipeX, List.map_cons, List.map_nil, List.length_cons, List.length_nil, List.replicate_succ, List.replicate_zero, List.cons_append, List.nil_append, List.append_nil, decide_eq_true_eq, if_true, if_false, Nat.reduceAdd, Nat.reduceSub, Nat.reduceLeDiff, Nat.zero_add, Nat.sub_zero]
        split
        · simp only [startX, rAsg, rgName, rVar, rC, rBin, rD, rCl, rFz, rTb, rTr, rIf, rIfS, rRet, rRetN, rNx, rCons, rNil, rTup, rTupC, rLst, rApp, rAppF, rCall, rPar, rNeg, rNot, rAnd, rOr, rChain, rLc, riSeq, rYes, rDrop, rFor, rApd, rExt, rgTup, rgCons, rgNil, rgSub, rIsiX, riRng1, riRng2, slot_z, slot_s, set_z, set_s, at0, at1, at2, at3, at4, at5, at6, dX_c, dX_n, gIx_tup, gIx_lst, gEq_ii, gEq_ss, gNe_ii, gNe_ss, gAdd_ii, gSub_ii, gLt_ii, gLe_ii, gGt_ii, gGe_ii, gIsN_d, gLen_l, gMax_ii, gMin_ii, gInt_b, gInt_i, gAbs_i, gApd_last, isLst_last, boX_b, tru_l, fzL_dX, fzL_n, fzL_cd, Option.map_some, fz_d, pk_d, ifS_some, hd_int, hd_str, hd_bool, hd_none, hd_list, hd_tuple, wipeX, List.map_cons, List.map_nil, List.length_cons, List.length_nil, List.replicate_succ, List.replicate_zero, List.cons_append, List.nil_append, List.append_nil, decide_eq_true_eq, if_true, if_false, Nat.reduceAdd, Nat.reduceSub, Nat.reduceLeDiff, Nat.zero_add, Nat.sub_zero, is4, true_and]
          refine u_tk ok (by decide) (by decide) fun v2 cs i ok q0 q1 => ?_
          simp only [startX, rAsg, rgName, rVar, rC, rBin, rD, rCl, rFz, rTb, rTr, rIf, rIfS, rRet, rRetN, rNx, rCons, rNil, rTup, rTupC, rLst, rApp, rAppF, rCall, rPar, rNeg, rNot, rAnd, rOr, rChain, rLc, riSeq, rYes, rDrop, rFor, rApd, rExt, rgTup, rgCons, rgNil, rgSub, rIsiX, riRng1, riRng2, slot_z, slot_s, set_z, set_s, at0, at1, at2, at3, at4, at5, at6, dX_c, dX_n, gIx_tup, gIx_lst, gEq_ii, gEq_ss, gNe_ii, gNe_ss, gAdd_ii, gSub_ii, gLt_ii, gLe_ii, gGt_ii, gGe_ii, gIsN_d, gLen_l, gMax_ii, gMin_ii, gInt_b, gInt_i, gAbs_i, gApd_last, isLst_last, boX_b, tru_l, fzL_dX, fzL_n, fzL_cd, Option.map_some, fz_d, pk_d, ifS_some, hd_int, hd_str, hd_bool, hd_none, hd_list, hd_tuple, wipeX, List.map_cons, List.map_nil, List.length_cons, List.length_nil, List.replicate_succ, List.replicate_zero, List.cons_append, List.nil_append, List.append_nil, decide_eq_true_eq, if_true, if_false, Nat.reduceAdd, Nat.reduceSub, Nat.reduceLeDiff, Nat.zero_add, Nat.sub_zero]
          refine ⟨by omega, by omega, ?_⟩
          have er : rangeX 0 (1 + v2).toNat = dX ((List.range (1 + v2).toNat).map fun j : Nat => .int (0 + (j : Int))) := by unfold rangeX dX; rw [List.map_map]; rfl
          rw [er]
          refine lcW_map _ (fun _ => true) (fun j : Nat => .int ((a.filed + 365 * lo + 182) + (0 + (j : Int)))) (by trivial) _ [] (by rw [sizeLine_eq]; simp; omega) (fun b hb Kt Kf h1 h2 => ?_) ?_
          · simp only [startX, rAsg, rgName, rVar, rC, rBin, rD, rCl, rFz, rTb, rTr, rIf, rIfS, rRet, rRetN, rNx, rCons, rNil, rTup, rTupC, rLst, rApp, rAppF, rCall, rPar, rNeg, rNot, rAnd, rOr, rChain, rLc, riSeq, rYes, rDrop, rFor, rApd, rExt, rgTup, rgCons, rgNil, rgSub, rIsiX, riRng1, riRng2, slot_z, slot_s, set_z, set_s, at0, at1, at2, at3, at4, at5, at6, dX_c, dX_n, gIx_tup, gIx_lst, gEq_ii, gEq_ss, gNe_ii, gNe_ss, gAdd_ii, gSub_ii, gLt_ii, gLe_ii, gGt_ii, gGe_ii, gIsN_d, gLen_l, gMax_ii, gMin_ii, gInt_b, gInt_i, gAbs_i, gApd_last, isLst_last, boX_b, tru_l, fzL_dX, fzL_n, fzL_cd, Option.map_some, fz_d, pk_d, ifS_some, hd_int, hd_str, hd_bool, hd_none, hd_list, hd_tuple, wipeX, List.map_cons, List.map_nil, List.length_cons, List.length_nil, List.replicate_succ, List.replicate_zero, List.cons_append, List.nil_append, List.append_nil, decide_eq_true_eq, if_true, if_false, Nat.reduceAdd, Nat.reduceSub, Nat.reduceLeDiff, Nat.zero_add, Nat.sub_zero]
            exact h1 rfl
          · have ef : ((List.range (1 + v2).toNat).filter fun _ => true) = List.range (1 + v2).toNat := List.filter_eq_self.mpr fun _ _ => rfl
            have em : (List.range (1 + v2).toNat).map (fun j : Nat => PyData.int ((a.filed + 365 * lo + 182) + (0 + (j : Int)))) = ((List.range (1 + v2).toNat).map fun j : Nat => (a.filed + 365 * lo + 182) + (0 + (j : Int))).map .int := by rw [List.map_map]; rfl
            have hn : ((List.range (1 + v2).toNat).map fun j : Nat => (a.filed + 365 * lo + 182) + (0 + (j : Int))).length ≤ 4 := by simp; omega
            have hb : ∀ x ∈ (List.range (1 + v2).toNat).map fun j : Nat => (a.filed + 365 * lo + 182) + (0 + (j : Int)), (0 ≤ x ∧ x < 20000) ∧ ∃ a ∈ apps, CBy a x := fun x hx => by
              obtain ⟨j, hj, rfl⟩ := List.mem_map.mp hx
              have := List.mem_range.mp hj
              exact ⟨by omega, a, ha, lo, (j : Int), by omega, .inr (by omega)⟩
            rw [ef, em]
            generalize ((List.range (1 + v2).toNat).map fun j : Nat => (a.filed + 365 * lo + 182) + (0 + (j : Int))) = new at hn hb
            simp only [startX, rAsg, rgName, rVar, rC, rBin, rD, rCl, rFz, rTb, rTr, rIf, rIfS, rRet, rRetN, rNx, rCons, rNil, rTup, rTupC, rLst, rApp, rAppF, rCall, rPar, rNeg, rNot, rAnd, rOr, rChain, rLc, riSeq, rYes, rDrop, rFor, rApd, rExt, rgTup, rgCons, rgNil, rgSub, rIsiX, riRng1, riRng2, slot_z, slot_s, set_z, set_s, at0, at1, at2, at3, at4, at5, at6, dX_c, dX_n, gIx_tup, gIx_lst, gEq_ii, gEq_ss, gNe_ii, gNe_ss, gAdd_ii, gSub_ii, gLt_ii, gLe_ii, gGt_ii, gGe_ii, gIsN_d, gLen_l, gMax_ii, gMin_ii, gInt_b, gInt_i, gAbs_i, gApd_last, isLst_last, boX_b, tru_l, fzL_dX, fzL_n, fzL_cd, Option.map_some, fz_d, pk_d, ifS_some, hd_int, hd_str, hd_bool, hd_none, hd_list, hd_tuple, wipeX, List.map_cons, List.map_nil, List.length_cons, List.length_nil, List.replicate_succ, List.replicate_zero, List.cons_append, List.nil_append, List.append_nil, decide_eq_true_eq, if_true, if_false, Nat.reduceAdd, Nat.reduceSub, Nat.reduceLeDiff, Nat.zero_add, Nat.sub_zero, get4, set4]
            refine ⟨by rw [List.length_map, List.length_map, List.length_map, List.length_map, sizeLine_eq]; omega, hK' _ _ ⟨cl2 ++ new, cs, i, rfl, by simp [dX], ok, by simp; omega, fun x hx => (List.mem_append.mp hx).elim (cok2 x) (hb x)⟩⟩
        · exact hK' _ _ ⟨cl2, cs, i, rfl, rfl, ok, by omega, cok2⟩
      rintro _ _ ⟨cl3, cs, i, rfl, rfl, ok, lc3, cok3⟩
      simp only [startX, rSeq, rAsg, rgName, rVar, rC, rBin, rD, rCl, rFz, rTb, rTr, rIf, rIfS, rRet, rRetN, rNx, rCons, rNil, rTup, rTupC, rLst, rApp, rAppF, rCall, rPar, rNeg, rNot, rAnd, rOr, rChain, rLc, riSeq, rYes, rDrop, rFor, rApd, rExt, rgTup, rgCons, rgNil, rgSub, rIsiX, riRng1, riRng2, slot_z, slot_s, set_z, set_s, at0, at1, at2, at3, at4, at5, at6, dX_c, dX_n, gIx_tup, gIx_lst, gEq_ii, gEq_ss, gNe_ii, gNe_ss, gAdd_ii, gSub_ii, gLt_ii, gLe_ii, gGt_ii, gGe_ii, gIsN_d, gLen_l, gMax_ii, gMin_ii, gInt_b, gInt_i, gAbs_i, gApd_last, isLst_last, boX_b, tru_l, fzL_dX, fzL_n, fzL_cd, Option.map_some, fz_d, pk_d, ifS_some, hd_int, hd_str, hd_bool, hd_none, hd_list, hd_tuple, wipeX, List.map_cons, List.map_nil, List.length_cons, List.length_nil, List.replicate_succ, List.replicate_zero, List.cons_append, List.nil_append, List.append_nil, decide_eq_true_eq, if_true, if_false, Nat.reduceAdd, Nat.reduceSub, Nat.reduceLeDiff, Nat.zero_add, Nat.sub_zero]
      refine u_tk ok (by decide) (by decide) fun v1 cs i ok p0 p1 => ?_
      simp only [startX, rSeq, rAsg, rgName, rVar, rC, rBin, rD, rCl, rFz, rTb, rTr, rIf, rIfS, rRet, rRetN, rNx, rCons, rNil, rTup, rTupC, rLst, rApp, rAppF, rCall, rPar, rNeg, rNot, rAnd, rOr, rChain, rLc, riSeq, rYes, rDrop, rFor, rApd, rExt, rgTup, rgCons, rgNil, rgSub, rIsiX, riRng1, riRng2, slot_z, slot_s, set_z, set_s, at0, at1, at2, at3, at4, at5, at6, dX_c, dX_n, gIx_tup, gIx_lst, gEq_ii, gEq_ss, gNe_ii, gNe_ss, gAdd_ii, gSub_ii, gLt_ii, gLe_ii, gGt_ii, gGe_ii, gIsN_d, gLen_l, gMax_ii, gMin_ii, gInt_b, gInt_i, gAbs_i, gApd_last, isLst_last, boX_b, tru_l, fzL_dX, fzL_n, fzL_cd, Option.map_some, fz_d, pk_d, ifS_some, hd_int, hd_str, hd_bool, hd_none, hd_list, hd_tuple, wipeX, List.map_cons, List.map_nil, List.length_cons, List.length_nil, List.replicate_succ, List.replicate_zero, List.cons_append, List.nil_append, List.append_nil, decide_eq_true_eq, if_true, if_false, Nat.reduceAdd, Nat.reduceSub, Nat.reduceLeDiff, Nat.zero_add, Nat.sub_zero]
      split
      · refine u_tk ok (by decide) (by decide) fun v2 cs i ok q0 q1 => ?_
        simp only [startX, rSeq, rAsg, rgName, rVar, rC, rBin, rD, rCl, rFz, rTb, rTr, rIf, rIfS, rRet, rRetN, rNx, rCons, rNil, rTup, rTupC, rLst, rApp, rAppF, rCall, rPar, rNeg, rNot, rAnd, rOr, rChain, rLc, riSeq, rYes, rDrop, rFor, rApd, rExt, rgTup, rgCons, rgNil, rgSub, rIsiX, riRng1, riRng2, slot_z, slot_s, set_z, set_s, at0, at1, at2, at3, at4, at5, at6, dX_c, dX_n, gIx_tup, gIx_lst, gEq_ii, gEq_ss, gNe_ii, gNe_ss, gAdd_ii, gSub_ii, gLt_ii, gLe_ii, gGt_ii, gGe_ii, gIsN_d, gLen_l, gMax_ii, gMin_ii, gInt_b, gInt_i, gAbs_i, gApd_last, isLst_last, boX_b, tru_l, fzL_dX, fzL_n, fzL_cd, Option.map_some, fz_d, pk_d, ifS_some, hd_int, hd_str, hd_bool, hd_none, hd_list, hd_tuple, wipeX, List.map_cons, List.map_nil, List.length_cons, List.length_nil, List.replicate_succ, List.replicate_zero, List.cons_append, List.nil_append, List.append_nil, decide_eq_true_eq, if_true, if_false, Nat.reduceAdd, Nat.reduceSub, Nat.reduceLeDiff, Nat.zero_add, Nat.sub_zero]
        refine u_tk ok (by decide) (by decide) fun v3 cs i ok r0 r1 => ?_
        simp only [startX, rSeq, rAsg, rgName, rVar, rC, rBin, rD, rCl, rFz, rTb, rTr, rIf, rIfS, rRet, rRetN, rNx, rCons, rNil, rTup, rTupC, rLst, rApp, rAppF, rCall, rPar, rNeg, rNot, rAnd, rOr, rChain, rLc, riSeq, rYes, rDrop, rFor, rApd, rExt, rgTup, rgCons, rgNil, rgSub, rIsiX, riRng1, riRng2, slot_z, slot_s, set_z, set_s, at0, at1, at2, at3, at4, at5, at6, dX_c, dX_n, gIx_tup, gIx_lst, gEq_ii, gEq_ss, gNe_ii, gNe_ss, gAdd_ii, gSub_ii, gLt_ii, gLe_ii, gGt_ii, gGe_ii, gIsN_d, gLen_l, gMax_ii, gMin_ii, gInt_b, gInt_i, gAbs_i, gApd_last, isLst_last, boX_b, tru_l, fzL_dX, fzL_n, fzL_cd, Option.map_some, fz_d, pk_d, ifS_some, hd_int, hd_str, hd_bool, hd_none, hd_list, hd_tuple, wipeX, List.map_cons, List.map_nil, List.length_cons, List.length_nil, List.replicate_succ, List.replicate_zero, List.cons_append, List.nil_append, List.append_nil, decide_eq_true_eq, if_true, if_false, Nat.reduceAdd, Nat.reduceSub, Nat.reduceLeDiff, Nat.zero_add, Nat.sub_zero]
        refine u_tk ok (by decide) (by decide) fun v4 cs i ok t0 t1 => ?_
        simp only [startX, rSeq, rAsg, rgName, rVar, rC, rBin, rD, rCl, rFz, rTb, rTr, rIf, rIfS, rRet, rRetN, rNx, rCons, rNil, rTup, rTupC, rLst, rApp, rAppF, rCall, rPar, rNeg, rNot, rAnd, rOr, rChain, rLc, riSeq, rYes, rDrop, rFor, rApd, rExt, rgTup, rgCons, rgNil, rgSub, rIsiX, riRng1, riRng2, slot_z, slot_s, set_z, set_s, at0, at1, at2, at3, at4, at5, at6, dX_c, dX_n, gIx_tup, gIx_lst, gEq_ii, gEq_ss, gNe_ii, gNe_ss, gAdd_ii, gSub_ii, gLt_ii, gLe_ii, gGt_ii, gGe_ii, gIsN_d, gLen_l, gMax_ii, gMin_ii, gInt_b, gInt_i, gAbs_i, gApd_last, isLst_last, boX_b, tru_l, fzL_dX, fzL_n, fzL_cd, Option.map_some, fz_d, pk_d, ifS_some, hd_int, hd_str, hd_bool, hd_none, hd_list, hd_tuple, wipeX, List.map_cons, List.map_nil, List.length_cons, List.length_nil, List.replicate_succ, List.replicate_zero, List.cons_append, List.nil_append, List.append_nil, decide_eq_true_eq, if_true, if_false, Nat.reduceAdd, Nat.reduceSub, Nat.reduceLeDiff, Nat.zero_add, Nat.sub_zero]
        refine ⟨by decide, ?_⟩
        refine u_tk ok (by decide) (by decide) fun v5 cs i ok w0 w1 => ?_
        simp only [startX, rSeq, rAsg, rgName, rVar, rC, rBin, rD, rCl, rFz, rTb, rTr, rIf, rIfS, rRet, rRetN, rNx, rCons, rNil, rTup, rTupC, rLst, rApp, rAppF, rCall, rPar, rNeg, rNot, rAnd, rOr, rChain, rLc, riSeq, rYes, rDrop, rFor, rApd, rExt, rgTup, rgCons, rgNil, rgSub, rIsiX, riRng1, riRng2, slot_z, slot_s, set_z, set_s, at0, at1, at2, at3, at4, at5, at6, dX_c, dX_n, gIx_tup, gIx_lst, gEq_ii, gEq_ss, gNe_ii, gNe_ss, gAdd_ii, gSub_ii, gLt_ii, gLe_ii, gGt_ii, gGe_ii, gIsN_d, gLen_l, gMax_ii, gMin_ii, gInt_b, gInt_i, gAbs_i, gApd_last, isLst_last, boX_b, tru_l, fzL_dX, fzL_n, fzL_cd, Option.map_some, fz_d, pk_d, ifS_some, hd_int, hd_str, hd_bool, hd_none, hd_list, hd_tuple, wipeX, List.map_cons, List.map_nil, List.length_cons, List.length_nil, List.replicate_succ, List.replicate_zero, List.cons_append, List.nil_append, List.append_nil, decide_eq_true_eq, if_true, if_false, Nat.reduceAdd, Nat.reduceSub, Nat.reduceLeDiff, Nat.zero_add, Nat.sub_zero]
        have hz : ∃ z, 0 ≤ z ∧ z < 20000 ∧ atI [Xv.d (.int (a.filed + 365 * lo - v2)), .d (.int (a.filed + 365 * lo + v3)), .d (.int (a.filed + 365 * lo + 180 + v4)), .d (.int (a.filed + 365 * lo + 182))] v5 = some (.d (.int z)) := by
          have : v5 = 0 ∨ v5 = 1 ∨ v5 = 2 ∨ v5 = 3 := by omega
          rcases this with rfl | rfl | rfl | rfl
          · exact ⟨_, by omega, by omega, at0 _ _⟩
          · exact ⟨_, by omega, by omega, at1 _ _ _⟩
          · exact ⟨_, by omega, by omega, at2 _ _ _ _⟩
          · exact ⟨_, by omega, by omega, at3 _ _ _ _ _⟩
        obtain ⟨z, z0, z1, ez⟩ := hz
        simp only [startX, rSeq, rAsg, rgName, rVar, rC, rBin, rD, rCl, rFz, rTb, rTr, rIf, rIfS, rRet, rRetN, rNx, rCons, rNil, rTup, rTupC, rLst, rApp, rAppF, rCall, rPar, rNeg, rNot, rAnd, rOr, rChain, rLc, riSeq, rYes, rDrop, rFor, rApd, rExt, rgTup, rgCons, rgNil, rgSub, rIsiX, riRng1, riRng2, slot_z, slot_s, set_z, set_s, at0, at1, at2, at3, at4, at5, at6, dX_c, dX_n, gIx_tup, gIx_lst, gEq_ii, gEq_ss, gNe_ii, gNe_ss, gAdd_ii, gSub_ii, gLt_ii, gLe_ii, gGt_ii, gGe_ii, gIsN_d, gLen_l, gMax_ii, gMin_ii, gInt_b, gInt_i, gAbs_i, gApd_last, isLst_last, boX_b, tru_l, fzL_dX, fzL_n, fzL_cd, Option.map_some, fz_d, pk_d, ifS_some, hd_int, hd_str, hd_bool, hd_none, hd_list, hd_tuple, wipeX, List.map_cons, List.map_nil, List.length_cons, List.length_nil, List.replicate_succ, List.replicate_zero, List.cons_append, List.nil_append, List.append_nil, decide_eq_true_eq, if_true, if_false, Nat.reduceAdd, Nat.reduceSub, Nat.reduceLeDiff, Nat.zero_add, Nat.sub_zero, ez, is5, ap5, true_and, appD]
        refine ⟨s3, by rw [List.length_map, List.length_map, sizeLine_eq]; omega, hC _ _ ⟨n, lo + 1, cl3, fs ++ [(a.nm, lo, max a.filed z)], cs, i, _, _, _, _, _, rfl, by omega, by omega, by simp [dX, feeD], ok, by omega, by simp; omega, cok3, ⟨fun f hf => ?_, fun f hf => ?_⟩, rfl⟩⟩
        · rcases List.mem_append.mp hf with q | q
          · exact fok.of f q
          · rw [List.mem_singleton.mp q]; exact ⟨a, ha, rfl, by show a.filed ≤ max a.filed z; omega⟩
        · rcases List.mem_append.mp hf with q | q
          · exact fok.bd f q
          · rw [List.mem_singleton.mp q]; exact ⟨by show 0 ≤ lo; omega, by show lo < 30; omega, by show 0 ≤ max a.filed z; omega, by show max a.filed z < 20000; omega⟩
      · exact hC _ _ ⟨n, lo + 1, cl3, fs, cs, i, _, _, _, _, _, rfl, by omega, by omega, rfl, ok, by omega, by omega, cok3, fok, rfl⟩
    · rintro σ M ⟨n, lo, cl, fs, cs, i, o3, o11, o12, o13, o14, e, l0, l1, rfl, ok, lc, lf, cok, fok, rfl⟩
      refine ⟨trivial, ?_⟩
      exact hC _ _ ⟨rest, cl, fs, cs, i, _, _, _, _, _, _, _, _, rfl, fun x hx => hr x (List.mem_cons_of_mem _ hx), rfl, ok, by omega, by omega, cok, fok, rfl⟩
  rintro σ M ⟨rest, cl, fs, cs, i, o3, o6, o7, o10, o11, o12, o13, o14, e, hr, rfl, ok, lc, lf, cok, fok, rfl⟩
  refine ⟨rfl, ?_⟩
  clear e hr
  subst hK hA
  obtain ⟨C', hC', hCi, hCl, _⟩ := sset_ints cl
  have hCm : ∀ x ∈ C', x ∈ cl := fun x hx => (hCi x).mp hx
  obtain ⟨F', hF', hFp⟩ := sort_fees fs
  simp only [startX, rSeq, rAsg, rgName, rVar, rC, rBin, rD, rCl, rFz, rTb, rTr, rIf, rIfS, rRet, rRetN, rNx, rCons, rNil, rTup, rTupC, rLst, rApp, rAppF, rCall, rPar, rNeg, rNot, rAnd, rOr, rChain, rLc, riSeq, rYes, rDrop, rFor, rApd, rExt, rgTup, rgCons, rgNil, rgSub, rIsiX, riRng1, riRng2, slot_z, slot_s, set_z, set_s, at0, at1, at2, at3, at4, at5, at6, dX_c, dX_n, gIx_tup, gIx_lst, gEq_ii, gEq_ss, gNe_ii, gNe_ss, gAdd_ii, gSub_ii, gLt_ii, gLe_ii, gGt_ii, gGe_ii, gIsN_d, gLen_l, gMax_ii, gMin_ii, gInt_b, gInt_i, gAbs_i, gApd_last, isLst_last, boX_b, tru_l, fzL_dX, fzL_n, fzL_cd, Option.map_some, fz_d, pk_d, ifS_some, hd_int, hd_str, hd_bool, hd_none, hd_list, hd_tuple, wipeX, List.map_cons, List.map_nil, List.length_cons, List.length_nil, List.replicate_succ, List.replicate_zero, List.cons_append, List.nil_append, List.append_nil, decide_eq_true_eq, if_true, if_false, Nat.reduceAdd, Nat.reduceSub, Nat.reduceLeDiff, Nat.zero_add, Nat.sub_zero, rDic2, rpCons, rpNil, fz2, fz3, hd4, hd5, hd3f, keyX_s, rSSet, keysX_ints, gSort_c, hC', hF']
  have cB : cl.length ≤ 800 := by omega
  have sb : scanBound = 4096 := rfl
  refine ⟨s2, by rw [List.length_map]; omega, fun x hx y hy => ?_, s0, s0, s0, s0, ?_⟩
  · rw [List.map_map] at hx hy
    obtain ⟨_, _, rfl⟩ := List.mem_map.mp hx
    obtain ⟨_, _, rfl⟩ := List.mem_map.mp hy
    simp [kD, PySem.W.alike]
  refine lcW_map appD (fun _ => true) verD (show kp (.c 3) _ _ from rfl) apps [] (by rw [sizeLine_eq]; simp; omega) (fun b hb Kt Kf h1 h2 => ?_) ?_
  · simp only [startX, rSeq, rAsg, rgName, rVar, rC, rBin, rD, rCl, rFz, rTb, rTr, rIf, rIfS, rRet, rRetN, rNx, rCons, rNil, rTup, rTupC, rLst, rApp, rAppF, rCall, rPar, rNeg, rNot, rAnd, rOr, rChain, rLc, riSeq, rYes, rDrop, rFor, rApd, rExt, rgTup, rgCons, rgNil, rgSub, rIsiX, riRng1, riRng2, slot_z, slot_s, set_z, set_s, at0, at1, at2, at3, at4, at5, at6, dX_c, dX_n, gIx_tup, gIx_lst, gEq_ii, gEq_ss, gNe_ii, gNe_ss, gAdd_ii, gSub_ii, gLt_ii, gLe_ii, gGt_ii, gGe_ii, gIsN_d, gLen_l, gMax_ii, gMin_ii, gInt_b, gInt_i, gAbs_i, gApd_last, isLst_last, boX_b, tru_l, fzL_dX, fzL_n, fzL_cd, Option.map_some, fz_d, pk_d, ifS_some, hd_int, hd_str, hd_bool, hd_none, hd_list, hd_tuple, wipeX, List.map_cons, List.map_nil, List.length_cons, List.length_nil, List.replicate_succ, List.replicate_zero, List.cons_append, List.nil_append, List.append_nil, decide_eq_true_eq, if_true, if_false, Nat.reduceAdd, Nat.reduceSub, Nat.reduceLeDiff, Nat.zero_add, Nat.sub_zero, appD]
    exact ⟨s0, s2, h1 rfl⟩
  have ef : (apps.filter fun _ => true) = apps := List.filter_eq_self.mpr fun _ _ => rfl
  rw [ef]
  have dd : datX (dX (fs.map feeD)) = some (fs.map feeD) := datX_dX _
  simp only [startX, rSeq, rAsg, rgName, rVar, rC, rBin, rD, rCl, rFz, rTb, rTr, rIf, rIfS, rRet, rRetN, rNx, rCons, rNil, rTup, rTupC, rLst, rApp, rAppF, rCall, rPar, rNeg, rNot, rAnd, rOr, rChain, rLc, riSeq, rYes, rDrop, rFor, rApd, rExt, rgTup, rgCons, rgNil, rgSub, rIsiX, riRng1, riRng2, slot_z, slot_s, set_z, set_s, at0, at1, at2, at3, at4, at5, at6, dX_c, dX_n, gIx_tup, gIx_lst, gEq_ii, gEq_ss, gNe_ii, gNe_ss, gAdd_ii, gSub_ii, gLt_ii, gLe_ii, gGt_ii, gGe_ii, gIsN_d, gLen_l, gMax_ii, gMin_ii, gInt_b, gInt_i, gAbs_i, gApd_last, isLst_last, boX_b, tru_l, fzL_dX, fzL_n, fzL_cd, Option.map_some, fz_d, pk_d, ifS_some, hd_int, hd_str, hd_bool, hd_none, hd_list, hd_tuple, wipeX, List.map_cons, List.map_nil, List.length_cons, List.length_nil, List.replicate_succ, List.replicate_zero, List.cons_append, List.nil_append, List.append_nil, decide_eq_true_eq, if_true, if_false, Nat.reduceAdd, Nat.reduceSub, Nat.reduceLeDiff, Nat.zero_add, Nat.sub_zero, hd5, dd, hF']
  have srt : Srt (fs.map feeD) := by
    refine ⟨fun x hx y hy => ?_, .inl fun x hx => ?_, fun x hx => ?_, by rw [List.length_map, sizeLine_eq]; omega⟩
    · obtain ⟨_, _, rfl⟩ := List.mem_map.mp hx
      obtain ⟨_, _, rfl⟩ := List.mem_map.mp hy
      simp [feeD, PySem.W.alike, PySem.W.alikeAll]
    · obtain ⟨_, _, rfl⟩ := List.mem_map.mp hx
      exact ⟨_, _, rfl⟩
    · obtain ⟨_, _, rfl⟩ := List.mem_map.mp hx
      simp [feeD, PyData.depth, PyData.depthAll]
  refine ⟨srt, s0, s0, s0, s0, s0, s0, ?_⟩
  rw [mergeX_k17]
  rotate_left
  · rfl
  refine ⟨by nofun, s0, s0, s0, trivial, ?_⟩
  rw [mergeX_k3]
  rotate_left
  · rfl
  rw [mergeX_nodup]
  rotate_left
  · exact nd20
  subst hFp
  refine ⟨s2, ?_⟩
  have pm := List.mergeSort_perm fs feeLe
  have fok2 : FrOk (fs.mergeSort feeLe) apps := ⟨fun f hf => fok.of f (pm.mem_iff.mp hf), fun f hf => fok.bd f (pm.mem_iff.mp hf)⟩
  have tot : PySem.W.TotalLe feeLe := PySem.W.sortLe_total (listOrd itemOrd) false fun f => PySem.W.keyToks (feeD f)
  have h := h ks ls apps C' (fs.mergeSort feeLe) [.frz (.list (ks.map kindD)), .frz (.list (apps.map appD)), .lst (dX (cl.map .int)), .lst (dX (fs.map feeD))] cs i ⟨kl7, kok, ll3, al5, lok, ⟨_, by omega, aok⟩, by omega, fun x hx => cok x (hCm x hx), fok2, by rw [List.length_mergeSort]; omega, PySem.W.sort_pairwise tot fs⟩ rfl ok
  unfold ppD ppS at h
  simp only [List.map_cons, List.map_nil] at h
  rw [hppl] at h
  exact h
end K31

set_option Elab.async false
set_option linter.all false
set_option maxRecDepth 100000
set_option maxHeartbeats 8000000
namespace K31
open PySem PySem.Spec PyProof.Rows L2 G
variable {P : Program} {w : World} {K : PySem.W.Frag} {mg : Str → Option Value} {base : Heap} {k : Nat}
/-! ### the state with transfers -/
def stKvs2 (ks : List (Str × Option Str)) (ls : List (Str × Int)) (apps : List App) (C : List Int) (F : List (Str × Int × Int)) (T : List Tr) (R : List Rg) : List (Key × PyData) := [(.inr "kinds", .list (ks.map kindD)), (.inr "quantities", .list [.str "len", .str "mass"]), (.inr "closed", .list (C.map .int)), (.inr "lands", .list (ls.map landD)), (.inr "documents", .list []), (.inr "applications", .list (apps.map appD)), (.inr "priors", .list []), (.inr "cites", .list []), (.inr "fields", .list []), (.inr "versions", .list (apps.map verD)), (.inr "fees", .list (F.map feeD)), (.inr "transfers", .list (T.map trD)), (.inr "registered", .list (R.map rgD)), (.inr "licences", .list []), (.inr "products", .list []), (.inr "drops", .list []), (.inr "bends", .list []), (.inr "rates", .list []), (.inr "sales", .list []), (.inr "oppositions", .list [])]
def stD2 (ks : List (Str × Option Str)) (ls : List (Str × Int)) (apps : List App) (C : List Int) (F : List (Str × Int × Int)) (T : List Tr) (R : List Rg) : PyData := .dict ((stKvs2 ks ls apps C F T R).map fun p => (kD p.1, p.2))
def stX2 (ks : List (Str × Option Str)) (ls : List (Str × Int)) (apps : List App) (C : List Int) (F : List (Str × Int × Int)) (T : List Tr) (R : List Rg) : List (Key × Xv) := (stKvs2 ks ls apps C F T R).map fun p => (p.1, Xv.d p.2)
theorem is_st2 (ks : List (Str × Option Str)) (ls : List (Str × Int)) (apps : List App) (C : List Int) (F : List (Str × Int × Int)) (T : List Tr) (R : List Rg) : Is (stD2 ks ls apps C F T R) ⟨apps, ls, C, F⟩ := ⟨by kernel_rfl, by kernel_rfl, by kernel_rfl, by kernel_rfl⟩
theorem is2_st2 (ks : List (Str × Option Str)) (ls : List (Str × Int)) (apps : List App) (C : List Int) (F : List (Str × Int × Int)) (T : List Tr) (R : List Rg) : Is2 (stD2 ks ls apps C F T R) T R := ⟨by kernel_rfl, by kernel_rfl⟩
structure TrB (t : Tr) : Prop where
  a : nmOk t.app
  g : nmOk t.giver
  k : nmOk t.taker
  s : 1 ≤ t.size ∧ t.size ≤ 1000
  n : 0 ≤ t.n ∧ t.n ≤ 16
  d : 0 ≤ t.told ∧ t.told ≤ 1000
structure RgB (r : Rg) : Prop where
  a : nmOk r.app
  g : nmOk r.giver
  s : 1 ≤ r.size ∧ r.size ≤ 1000
  n : 0 ≤ r.n ∧ r.n ≤ 16
  d : 0 ≤ r.day ∧ r.day ≤ 2000
theorem rp_st2 {ks : List (Str × Option Str)} {ls : List (Str × Int)} {apps : List App} {lo : Int} {C : List Int} {fs : List (Str × Int × Int)} (kl : ks.length ≤ 7) (kok : KsOk ks) (ll : ls.length ≤ 3) (al : apps.length ≤ 5) (hlo : lo ≤ 5) (lok : LandsOk ls) (aok : AppsOk apps lo ls) (hC : C.length ≤ 800)
    (cok : ∀ x ∈ C, 0 ≤ x ∧ x < 20000) (fok : FrOk fs apps) (hf : fs.length ≤ 100) {T : List Tr} {R : List Rg} (tl : T.length ≤ 16) (rl : R.length ≤ 30) (tb : ∀ t ∈ T, TrB t) (rb : ∀ r ∈ R, RgB r) : Rp (20 * 40014) 9 (stD2 ks ls apps C fs T R) := by
  have nA : ∀ a ∈ apps, nmOk a.nm := fun a ha => by
    obtain ⟨j, j0, j1, e⟩ := aok.nm a ha
    rw [e]
    exact (nm_facts j0 (by omega)).2.2.2.2
  have land : ∀ x : Str, (x = "east" ∨ x = "north" ∨ x = "west") → nmOk x := fun x h => by
    rcases h with rfl | rfl | rfl <;> (unfold nmOk; decide +kernel)
  have hk : Rp 40000 8 (.list (ks.map kindD)) := rp_lst (n := 7) (w := 100) (dp := 3) kl (fun p hp => by
    have h2 : Rp 8 2 (optS p.2) := by
      cases q : p.2 with
      | none => exact Rp.mono (Rp.none (dp := 0)) (by omega) (by omega)
      | some x => exact rp_nm (kok.b p hp x q)
    exact Rp.mono (Rp.tup (.cons (rp_nm (kok.a p hp)) (.cons h2 .nil))) (by omega) (by omega)) (by omega) (by omega)
  have hl : Rp 40000 8 (.list (ls.map landD)) := rp_lst (n := 3) (w := 100) (dp := 3) ll (fun l hl => by
    have := lok.nn l hl
    exact Rp.mono (Rp.tup (dp := 2) (.cons (rp_nm (land _ (lok.nm l hl))) (.cons (Rp.int (by decide)) (.cons (Rp.int (by omega)) .nil)))) (by omega) (by omega)) (by omega) (by omega)
  have ha : Rp 40000 8 (.list (apps.map appD)) := rp_lst (n := 5) (w := 300) (dp := 4) al (fun a ha => by
    have f := aok.fi a ha
    obtain ⟨l, hl, el⟩ := aok.la a ha
    have h2 : Rp 40 3 (optI a.wd) := by
      cases q : a.wd with
      | none => exact Rp.mono (Rp.none (dp := 0)) (by omega) (by omega)
      | some x => have := aok.wd a ha x q; exact Rp.int (by omega)
    have hnl : Rp 8 3 (.str a.land) := by rw [el]; exact rp_nm (land _ (lok.nm l hl))
    exact Rp.mono (Rp.tup (dp := 3) (.cons (rp_nm (nA a ha)) (.cons hnl (.cons (Rp.int (by omega)) (.cons (rp_nm (aok.ow a ha)) (.cons (Rp.mono (Rp.lst (dp := 2) .nil) (Nat.le_refl 0) (by omega)) (.cons Rp.none (.cons h2 .nil)))))))) (by omega) (by omega)) (by omega) (by omega)
  have hv : Rp 40000 8 (.list (apps.map verD)) := rp_lst (n := 5) (w := 100) (dp := 4) al (fun a ha => Rp.mono (Rp.tup (dp := 3) (.cons (rp_nm (nA a ha)) (.cons (Rp.lst (dp := 2) .nil) .nil))) (by omega) (by omega)) (by omega) (by omega)
  have hc : Rp 40000 8 (.list (C.map .int)) := rp_lst (n := 800) (w := 40) (dp := 3) hC (fun x hx => by have := cok x hx; exact Rp.int (by omega)) (by omega) (by omega)
  have hfe : Rp 40000 8 (.list (fs.map feeD)) := rp_lst (n := 100) (w := 200) (dp := 3) hf (fun f hf => by
    have hm := hf
    obtain ⟨a, ha, e, _⟩ := fok.of f hm
    have b := fok.bd f hm
    have hn : Rp 8 2 (.str f.1) := by rw [e]; exact rp_nm (nA a ha)
    exact Rp.mono (Rp.tup (dp := 2) (.cons hn (.cons (Rp.int (by omega)) (.cons (Rp.int (by omega)) .nil)))) (by omega) (by omega)) (by omega) (by omega)
  have hT : Rp 40000 8 (.list (T.map trD)) := rp_lst (n := 16) (w := 400) (dp := 3) tl (fun t ht => by
    have b := tb t ht
    have b1 := b.s
    have b2 := b.n
    have b3 := b.d
    exact Rp.mono (Rp.tup (dp := 2) (.cons (rp_nm b.a) (.cons (rp_nm b.g) (.cons (rp_nm b.k) (.cons (Rp.int (by omega)) (.cons (Rp.int (by omega)) (.cons (Rp.int (by omega)) .nil))))))) (by omega) (by omega)) (by omega) (by omega)
  have hR : Rp 40000 8 (.list (R.map rgD)) := rp_lst (n := 30) (w := 400) (dp := 3) rl (fun r hr => by
    have b := rb r hr
    have b1 := b.s
    have b2 := b.n
    have b3 := b.d
    exact Rp.mono (Rp.tup (dp := 2) (.cons (rp_nm b.a) (.cons (rp_nm b.g) (.cons (Rp.int (by omega)) (.cons (Rp.int (by omega)) (.cons (Rp.int (by omega)) .nil)))))) (by omega) (by omega)) (by omega) (by omega)
  have he : Rp 40000 8 (.list []) := Rp.mono (Rp.lst (dp := 2) .nil) (by omega) (by omega)
  have hq : Rp 40000 8 (.list [.str "len", .str "mass"]) := Rp.mono (Rp.lst (dp := 2) (.cons (rp_nm (by unfold nmOk; decide +kernel)) (.cons (rp_nm (by unfold nmOk; decide +kernel)) .nil))) (by omega) (by omega)
  have z : RpKv (0 * 40014) 8 [] := by rw [Nat.zero_mul]; exact RpKv.nil
  exact Rp.dict (kvc (by unfold nmOk2; decide +kernel) hk (kvc (by unfold nmOk2; decide +kernel) hq (kvc (by unfold nmOk2; decide +kernel) hc (kvc (by unfold nmOk2; decide +kernel) hl (kvc (by unfold nmOk2; decide +kernel) he (kvc (by unfold nmOk2; decide +kernel) ha (kvc (by unfold nmOk2; decide +kernel) he (kvc (by unfold nmOk2; decide +kernel) he (kvc (by unfold nmOk2; decide +kernel) he (kvc (by unfold nmOk2; decide +kernel) hv (kvc (by unfold nmOk2; decide +kernel) hfe (kvc (by unfold nmOk2; decide +kernel) hT (kvc (by unfold nmOk2; decide +kernel) hR (kvc (by unfold nmOk2; decide +kernel) he (kvc (by unfold nmOk2; decide +kernel) he (kvc (by unfold nmOk2; decide +kernel) he (kvc (by unfold nmOk2; decide +kernel) he (kvc (by unfold nmOk2; decide +kernel) he (kvc (by unfold nmOk2; decide +kernel) he (kvc (by unfold nmOk2; decide +kernel) he (z)))))))))))))))))))))
/-! ### the store of the deals -/
def dM (cs : List Int) (i : Int) (Q R : Sto) : Sto := (stM cs i ++ Q) ++ R
section
variable {cs : List Int} {i : Int} {Q R : Sto} {ks : List (Str × Option Str)} {ls : List (Str × Int)} {apps : List App} {C : List Int} {F : List (Str × Int × Int)} {T T' : List Tr} {RR RR' : List Rg} {a b c d : Ob} {L : Sto} {P : Xv → Sto → Prop} {P0 : Sto → Prop}
theorem lenD : (stM cs i ++ Q).length = Q.length + 2 := by rw [List.length_append]; show 2 + Q.length = _; omega
theorem getD_ (j : Nat) : (dM cs i Q R)[Q.length + 2 + j]? = R[j]? := by
  unfold dM
  rw [← lenD (cs := cs) (i := i) (Q := Q)]
  exact getA j
theorem setD_ (j : Nat) (o : Ob) : (dM cs i Q R).set (Q.length + 2 + j) o = dM cs i Q (R.set j o) := by
  unfold dM
  rw [← lenD (cs := cs) (i := i) (Q := Q)]
  exact setA j o
theorem appD_ (o : Ob) : dM cs i Q R ++ [o] = dM cs i Q (R ++ [o]) := List.append_assoc _ _ _
theorem lenD2 : (dM cs i Q R).length = Q.length + 2 + R.length := by
  unfold dM
  rw [List.length_append, lenD]
theorem u_tkD {most : Int} (ok : StOk cs i) (m0 : 0 < most) (m1 : most < 1000000) (h : ∀ v cs' i', StOk cs' i' → 0 ≤ v → v < most → P (.d (.int v)) (dM cs' i' Q R)) : pfPre 2 pf_tk [.c 1, .d (.int most)] (dM cs i Q R) P := by
  unfold dM
  rw [List.append_assoc]
  refine u_tk ok m0 m1 fun v cs' i' a b c => ?_
  rw [← List.append_assoc]
  exact h v cs' i' a b c
abbrev offQ (a b c d : Ob) (ks : List (Str × Option Str)) (ls : List (Str × Int)) (apps : List App) (C : List Int) (F : List (Str × Int × Int)) (T : List Tr) (RR : List Rg) (L : Sto) : Sto := a :: b :: c :: d :: .dic (stX2 ks ls apps C F T RR) :: L
theorem gIx_appsD : gIx (.c 6) (.d (.str "applications")) (dM cs i (offQ a b c d ks ls apps C F T RR L) R) P = P (.d (.list (apps.map appD))) (dM cs i (offQ a b c d ks ls apps C F T RR L) R) := by kernel_rfl
theorem set_trs : gSet (.c 6) (.d (.str "transfers")) (.d (.list (T'.map trD))) (dM cs i (offQ a b c d ks ls apps C F T RR L) R) P0 = (20 < sizeLine ∧ P0 (dM cs i (offQ a b c d ks ls apps C F T' RR L) R)) := by kernel_rfl
theorem set_reg : gSet (.c 6) (.d (.str "registered")) (.d (.list (RR'.map rgD))) (dM cs i (offQ a b c d ks ls apps C F T RR L) R) P0 = (20 < sizeLine ∧ P0 (dM cs i (offQ a b c d ks ls apps C F T RR' L) R)) := by kernel_rfl
end
end K31

set_option Elab.async false
set_option linter.all false
set_option maxRecDepth 100000
set_option maxHeartbeats 8000000
namespace K31
open PySem PySem.Spec PyProof.Rows L2 G
variable {P : Program} {w : World} {K : PySem.W.Frag} {mg : Str → Option Value} {base : Heap} {k : Nat}
/-! ### the law's deals -/
theorem pp_at {v : Int} (h0 : 0 ≤ v) (h1 : v < 6) : ∃ o : Str, nmOk o ∧ ∀ (M : Sto) (P : Xv → Sto → Prop), gIx (.d ppD) (.d (.int v)) M P = P (.d (.str o)) M := by
  have : v = 0 ∨ v = 1 ∨ v = 2 ∨ v = 3 ∨ v = 4 ∨ v = 5 := by omega
  rcases this with rfl | rfl | rfl | rfl | rfl | rfl
  · exact ⟨"ann", by unfold nmOk; decide +kernel, fun M P => rfl⟩
  · exact ⟨"bob", by unfold nmOk; decide +kernel, fun M P => rfl⟩
  · exact ⟨"cy", by unfold nmOk; decide +kernel, fun M P => rfl⟩
  · exact ⟨"dan", by unfold nmOk; decide +kernel, fun M P => rfl⟩
  · exact ⟨"eve", by unfold nmOk; decide +kernel, fun M P => rfl⟩
  · exact ⟨"fay", by unfold nmOk; decide +kernel, fun M P => rfl⟩
theorem at2s {a b : Str} {v : Int} (v0 : 0 ≤ v) (v1 : v < 2) : ∃ x, (x = a ∨ x = b) ∧ atI [Xv.d (.str a), .d (.str b)] v = some (.d (.str x)) := by
  have : v = 0 ∨ v = 1 := by omega
  rcases this with rfl | rfl
  · exact ⟨a, .inl rfl, rfl⟩
  · exact ⟨b, .inr rfl, rfl⟩
theorem at3i {a b c v : Int} (v0 : 0 ≤ v) (v1 : v < 3) : ∃ x, (x = a ∨ x = b ∨ x = c) ∧ atI [Xv.d (.int a), .d (.int b), .d (.int c)] v = some (.d (.int x)) := by
  have : v = 0 ∨ v = 1 ∨ v = 2 := by omega
  rcases this with rfl | rfl | rfl
  · exact ⟨a, .inl rfl, rfl⟩
  · exact ⟨b, .inr (.inl rfl), rfl⟩
  · exact ⟨c, .inr (.inr rfl), rfl⟩
/-! readings, one step -/
section
variable {σ : Sl} {M : Sto} {P : Xv → Sto → Prop} {PL : List Xv → Sto → Prop}
theorem bin_i {g : G2} {ra rb : RE} (h : ra σ M fun x M1 => rb σ M1 fun y M2 => g x y M2 P) : rBin g ra rb σ M P := h
theorem lst_i {rs : RF} (h : rs σ M fun xs M1 => xs.length ≤ sizeLine ∧ ifS (fzL M1 xs) fun q => P (.d (.list q.1)) q.2) : rD (rLst rs) σ M P := h
theorem cons_i {ra : RE} {rr : RF} (h : ra σ M fun x M1 => rr σ M1 fun xs M2 => PL (x :: xs) M2) : rCons ra rr σ M PL := h
theorem nil_i (h : PL [] M) : rNil σ M PL := h
theorem call_i {pf : PF} {rs : RF} (h : rs σ M fun xs M1 => pf xs M1 P) : rCall pf rs σ M P := h
theorem tup_i {rs : RF} (h : rs σ M fun xs M1 => xs.length ≤ sizeLine ∧ ifS (fzL M1 xs) fun q => P (.d (.tuple q.1)) q.2) : rTup rs σ M P := h
theorem app_i {g : GL} {rs : RF} (h : rs σ M fun xs M1 => g xs M1 P) : rApp g rs σ M P := h
theorem apd_i {ro re : RE} (h : ro σ M fun o M1 => isLst M1 o ∧ re σ M1 fun y M2 => gApd o y M2 P) : rApd ro re σ M P := h
theorem drop_i {r : RE} {P : Out → Sto → Prop} (h : r σ M fun _ M1 => P (.nx σ) M1) : rDrop r σ M P := h
theorem var_i {i : Nat} {x : Xv} (e : slot σ i = some x) (h : P x M) : rVar i σ M P := Ev.var e P h
theorem c_i {d : PyData} (h : P (.d d) M) : rC d σ M P := h
theorem asg_i {r : RE} {g : RG} {P : Out → Sto → Prop} (h : r σ M fun x M1 => g x σ M1 fun σ1 M2 => P (.nx σ1) M2) : rAsg r g σ M P := h
theorem lstD_i (ds : List PyData) {M : Sto} {PQ : List PyData × Sto → Prop} (h : PQ (ds, M)) (hl : ds.length ≤ 100) : ((dX ds).length ≤ sizeLine ∧ ifS (fzL M (dX ds)) PQ) := by
  refine ⟨by rw [List.length_map, sizeLine_eq]; omega, ?_⟩
  rw [fzL_dX]
  exact h
variable {cs : List Int} {i : Int} {Q R : Sto}
theorem take_d {most : Int} (s0 : slot σ 0 = some (.c 1)) (ok : StOk cs i) (m0 : 0 < most) (m1 : most < 1000000) (h : ∀ v cs' i', StOk cs' i' → 0 ≤ v → v < most → P (.d (.int v)) (dM cs' i' Q R)) : rCall (pfPre 2 pf_tk) (rCons (rVar 0) (rCons (rC (.int most)) rNil)) σ (dM cs i Q R) P :=
  call_i (cons_i (var_i s0 (cons_i (c_i (nil_i (u_tkD ok m0 m1 h))))))
theorem take_v {most : Int} {j : Nat} (s0 : slot σ 0 = some (.c 1)) (sj : slot σ j = some (.d (.int most))) (ok : StOk cs i) (m0 : 0 < most) (m1 : most < 1000000) (h : ∀ v cs' i', StOk cs' i' → 0 ≤ v → v < most → P (.d (.int v)) (dM cs' i' Q R)) : rCall (pfPre 2 pf_tk) (rCons (rVar 0) (rCons (rVar j) rNil)) σ (dM cs i Q R) P :=
  call_i (cons_i (var_i s0 (cons_i (var_i sj (nil_i (u_tkD ok m0 m1 h))))))
def giverR : RE := rBin gIx (rD (rLst (rCons (rBin gIx (rVar 6) (rC (.int 3))) (rCons (rBin gIx (rVar 2) (rCall (pfPre 2 pf_tk) (rCons (rVar 0) (rCons (rC (.int 6)) (rNil))))) (rNil))))) (rCall (pfPre 2 pf_tk) (rCons (rVar 0) (rCons (rC (.int 2)) (rNil))))
def sizeR : RE := rBin gIx (rD (rLst (rCons (rBin gAdd (rC (.int 1)) (rCall (pfPre 2 pf_tk) (rCons (rVar 0) (rCons (rC (.int 1000)) (rNil))))) (rCons (rC (.int 500)) (rCons (rBin gAdd (rC (.int 1)) (rCall (pfPre 2 pf_tk) (rCons (rVar 0) (rCons (rC (.int 300)) (rNil))))) (rNil)))))) (rCall (pfPre 2 pf_tk) (rCons (rVar 0) (rCons (rC (.int 3)) (rNil))))
def amountR : RE := rBin gIx (rD (rLst (rCons (rBin gAdd (rC (.int 1)) (rCall (pfPre 2 pf_tk) (rCons (rVar 0) (rCons (rC (.int 1000)) (rNil))))) (rCons (rVar 10) (rCons (rBin gAdd (rC (.int 1)) (rCall (pfPre 2 pf_tk) (rCons (rVar 0) (rCons (rVar 10) (rNil))))) (rNil)))))) (rCall (pfPre 2 pf_tk) (rCons (rVar 0) (rCons (rC (.int 3)) (rNil))))
theorem giver_spec {ap : App} (s0 : slot σ 0 = some (.c 1)) (s2 : slot σ 2 = some (.d ppD)) (s6 : slot σ 6 = some (.d (appD ap))) (ok : StOk cs i) (ow : nmOk ap.own) (h : ∀ gv cs' i', nmOk gv → StOk cs' i' → P (.d (.str gv)) (dM cs' i' Q R)) : giverR σ (dM cs i Q R) P := by
  unfold giverR
  refine bin_i (lst_i (cons_i (bin_i (var_i s6 (c_i ?_)))))
  rw [gIx_a3]
  refine cons_i (bin_i (var_i s2 (take_d s0 ok (by decide) (by decide) fun v1 cs i ok x0 x1 => ?_)))
  obtain ⟨p1, hp1, ep1⟩ := pp_at x0 x1
  rw [ep1]
  refine nil_i (lstD_i [.str ap.own, .str p1] ?_ (by simp))
  refine take_d s0 ok (by decide) (by decide) fun v2 cs i ok y0 y1 => ?_
  obtain ⟨gv, hgv, egv⟩ := at2s (a := ap.own) (b := p1) y0 y1
  rw [gIx_lst]
  show ifS (atI [Xv.d (.str ap.own), .d (.str p1)] v2) _
  rw [egv]
  refine h gv cs i ?_ ok
  rcases hgv with z | z
  · rw [z]; exact ow
  · rw [z]; exact hp1
theorem size_spec (s0 : slot σ 0 = some (.c 1)) (ok : StOk cs i) (h : ∀ sz cs' i', (1 ≤ sz ∧ sz ≤ 1000) → StOk cs' i' → P (.d (.int sz)) (dM cs' i' Q R)) : sizeR σ (dM cs i Q R) P := by
  unfold sizeR
  refine bin_i (lst_i (cons_i (bin_i (c_i (take_d s0 ok (by decide) (by decide) fun w1 cs i ok a0 a1 => ?_)))))
  rw [gAdd_ii]
  refine cons_i (c_i (cons_i (bin_i (c_i (take_d s0 ok (by decide) (by decide) fun w2 cs i ok b0 b1 => ?_)))))
  rw [gAdd_ii]
  refine nil_i (lstD_i [.int (1 + w1), .int 500, .int (1 + w2)] ?_ (by simp))
  refine take_d s0 ok (by decide) (by decide) fun v2 cs i ok y0 y1 => ?_
  obtain ⟨sz, hsz, esz⟩ := at3i (a := 1 + w1) (b := 500) (c := 1 + w2) y0 y1
  rw [gIx_lst]
  show ifS (atI [Xv.d (.int (1 + w1)), .d (.int 500), .d (.int (1 + w2))] v2) _
  rw [esz]
  exact h sz cs i (by omega) ok
theorem amount_spec {z : Int} (s0 : slot σ 0 = some (.c 1)) (s10 : slot σ 10 = some (.d (.int z))) (z1 : 1 ≤ z ∧ z ≤ 1000) (ok : StOk cs i) (h : ∀ sz cs' i', (1 ≤ sz ∧ sz ≤ 1000) → StOk cs' i' → P (.d (.int sz)) (dM cs' i' Q R)) : amountR σ (dM cs i Q R) P := by
  unfold amountR
  refine bin_i (lst_i (cons_i (bin_i (c_i (take_d s0 ok (by decide) (by decide) fun w1 cs i ok a0 a1 => ?_)))))
  rw [gAdd_ii]
  refine cons_i (var_i s10 (cons_i (bin_i (c_i (take_v s0 s10 ok (by omega) (by omega) fun w2 cs i ok b0 b1 => ?_)))))
  rw [gAdd_ii]
  refine nil_i (lstD_i [.int (1 + w1), .int z, .int (1 + w2)] ?_ (by simp))
  refine take_d s0 ok (by decide) (by decide) fun v2 cs i ok y0 y1 => ?_
  obtain ⟨sz, hsz, esz⟩ := at3i (a := 1 + w1) (b := z) (c := 1 + w2) y0 y1
  rw [gIx_lst]
  show ifS (atI [Xv.d (.int (1 + w1)), .d (.int z), .d (.int (1 + w2))] v2) _
  rw [esz]
  exact h sz cs i (by omega) ok
end
/-- one turn of the inner loop -/
def dealR : RS := rSeq (rAsg giverR (rgName 8)) (rSeq (rAsg (rBin gIx (rVar 2) (rCall (pfPre 2 pf_tk) (rCons (rVar 0) (rCons (rC (.int 6)) (rNil))))) (rgName 9)) (rIfS (rAnd (rTb (rBin gNe (rVar 8) (rVar 9))) (rTb (rBin gLt (rApp gLen (rCons (rVar 4) (rNil))) (rC (.int 16))))) (rSeq (rAsg sizeR (rgName 10)) (rDrop (rApd (rVar 4) (rTup (rCons (rBin gIx (rVar 6) (rC (.int 0))) (rCons (rVar 8) (rCons (rVar 9) (rCons (rVar 10) (rCons (rApp gLen (rCons (rVar 4) (rNil))) (rCons (rBin gAdd (rBin gIx (rVar 6) (rC (.int 2))) (rCall (pfPre 2 pf_tk) (rCons (rVar 0) (rCons (rC (.int 40)) (rNil))))) (rNil))))))))))) (rNx)))
theorem deal_spec {cs : List Int} {i : Int} {Q : Sto} {T : List Tr} {ap : App} {o3 o5 o7 o8 o9 o10 o11 o12 o13 o14 o15 : Option Xv} {PP : Out → Sto → Prop} (ok : StOk cs i) (ow : nmOk ap.own) (an : nmOk ap.nm) (fi : 0 ≤ ap.filed ∧ ap.filed < 200) (tl : T.length ≤ 16) (tb : ∀ t ∈ T, TrB t)
    (h : ∀ (T' : List Tr) (cs' : List Int) (i' : Int) (o8 o9 o10 : Option Xv), T'.length ≤ 16 → (∀ t ∈ T', TrB t) → StOk cs' i' → PP (.nx [some (.c 1), some (.c 6), some (.d ppD), o3, some (.c (Q.length + 2)), o5, some (.d (appD ap)), o7, o8, o9, o10, o11, o12, o13, o14, o15]) (dM cs' i' Q [.lst (dX (T'.map trD)), .lst []])) :
    dealR [some (.c 1), some (.c 6), some (.d ppD), o3, some (.c (Q.length + 2)), o5, some (.d (appD ap)), o7, o8, o9, o10, o11, o12, o13, o14, o15] (dM cs i Q [.lst (dX (T.map trD)), .lst []]) PP := by
  have s6 : (6 : Nat) ≤ sizeLine := by decide
  have h4 : ∀ (cs : List Int) (i : Int), (dM cs i Q [.lst (dX (T.map trD)), .lst []])[Q.length + 2]? = some (.lst (dX (T.map trD))) := fun cs i => getD_ 0
  have ln4 : ∀ (cs : List Int) (i : Int) (P : Xv → Sto → Prop), gLen [.c (Q.length + 2)] (dM cs i Q [.lst (dX (T.map trD)), .lst []]) P = P (.d (.int T.length)) (dM cs i Q [.lst (dX (T.map trD)), .lst []]) := fun cs i P => by
    unfold gLen
    simp only [hd_at (h4 cs i), List.length_map]
  unfold dealR
  refine seq_step (asg_i (giver_spec rfl rfl rfl ok ow fun gv cs i gn ok => ?_))
  refine seq_step (asg_i (bin_i (var_i rfl (take_d rfl ok (by decide) (by decide) fun v3 cs i ok x0 x1 => ?_))))
  obtain ⟨tk, htk, etk⟩ := pp_at x0 x1
  rw [etk]
  obtain ⟨AA, hAA⟩ : ∃ AA, (rSeq (rAsg sizeR (rgName 10)) (rDrop (rApd (rVar 4) (rTup (rCons (rBin gIx (rVar 6) (rC (.int 0))) (rCons (rVar 8) (rCons (rVar 9) (rCons (rVar 10) (rCons (rApp gLen (rCons (rVar 4) (rNil))) (rCons (rBin gAdd (rBin gIx (rVar 6) (rC (.int 2))) (rCall (pfPre 2 pf_tk) (rCons (rVar 0) (rCons (rC (.int 40)) (rNil))))) (rNil))))))))))) = AA := ⟨_, rfl⟩
  rw [hAA]
  simp only [rgName, set_z, set_s]
  simp only [startX, rAsg, rgName, rVar, rC, rBin, rD, rCl, rFz, rTb, rTr, rIf, rIfS, rRet, rRetN, rNx, rCons, rNil, rTup, rTupC, rLst, rApp, rAppF, rCall, rPar, rNeg, rNot, rAnd, rOr, rChain, rLc, riSeq, rYes, rDrop, rFor, rApd, rExt, rgTup, rgCons, rgNil, rgSub, rIsiX, riRng1, riRng2, slot_z, slot_s, set_z, set_s, at0, at1, at2, at3, at4, at5, at6, dX_c, dX_n, gIx_tup, gIx_lst, gEq_ii, gEq_ss, gNe_ii, gNe_ss, gAdd_ii, gSub_ii, gLt_ii, gLe_ii, gGt_ii, gGe_ii, gIsN_d, gLen_l, gMax_ii, gMin_ii, gInt_b, gInt_i, gAbs_i, gApd_last, isLst_last, boX_b, tru_l, fzL_dX, fzL_n, fzL_cd, Option.map_some, fz_d, pk_d, ifS_some, hd_int, hd_str, hd_bool, hd_none, hd_list, hd_tuple, wipeX, List.map_cons, List.map_nil, List.length_cons, List.length_nil, List.replicate_succ, List.replicate_zero, List.cons_append, List.nil_append, List.append_nil, decide_eq_true_eq, if_true, if_false, Nat.reduceAdd, Nat.reduceSub, Nat.reduceLeDiff, Nat.zero_add, Nat.sub_zero, ln4]
  by_cases q1 : gv = tk
  case pos =>
    rw [decide_eq_true q1]
    simp only [Bool.not_true, Bool.false_eq_true, if_false]
    exact h T cs i _ _ _ tl tb ok
  rw [decide_eq_false q1]
  simp only [Bool.not_false, if_true]
  by_cases q2 : (T.length : Int) < 16
  case neg =>
    rw [if_neg q2]
    exact h T cs i _ _ _ tl tb ok
  rw [if_pos q2, ← hAA]
  refine seq_step (asg_i (size_spec rfl ok fun sz cs i hsz ok => ?_))
  simp only [rgName, set_z, set_s]
  refine drop_i (apd_i (var_i rfl ⟨by rw [isLst_at (h4 _ _)]; trivial, tup_i (cons_i (bin_i (var_i rfl (c_i ?_))))⟩))
  rw [gIx_a0]
  refine cons_i (var_i rfl (cons_i (var_i rfl (cons_i (var_i rfl (cons_i (app_i (cons_i (var_i rfl (nil_i ?_))))))))))
  rw [ln4]
  refine cons_i (bin_i (bin_i (var_i rfl (c_i ?_))))
  rw [gIx_a2]
  refine take_d rfl ok (by decide) (by decide) fun w cs i ok w0 w1 => ?_
  rw [gAdd_ii]
  refine nil_i (lstD_i [.str ap.nm, .str gv, .str tk, .int sz, .int (T.length : Int), .int (ap.filed + w)] ?_ (by simp))
  refine gApd_at (h4 cs i) ⟨by rw [List.length_map, List.length_map, sizeLine_eq]; omega, ?_⟩
  rw [show (dM cs i Q [.lst (dX (T.map trD)), .lst []]).set (Q.length + 2) (.lst (dX (T.map trD) ++ [.d (.tuple [.str ap.nm, .str gv, .str tk, .int sz, .int (T.length : Int), .int (ap.filed + w)])])) = dM cs i Q [.lst (dX (T.map trD) ++ [.d (.tuple [.str ap.nm, .str gv, .str tk, .int sz, .int (T.length : Int), .int (ap.filed + w)])]), .lst []] from setD_ 0 _]
  have := h (T ++ [⟨ap.nm, gv, tk, sz, (T.length : Int), ap.filed + w⟩]) cs i (some (.d (.str gv))) (some (.d (.str tk))) (some (.d (.int sz))) (by rw [List.length_append, List.length_singleton]; omega) (fun t ht => by
    rcases List.mem_append.mp ht with z | z
    · exact tb t z
    · rw [List.mem_singleton.mp z]
      exact ⟨an, gn, htk, hsz, ⟨by show (0 : Int) ≤ (T.length : Int); omega, by show (T.length : Int) ≤ 16; omega⟩, ⟨by show 0 ≤ ap.filed + w; omega, by show ap.filed + w ≤ 1000; omega⟩⟩) ok
  rw [show dX ((T ++ [(⟨ap.nm, gv, tk, sz, (T.length : Int), ap.filed + w⟩ : Tr)]).map trD) = dX (T.map trD) ++ [.d (.tuple [.str ap.nm, .str gv, .str tk, .int sz, .int (T.length : Int), .int (ap.filed + w)])] by simp [dX, trD]] at this
  exact this
end K31

set_option Elab.async false
set_option linter.all false
set_option maxRecDepth 100000
set_option maxHeartbeats 8000000
namespace K31
open PySem PySem.Spec PyProof.Rows L2 G
variable {P : Program} {w : World} {K : PySem.W.Frag} {mg : Str → Option Value} {base : Heap} {k : Nat}
/-! ### the transfers in order, what is written in -/
structure R0 where
  d : Int
  k : Int
  app : Str
  giver : Str
  n : Int
  size : Int
def r0D (r : R0) : PyData := .tuple [.int r.d, .int r.k, .tuple [.str r.app, .str r.giver, .int r.n, .int r.size]]
def regOf (r : R0) : Rg := ⟨r.app, r.giver, r.n, r.size, r.d⟩
def pairD (t : Tr) : PyData := .tuple [.tuple [.int t.told, .str t.giver, .int t.n], trD t]
theorem srt_pair {ts : List Tr} (h : ts.length ≤ 1000) : Srt (ts.map pairD) := by
  refine ⟨fun x hx y hy => ?_, .inl fun x hx => ?_, fun x hx => ?_, by rw [List.length_map, sizeLine_eq]; omega⟩
  · obtain ⟨_, _, rfl⟩ := List.mem_map.mp hx
    obtain ⟨_, _, rfl⟩ := List.mem_map.mp hy
    simp [pairD, trD, PySem.W.alike, PySem.W.alikeAll]
  · obtain ⟨_, _, rfl⟩ := List.mem_map.mp hx
    exact ⟨_, _, rfl⟩
  · obtain ⟨_, _, rfl⟩ := List.mem_map.mp hx
    simp [pairD, trD, PyData.depth, PyData.depthAll]
theorem srt_r0 {ts : List R0} (h : ts.length ≤ 1000) : Srt (ts.map r0D) := by
  refine ⟨fun x hx y hy => ?_, .inl fun x hx => ?_, fun x hx => ?_, by rw [List.length_map, sizeLine_eq]; omega⟩
  · obtain ⟨_, _, rfl⟩ := List.mem_map.mp hx
    obtain ⟨_, _, rfl⟩ := List.mem_map.mp hy
    simp [r0D, PySem.W.alike, PySem.W.alikeAll]
  · obtain ⟨_, _, rfl⟩ := List.mem_map.mp hx
    exact ⟨_, _, rfl⟩
  · obtain ⟨_, _, rfl⟩ := List.mem_map.mp hx
    simp [r0D, PyData.depth, PyData.depthAll]
theorem gIx_tr5 (t : Tr) (M : Sto) (P : Xv → Sto → Prop) : gIx (.d (trD t)) (.d (.int 5)) M P = P (.d (.int t.told)) M := by simp only [trD, gIx_tup, dX_c, at5, ifS_some]
theorem gIx_tr1 (t : Tr) (M : Sto) (P : Xv → Sto → Prop) : gIx (.d (trD t)) (.d (.int 1)) M P = P (.d (.str t.giver)) M := by simp only [trD, gIx_tup, dX_c, at1, ifS_some]
theorem gIx_tr4 (t : Tr) (M : Sto) (P : Xv → Sto → Prop) : gIx (.d (trD t)) (.d (.int 4)) M P = P (.d (.int t.n)) M := by simp only [trD, gIx_tup, dX_c, at4, ifS_some]
theorem hd_pair (t : Tr) (M : Sto) : hd M (.d (pairD t)) = .tup [.d (.tuple [.int t.told, .str t.giver, .int t.n]), .d (trD t)] := rfl
theorem hd_r0 (r : R0) (M : Sto) : hd M (.d (r0D r)) = .tup [.d (.int r.d), .d (.int r.k), .d (.tuple [.str r.app, .str r.giver, .int r.n, .int r.size])] := rfl
theorem gIx_cl {M : Sto} {j : Nat} {xs : List Xv} {v : Int} {z : Xv} {P : Xv → Sto → Prop} (e : M[j]? = some (.lst xs)) (ea : atI xs v = some z) (h : P z M) : gIx (.c j) (.d (.int v)) M P := by
  unfold gIx
  rw [hd_at e]
  show ifS (atI xs v) _
  rw [ea]
  exact h
theorem gLen_cl {M : Sto} {j : Nat} {xs : List Xv} {P : Xv → Sto → Prop} (e : M[j]? = some (.lst xs)) (h : P (.d (.int xs.length)) M) : gLen [.c j] M P := by
  unfold gLen
  simp only [hd_at e]
  exact h
def transR : RS := rAsg (rCl (rLc (riSeq (rD (rAppF gSort (rCons (rD (rLc (riSeq (rVar 4)) (rgName 6) (rYes) (rTup (rCons (rTup (rCons (rBin gIx (rVar 6) (rC (.int 5))) (rCons (rBin gIx (rVar 6) (rC (.int 1))) (rCons (rBin gIx (rVar 6) (rC (.int 4))) (rNil))))) (rCons (rVar 6) (rNil)))) [6])) (rNil))))) (rgTup 2 (rgCons (rgName 11) (rgCons (rgName 6) (rgNil)))) (rYes) (rVar 6) [11, 6])) (rgName 4)
theorem trans_spec {cs : List Int} {i : Int} {Q : Sto} {T : List Tr} {x0 x1 x2 x3 x5 o6 o7 o8 o9 o10 o11 o12 o13 o14 o15 : Option Xv} {PP : Out → Sto → Prop} (tl : T.length ≤ 16)
    (h : PP (.nx [x0, x1, x2, x3, some (.c (Q.length + 2 + 2)), x5, o6, o7, o8, o9, o10, o11, o12, o13, o14, o15]) (dM cs i Q [.lst (dX (T.map trD)), .lst [], .lst (dX ((sortE pairD T).map trD))])) :
    transR [x0, x1, x2, x3, some (.c (Q.length + 2)), x5, o6, o7, o8, o9, o10, o11, o12, o13, o14, o15] (dM cs i Q [.lst (dX (T.map trD)), .lst []]) PP := by
  have s2 : (2 : Nat) ≤ sizeLine := by decide
  have s3 : (3 : Nat) ≤ sizeLine := by decide
  have h4 : (dM cs i Q [.lst (dX (T.map trD)), .lst []])[Q.length + 2]? = some (.lst (dX (T.map trD))) := getD_ 0
  unfold transR
  simp only [startX, rAsg, rgName, rVar, rC, rBin, rD, rCl, rFz, rTb, rTr, rIf, rIfS, rRet, rRetN, rNx, rCons, rNil, rTup, rTupC, rLst, rApp, rAppF, rCall, rPar, rNeg, rNot, rAnd, rOr, rChain, rLc, riSeq, rYes, rDrop, rFor, rApd, rExt, rgTup, rgCons, rgNil, rgSub, rIsiX, riRng1, riRng2, slot_z, slot_s, set_z, set_s, at0, at1, at2, at3, at4, at5, at6, dX_c, dX_n, gIx_tup, gIx_lst, gEq_ii, gEq_ss, gNe_ii, gNe_ss, gAdd_ii, gSub_ii, gLt_ii, gLe_ii, gGt_ii, gGe_ii, gIsN_d, gLen_l, gMax_ii, gMin_ii, gInt_b, gInt_i, gAbs_i, gApd_last, isLst_last, boX_b, tru_l, fzL_dX, fzL_n, fzL_cd, Option.map_some, fz_d, pk_d, ifS_some, hd_int, hd_str, hd_bool, hd_none, hd_list, hd_tuple, wipeX, List.map_cons, List.map_nil, List.length_cons, List.length_nil, List.replicate_succ, List.replicate_zero, List.cons_append, List.nil_append, List.append_nil, decide_eq_true_eq, if_true, if_false, Nat.reduceAdd, Nat.reduceSub, Nat.reduceLeDiff, Nat.zero_add, Nat.sub_zero, hd_at h4]
  refine lcW_map trD (fun _ => true) pairD (by rfl) T [] (small (by simp only [List.length_nil]; omega)) (fun t ht Kt Kf h1 h2 => ?_) ?_
  · simp only [startX, rAsg, rgName, rVar, rC, rBin, rD, rCl, rFz, rTb, rTr, rIf, rIfS, rRet, rRetN, rNx, rCons, rNil, rTup, rTupC, rLst, rApp, rAppF, rCall, rPar, rNeg, rNot, rAnd, rOr, rChain, rLc, riSeq, rYes, rDrop, rFor, rApd, rExt, rgTup, rgCons, rgNil, rgSub, rIsiX, riRng1, riRng2, slot_z, slot_s, set_z, set_s, at0, at1, at2, at3, at4, at5, at6, dX_c, dX_n, gIx_tup, gIx_lst, gEq_ii, gEq_ss, gNe_ii, gNe_ss, gAdd_ii, gSub_ii, gLt_ii, gLe_ii, gGt_ii, gGe_ii, gIsN_d, gLen_l, gMax_ii, gMin_ii, gInt_b, gInt_i, gAbs_i, gApd_last, isLst_last, boX_b, tru_l, fzL_dX, fzL_n, fzL_cd, Option.map_some, fz_d, pk_d, ifS_some, hd_int, hd_str, hd_bool, hd_none, hd_list, hd_tuple, wipeX, List.map_cons, List.map_nil, List.length_cons, List.length_nil, List.replicate_succ, List.replicate_zero, List.cons_append, List.nil_append, List.append_nil, decide_eq_true_eq, if_true, if_false, Nat.reduceAdd, Nat.reduceSub, Nat.reduceLeDiff, Nat.zero_add, Nat.sub_zero, gIx_tr5, gIx_tr1, gIx_tr4]
    exact ⟨s3, s2, h1 rfl⟩
  rw [filt]
  simp only [startX, rAsg, rgName, rVar, rC, rBin, rD, rCl, rFz, rTb, rTr, rIf, rIfS, rRet, rRetN, rNx, rCons, rNil, rTup, rTupC, rLst, rApp, rAppF, rCall, rPar, rNeg, rNot, rAnd, rOr, rChain, rLc, riSeq, rYes, rDrop, rFor, rApd, rExt, rgTup, rgCons, rgNil, rgSub, rIsiX, riRng1, riRng2, slot_z, slot_s, set_z, set_s, at0, at1, at2, at3, at4, at5, at6, dX_c, dX_n, gIx_tup, gIx_lst, gEq_ii, gEq_ss, gNe_ii, gNe_ss, gAdd_ii, gSub_ii, gLt_ii, gLe_ii, gGt_ii, gGe_ii, gIsN_d, gLen_l, gMax_ii, gMin_ii, gInt_b, gInt_i, gAbs_i, gApd_last, isLst_last, boX_b, tru_l, fzL_dX, fzL_n, fzL_cd, Option.map_some, fz_d, pk_d, ifS_some, hd_int, hd_str, hd_bool, hd_none, hd_list, hd_tuple, wipeX, List.map_cons, List.map_nil, List.length_cons, List.length_nil, List.replicate_succ, List.replicate_zero, List.cons_append, List.nil_append, List.append_nil, decide_eq_true_eq, if_true, if_false, Nat.reduceAdd, Nat.reduceSub, Nat.reduceLeDiff, Nat.zero_add, Nat.sub_zero]
  refine gSort_d (srt_pair (by omega)) ?_
  rw [sortD_enc]
  simp only [startX, rAsg, rgName, rVar, rC, rBin, rD, rCl, rFz, rTb, rTr, rIf, rIfS, rRet, rRetN, rNx, rCons, rNil, rTup, rTupC, rLst, rApp, rAppF, rCall, rPar, rNeg, rNot, rAnd, rOr, rChain, rLc, riSeq, rYes, rDrop, rFor, rApd, rExt, rgTup, rgCons, rgNil, rgSub, rIsiX, riRng1, riRng2, slot_z, slot_s, set_z, set_s, at0, at1, at2, at3, at4, at5, at6, dX_c, dX_n, gIx_tup, gIx_lst, gEq_ii, gEq_ss, gNe_ii, gNe_ss, gAdd_ii, gSub_ii, gLt_ii, gLe_ii, gGt_ii, gGe_ii, gIsN_d, gLen_l, gMax_ii, gMin_ii, gInt_b, gInt_i, gAbs_i, gApd_last, isLst_last, boX_b, tru_l, fzL_dX, fzL_n, fzL_cd, Option.map_some, fz_d, pk_d, ifS_some, hd_int, hd_str, hd_bool, hd_none, hd_list, hd_tuple, wipeX, List.map_cons, List.map_nil, List.length_cons, List.length_nil, List.replicate_succ, List.replicate_zero, List.cons_append, List.nil_append, List.append_nil, decide_eq_true_eq, if_true, if_false, Nat.reduceAdd, Nat.reduceSub, Nat.reduceLeDiff, Nat.zero_add, Nat.sub_zero]
  have perm : (sortE pairD T).Perm T := List.mergeSort_perm _ _
  refine lcW_map pairD (fun _ => true) trD (by trivial) _ [] (small (by rw [perm.length_eq]; simp only [List.length_nil]; omega)) (fun t ht Kt Kf h1 h2 => ?_) ?_
  · simp only [rgTup, hd_pair, List.length_cons, List.length_nil, rgCons, rgNil, rgName, set_z, set_s]
    refine ⟨trivial, ?_⟩
    simp only [startX, rAsg, rgName, rVar, rC, rBin, rD, rCl, rFz, rTb, rTr, rIf, rIfS, rRet, rRetN, rNx, rCons, rNil, rTup, rTupC, rLst, rApp, rAppF, rCall, rPar, rNeg, rNot, rAnd, rOr, rChain, rLc, riSeq, rYes, rDrop, rFor, rApd, rExt, rgTup, rgCons, rgNil, rgSub, rIsiX, riRng1, riRng2, slot_z, slot_s, set_z, set_s, at0, at1, at2, at3, at4, at5, at6, dX_c, dX_n, gIx_tup, gIx_lst, gEq_ii, gEq_ss, gNe_ii, gNe_ss, gAdd_ii, gSub_ii, gLt_ii, gLe_ii, gGt_ii, gGe_ii, gIsN_d, gLen_l, gMax_ii, gMin_ii, gInt_b, gInt_i, gAbs_i, gApd_last, isLst_last, boX_b, tru_l, fzL_dX, fzL_n, fzL_cd, Option.map_some, fz_d, pk_d, ifS_some, hd_int, hd_str, hd_bool, hd_none, hd_list, hd_tuple, wipeX, List.map_cons, List.map_nil, List.length_cons, List.length_nil, List.replicate_succ, List.replicate_zero, List.cons_append, List.nil_append, List.append_nil, decide_eq_true_eq, if_true, if_false, Nat.reduceAdd, Nat.reduceSub, Nat.reduceLeDiff, Nat.zero_add, Nat.sub_zero]
    exact h1 rfl
  rw [filt]
  simp only [startX, rAsg, rgName, rVar, rC, rBin, rD, rCl, rFz, rTb, rTr, rIf, rIfS, rRet, rRetN, rNx, rCons, rNil, rTup, rTupC, rLst, rApp, rAppF, rCall, rPar, rNeg, rNot, rAnd, rOr, rChain, rLc, riSeq, rYes, rDrop, rFor, rApd, rExt, rgTup, rgCons, rgNil, rgSub, rIsiX, riRng1, riRng2, slot_z, slot_s, set_z, set_s, at0, at1, at2, at3, at4, at5, at6, dX_c, dX_n, gIx_tup, gIx_lst, gEq_ii, gEq_ss, gNe_ii, gNe_ss, gAdd_ii, gSub_ii, gLt_ii, gLe_ii, gGt_ii, gGe_ii, gIsN_d, gLen_l, gMax_ii, gMin_ii, gInt_b, gInt_i, gAbs_i, gApd_last, isLst_last, boX_b, tru_l, fzL_dX, fzL_n, fzL_cd, Option.map_some, fz_d, pk_d, ifS_some, hd_int, hd_str, hd_bool, hd_none, hd_list, hd_tuple, wipeX, List.map_cons, List.map_nil, List.length_cons, List.length_nil, List.replicate_succ, List.replicate_zero, List.cons_append, List.nil_append, List.append_nil, decide_eq_true_eq, if_true, if_false, Nat.reduceAdd, Nat.reduceSub, Nat.reduceLeDiff, Nat.zero_add, Nat.sub_zero]
  rw [lenD2, appD_]
  exact h
/-- one turn of what is written in -/
def regR : RS := rSeq (rAsg (rBin gIx (rVar 4) (rCall (pfPre 2 pf_tk) (rCons (rVar 0) (rCons (rApp gLen (rCons (rVar 4) (rNil))) (rNil))))) (rgTup 6 (rgCons (rgName 12) (rgCons (rgName 8) (rgCons (rgName 9) (rgCons (rgName 10) (rgCons (rgName 13) (rgCons (rgName 14) (rgNil))))))))) (rSeq (rAsg amountR (rgName 15)) (rDrop (rApd (rVar 5) (rTup (rCons (rBin gAdd (rBin gAdd (rVar 14) (rC (.int 1))) (rCall (pfPre 2 pf_tk) (rCons (rVar 0) (rCons (rC (.int 40)) (rNil))))) (rCons (rApp gLen (rCons (rVar 5) (rNil))) (rCons (rTup (rCons (rVar 12) (rCons (rVar 8) (rCons (rVar 13) (rCons (rVar 15) (rNil)))))) (rNil))))))))
theorem reg_spec {cs : List Int} {i : Int} {Q : Sto} {o0 : Ob} {T : List Tr} {Rs : List R0} {x1 x2 x3 o6 o7 o8 o9 o10 o11 o12 o13 o14 o15 : Option Xv} {PP : Out → Sto → Prop} (ok : StOk cs i) (tl : T.length ≤ 16) (t0 : 0 < T.length) (tb : ∀ t ∈ T, TrB t) (rl : Rs.length < 100)
    (h : ∀ (r : R0) (cs' : List Int) (i' : Int) (o8 o9 o10 o12 o13 o14 o15 : Option Xv), RgB (regOf r) → (∃ t ∈ T, t.app = r.app ∧ t.giver = r.giver ∧ t.n = r.n ∧ t.told ≤ r.d) → StOk cs' i' →
      PP (.nx [some (.c 1), x1, x2, x3, some (.c (Q.length + 2 + 2)), some (.c (Q.length + 2 + 1)), o6, o7, o8, o9, o10, o11, o12, o13, o14, o15]) (dM cs' i' Q [o0, .lst (dX ((Rs ++ [r]).map r0D)), .lst (dX (T.map trD))])) :
    regR [some (.c 1), x1, x2, x3, some (.c (Q.length + 2 + 2)), some (.c (Q.length + 2 + 1)), o6, o7, o8, o9, o10, o11, o12, o13, o14, o15] (dM cs i Q [o0, .lst (dX (Rs.map r0D)), .lst (dX (T.map trD))]) PP := by
  have g2 : ∀ (cs : List Int) (i : Int), (dM cs i Q [o0, .lst (dX (Rs.map r0D)), .lst (dX (T.map trD))])[Q.length + 2 + 2]? = some (.lst (dX (T.map trD))) := fun cs i => getD_ 2
  have g1 : ∀ (cs : List Int) (i : Int), (dM cs i Q [o0, .lst (dX (Rs.map r0D)), .lst (dX (T.map trD))])[Q.length + 2 + 1]? = some (.lst (dX (Rs.map r0D))) := fun cs i => getD_ 1
  have lt : (dX (T.map trD)).length = T.length := by rw [List.length_map, List.length_map]
  have lr : (dX (Rs.map r0D)).length = Rs.length := by rw [List.length_map, List.length_map]
  unfold regR
  refine seq_step (asg_i (bin_i (var_i rfl (call_i (cons_i (var_i rfl (cons_i (app_i (cons_i (var_i rfl (nil_i (gLen_cl (g2 cs i) (nil_i ?_))))))))))))) 
  rw [lt]
  refine u_tkD ok (by omega) (by omega) fun v cs i ok v0 v1 => ?_
  obtain ⟨t, ht, et⟩ := at_in (xs := T) trD v0 v1
  refine gIx_cl (g2 cs i) et ?_
  have b := tb t ht
  have bs := b.s
  have bd := b.d
  simp only [rgTup, hd_t, List.length_cons, List.length_nil, rgCons, rgNil, rgName, set_z, set_s]
  refine ⟨trivial, ?_⟩
  refine seq_step (asg_i (amount_spec rfl rfl bs ok fun am cs i ham ok => ?_))
  simp only [rgName, set_z, set_s]
  refine drop_i (apd_i (var_i rfl ⟨by rw [isLst_at (g1 _ _)]; trivial, tup_i (cons_i (bin_i (bin_i (var_i rfl (c_i ?_)))))⟩))
  rw [gAdd_ii]
  refine take_d rfl ok (by decide) (by decide) fun w cs i ok w0 w1 => ?_
  rw [gAdd_ii]
  refine cons_i (app_i (cons_i (var_i rfl (nil_i (gLen_cl (g1 cs i) ?_)))))
  rw [lr]
  refine cons_i (tup_i ?_)
  refine cons_i (var_i rfl ?_)
  refine cons_i (var_i rfl ?_)
  refine cons_i (var_i rfl ?_)
  refine cons_i (var_i rfl ?_)
  refine nil_i (lstD_i [.str t.app, .str t.giver, .int t.n, .int am] ?_ (by simp))
  refine nil_i (lstD_i [.int (t.told + 1 + w), .int (Rs.length : Int), .tuple [.str t.app, .str t.giver, .int t.n, .int am]] ?_ (by simp))
  refine gApd_at (g1 cs i) ⟨by rw [lr, sizeLine_eq]; omega, ?_⟩
  rw [show (dM cs i Q [o0, .lst (dX (Rs.map r0D)), .lst (dX (T.map trD))]).set (Q.length + 2 + 1) (.lst (dX (Rs.map r0D) ++ [.d (.tuple [.int (t.told + 1 + w), .int (Rs.length : Int), .tuple [.str t.app, .str t.giver, .int t.n, .int am]])])) = dM cs i Q [o0, .lst (dX (Rs.map r0D) ++ [.d (.tuple [.int (t.told + 1 + w), .int (Rs.length : Int), .tuple [.str t.app, .str t.giver, .int t.n, .int am]])]), .lst (dX (T.map trD))] from setD_ 1 _]
  have := h ⟨t.told + 1 + w, (Rs.length : Int), t.app, t.giver, t.n, am⟩ cs i (some (.d (.str t.giver))) (some (.d (.str t.taker))) (some (.d (.int t.size))) (some (.d (.str t.app))) (some (.d (.int t.n))) (some (.d (.int t.told))) (some (.d (.int am))) ⟨b.a, b.g, ham, b.n, ⟨by show 0 ≤ t.told + 1 + w; omega, by show t.told + 1 + w ≤ 2000; omega⟩⟩ ⟨t, ht, rfl, rfl, rfl, by show t.told ≤ t.told + 1 + w; omega⟩ ok
  rw [show dX ((Rs ++ [(⟨t.told + 1 + w, (Rs.length : Int), t.app, t.giver, t.n, am⟩ : R0)]).map r0D) = dX (Rs.map r0D) ++ [.d (.tuple [.int (t.told + 1 + w), .int (Rs.length : Int), .tuple [.str t.app, .str t.giver, .int t.n, .int am]])] by simp [dX, r0D]] at this
  exact this
end K31

set_option Elab.async false
set_option linter.all false
set_option maxRecDepth 100000
set_option maxHeartbeats 8000000
namespace K31
open PySem PySem.Spec PyProof.Rows L2 G
variable {P : Program} {w : World} {K : PySem.W.Frag} {mg : Str → Option Value} {base : Heap} {k : Nat}
/-! ### the law's deals -/
structure DealOk (T : List Tr) (R : List Rg) : Prop where
  tl : T.length ≤ 16
  rl : R.length ≤ 30
  tb : ∀ t ∈ T, TrB t
  rb : ∀ r ∈ R, RgB r
  of : ∀ r ∈ R, ∃ t ∈ T, t.app = r.app ∧ t.giver = r.giver ∧ t.n = r.n ∧ t.told ≤ r.day
def pf_deals : PF := fun xs M R' => ∃ (most : Int) (cs : List Int) (i : Int) (a b c d : Ob) (L : Sto) (ks : List (Str × Option Str)) (ls : List (Str × Int)) (apps : List App) (C : List Int) (F : List (Str × Int × Int)), xs = [.c 1, .c 6, .d ppD, .d (.int most)] ∧ M = stM cs i ++ offQ a b c d ks ls apps C F [] [] L ∧ 0 < most ∧ most ≤ 100 ∧ StOk cs i ∧ OffOk ks ls apps C F ∧
  ∀ (T : List Tr) (R : List Rg) (cs' : List Int) (i' : Int) (B : Sto), DealOk T R → StOk cs' i' → R' (.d .none) (stM cs' i' ++ offQ a b c d ks ls apps C F T R (L ++ B))
theorem ok_deals (D : DefOk K mg "_law_deals" ["state", "s", "people", "most"] (defArgs s__law_deals) (defBody s__law_deals) (defScope s__law_deals)) (Z : Fx K mg base) (C1 : Cal P w K mg base k "_law_take" ["state", "most"] (pfPre 2 pf_tk)) : Cal P w K mg base (k + 1) "_law_deals" ["state", "s", "people", "most"] pf_deals := by
  refine Cal.mk_ (k := k) D sc__law_deals (sd__law_deals Z C1) (fun xs M R ⟨_, _, _, _, _, _, _, _, _, _, _, _, _, e, _⟩ => by rw [e]; rfl) (fun xs M R' hp => ?_)
  obtain ⟨most, cs, i, a, b, c, d, L, ks, ls, apps, C, F, rfl, rfl, m0, m1, ok, off, hp⟩ := hp
  obtain ⟨lo2, hlo, aok⟩ := off.aok
  have apn : ∀ a ∈ apps, nmOk a.nm := fun a ha => by
    obtain ⟨j, j0, j1, e⟩ := aok.nm a ha
    rw [e]
    exact (nm_facts j0 (by omega)).2.2.2.2
  have s0 : (0 : Nat) ≤ sizeLine := by decide
  have s1 : (1 : Nat) ≤ sizeLine := by decide
  have s5 : (5 : Nat) ≤ sizeLine := by decide
  obtain ⟨Q, hQ⟩ : ∃ Q, offQ a b c d ks ls apps C F [] [] L = Q := ⟨_, rfl⟩
  have gA : ∀ (cs : List Int) (i : Int) (R : Sto) (P : Xv → Sto → Prop), gIx (.c 6) (.d (.str "applications")) (dM cs i Q R) P = P (.d (.list (apps.map appD))) (dM cs i Q R) := fun cs i R P => by rw [← hQ]; exact gIx_appsD
  have kA : ∀ (cs : List Int) (i : Int) (R : Sto), (dM cs i Q R)[6]? = some (.dic (stX2 ks ls apps C F [] [])) := fun cs i R => by rw [← hQ]; rfl
  rw [hQ]
  unfold b__law_deals
  obtain ⟨DR, hDR⟩ : ∃ DR, dealR = DR := ⟨_, rfl⟩
  obtain ⟨TR, hTR⟩ : ∃ TR, transR = TR := ⟨_, rfl⟩
  obtain ⟨GR, hGR⟩ : ∃ GR, regR = GR := ⟨_, rfl⟩
  have d2 := hDR
  have t2 := hTR
  have g2 := hGR
  unfold dealR giverR sizeR at d2
  unfold transR at t2
  unfold regR amountR at g2
  rw [d2, t2, g2]
  clear d2 t2 g2
  refine seq_step ?_
  simp only [startX, rAsg, rgName, rVar, rC, rBin, rD, rCl, rFz, rTb, rTr, rIf, rIfS, rRet, rRetN, rNx, rCons, rNil, rTup, rTupC, rLst, rApp, rAppF, rCall, rPar, rNeg, rNot, rAnd, rOr, rChain, rLc, riSeq, rYes, rDrop, rFor, rApd, rExt, rgTup, rgCons, rgNil, rgSub, rIsiX, riRng1, riRng2, slot_z, slot_s, set_z, set_s, at0, at1, at2, at3, at4, at5, at6, dX_c, dX_n, gIx_tup, gIx_lst, gEq_ii, gEq_ss, gNe_ii, gNe_ss, gAdd_ii, gSub_ii, gLt_ii, gLe_ii, gGt_ii, gGe_ii, gIsN_d, gLen_l, gMax_ii, gMin_ii, gInt_b, gInt_i, gAbs_i, gApd_last, isLst_last, boX_b, tru_l, fzL_dX, fzL_n, fzL_cd, Option.map_some, fz_d, pk_d, ifS_some, hd_int, hd_str, hd_bool, hd_none, hd_list, hd_tuple, wipeX, List.map_cons, List.map_nil, List.length_cons, List.length_nil, List.replicate_succ, List.replicate_zero, List.cons_append, List.nil_append, List.append_nil, decide_eq_true_eq, if_true, if_false, Nat.reduceAdd, Nat.reduceSub, Nat.reduceLeDiff, Nat.zero_add, Nat.sub_zero, N__law_deals]
  refine ⟨s0, ?_⟩
  rw [lenD, show stM cs i ++ Q ++ [.lst []] = dM cs i Q [.lst []] from rfl]
  refine seq_step ?_
  try simp only [startX, rAsg, rgName, rVar, rC, rBin, rD, rCl, rFz, rTb, rTr, rIf, rIfS, rRet, rRetN, rNx, rCons, rNil, rTup, rTupC, rLst, rApp, rAppF, rCall, rPar, rNeg, rNot, rAnd, rOr, rChain, rLc, riSeq, rYes, rDrop, rFor, rApd, rExt, rgTup, rgCons, rgNil, rgSub, rIsiX, riRng1, riRng2, slot_z, slot_s, set_z, set_s, at0, at1, at2, at3, at4, at5, at6, dX_c, dX_n, gIx_tup, gIx_lst, gEq_ii, gEq_ss, gNe_ii, gNe_ss, gAdd_ii, gSub_ii, gLt_ii, gLe_ii, gGt_ii, gGe_ii, gIsN_d, gLen_l, gMax_ii, gMin_ii, gInt_b, gInt_i, gAbs_i, gApd_last, isLst_last, boX_b, tru_l, fzL_dX, fzL_n, fzL_cd, Option.map_some, fz_d, pk_d, ifS_some, hd_int, hd_str, hd_bool, hd_none, hd_list, hd_tuple, wipeX, List.map_cons, List.map_nil, List.length_cons, List.length_nil, List.replicate_succ, List.replicate_zero, List.cons_append, List.nil_append, List.append_nil, decide_eq_true_eq, if_true, if_false, Nat.reduceAdd, Nat.reduceSub, Nat.reduceLeDiff, Nat.zero_add, Nat.sub_zero]
  refine ⟨s0, ?_⟩
  rw [lenD2, appD_]
  try simp only [startX, rAsg, rgName, rVar, rC, rBin, rD, rCl, rFz, rTb, rTr, rIf, rIfS, rRet, rRetN, rNx, rCons, rNil, rTup, rTupC, rLst, rApp, rAppF, rCall, rPar, rNeg, rNot, rAnd, rOr, rChain, rLc, riSeq, rYes, rDrop, rFor, rApd, rExt, rgTup, rgCons, rgNil, rgSub, rIsiX, riRng1, riRng2, slot_z, slot_s, set_z, set_s, at0, at1, at2, at3, at4, at5, at6, dX_c, dX_n, gIx_tup, gIx_lst, gEq_ii, gEq_ss, gNe_ii, gNe_ss, gAdd_ii, gSub_ii, gLt_ii, gLe_ii, gGt_ii, gGe_ii, gIsN_d, gLen_l, gMax_ii, gMin_ii, gInt_b, gInt_i, gAbs_i, gApd_last, isLst_last, boX_b, tru_l, fzL_dX, fzL_n, fzL_cd, Option.map_some, fz_d, pk_d, ifS_some, hd_int, hd_str, hd_bool, hd_none, hd_list, hd_tuple, wipeX, List.map_cons, List.map_nil, List.length_cons, List.length_nil, List.replicate_succ, List.replicate_zero, List.cons_append, List.nil_append, List.append_nil, decide_eq_true_eq, if_true, if_false, Nat.reduceAdd, Nat.reduceSub, Nat.reduceLeDiff, Nat.zero_add, Nat.sub_zero]
  refine seq_step ?_
  simp only [startX, rAsg, rgName, rVar, rC, rBin, rD, rCl, rFz, rTb, rTr, rIf, rIfS, rRet, rRetN, rNx, rCons, rNil, rTup, rTupC, rLst, rApp, rAppF, rCall, rPar, rNeg, rNot, rAnd, rOr, rChain, rLc, riSeq, rYes, rDrop, rFor, rApd, rExt, rgTup, rgCons, rgNil, rgSub, rIsiX, riRng1, riRng2, slot_z, slot_s, set_z, set_s, at0, at1, at2, at3, at4, at5, at6, dX_c, dX_n, gIx_tup, gIx_lst, gEq_ii, gEq_ss, gNe_ii, gNe_ss, gAdd_ii, gSub_ii, gLt_ii, gLe_ii, gGt_ii, gGe_ii, gIsN_d, gLen_l, gMax_ii, gMin_ii, gInt_b, gInt_i, gAbs_i, gApd_last, isLst_last, boX_b, tru_l, fzL_dX, fzL_n, fzL_cd, Option.map_some, fz_d, pk_d, ifS_some, hd_int, hd_str, hd_bool, hd_none, hd_list, hd_tuple, wipeX, List.map_cons, List.map_nil, List.length_cons, List.length_nil, List.replicate_succ, List.replicate_zero, List.cons_append, List.nil_append, List.append_nil, decide_eq_true_eq, if_true, if_false, Nat.reduceAdd, Nat.reduceSub, Nat.reduceLeDiff, Nat.zero_add, Nat.sub_zero, gA]
  refine loopW_inv (fun xs σ M => ∃ (rest : List App) (T : List Tr) (cs : List Int) (i : Int) (o6 o7 o8 o9 o10 : Option Xv), xs = dX (rest.map appD) ∧ (∀ a ∈ rest, a ∈ apps) ∧ T.length ≤ 16 ∧ (∀ t ∈ T, TrB t) ∧ StOk cs i ∧ M = dM cs i Q [.lst (dX (T.map trD)), .lst []] ∧
    σ = [some (.c 1), some (.c 6), some (.d ppD), some (.d (.int most)), some (.c (Q.length + 2)), some (.c (Q.length + 2 + 1)), o6, o7, o8, o9, o10, none, none, none, none, none]) ?_ ?_ _ _ _ ⟨apps, [], cs, i, _, _, _, _, _, rfl, fun a ha => ha, by simp, by simp, ok, rfl, rfl⟩
  · rintro x xs σ M ⟨rest, T, cs, i, o6, o7, o8, o9, o10, e, hr, tl, tb, ok, rfl, rfl⟩ CC hC
    obtain ⟨ap, rest, rfl⟩ : ∃ a r, rest = a :: r := by
      cases rest with
      | nil => cases e
      | cons a r => exact ⟨a, r, rfl⟩
    rw [List.map_cons, dX_c] at e
    cases e
    have am := hr ap List.mem_cons_self
    have fi := aok.fi ap am
    have hr2 : ∀ x ∈ rest, x ∈ apps := fun x hx => hr x (List.mem_cons_of_mem _ hx)
    refine ⟨trivial, ?_⟩
    simp only [rgName, set_z, set_s]
    simp only [startX, rAsg, rgName, rVar, rC, rBin, rD, rCl, rFz, rTb, rTr, rIf, rIfS, rRet, rRetN, rNx, rCons, rNil, rTup, rTupC, rLst, rApp, rAppF, rCall, rPar, rNeg, rNot, rAnd, rOr, rChain, rLc, riSeq, rYes, rDrop, rFor, rApd, rExt, rgTup, rgCons, rgNil, rgSub, rIsiX, riRng1, riRng2, slot_z, slot_s, set_z, set_s, at0, at1, at2, at3, at4, at5, at6, dX_c, dX_n, gIx_tup, gIx_lst, gEq_ii, gEq_ss, gNe_ii, gNe_ss, gAdd_ii, gSub_ii, gLt_ii, gLe_ii, gGt_ii, gGe_ii, gIsN_d, gLen_l, gMax_ii, gMin_ii, gInt_b, gInt_i, gAbs_i, gApd_last, isLst_last, boX_b, tru_l, fzL_dX, fzL_n, fzL_cd, Option.map_some, fz_d, pk_d, ifS_some, hd_int, hd_str, hd_bool, hd_none, hd_list, hd_tuple, wipeX, List.map_cons, List.map_nil, List.length_cons, List.length_nil, List.replicate_succ, List.replicate_zero, List.cons_append, List.nil_append, List.append_nil, decide_eq_true_eq, if_true, if_false, Nat.reduceAdd, Nat.reduceSub, Nat.reduceLeDiff, Nat.zero_add, Nat.sub_zero]
    refine u_tkD ok m0 (by omega) fun v cs i ok v0 v1 => ?_
    try simp only [startX, rAsg, rgName, rVar, rC, rBin, rD, rCl, rFz, rTb, rTr, rIf, rIfS, rRet, rRetN, rNx, rCons, rNil, rTup, rTupC, rLst, rApp, rAppF, rCall, rPar, rNeg, rNot, rAnd, rOr, rChain, rLc, riSeq, rYes, rDrop, rFor, rApd, rExt, rgTup, rgCons, rgNil, rgSub, rIsiX, riRng1, riRng2, slot_z, slot_s, set_z, set_s, at0, at1, at2, at3, at4, at5, at6, dX_c, dX_n, gIx_tup, gIx_lst, gEq_ii, gEq_ss, gNe_ii, gNe_ss, gAdd_ii, gSub_ii, gLt_ii, gLe_ii, gGt_ii, gGe_ii, gIsN_d, gLen_l, gMax_ii, gMin_ii, gInt_b, gInt_i, gAbs_i, gApd_last, isLst_last, boX_b, tru_l, fzL_dX, fzL_n, fzL_cd, Option.map_some, fz_d, pk_d, ifS_some, hd_int, hd_str, hd_bool, hd_none, hd_list, hd_tuple, wipeX, List.map_cons, List.map_nil, List.length_cons, List.length_nil, List.replicate_succ, List.replicate_zero, List.cons_append, List.nil_append, List.append_nil, decide_eq_true_eq, if_true, if_false, Nat.reduceAdd, Nat.reduceSub, Nat.reduceLeDiff, Nat.zero_add, Nat.sub_zero]
    refine ⟨by omega, by omega, ?_⟩
    refine loopW_inv (fun xs σ M => ∃ (n : Nat) (lo : Int) (T : List Tr) (cs : List Int) (i : Int) (o7 o8 o9 o10 : Option Xv), xs = rangeX lo n ∧ T.length ≤ 16 ∧ (∀ t ∈ T, TrB t) ∧ StOk cs i ∧ M = dM cs i Q [.lst (dX (T.map trD)), .lst []] ∧
      σ = [some (.c 1), some (.c 6), some (.d ppD), some (.d (.int most)), some (.c (Q.length + 2)), some (.c (Q.length + 2 + 1)), some (.d (appD ap)), o7, o8, o9, o10, none, none, none, none, none]) ?_ ?_ _ _ _ ⟨v.toNat, 0, T, cs, i, _, _, _, _, rfl, tl, tb, ok, rfl, rfl⟩
    · rintro x xs σ M ⟨n, lo, T, cs, i, o7, o8, o9, o10, e, tl, tb, ok, rfl, rfl⟩ C2 hC2
      obtain ⟨n, rfl⟩ : ∃ n', n = n' + 1 := by
        cases n with
        | zero => cases e
        | succ n => exact ⟨n, rfl⟩
      rw [rangeX_succ] at e
      cases e
      refine ⟨trivial, ?_⟩
      simp only [rgName, set_z, set_s]
      rw [← hDR]
      exact deal_spec ok (aok.ow ap am) (apn ap am) fi tl tb fun T' cs' i' o8 o9 o10 tl' tb' ok' => hC2 _ _ ⟨n, lo + 1, T', cs', i', _, _, _, _, rfl, tl', tb', ok', rfl, rfl⟩
    · rintro σ M ⟨n, lo, T, cs, i, o7, o8, o9, o10, e, tl, tb, ok, rfl, rfl⟩
      exact ⟨trivial, hC _ _ ⟨rest, T, cs, i, _, _, _, _, _, rfl, hr2, tl, tb, ok, rfl, rfl⟩⟩
  rintro σ M ⟨rest, T0, cs, i, o6, o7, o8, o9, o10, e, hr, tl0, tb0, ok, rfl, rfl⟩
  clear e hr hDR
  refine ⟨trivial, ?_⟩
  refine seq_step ?_
  rw [← hTR]
  refine trans_spec tl0 ?_
  have perm : (sortE pairD T0).Perm T0 := List.mergeSort_perm _ _
  obtain ⟨T, hT⟩ : ∃ T, sortE pairD T0 = T := ⟨_, rfl⟩
  rw [hT] at perm ⊢
  have tl : T.length ≤ 16 := by rw [perm.length_eq]; exact tl0
  have tb : ∀ t ∈ T, TrB t := fun t ht => tb0 t (perm.mem_iff.mp ht)
  obtain ⟨o0, ho0⟩ : ∃ o0, Ob.lst (dX (T0.map trD)) = o0 := ⟨_, rfl⟩
  rw [ho0]
  clear hTR hT perm ho0 tb0 tl0
  refine seq_step ?_
  have ln : ∀ (cs : List Int) (i : Int) (y : Ob) (P : Xv → Sto → Prop), gLen [.c (Q.length + 2 + 2)] (dM cs i Q [o0, y, .lst (dX (T.map trD))]) P = P (.d (.int T.length)) (dM cs i Q [o0, y, .lst (dX (T.map trD))]) := fun cs i y P => by
    unfold gLen
    simp only [hd_at (show (dM cs i Q [o0, y, .lst (dX (T.map trD))])[Q.length + 2 + 2]? = some (.lst (dX (T.map trD))) from getD_ 2), List.length_map]
  simp only [startX, rAsg, rgName, rVar, rC, rBin, rD, rCl, rFz, rTb, rTr, rIf, rIfS, rRet, rRetN, rNx, rCons, rNil, rTup, rTupC, rLst, rApp, rAppF, rCall, rPar, rNeg, rNot, rAnd, rOr, rChain, rLc, riSeq, rYes, rDrop, rFor, rApd, rExt, rgTup, rgCons, rgNil, rgSub, rIsiX, riRng1, riRng2, slot_z, slot_s, set_z, set_s, at0, at1, at2, at3, at4, at5, at6, dX_c, dX_n, gIx_tup, gIx_lst, gEq_ii, gEq_ss, gNe_ii, gNe_ss, gAdd_ii, gSub_ii, gLt_ii, gLe_ii, gGt_ii, gGe_ii, gIsN_d, gLen_l, gMax_ii, gMin_ii, gInt_b, gInt_i, gAbs_i, gApd_last, isLst_last, boX_b, tru_l, fzL_dX, fzL_n, fzL_cd, Option.map_some, fz_d, pk_d, ifS_some, hd_int, hd_str, hd_bool, hd_none, hd_list, hd_tuple, wipeX, List.map_cons, List.map_nil, List.length_cons, List.length_nil, List.replicate_succ, List.replicate_zero, List.cons_append, List.nil_append, List.append_nil, decide_eq_true_eq, if_true, if_false, Nat.reduceAdd, Nat.reduceSub, Nat.reduceLeDiff, Nat.zero_add, Nat.sub_zero, ln, gMul_l 2 _ _ _ (by decide)]
  refine u_tkD ok (by omega) (by omega) fun v cs i ok v0 v1 => ?_
  try simp only [startX, rAsg, rgName, rVar, rC, rBin, rD, rCl, rFz, rTb, rTr, rIf, rIfS, rRet, rRetN, rNx, rCons, rNil, rTup, rTupC, rLst, rApp, rAppF, rCall, rPar, rNeg, rNot, rAnd, rOr, rChain, rLc, riSeq, rYes, rDrop, rFor, rApd, rExt, rgTup, rgCons, rgNil, rgSub, rIsiX, riRng1, riRng2, slot_z, slot_s, set_z, set_s, at0, at1, at2, at3, at4, at5, at6, dX_c, dX_n, gIx_tup, gIx_lst, gEq_ii, gEq_ss, gNe_ii, gNe_ss, gAdd_ii, gSub_ii, gLt_ii, gLe_ii, gGt_ii, gGe_ii, gIsN_d, gLen_l, gMax_ii, gMin_ii, gInt_b, gInt_i, gAbs_i, gApd_last, isLst_last, boX_b, tru_l, fzL_dX, fzL_n, fzL_cd, Option.map_some, fz_d, pk_d, ifS_some, hd_int, hd_str, hd_bool, hd_none, hd_list, hd_tuple, wipeX, List.map_cons, List.map_nil, List.length_cons, List.length_nil, List.replicate_succ, List.replicate_zero, List.cons_append, List.nil_append, List.append_nil, decide_eq_true_eq, if_true, if_false, Nat.reduceAdd, Nat.reduceSub, Nat.reduceLeDiff, Nat.zero_add, Nat.sub_zero]
  refine ⟨by omega, by omega, ?_⟩
  refine loopW_inv (fun xs σ M => ∃ (n : Nat) (lo : Int) (Rs : List R0) (cs : List Int) (i : Int) (o6 o7 o8 o9 o10 o12 o13 o14 o15 : Option Xv), xs = rangeX lo n ∧ Rs.length + n ≤ 30 ∧ (0 < n → 0 < T.length) ∧ (∀ r ∈ Rs, RgB (regOf r) ∧ ∃ t ∈ T, t.app = r.app ∧ t.giver = r.giver ∧ t.n = r.n ∧ t.told ≤ r.d) ∧ StOk cs i ∧ M = dM cs i Q [o0, .lst (dX (Rs.map r0D)), .lst (dX (T.map trD))] ∧
    σ = [some (.c 1), some (.c 6), some (.d ppD), some (.d (.int most)), some (.c (Q.length + 2 + 2)), some (.c (Q.length + 2 + 1)), o6, o7, o8, o9, o10, none, o12, o13, o14, o15]) ?_ ?_ _ _ _ ⟨v.toNat, 0, [], cs, i, _, _, _, _, _, _, _, _, _, rfl, by simp; omega, fun z => by omega, by simp, ok, rfl, rfl⟩
  · rintro x xs σ M ⟨n, lo, Rs, cs, i, o6, o7, o8, o9, o10, o12, o13, o14, o15, e, rl, n0, hb, ok, rfl, rfl⟩ CC hC
    obtain ⟨n, rfl⟩ : ∃ n', n = n' + 1 := by
      cases n with
      | zero => cases e
      | succ n => exact ⟨n, rfl⟩
    rw [rangeX_succ] at e
    cases e
    refine ⟨trivial, ?_⟩
    simp only [rgName, set_z, set_s]
    rw [← hGR]
    refine reg_spec ok tl (n0 (by omega)) tb (by omega) fun r cs' i' o8 o9 o10 o12 o13 o14 o15 rb rt ok' => hC _ _ ⟨n, lo + 1, Rs ++ [r], cs', i', _, _, _, _, _, _, _, _, _, rfl, by rw [List.length_append, List.length_singleton]; omega, fun _ => n0 (by omega), fun x hx => ?_, ok', rfl, rfl⟩
    rcases List.mem_append.mp hx with z | z
    · exact hb x z
    · rw [List.mem_singleton.mp z]; exact ⟨rb, rt⟩
  rintro σ M ⟨n, lo, Rs, cs, i, o6, o7, o8, o9, o10, o12, o13, o14, o15, e, rl, n0, hb, ok, rfl, rfl⟩
  clear e n0 hGR
  refine ⟨trivial, ?_⟩
  refine seq_step ?_
  simp only [startX, rAsg, rgName, rVar, rC, rBin, rD, rCl, rFz, rTb, rTr, rIf, rIfS, rRet, rRetN, rNx, rCons, rNil, rTup, rTupC, rLst, rApp, rAppF, rCall, rPar, rNeg, rNot, rAnd, rOr, rChain, rLc, riSeq, rYes, rDrop, rFor, rApd, rExt, rgTup, rgCons, rgNil, rgSub, rIsiX, riRng1, riRng2, slot_z, slot_s, set_z, set_s, at0, at1, at2, at3, at4, at5, at6, dX_c, dX_n, gIx_tup, gIx_lst, gEq_ii, gEq_ss, gNe_ii, gNe_ss, gAdd_ii, gSub_ii, gLt_ii, gLe_ii, gGt_ii, gGe_ii, gIsN_d, gLen_l, gMax_ii, gMin_ii, gInt_b, gInt_i, gAbs_i, gApd_last, isLst_last, boX_b, tru_l, fzL_dX, fzL_n, fzL_cd, Option.map_some, fz_d, pk_d, ifS_some, hd_int, hd_str, hd_bool, hd_none, hd_list, hd_tuple, wipeX, List.map_cons, List.map_nil, List.length_cons, List.length_nil, List.replicate_succ, List.replicate_zero, List.cons_append, List.nil_append, List.append_nil, decide_eq_true_eq, if_true, if_false, Nat.reduceAdd, Nat.reduceSub, Nat.reduceLeDiff, Nat.zero_add, Nat.sub_zero]
  rw [fz_lst (show (dM cs i Q [o0, .lst (dX (Rs.map r0D)), .lst (dX (T.map trD))])[Q.length + 2 + 2]? = some (.lst (dX (T.map trD))) from getD_ 2)]
  simp only [startX, rAsg, rgName, rVar, rC, rBin, rD, rCl, rFz, rTb, rTr, rIf, rIfS, rRet, rRetN, rNx, rCons, rNil, rTup, rTupC, rLst, rApp, rAppF, rCall, rPar, rNeg, rNot, rAnd, rOr, rChain, rLc, riSeq, rYes, rDrop, rFor, rApd, rExt, rgTup, rgCons, rgNil, rgSub, rIsiX, riRng1, riRng2, slot_z, slot_s, set_z, set_s, at0, at1, at2, at3, at4, at5, at6, dX_c, dX_n, gIx_tup, gIx_lst, gEq_ii, gEq_ss, gNe_ii, gNe_ss, gAdd_ii, gSub_ii, gLt_ii, gLe_ii, gGt_ii, gGe_ii, gIsN_d, gLen_l, gMax_ii, gMin_ii, gInt_b, gInt_i, gAbs_i, gApd_last, isLst_last, boX_b, tru_l, fzL_dX, fzL_n, fzL_cd, Option.map_some, fz_d, pk_d, ifS_some, hd_int, hd_str, hd_bool, hd_none, hd_list, hd_tuple, wipeX, List.map_cons, List.map_nil, List.length_cons, List.length_nil, List.replicate_succ, List.replicate_zero, List.cons_append, List.nil_append, List.append_nil, decide_eq_true_eq, if_true, if_false, Nat.reduceAdd, Nat.reduceSub, Nat.reduceLeDiff, Nat.zero_add, Nat.sub_zero, rgSub]
  rw [show (dM cs i Q [o0, .lst (dX (Rs.map r0D)), .lst (dX (T.map trD))]).set (Q.length + 2 + 2) (.frz (.list (T.map trD))) = dM cs i Q [o0, .lst (dX (Rs.map r0D)), .frz (.list (T.map trD))] from setD_ 2 _]
  rw [← hQ, set_trs]
  refine ⟨by decide, ?_⟩
  rw [hQ]
  try simp only [startX, rAsg, rgName, rVar, rC, rBin, rD, rCl, rFz, rTb, rTr, rIf, rIfS, rRet, rRetN, rNx, rCons, rNil, rTup, rTupC, rLst, rApp, rAppF, rCall, rPar, rNeg, rNot, rAnd, rOr, rChain, rLc, riSeq, rYes, rDrop, rFor, rApd, rExt, rgTup, rgCons, rgNil, rgSub, rIsiX, riRng1, riRng2, slot_z, slot_s, set_z, set_s, at0, at1, at2, at3, at4, at5, at6, dX_c, dX_n, gIx_tup, gIx_lst, gEq_ii, gEq_ss, gNe_ii, gNe_ss, gAdd_ii, gSub_ii, gLt_ii, gLe_ii, gGt_ii, gGe_ii, gIsN_d, gLen_l, gMax_ii, gMin_ii, gInt_b, gInt_i, gAbs_i, gApd_last, isLst_last, boX_b, tru_l, fzL_dX, fzL_n, fzL_cd, Option.map_some, fz_d, pk_d, ifS_some, hd_int, hd_str, hd_bool, hd_none, hd_list, hd_tuple, wipeX, List.map_cons, List.map_nil, List.length_cons, List.length_nil, List.replicate_succ, List.replicate_zero, List.cons_append, List.nil_append, List.append_nil, decide_eq_true_eq, if_true, if_false, Nat.reduceAdd, Nat.reduceSub, Nat.reduceLeDiff, Nat.zero_add, Nat.sub_zero]
  obtain ⟨Q2, hQ2⟩ : ∃ Q2, offQ a b c d ks ls apps C F T [] L = Q2 := ⟨_, rfl⟩
  have ql : Q.length = Q2.length := by rw [← hQ, ← hQ2]; rfl
  rw [hQ2, ql]
  refine gSort_at (show (dM cs i Q2 [o0, .lst (dX (Rs.map r0D)), .frz (.list (T.map trD))])[Q2.length + 2 + 1]? = some (.lst (dX (Rs.map r0D))) from getD_ 1) (srt_r0 (by omega)) ?_
  rw [sortD_enc]
  have perm : (sortE r0D Rs).Perm Rs := List.mergeSort_perm _ _
  try simp only [startX, rAsg, rgName, rVar, rC, rBin, rD, rCl, rFz, rTb, rTr, rIf, rIfS, rRet, rRetN, rNx, rCons, rNil, rTup, rTupC, rLst, rApp, rAppF, rCall, rPar, rNeg, rNot, rAnd, rOr, rChain, rLc, riSeq, rYes, rDrop, rFor, rApd, rExt, rgTup, rgCons, rgNil, rgSub, rIsiX, riRng1, riRng2, slot_z, slot_s, set_z, set_s, at0, at1, at2, at3, at4, at5, at6, dX_c, dX_n, gIx_tup, gIx_lst, gEq_ii, gEq_ss, gNe_ii, gNe_ss, gAdd_ii, gSub_ii, gLt_ii, gLe_ii, gGt_ii, gGe_ii, gIsN_d, gLen_l, gMax_ii, gMin_ii, gInt_b, gInt_i, gAbs_i, gApd_last, isLst_last, boX_b, tru_l, fzL_dX, fzL_n, fzL_cd, Option.map_some, fz_d, pk_d, ifS_some, hd_int, hd_str, hd_bool, hd_none, hd_list, hd_tuple, wipeX, List.map_cons, List.map_nil, List.length_cons, List.length_nil, List.replicate_succ, List.replicate_zero, List.cons_append, List.nil_append, List.append_nil, decide_eq_true_eq, if_true, if_false, Nat.reduceAdd, Nat.reduceSub, Nat.reduceLeDiff, Nat.zero_add, Nat.sub_zero]
  refine lcW_map r0D (fun _ => true) (fun r => rgD (regOf r)) (by trivial) _ [] (small (by rw [perm.length_eq]; simp only [List.length_nil]; omega)) (fun r hr Kt Kf h1 h2 => ?_) ?_
  · simp only [rgTup, hd_r0, List.length_cons, List.length_nil, rgCons, rgNil, rgName, set_z, set_s]
    refine ⟨trivial, ?_⟩
    simp only [startX, rAsg, rgName, rVar, rC, rBin, rD, rCl, rFz, rTb, rTr, rIf, rIfS, rRet, rRetN, rNx, rCons, rNil, rTup, rTupC, rLst, rApp, rAppF, rCall, rPar, rNeg, rNot, rAnd, rOr, rChain, rLc, riSeq, rYes, rDrop, rFor, rApd, rExt, rgTup, rgCons, rgNil, rgSub, rIsiX, riRng1, riRng2, slot_z, slot_s, set_z, set_s, at0, at1, at2, at3, at4, at5, at6, dX_c, dX_n, gIx_tup, gIx_lst, gEq_ii, gEq_ss, gNe_ii, gNe_ss, gAdd_ii, gSub_ii, gLt_ii, gLe_ii, gGt_ii, gGe_ii, gIsN_d, gLen_l, gMax_ii, gMin_ii, gInt_b, gInt_i, gAbs_i, gApd_last, isLst_last, boX_b, tru_l, fzL_dX, fzL_n, fzL_cd, Option.map_some, fz_d, pk_d, ifS_some, hd_int, hd_str, hd_bool, hd_none, hd_list, hd_tuple, wipeX, List.map_cons, List.map_nil, List.length_cons, List.length_nil, List.replicate_succ, List.replicate_zero, List.cons_append, List.nil_append, List.append_nil, decide_eq_true_eq, if_true, if_false, Nat.reduceAdd, Nat.reduceSub, Nat.reduceLeDiff, Nat.zero_add, Nat.sub_zero]
    exact ⟨s1, s5, h1 rfl⟩
  rw [filt]
  simp only [startX, rAsg, rgName, rVar, rC, rBin, rD, rCl, rFz, rTb, rTr, rIf, rIfS, rRet, rRetN, rNx, rCons, rNil, rTup, rTupC, rLst, rApp, rAppF, rCall, rPar, rNeg, rNot, rAnd, rOr, rChain, rLc, riSeq, rYes, rDrop, rFor, rApd, rExt, rgTup, rgCons, rgNil, rgSub, rIsiX, riRng1, riRng2, slot_z, slot_s, set_z, set_s, at0, at1, at2, at3, at4, at5, at6, dX_c, dX_n, gIx_tup, gIx_lst, gEq_ii, gEq_ss, gNe_ii, gNe_ss, gAdd_ii, gSub_ii, gLt_ii, gLe_ii, gGt_ii, gGe_ii, gIsN_d, gLen_l, gMax_ii, gMin_ii, gInt_b, gInt_i, gAbs_i, gApd_last, isLst_last, boX_b, tru_l, fzL_dX, fzL_n, fzL_cd, Option.map_some, fz_d, pk_d, ifS_some, hd_int, hd_str, hd_bool, hd_none, hd_list, hd_tuple, wipeX, List.map_cons, List.map_nil, List.length_cons, List.length_nil, List.replicate_succ, List.replicate_zero, List.cons_append, List.nil_append, List.append_nil, decide_eq_true_eq, if_true, if_false, Nat.reduceAdd, Nat.reduceSub, Nat.reduceLeDiff, Nat.zero_add, Nat.sub_zero]
  obtain ⟨R, hR⟩ : ∃ R, (sortE r0D Rs).map regOf = R := ⟨_, rfl⟩
  rw [show ((sortE r0D Rs).map fun r => rgD (regOf r)) = R.map rgD by rw [← hR, List.map_map]; rfl]
  rw [← hQ2, set_reg]
  refine ⟨by decide, ?_⟩
  have hz := hp T R cs i [o0, .lst (dX (Rs.map r0D)), .frz (.list (T.map trD))] ⟨tl, by rw [← hR, List.length_map, perm.length_eq]; omega, tb, fun r hr => ?_, fun r hr => ?_⟩ ok
  · rw [show dM cs i (offQ a b c d ks ls apps C F T R L) [o0, .lst (dX (Rs.map r0D)), .frz (.list (T.map trD))] = stM cs i ++ offQ a b c d ks ls apps C F T R (L ++ [o0, .lst (dX (Rs.map r0D)), .frz (.list (T.map trD))]) by unfold dM; rw [List.append_assoc]; rfl]
    exact hz
  · rw [← hR] at hr
    obtain ⟨q, hq, rfl⟩ := List.mem_map.mp hr
    exact (hb q (perm.mem_iff.mp hq)).1
  · rw [← hR] at hr
    obtain ⟨q, hq, rfl⟩ := List.mem_map.mp hr
    exact (hb q (perm.mem_iff.mp hq)).2
end K31

set_option Elab.async false
set_option linter.all false
set_option maxRecDepth 100000
set_option maxHeartbeats 8000000
namespace K31
open PySem PySem.Spec PyProof.Rows L2 G
/-! ### what holds of a title -/
theorem sum_perm {l m : List Int} (p : l.Perm m) : l.sum = m.sum := by
  induction p with
  | nil => rfl
  | cons x _ ih => rw [List.sum_cons, List.sum_cons, ih]
  | swap x y l => rw [List.sum_cons, List.sum_cons, List.sum_cons, List.sum_cons]; omega
  | trans _ _ h1 h2 => exact h1.trans h2
theorem nd_sub : ∀ {l m : List Str}, l.Nodup → (∀ x ∈ l, x ∈ m) → l.length ≤ m.length
  | [], _, _, _ => Nat.zero_le _
  | x :: l, m, nd, h => by
    obtain ⟨n1, n2⟩ := List.nodup_cons.mp nd
    have hm := h x List.mem_cons_self
    have := nd_sub (l := l) (m := m.erase x) n2 fun y hy => by
      have hne : y ≠ x := fun z => n1 (z ▸ hy)
      exact (List.mem_erase_of_ne hne).mpr (h y (List.mem_cons_of_mem _ hy))
    rw [List.length_erase_of_mem hm] at this
    have hp : 0 < m.length := List.length_pos_of_mem hm
    rw [List.length_cons]
    omega
theorem getO_in : ∀ {h : Held} {g : Str} {v : Int}, getO h g = some v → (g, v) ∈ h
  | p :: r, g, v, e => by
    unfold getO at e
    by_cases c : p.1 = g
    · rw [if_pos c] at e
      cases e
      rw [← c]; exact List.mem_cons_self
    · rw [if_neg c] at e
      exact List.mem_cons_of_mem _ (getO_in e)
theorem getS_nn {h : Held} (n : ∀ p ∈ h, 0 ≤ p.2) (g : Str) : 0 ≤ getS h g := by
  unfold getS
  cases e : getO h g with
  | none => exact Int.le_refl _
  | some v => exact n _ (getO_in e)
theorem getO_none {h : Held} {g : Str} (n : g ∉ h.map (·.1)) : getO h g = none := by
  cases e : getO h g with
  | none => rfl
  | some v => exact absurd (List.mem_map.mpr ⟨_, getO_in e, rfl⟩) n
theorem any_key (h : Held) (g : Str) : (h.any fun p => decide (p.1 = g)) = true ↔ g ∈ h.map (·.1) := by
  rw [List.any_eq_true]
  constructor
  · rintro ⟨p, hp, e⟩
    exact List.mem_map.mpr ⟨p, hp, of_decide_eq_true e⟩
  · intro hm
    obtain ⟨p, hp, e⟩ := List.mem_map.mp hm
    exact ⟨p, hp, decide_eq_true e⟩
theorem put_keys_eq (h : Held) (g : Str) (v : Int) : (h.map (fun p => if p.1 = g then (p.1, v) else p)).map (·.1) = h.map (·.1) := by
  rw [List.map_map]
  refine List.map_congr_left fun p _ => ?_
  show (if p.1 = g then (p.1, v) else p).1 = p.1
  split <;> rfl
theorem putS_nd {h : Held} {g : Str} {v : Int} (n : (h.map (·.1)).Nodup) : ((putS h g v).map (·.1)).Nodup := by
  unfold putS
  by_cases c : (h.any fun p => decide (p.1 = g)) = true
  · rw [if_pos c, put_keys_eq]; exact n
  · rw [if_neg c, List.map_append]
    refine List.nodup_append.mpr ⟨n, by simp, fun a ha b hb e => ?_⟩
    rw [List.map_cons, List.map_nil, List.mem_singleton] at hb
    subst hb
    subst e
    exact c ((any_key h a).mpr ha)
theorem putS_key {h : Held} {g p : Str} {v : Int} (hp : p ∈ (putS h g v).map (·.1)) : p ∈ h.map (·.1) ∨ p = g := by
  unfold putS at hp
  by_cases c : (h.any fun p => decide (p.1 = g)) = true
  · rw [if_pos c, put_keys_eq] at hp; exact .inl hp
  · rw [if_neg c, List.map_append] at hp
    rcases List.mem_append.mp hp with z | z
    · exact .inl z
    · exact .inr (List.mem_singleton.mp z)
theorem putS_nn {h : Held} {g : Str} {v : Int} (n : ∀ p ∈ h, 0 ≤ p.2) (hv : 0 ≤ v) : ∀ p ∈ putS h g v, 0 ≤ p.2 := fun p hp => by
  unfold putS at hp
  split at hp
  · obtain ⟨q, hq, rfl⟩ := List.mem_map.mp hp
    split
    · exact hv
    · exact n q hq
  · rcases List.mem_append.mp hp with z | z
    · exact n p z
    · rw [List.mem_singleton.mp z]; exact hv
theorem put_off {g : Str} {v : Int} : ∀ {h : Held}, g ∉ h.map (·.1) → h.map (fun p => if p.1 = g then (p.1, v) else p) = h
  | [], _ => rfl
  | p :: h, n => by
    rw [List.map_cons, List.mem_cons, not_or] at n
    rw [List.map_cons, put_off n.2, if_neg fun e => n.1 e.symm]
theorem put_sum {g : Str} {v : Int} : ∀ {h : Held}, (h.map (·.1)).Nodup → g ∈ h.map (·.1) → ((h.map (fun p => if p.1 = g then (p.1, v) else p)).map (·.2)).sum = (h.map (·.2)).sum - getS h g + v
  | [], _, hm => by cases hm
  | p :: h, n, hm => by
    rw [List.map_cons] at n
    obtain ⟨n1, n2⟩ := List.nodup_cons.mp n
    rw [List.map_cons, List.map_cons, List.map_cons, List.sum_cons, List.sum_cons]
    by_cases c : p.1 = g
    · rw [if_pos c, put_off (c ▸ n1)]
      have : getS (p :: h) g = p.2 := by unfold getS getO; rw [if_pos c]; rfl
      rw [this]
      show v + _ = _
      omega
    · rw [if_neg c]
      have : getS (p :: h) g = getS h g := by unfold getS; rw [show getO (p :: h) g = getO h g by conv => lhs; unfold getO; rw [if_neg c]]
      rw [this, put_sum n2 (by
        rw [List.map_cons] at hm
        rcases List.mem_cons.mp hm with z | z
        · exact absurd z.symm c
        · exact z)]
      omega
theorem putS_sum {h : Held} {g : Str} {v : Int} (n : (h.map (·.1)).Nodup) : ((putS h g v).map (·.2)).sum = (h.map (·.2)).sum - getS h g + v := by
  unfold putS
  by_cases c : (h.any fun p => decide (p.1 = g)) = true
  · rw [if_pos c]; exact put_sum n ((any_key h g).mp c)
  · rw [if_neg c, List.map_append, List.sum_append]
    have : getS h g = 0 := by
      unfold getS
      rw [getO_none fun z => c ((any_key h g).mpr z)]
      rfl
    rw [this]
    simp
structure Ti (own : Str) (q : Held × List Le) : Prop where
  hn : (q.1.map (·.1)).Nodup
  hs : ∀ p ∈ q.1.map (·.1), p ∈ own :: (q.2.map (·.giver) ++ q.2.map (·.taker))
  nn : ∀ p ∈ q.1, 0 ≤ p.2
  su : (q.1.map (·.2)).sum = 1000
  ln : (q.2.map leK).Nodup
  rn : ∀ e ∈ q.2, 0 ≤ e.rest ∧ e.rest ≤ 1000
  ll : q.2.length ≤ 16
  so : ∀ e ∈ q.2, PyData.strOk e.giver = true ∧ PyData.strOk e.taker = true
theorem Ti.len {own : Str} {q : Held × List Le} (t : Ti own q) : q.1.length ≤ 33 := by
  have := nd_sub t.hn t.hs
  rw [List.length_map, List.length_cons, List.length_append, List.length_map, List.length_map] at this
  have := t.ll
  omega
theorem setR_f {β : Type} (f : Le → β) (hf : ∀ (e : Le) (v : Int), f { e with rest := v } = f e) (L : List Le) (k : List Key) (v : Int) : (setR L k v).map f = L.map f := by
  unfold setR
  rw [List.map_map]
  refine List.map_congr_left fun e _ => ?_
  show f (if leK e = k then { e with rest := v } else e) = f e
  split
  · exact hf e v
  · rfl
theorem Ti.move {own : Str} {q : Held × List Le} (t : Ti own q) {g : Str} {n z : Int} (hz : 0 ≤ z) : Ti own (moveV q g n z) := by
  have lk := moveV_keys q g n z
  have ll2 := (moveV_len q g n z).2
  unfold moveV at lk ll2 ⊢
  cases he : findL q.2 [.inr g, .inl n] with
  | none => exact t
  | some e =>
    rw [he] at lk ll2
    obtain ⟨em, ek⟩ := findL_mem he
    have eg : e.giver = g := by
      unfold leK at ek
      injection ek with e1 _
      injection e1
    have ⟨r0, r1⟩ := t.rn e em
    have s0 := getS_nn t.nn g
    obtain ⟨a, ha⟩ : ∃ a, min (min z e.rest) (getS q.1 g) = a := ⟨_, rfl⟩
    simp only [ha] at lk ll2 ⊢
    have a0 : 0 ≤ a := by omega
    have a1 : a ≤ e.rest := by omega
    have a2 : a ≤ getS q.1 g := by omega
    have n1 := putS_nd (h := q.1) (g := g) (v := getS q.1 g - a) t.hn
    have nn1 := putS_nn (h := q.1) (g := g) (v := getS q.1 g - a) t.nn (by omega)
    have s1 := getS_nn nn1 e.taker
    refine ⟨putS_nd n1, fun p hp => ?_, putS_nn nn1 (by omega), ?_, by show ((setR _ _ _).map leK).Nodup; rw [setR_keys]; exact t.ln, fun x hx => ?_, by show (setR _ _ _).length ≤ 16; rw [setR_len]; exact t.ll, fun x hx => ?_⟩
    · show p ∈ own :: ((setR q.2 _ _).map (·.giver) ++ (setR q.2 _ _).map (·.taker))
      rw [setR_f (·.giver) (fun _ _ => rfl), setR_f (·.taker) (fun _ _ => rfl)]
      rcases putS_key hp with z1 | rfl
      · rcases putS_key z1 with z2 | rfl
        · exact t.hs p z2
        · exact List.mem_cons_of_mem _ (List.mem_append_left _ (List.mem_map.mpr ⟨e, em, eg⟩))
      · exact List.mem_cons_of_mem _ (List.mem_append_right _ (List.mem_map.mpr ⟨e, em, rfl⟩))
    · rw [putS_sum n1, putS_sum t.hn]
      have := t.su
      omega
    · obtain ⟨y, hy, rfl⟩ := List.mem_map.mp hx
      split
      · show 0 ≤ e.rest - a ∧ e.rest - a ≤ 1000
        omega
      · exact t.rn y hy
    · obtain ⟨y, hy, rfl⟩ := List.mem_map.mp hx
      split
      · exact t.so y hy
      · exact t.so y hy
theorem Ti.fold {own nm : Str} {day : Int} : ∀ {R : List Rg} {q : Held × List Le}, (∀ r ∈ R, 0 ≤ r.size) → Ti own q → Ti own (R.foldl (stepR nm day) q)
  | [], _, _, t => t
  | r :: R, q, h, t => by
    refine Ti.fold (R := R) (q := stepR nm day q r) (fun x hx => h x (List.mem_cons_of_mem _ hx)) ?_
    unfold stepR
    split
    · exact t.move (h r List.mem_cons_self)
    · exact t
theorem foldT_rn {nm : Str} {day : Int} : ∀ {T : List Tr} {L : List Le}, (∀ t ∈ T, 0 ≤ t.size ∧ t.size ≤ 1000) → (∀ e ∈ L, 0 ≤ e.rest ∧ e.rest ≤ 1000) → ∀ e ∈ T.foldl (stepT nm day) L, 0 ≤ e.rest ∧ e.rest ≤ 1000
  | [], _, _, h => h
  | t :: T, L, ht, h => by
    refine foldT_rn (T := T) (L := stepT nm day L t) (fun x hx => ht x (List.mem_cons_of_mem _ hx)) ?_
    unfold stepT
    split
    · intro e he
      unfold putL at he
      split at he
      · obtain ⟨y, hy, rfl⟩ := List.mem_map.mp he
        split
        · exact ht t List.mem_cons_self
        · exact h y hy
      · rcases List.mem_append.mp he with z | z
        · exact h e z
        · rw [List.mem_singleton.mp z]; exact ht t List.mem_cons_self
    · exact h
theorem foldT_so {nm : Str} {day : Int} : ∀ {T : List Tr} {L : List Le}, (∀ t ∈ T, PyData.strOk t.giver = true ∧ PyData.strOk t.taker = true) → (∀ e ∈ L, PyData.strOk e.giver = true ∧ PyData.strOk e.taker = true) → ∀ e ∈ T.foldl (stepT nm day) L, PyData.strOk e.giver = true ∧ PyData.strOk e.taker = true
  | [], _, _, h => h
  | t :: T, L, ht, h => by
    refine foldT_so (T := T) (L := stepT nm day L t) (fun x hx => ht x (List.mem_cons_of_mem _ hx)) ?_
    unfold stepT
    split
    · intro e he
      unfold putL at he
      split at he
      · obtain ⟨y, hy, rfl⟩ := List.mem_map.mp he
        split
        · exact ht t List.mem_cons_self
        · exact h y hy
      · rcases List.mem_append.mp he with z | z
        · exact h e z
        · rw [List.mem_singleton.mp z]; exact ht t List.mem_cons_self
    · exact h
theorem titleV_ti {T : List Tr} {R : List Rg} (dk : DealOk T R) (own nm : Str) (day : Int) : Ti own (titleV own T R nm day) := by
  refine Ti.fold (fun r hr => by have := (dk.rb r hr).s; omega) ⟨by simp, fun p hp => ?_, fun p hp => ?_, by simp, foldT_nd List.nodup_nil, foldT_rn (fun t ht => by have := (dk.tb t ht).s; omega) (by simp), ?_, ?_⟩
  · have : p = own := by simpa using hp
    rw [this]; exact List.mem_cons_self
  · rw [List.mem_singleton.mp hp]; show (0 : Int) ≤ 1000; omega
  · have := foldT_len (nm := nm) (day := day) (T := T) (L := [])
    have tl := dk.tl
    rw [List.length_nil] at this
    show (leftV T nm day).length ≤ 16
    unfold leftV
    omega
  · exact foldT_so (fun t ht => ⟨(dk.tb t ht).g.1, (dk.tb t ht).k.1⟩) (by simp)
theorem sum_pos {α : Type} {f : α → Int} : ∀ {l : List α}, (∀ x ∈ l, 0 ≤ f x) → ((l.filter fun x => decide (0 < f x)).map f).sum = (l.map f).sum
  | [], _ => rfl
  | x :: l, h => by
    have h0 := h x List.mem_cons_self
    have ih := sum_pos (l := l) fun y hy => h y (List.mem_cons_of_mem _ hy)
    by_cases c : 0 < f x
    · rw [List.filter_cons_of_pos (p := fun x => decide (0 < f x)) (decide_eq_true c), List.map_cons, List.map_cons, List.sum_cons, List.sum_cons, ih]
    · rw [List.filter_cons_of_neg (p := fun x => decide (0 < f x)) (by simpa using c), List.map_cons, List.sum_cons, ih]
      omega
theorem sum_get : ∀ {h : Held}, (h.map (·.1)).Nodup → ((h.map (·.1)).map (getS h)).sum = (h.map (·.2)).sum
  | [], _ => rfl
  | p :: h, n => by
    rw [List.map_cons] at n
    obtain ⟨n1, n2⟩ := List.nodup_cons.mp n
    rw [List.map_cons, List.map_cons, List.map_cons, List.sum_cons, List.sum_cons, ← sum_get n2]
    have e1 : getS (p :: h) p.1 = p.2 := by unfold getS getO; rw [if_pos rfl]; rfl
    have e2 : (h.map (·.1)).map (getS (p :: h)) = (h.map (·.1)).map (getS h) := List.map_congr_left fun x hx => by
      unfold getS
      rw [show getO (p :: h) x = getO h x by
        conv => lhs; unfold getO
        rw [if_neg (show ¬ p.1 = x from fun e => n1 (e ▸ hx))]]
    rw [e1, e2]
theorem shV_sum {own : Str} {q : Held × List Le} (t : Ti own q) : ((shV q.1).map (·.2)).sum = 1000 := by
  unfold shV
  rw [List.map_map]
  rw [show ((fun p : Str × Int => p.2) ∘ fun p => (p, getS q.1 p)) = getS q.1 from rfl]
  rw [sum_pos fun x _ => getS_nn t.nn x, sum_perm ((sortS_perm (q.1.map (·.1))).map (getS q.1)), sum_get t.hn]
  exact t.su
theorem Ti.getO_of {h : Held} {g : Str} (p : 0 < getS h g) : g ∈ h.map (·.1) := by
  unfold getS at p
  cases e : getO h g with
  | none => rw [e] at p; simp at p
  | some v => exact List.mem_map.mpr ⟨_, getO_in e, rfl⟩
end K31

set_option Elab.async false
set_option linter.all false
set_option maxRecDepth 100000
set_option maxHeartbeats 8000000
namespace K31
open PySem PySem.Spec PyProof.Rows L2 G
variable {P : Program} {w : World} {K : PySem.W.Frag} {mg : Str → Option Value} {base : Heap} {k : Nat}
/-! ### what is due by the law -/
section
variable {M : Sto} {j : Nat} {S d : PyData} {kk : Str} {P : Xv → Sto → Prop}
theorem fz_fr (h : M[j]? = some (.frz S)) : fz M (.c j) = some (S, M) := by
  show frzN 6 M (.c j) = _
  unfold frzN
  simp only [h]
theorem hd_fr (h : M[j]? = some (.frz S)) : hd M (.c j) = hdD S := by simp only [hd, h]
theorem gIx_fr (h : M[j]? = some (.frz S)) (e : fldD S kk = some d) : gIx (.c j) (.d (.str kk)) M P = P (.d d) M := by
  have q := gIx_fld (M := M) (P := P) e
  unfold gIx at q ⊢
  rw [hd_fr h]
  exact q
theorem gIx_ct {xs : List Xv} {z : Xv} (h : M[j]? = some (.tup (z :: xs))) (q : P z M) : gIx (.c j) (.d (.int 0)) M P := by
  unfold gIx
  rw [show hd M (.c j) = .tup (z :: xs) by simp only [hd, h]]
  show ifS (atI (z :: xs) 0) _
  rw [at0]
  exact q
end
theorem dM6 {A R : Sto} {o : Ob} (h : A[6]? = some o) : (A ++ R)[6]? = some o := by
  have h6 : 6 < A.length := (List.getElem?_eq_some_iff.mp h).1
  rw [List.getElem?_append_left h6]; exact h
theorem canLay_of : ∀ {ds : List PyData}, (∀ d ∈ ds, PyData.canLay0 d = true) → PyData.canLayAll0 ds = true
  | [], _ => rfl
  | d :: ds, h => by
    show (PyData.canLay0 d && PyData.canLayAll0 ds) = true
    rw [h d List.mem_cons_self, canLay_of fun x hx => h x (List.mem_cons_of_mem _ hx)]; rfl
theorem depth_of {n : Nat} : ∀ {ds : List PyData}, (∀ d ∈ ds, d.depth ≤ n) → PyData.depthAll ds ≤ n
  | [], _ => by simp [PyData.depthAll]
  | d :: ds, h => by
    have h1 := h d List.mem_cons_self
    have h2 := depth_of (ds := ds) fun x hx => h x (List.mem_cons_of_mem _ hx)
    simp [PyData.depthAll]; omega
theorem shaped_l {ds : List PyData} (h : ∀ d ∈ ds, PyData.canLay0 d = true ∧ d.depth ≤ 5) : SeqAt.shaped (.list ds) = true := by
  have h1 := canLay_of (ds := ds) fun d hd => (h d hd).1
  have h2 := depth_of (ds := ds) (n := 5) fun d hd => (h d hd).2
  unfold SeqAt.shaped
  rw [Bool.and_eq_true]
  refine ⟨by simpa [PyData.canLay0] using h1, decide_eq_true ?_⟩
  simp [PyData.depth]; omega
theorem gNe_cell {M : Sto} {j : Nat} {ds : List PyData} {P : Xv → Sto → Prop} (e : M[j]? = some (.lst (dX ds))) (sh : SeqAt.shaped (.list ds) = true) (h : P (.d (.bool false)) M) : gNe (.c j) (.d (.list ds)) M P := by
  have := (gNe_same (M := M) (P := P) sh).mpr h
  unfold gNe at this ⊢
  rw [pk_d] at this
  rw [pk_lst e, pk_d]
  exact this
/-- draws over any store -/
theorem take_g {σ : Sl} {cs : List Int} {i most : Int} {L : Sto} {P : Xv → Sto → Prop} (s1 : slot σ 1 = some (.c 1)) (ok : StOk cs i) (m0 : 0 < most) (m1 : most < 1000000) (h : ∀ v cs' i', StOk cs' i' → 0 ≤ v → v < most → P (.d (.int v)) (stM cs' i' ++ L)) : rCall (pfPre 2 pf_tk) (rCons (rVar 1) (rCons (rC (.int most)) (rNil))) σ (stM cs i ++ L) P :=
  call_i (cons_i (var_i s1 (cons_i (c_i (nil_i (u_tk ok m0 m1 h))))))
/-! ### one turn of the law's steps -/
abbrev gM (cs : List Int) (i : Int) (Q : Sto) (h : Held) (L : List Le) (B : Sto) : Sto := dM cs i Q (.dic (hX h) :: .dit (lX lwD L) :: B)
theorem gM_l (cs : List Int) (i : Int) (Q : Sto) (h : Held) (L : List Le) (B : Sto) : gM cs i Q h L B = lM (stM cs i ++ Q) h L B := rfl
theorem take_ev {σ : Sl} {cs : List Int} {i most : Int} {Q R : Sto} {P : Xv → Sto → Prop} {r : RE} (s1 : slot σ 1 = some (.c 1)) (hr : Ev r σ (dM cs i Q R) (.d (.int most))) (ok : StOk cs i) (m0 : 0 < most) (m1 : most < 1000000) (h : ∀ v cs' i', StOk cs' i' → 0 ≤ v → v < most → P (.d (.int v)) (dM cs' i' Q R)) : rCall (pfPre 2 pf_tk) (rCons (rVar 1) (rCons r (rNil))) σ (dM cs i Q R) P :=
  call_i (cons_i (var_i s1 (cons_i (hr _ (nil_i (u_tkD ok m0 m1 h))))))
theorem hd_row (e : Le) (M : Sto) : hd M (.d (rowD e)) = .tup [.d (.str e.giver), .d (.int e.n), .d (.str e.taker), .d (.int e.rest)] := rfl
def waysR : RE := rD (rLc (riSeq (rCall pf_lleft (rCons (rVar 8) (rNil)))) (rgName 15) (rTb (rBin gGt (rGet2 (rVar 7) (rBin gIx (rVar 15) (rC (.int 0))) (rC (.int 0))) (rC (.int 0)))) (rVar 15) [15])
def stepR_ : RE := rTup (rCons (rVar 16) (rCons (rVar 17) (rCons (rBin gAdd (rC (.int 1)) (rCall (pfPre 2 pf_tk) (rCons (rVar 1) (rCons (rApp gMin (rCons (rVar 19) (rCons (rBin gIx (rVar 7) (rVar 16)) (rNil)))) (rNil))))) (rNil))))
def turnR : RS := rSeq (rAsg waysR (rgName 14)) (rIfS (rTb (rBin gGt (rApp gLen (rCons (rVar 14) (rNil))) (rC (.int 0)))) (rSeq (rAsg (rBin gIx (rVar 14) (rCall (pfPre 2 pf_tk) (rCons (rVar 1) (rCons (rApp gLen (rCons (rVar 14) (rNil))) (rNil))))) (rgTup 4 (rgCons (rgName 16) (rgCons (rgName 17) (rgCons (rgName 18) (rgCons (rgName 19) (rgNil))))))) (rSeq (rAsg stepR_ (rgName 20)) (rSeq (rDrop (rApd (rVar 12) (rVar 20))) (rDrop (rCall pf_lmove (rCons (rVar 7) (rCons (rVar 8) (rCons (rVar 20) (rNil))))))))) (rNx))
def waysV (q : Held × List Le) : List Le := (openV q.2).filter fun e => decide (0 < getS q.1 e.giver)
theorem ways_spec {cs : List Int} {i : Int} {Q B : Sto} {own : Str} {q : Held × List Le} {x0 x1 x2 x3 x4 x5 x6 x9 x10 x11 x12 x13 x14 x15 x16 x17 x18 x19 x20 x21 : Option Xv} {PP : Xv → Sto → Prop} (ti : Ti own q)
    (h : PP (.d (.list ((waysV q).map rowD))) (gM cs i Q q.1 q.2 B)) : waysR [x0, x1, x2, x3, x4, x5, x6, some (.c (Q.length + 2)), some (.c (Q.length + 3)), x9, x10, x11, x12, x13, x14, x15, x16, x17, x18, x19, x20, x21] (gM cs i Q q.1 q.2 B) PP := by
  have ll := ti.ll
  have lD : (stM cs i ++ Q).length = Q.length + 2 := lenD
  have e1 : (gM cs i Q q.1 q.2 B)[Q.length + 3]? = some (.dit (lX lwD q.2)) := by
    rw [gM_l, show Q.length + 3 = (stM cs i ++ Q).length + 1 by rw [lD]]; exact l1
  have e0 : hd (gM cs i Q q.1 q.2 B) (.c (Q.length + 2)) = .dic (hP q.1) := by
    rw [gM_l, show Q.length + 2 = (stM cs i ++ Q).length by rw [lD]]; exact hdl0
  obtain ⟨M, hM⟩ : ∃ M, gM cs i Q q.1 q.2 B = M := ⟨_, rfl⟩
  rw [hM] at h e1 e0 ⊢
  unfold waysR
  obtain ⟨rt, hrt⟩ : ∃ r : RT, rTb (rBin gGt (rGet2 (rVar 7) (rBin gIx (rVar 15) (rC (.int 0))) (rC (.int 0))) (rC (.int 0))) = r := ⟨_, rfl⟩
  rw [hrt]
  simp only [startX, rAsg, rgName, rVar, rC, rBin, rD, rCl, rFz, rTb, rTr, rIf, rIfS, rRet, rRetN, rNx, rCons, rNil, rTup, rTupC, rLst, rApp, rAppF, rCall, rPar, rNeg, rNot, rAnd, rOr, rChain, rLc, riSeq, rYes, rDrop, rFor, rApd, rExt, rgTup, rgCons, rgNil, rgSub, rIsiX, riRng1, riRng2, slot_z, slot_s, set_z, set_s, at0, at1, at2, at3, at4, at5, at6, dX_c, dX_n, gIx_tup, gIx_lst, gEq_ii, gEq_ss, gNe_ii, gNe_ss, gAdd_ii, gSub_ii, gLt_ii, gLe_ii, gGt_ii, gGe_ii, gIsN_d, gLen_l, gMax_ii, gMin_ii, gInt_b, gInt_i, gAbs_i, gApd_last, isLst_last, boX_b, tru_l, fzL_dX, fzL_n, fzL_cd, Option.map_some, fz_d, pk_d, ifS_some, hd_int, hd_str, hd_bool, hd_none, hd_list, hd_tuple, wipeX, List.map_cons, List.map_nil, List.length_cons, List.length_nil, List.replicate_succ, List.replicate_zero, List.cons_append, List.nil_append, List.append_nil, decide_eq_true_eq, if_true, if_false, Nat.reduceAdd, Nat.reduceSub, Nat.reduceLeDiff, Nat.zero_add, Nat.sub_zero]
  refine ⟨_, q.2, rfl, e1, ti.ln, by omega, ?_⟩
  try simp only [startX, rAsg, rgName, rVar, rC, rBin, rD, rCl, rFz, rTb, rTr, rIf, rIfS, rRet, rRetN, rNx, rCons, rNil, rTup, rTupC, rLst, rApp, rAppF, rCall, rPar, rNeg, rNot, rAnd, rOr, rChain, rLc, riSeq, rYes, rDrop, rFor, rApd, rExt, rgTup, rgCons, rgNil, rgSub, rIsiX, riRng1, riRng2, slot_z, slot_s, set_z, set_s, at0, at1, at2, at3, at4, at5, at6, dX_c, dX_n, gIx_tup, gIx_lst, gEq_ii, gEq_ss, gNe_ii, gNe_ss, gAdd_ii, gSub_ii, gLt_ii, gLe_ii, gGt_ii, gGe_ii, gIsN_d, gLen_l, gMax_ii, gMin_ii, gInt_b, gInt_i, gAbs_i, gApd_last, isLst_last, boX_b, tru_l, fzL_dX, fzL_n, fzL_cd, Option.map_some, fz_d, pk_d, ifS_some, hd_int, hd_str, hd_bool, hd_none, hd_list, hd_tuple, wipeX, List.map_cons, List.map_nil, List.length_cons, List.length_nil, List.replicate_succ, List.replicate_zero, List.cons_append, List.nil_append, List.append_nil, decide_eq_true_eq, if_true, if_false, Nat.reduceAdd, Nat.reduceSub, Nat.reduceLeDiff, Nat.zero_add, Nat.sub_zero]
  refine lcW_map rowD (fun e => decide (0 < getS q.1 e.giver)) rowD (by trivial) (openV q.2) [] (small (by have := openV_len q.2; simp only [List.length_nil]; omega)) (fun e he Kt Kf h1 h2 => ?_) ?_
  · simp only [rgName, set_z, set_s]
    rw [← hrt]
    refine Ev.tb (b := decide (0 < getS q.1 e.giver)) (Ev.bin (x := .d (.int (getS q.1 e.giver))) (y := .d (.int 0)) (Ev.get (Ev.var rfl) (Ev.bin (x := .d (rowD e)) (y := .d (.int 0)) (Ev.var rfl) (Ev.c _) fun P p => p) e0 (dget_S q.1 e.giver)) (Ev.c _) fun P p => by rw [gGt_ii]; exact p) ?_
    split
    · rename_i z; exact Ev.var rfl _ (h1 z)
    · rename_i z; exact h2 (by simpa using z)
  try simp only [startX, rAsg, rgName, rVar, rC, rBin, rD, rCl, rFz, rTb, rTr, rIf, rIfS, rRet, rRetN, rNx, rCons, rNil, rTup, rTupC, rLst, rApp, rAppF, rCall, rPar, rNeg, rNot, rAnd, rOr, rChain, rLc, riSeq, rYes, rDrop, rFor, rApd, rExt, rgTup, rgCons, rgNil, rgSub, rIsiX, riRng1, riRng2, slot_z, slot_s, set_z, set_s, at0, at1, at2, at3, at4, at5, at6, dX_c, dX_n, gIx_tup, gIx_lst, gEq_ii, gEq_ss, gNe_ii, gNe_ss, gAdd_ii, gSub_ii, gLt_ii, gLe_ii, gGt_ii, gGe_ii, gIsN_d, gLen_l, gMax_ii, gMin_ii, gInt_b, gInt_i, gAbs_i, gApd_last, isLst_last, boX_b, tru_l, fzL_dX, fzL_n, fzL_cd, Option.map_some, fz_d, pk_d, ifS_some, hd_int, hd_str, hd_bool, hd_none, hd_list, hd_tuple, wipeX, List.map_cons, List.map_nil, List.length_cons, List.length_nil, List.replicate_succ, List.replicate_zero, List.cons_append, List.nil_append, List.append_nil, decide_eq_true_eq, if_true, if_false, Nat.reduceAdd, Nat.reduceSub, Nat.reduceLeDiff, Nat.zero_add, Nat.sub_zero]
  exact h
structure TurnOk (q : Held × List Le) (t : Stp) : Prop where
  k : [.inr t.g, .inl t.n] ∈ q.2.map leK
  z : 0 ≤ t.z
theorem turn_spec {cs : List Int} {i : Int} {Q B : Sto} {own : Str} {q : Held × List Le} {S : List Stp} {x0 x2 x3 x4 x5 x6 x9 x10 x11 x13 x14 x15 x16 x17 x18 x19 x20 x21 : Option Xv} {PP : Out → Sto → Prop} (ok : StOk cs i) (ti : Ti own q) (sl : S.length ≤ 100)
    (h0 : ∀ x14, PP (.nx [x0, some (.c 1), x2, x3, x4, x5, x6, some (.c (Q.length + 2)), some (.c (Q.length + 3)), x9, x10, x11, some (.c (Q.length + 2 + (B.length + 2))), x13, x14, x15, x16, x17, x18, x19, x20, x21]) (gM cs i Q q.1 q.2 (B ++ [.lst (dX (S.map spD))])))
    (h1 : ∀ (t : Stp) (cs' : List Int) (i' : Int) (x14 x16 x17 x18 x19 x20 : Option Xv), StOk cs' i' → TurnOk q t → PP (.nx [x0, some (.c 1), x2, x3, x4, x5, x6, some (.c (Q.length + 2)), some (.c (Q.length + 3)), x9, x10, x11, some (.c (Q.length + 2 + (B.length + 2))), x13, x14, x15, x16, x17, x18, x19, x20, x21]) (gM cs' i' Q (moveS q t).1 (moveS q t).2 (B ++ [.lst (dX ((S ++ [t]).map spD))]))) :
    turnR [x0, some (.c 1), x2, x3, x4, x5, x6, some (.c (Q.length + 2)), some (.c (Q.length + 3)), x9, x10, x11, some (.c (Q.length + 2 + (B.length + 2))), x13, x14, x15, x16, x17, x18, x19, x20, x21] (gM cs i Q q.1 q.2 (B ++ [.lst (dX (S.map spD))])) PP := by
  have ll := ti.ll
  unfold turnR
  refine seq_step (asg_i (ways_spec ti ?_))
  simp only [rgName, set_z, set_s]
  have wl : (waysV q).length ≤ 16 := by
    have a := openV_len q.2
    have b : (waysV q).length ≤ (openV q.2).length := List.length_filter_le _ _
    omega
  obtain ⟨W, hW⟩ : ∃ W, waysV q = W := ⟨_, rfl⟩
  rw [hW] at wl ⊢
  have eln : ∀ (σ : Sl) (M : Sto), slot σ 14 = some (.d (.list (W.map rowD))) → Ev (rApp gLen (rCons (rVar 14) (rNil))) σ M (.d (.int W.length)) := fun σ M s => Ev.app (EvF.cons (Ev.var s) EvF.nil) fun P p => by rw [gLen_l, List.length_map]; exact p
  refine Ev.tb (b := decide ((0 : Int) < W.length)) (Ev.bin (x := .d (.int W.length)) (y := .d (.int 0)) (eln _ _ rfl) (Ev.c _) fun P p => by rw [gGt_ii]; exact p) ?_
  by_cases c : (0 : Int) < W.length
  rotate_left
  · rw [if_neg (by simpa using c)]
    exact h0 _
  rw [if_pos (by simpa using c)]
  refine seq_step (asg_i (bin_i (var_i rfl (take_ev rfl (eln _ _ rfl) ok c (by omega) fun v cs i ok v0 v1 => ?_))))
  obtain ⟨e, he, ea⟩ := at_in rowD v0 v1
  have ix : ∀ (M : Sto) (P : Xv → Sto → Prop), P (.d (rowD e)) M → gIx (.d (.list (W.map rowD))) (.d (.int v)) M P := fun M P p => by
    show ifS (atI (dX (W.map rowD)) v) _
    rw [ea]; exact p
  refine ix _ _ ?_
  rw [← hW] at he
  obtain ⟨he1, he2⟩ := List.mem_filter.mp he
  obtain ⟨em, er⟩ := openV_mem he1
  have hg : 0 < getS q.1 e.giver := of_decide_eq_true he2
  have hk := Ti.getO_of hg
  have rr := ti.rn e em
  simp only [rgTup, hd_row, List.length_cons, List.length_nil, rgCons, rgNil, rgName, set_z, set_s]
  refine ⟨trivial, ?_⟩
  have lD : (stM cs i ++ Q).length = Q.length + 2 := lenD
  have e0 : ∀ (cs : List Int) (i : Int) (h : Held) (L : List Le) (B : Sto), hd (gM cs i Q h L B) (.c (Q.length + 2)) = .dic (hP h) := fun cs i h L B => by
    rw [gM_l, show Q.length + 2 = (stM cs i ++ Q).length from lenD.symm]; exact hdl0
  refine seq_step (asg_i ?_)
  unfold stepR_
  refine tup_i (cons_i (var_i rfl (cons_i (var_i rfl (cons_i (bin_i (c_i (take_ev (most := min e.rest (getS q.1 e.giver)) rfl (Ev.app (EvF.cons (Ev.var rfl) (EvF.cons (Ev.bin (x := .c (Q.length + 2)) (y := .d (.str e.giver)) (Ev.var rfl) (Ev.var rfl) fun P p => by rw [gIx_h (e0 _ _ _ _ _) hk]; exact p) EvF.nil)) fun P p => by rw [gMin_ii]; exact p) ok (by omega) (by omega) fun z cs i ok z0 z1 => ?_))))))))
  rw [gAdd_ii]
  refine nil_i (lstD_i [.str e.giver, .int e.n, .int (1 + z)] ?_ (by simp))
  simp only [rgName, set_z, set_s]
  obtain ⟨t, ht⟩ : ∃ t : Stp, (⟨e.giver, e.n, 1 + z⟩ : Stp) = t := ⟨_, rfl⟩
  have tok : TurnOk q t := by rw [← ht]; exact ⟨List.mem_map.mpr ⟨e, em, rfl⟩, by show 0 ≤ 1 + z; omega⟩
  rw [show PyData.tuple [.str e.giver, .int e.n, .int (1 + z)] = spD t by rw [← ht]; rfl]
  have gl : ∀ o : Ob, (gM cs i Q q.1 q.2 (B ++ [o]))[Q.length + 2 + (B.length + 2)]? = some o := fun o => by
    rw [getD_]
    show (Ob.dic (hX q.1) :: Ob.dit (lX lwD q.2) :: (B ++ [o]))[B.length + 1 + 1]? = some o
    rw [List.getElem?_cons_succ, List.getElem?_cons_succ, getA0]; rfl
  have gs : ∀ o o' : Ob, (gM cs i Q q.1 q.2 (B ++ [o])).set (Q.length + 2 + (B.length + 2)) o' = gM cs i Q q.1 q.2 (B ++ [o']) := fun o o' => by
    rw [setD_]
    show dM cs i Q (Ob.dic (hX q.1) :: Ob.dit (lX lwD q.2) :: (B ++ [o]).set B.length o') = _
    rw [show (B ++ [o]).set B.length o' = B ++ [o'] from setA 0 o']
  refine seq_step (drop_i (apd_i (var_i rfl ⟨by rw [isLst_at (gl _)]; trivial, var_i rfl (gApd_at (gl _) ⟨by rw [List.length_map, List.length_map]; exact Nat.lt_of_lt_of_le (by omega : S.length < 101) (small (by omega)), ?_⟩)⟩)))
  rw [gs, show dX (S.map spD) ++ [Xv.d (spD t)] = dX ((S ++ [t]).map spD) by rw [List.map_append]; show _ = dX (S.map spD ++ [spD t]); rw [show dX (S.map spD ++ [spD t]) = dX (S.map spD) ++ dX [spD t] from List.map_append ..]; rfl]
  refine drop_i (call_i (cons_i (var_i rfl (cons_i (var_i rfl (cons_i (var_i rfl (nil_i ?_))))))))
  have hl := ti.len
  refine ⟨stM cs i ++ Q, q.1, q.2, B ++ [.lst (dX ((S ++ [t]).map spD))], t.g, t.n, t.z, by rw [lenD]; rfl, rfl, tok.k, ti.ln, by omega, by omega, ?_⟩
  exact h1 t cs i _ _ _ _ _ _ ok tok
end K31

set_option Elab.async false
set_option linter.all false
set_option maxRecDepth 100000
set_option maxHeartbeats 8000000
namespace K31
open PySem PySem.Spec PyProof.Rows L2 G
variable {P : Program} {w : World} {K : PySem.W.Frag} {mg : Str → Option Value} {base : Heap} {k : Nat}
section
variable {σ : Sl} {M : Sto} {cs : List Int} {i : Int} {Q B B' : Sto} {h : Held} {L : List Le}
/-! readings, one step -/
theorem if_f {t : RT} {a : RS} {P : Out → Sto → Prop} (h : t σ M fun b M1 => b = false ∧ P (.nx σ) M1) (mono : ∀ {T T' : Bool → Sto → Prop}, (∀ b M, T b M → T' b M) → t σ M T → t σ M T') : rIfS t a rNx σ M P :=
  mono (fun b M1 ⟨e, p⟩ => by subst e; exact p) h
theorem ifs_i {t : RT} {a b : RS} {P : Out → Sto → Prop} (h : t σ M fun k M1 => if k = true then a σ M1 P else b σ M1 P) : rIfS t a b σ M P := h
theorem or_i {t u : RT} {P : Bool → Sto → Prop} (h : t σ M fun c M1 => if c = true then P true M1 else u σ M1 P) : rOr t u σ M P := h
theorem tb_i {r : RE} {P : Bool → Sto → Prop} (h : r σ M fun x M1 => ifS (boX x) fun b => P b M1) : rTb r σ M P := h
theorem fzv_i {j n : Nat} {S : PyData} {P : Xv → Sto → Prop} (s : slot σ n = some (.c j)) (e : M[j]? = some (.frz S)) (h : P (.d S) M) : rFz (rVar n) σ M P := by
  unfold rFz
  refine var_i s ?_
  rw [fz_fr e]
  exact h
theorem fzl_i {j n : Nat} {ds : List PyData} {P : Xv → Sto → Prop} (s : slot σ n = some (.c j)) (e : M[j]? = some (.lst (dX ds))) (h : P (.d (.list ds)) (M.set j (.frz (.list ds)))) : rFz (rVar n) σ M P := by
  unfold rFz
  refine var_i s ?_
  rw [fz_lst e]
  exact h
theorem notlst_i {j n : Nat} {xs : List Xv} {P : Bool → Sto → Prop} (s : slot σ n = some (.c j)) (e : M[j]? = some (.lst xs)) (h : P false M) : rNot (rTr (rIsiX "list" (rVar n))) σ M P := by
  unfold rNot rTr rIsiX
  refine var_i s ?_
  rw [hd_at e, isi_ll]
  exact h
theorem args3_i {a : App} {day : Int} {S : PyData} {PL : List Xv → Sto → Prop} (s2 : slot σ 2 = some (.c 6)) (s5 : slot σ 5 = some (.d (appD a))) (s6 : slot σ 6 = some (.d (.int day))) (e : M[6]? = some (.frz S)) (h : PL [.d S, .d (.str a.nm), .d (.int day)] M) :
    rCons (rFz (rVar 2)) (rCons (rBin gIx (rVar 5) (rC (.int 0))) (rCons (rVar 6) (rNil))) σ M PL :=
  cons_i (fzv_i s2 e (cons_i (bin_i (var_i s5 (c_i (by rw [gIx_a0]; exact cons_i (var_i s6 (nil_i h))))))))
theorem gM_at (o : Ob) : (gM cs i Q h L (B ++ o :: B'))[Q.length + 2 + (B.length + 2)]? = some o := by
  rw [getD_]
  show (Ob.dic (hX h) :: Ob.dit (lX lwD L) :: (B ++ o :: B'))[B.length + 1 + 1]? = some o
  rw [List.getElem?_cons_succ, List.getElem?_cons_succ, getA0]; rfl
theorem gM_set (o o' : Ob) : (gM cs i Q h L (B ++ o :: B')).set (Q.length + 2 + (B.length + 2)) o' = gM cs i Q h L (B ++ o' :: B') := by
  rw [setD_]
  show dM cs i Q (Ob.dic (hX h) :: Ob.dit (lX lwD L) :: (B ++ o :: B').set B.length o') = _
  rw [show (B ++ o :: B').set B.length o' = B ++ o' :: B' from setA 0 o']
theorem gM_app (R : Sto) : gM cs i Q h L B ++ R = gM cs i Q h L (B ++ R) := by
  unfold gM dM
  rw [List.append_assoc]
  rfl
theorem gM_len : (gM cs i Q h L B).length = Q.length + 2 + (B.length + 2) := by
  unfold gM
  rw [lenD2]
  rfl
theorem gM_6 {S : PyData} (e : Q[4]? = some (.frz S)) : (gM cs i Q h L B)[6]? = some (.frz S) := by
  have h4 : 4 < Q.length := (List.getElem?_eq_some_iff.mp e).1
  unfold gM dM
  rw [List.append_assoc]
  show (Q ++ _)[4]? = _
  rw [List.getElem?_append_left h4]; exact e
theorem gM_h : (gM cs i Q h L B)[Q.length + 2]? = some (.dic (hX h)) := getD_ 0
theorem gM_L : (gM cs i Q h L B)[Q.length + 3]? = some (.dit (lX lwD L)) := getD_ 1
end
theorem sh_shaped {own : Str} {q : Held × List Le} (t : Ti own q) (so : PyData.strOk own = true) : SeqAt.shaped (.list ((shV q.1).map shD)) = true := shaped_l fun d hd => by
  obtain ⟨p, hp, rfl⟩ := List.mem_map.mp hd
  obtain ⟨y, hy, e⟩ := shV_mem p.1 (List.mem_map.mpr ⟨p, hp, rfl⟩)
  have hk := t.hs p.1 (List.mem_map.mpr ⟨y, hy, e⟩)
  have hs : PyData.strOk p.1 = true := by
    rcases List.mem_cons.mp hk with z | z
    · rw [z]; exact so
    · rcases List.mem_append.mp z with z | z
      · obtain ⟨x, hx, e⟩ := List.mem_map.mp z
        rw [← e]; exact (t.so x hx).1
      · obtain ⟨x, hx, e⟩ := List.mem_map.mp z
        rw [← e]; exact (t.so x hx).2
  simp [shD, PyData.canLay0, PyData.canLayAll0, PyData.depth, PyData.depthAll, hs]
theorem open_shaped {own : Str} {q : Held × List Le} (t : Ti own q) : SeqAt.shaped (.list ((openV q.2).map rowD)) = true := shaped_l fun d hd => by
  obtain ⟨e, he, rfl⟩ := List.mem_map.mp hd
  obtain ⟨h1, h2⟩ := t.so e (openV_mem he).1
  simp [rowD, PyData.canLay0, PyData.canLayAll0, PyData.depth, PyData.depthAll, h1, h2]
theorem sp_shaped {S : List Stp} (h : ∀ t ∈ S, PyData.strOk t.g = true) : SeqAt.shaped (.list (S.map spD)) = true := shaped_l fun d hd => by
  obtain ⟨t, ht, rfl⟩ := List.mem_map.mp hd
  have h1 := h t ht
  simp [spD, PyData.canLay0, PyData.canLayAll0, PyData.depth, PyData.depthAll, h1]
def sumR : RE := rD (rLc (riSeq (rVar 9)) (rgTup 2 (rgCons (rgName 10) (rgCons (rgName 11) (rgNil)))) (rYes) (rVar 11) [10, 11])
theorem sum_spec {x0 x1 x2 x3 x4 x5 x6 x7 x8 x10 x11 x12 x13 x14 x15 x16 x17 x18 x19 x20 x21 : Option Xv} {M : Sto} {j : Nat} {sh : List (Str × Int)} {PP : Xv → Sto → Prop} (e : M[j]? = some (.lst (dX (sh.map shD)))) (sl : sh.length ≤ 1000) (h : PP (.d (.list ((sh.map (·.2)).map .int))) M) :
    sumR [x0, x1, x2, x3, x4, x5, x6, x7, x8, some (.c j), x10, x11, x12, x13, x14, x15, x16, x17, x18, x19, x20, x21] M PP := by
  unfold sumR
  simp only [startX, rAsg, rgName, rVar, rC, rBin, rD, rCl, rFz, rTb, rTr, rIf, rIfS, rRet, rRetN, rNx, rCons, rNil, rTup, rTupC, rLst, rApp, rAppF, rCall, rPar, rNeg, rNot, rAnd, rOr, rChain, rLc, riSeq, rYes, rDrop, rFor, rApd, rExt, rgTup, rgCons, rgNil, rgSub, rIsiX, riRng1, riRng2, slot_z, slot_s, set_z, set_s, at0, at1, at2, at3, at4, at5, at6, dX_c, dX_n, gIx_tup, gIx_lst, gEq_ii, gEq_ss, gNe_ii, gNe_ss, gAdd_ii, gSub_ii, gLt_ii, gLe_ii, gGt_ii, gGe_ii, gIsN_d, gLen_l, gMax_ii, gMin_ii, gInt_b, gInt_i, gAbs_i, gApd_last, isLst_last, boX_b, tru_l, fzL_dX, fzL_n, fzL_cd, Option.map_some, fz_d, pk_d, ifS_some, hd_int, hd_str, hd_bool, hd_none, hd_list, hd_tuple, wipeX, List.map_cons, List.map_nil, List.length_cons, List.length_nil, List.replicate_succ, List.replicate_zero, List.cons_append, List.nil_append, List.append_nil, decide_eq_true_eq, if_true, if_false, Nat.reduceAdd, Nat.reduceSub, Nat.reduceLeDiff, Nat.zero_add, Nat.sub_zero, hd_at e]
  refine lcW_map shD (fun _ => true) (fun p => .int p.2) (by trivial) sh [] (small (by simp only [List.length_nil]; omega)) (fun p hp Kt Kf h1 h2 => ?_) ?_
  · simp only [rgTup, hd_sh, List.length_cons, List.length_nil, rgCons, rgNil, rgName, set_z, set_s]
    refine ⟨trivial, ?_⟩
    simp only [startX, rAsg, rgName, rVar, rC, rBin, rD, rCl, rFz, rTb, rTr, rIf, rIfS, rRet, rRetN, rNx, rCons, rNil, rTup, rTupC, rLst, rApp, rAppF, rCall, rPar, rNeg, rNot, rAnd, rOr, rChain, rLc, riSeq, rYes, rDrop, rFor, rApd, rExt, rgTup, rgCons, rgNil, rgSub, rIsiX, riRng1, riRng2, slot_z, slot_s, set_z, set_s, at0, at1, at2, at3, at4, at5, at6, dX_c, dX_n, gIx_tup, gIx_lst, gEq_ii, gEq_ss, gNe_ii, gNe_ss, gAdd_ii, gSub_ii, gLt_ii, gLe_ii, gGt_ii, gGe_ii, gIsN_d, gLen_l, gMax_ii, gMin_ii, gInt_b, gInt_i, gAbs_i, gApd_last, isLst_last, boX_b, tru_l, fzL_dX, fzL_n, fzL_cd, Option.map_some, fz_d, pk_d, ifS_some, hd_int, hd_str, hd_bool, hd_none, hd_list, hd_tuple, wipeX, List.map_cons, List.map_nil, List.length_cons, List.length_nil, List.replicate_succ, List.replicate_zero, List.cons_append, List.nil_append, List.append_nil, decide_eq_true_eq, if_true, if_false, Nat.reduceAdd, Nat.reduceSub, Nat.reduceLeDiff, Nat.zero_add, Nat.sub_zero]
    exact h1 rfl
  rw [show sh.filter (fun _ => true) = sh from List.filter_eq_self.mpr fun _ _ => rfl]
  try simp only [startX, rAsg, rgName, rVar, rC, rBin, rD, rCl, rFz, rTb, rTr, rIf, rIfS, rRet, rRetN, rNx, rCons, rNil, rTup, rTupC, rLst, rApp, rAppF, rCall, rPar, rNeg, rNot, rAnd, rOr, rChain, rLc, riSeq, rYes, rDrop, rFor, rApd, rExt, rgTup, rgCons, rgNil, rgSub, rIsiX, riRng1, riRng2, slot_z, slot_s, set_z, set_s, at0, at1, at2, at3, at4, at5, at6, dX_c, dX_n, gIx_tup, gIx_lst, gEq_ii, gEq_ss, gNe_ii, gNe_ss, gAdd_ii, gSub_ii, gLt_ii, gLe_ii, gGt_ii, gGe_ii, gIsN_d, gLen_l, gMax_ii, gMin_ii, gInt_b, gInt_i, gAbs_i, gApd_last, isLst_last, boX_b, tru_l, fzL_dX, fzL_n, fzL_cd, Option.map_some, fz_d, pk_d, ifS_some, hd_int, hd_str, hd_bool, hd_none, hd_list, hd_tuple, wipeX, List.map_cons, List.map_nil, List.length_cons, List.length_nil, List.replicate_succ, List.replicate_zero, List.cons_append, List.nil_append, List.append_nil, decide_eq_true_eq, if_true, if_false, Nat.reduceAdd, Nat.reduceSub, Nat.reduceLeDiff, Nat.zero_add, Nat.sub_zero]
  rw [List.map_map] at h
  exact h
theorem gSum_l (ns : List Int) (M : Sto) (P : Xv → Sto → Prop) (p : P (.d (.int ns.sum)) M) : gSum [.d (.list (ns.map .int))] M P := by
  unfold gSum
  show ifS (intsX (dX (ns.map .int))) _
  have : ∀ ns : List Int, intsX (dX (ns.map .int)) = some ns := by
    intro ns
    induction ns with
    | nil => rfl
    | cons n r ih =>
      show (intsX (dX (r.map .int))).map (n :: ·) = _
      rw [ih]; rfl
  rw [this ns]
  exact p
theorem gNe_cc {M : Sto} {j l : Nat} {ds : List PyData} {P : Xv → Sto → Prop} (e1 : M[j]? = some (.frz (.list ds))) (e2 : M[l]? = some (.lst (dX ds))) (sh : SeqAt.shaped (.list ds) = true) (h : P (.d (.bool false)) M) : gNe (.c j) (.c l) M P := by
  have := (gNe_same (M := M) (P := P) sh).mpr h
  unfold gNe at this ⊢
  rw [pk_d] at this
  rw [pk_lst e2, show pk M (.c j) = some (.list ds) by
    show pkN 6 M (.c j) = _
    unfold pkN
    simp only [e1]]
  exact this
theorem ifFF (p q : Prop) : (if false = true then p else q) = q := if_neg (by simp)
theorem gNe_d {d : PyData} {M : Sto} {P : Xv → Sto → Prop} (sh : SeqAt.shaped d = true) (h : P (.d (.bool false)) M) : gNe (.d d) (.d d) M P := (gNe_same sh).mpr h
theorem clist_i {σ : Sl} {M : Sto} {n j : Nat} {xs : List Xv} {P : Xv → Sto → Prop} (s : slot σ n = some (.c j)) (e : M[j]? = some (.lst xs)) (h : P (.c M.length) (M ++ [.lst xs])) : rCl (rAppF gList (rCons (rVar n) (rNil))) σ M P := by
  unfold rCl rAppF
  refine cons_i (var_i s (nil_i ?_))
  unfold gList
  simp only [hd_at e]
  exact h
theorem cnil_i {σ : Sl} {M : Sto} {P : Xv → Sto → Prop} (h : P (.c M.length) (M ++ [.lst []])) : rCl (rLst (rNil)) σ M P := ⟨by decide, h⟩
theorem args4_i {σ : Sl} {M : Sto} {a : App} {day : Int} {S : PyData} {j : Nat} {ds : List PyData} {PL : List Xv → Sto → Prop} (s2 : slot σ 2 = some (.c 6)) (s5 : slot σ 5 = some (.d (appD a))) (s6 : slot σ 6 = some (.d (.int day))) (s21 : slot σ 21 = some (.c j)) (e : M[6]? = some (.frz S)) (e2 : M[j]? = some (.lst (dX ds))) (h : PL [.d S, .d (.str a.nm), .d (.int day), .d (.list ds)] (M.set j (.frz (.list ds)))) :
    rCons (rFz (rVar 2)) (rCons (rBin gIx (rVar 5) (rC (.int 0))) (rCons (rVar 6) (rCons (rFz (rVar 21)) (rNil)))) σ M PL :=
  cons_i (fzv_i s2 e (cons_i (bin_i (var_i s5 (c_i (by rw [gIx_a0]; exact cons_i (var_i s6 (cons_i (fzl_i s21 e2 (nil_i h))))))))))
def bodyR : RS := rSeq (rAsg (rCall pf_ltitle (rCons (rFz (rVar 2)) (rCons (rBin gIx (rVar 5) (rC (.int 0))) (rCons (rVar 6) (rNil))))) (rgTup 2 (rgCons (rgName 7) (rgCons (rgName 8) (rgNil))))) (rSeq (rAsg (rCall pf_fsh (rCons (rFz (rVar 2)) (rCons (rBin gIx (rVar 5) (rC (.int 0))) (rCons (rVar 6) (rNil))))) (rgName 9)) (rSeq (rIfS (rOr (rNot (rTr (rIsiX "list" (rVar 9)))) (rOr (rTb (rBin gNe (rVar 9) (rCall pf_lshares (rCons (rVar 7) (rNil))))) (rTb (rBin gNe (rApp gSum (rCons sumR (rNil))) (rC (.int 1000)))))) (rRet (rC (.bool false))) (rNx)) (rSeq (rIfS (rTb (rBin gNe (rCall pf_fop (rCons (rFz (rVar 2)) (rCons (rBin gIx (rVar 5) (rC (.int 0))) (rCons (rVar 6) (rNil))))) (rCall pf_lleft (rCons (rVar 8) (rNil))))) (rRet (rC (.bool false))) (rNx)) (rSeq (rDrop (rApd (rVar 9) (rC (.str "zz")))) (rSeq (rAsg (rCl (rLst (rNil))) (rgName 12)) (rSeq (rFor (riRng1 (rCons (rCall (pfPre 2 pf_tk) (rCons (rVar 1) (rCons (rC (.int 7)) (rNil)))) (rNil))) (rgName 13) turnR) (rSeq (rAsg (rCl (rAppF gList (rCons (rVar 12) (rNil)))) (rgName 21)) (rIfS (rOr (rTb (rBin gNe (rCall pf_moved (rCons (rFz (rVar 2)) (rCons (rBin gIx (rVar 5) (rC (.int 0))) (rCons (rVar 6) (rCons (rFz (rVar 21)) (rNil)))))) (rCall pf_lshares (rCons (rVar 7) (rNil))))) (rTb (rBin gNe (rVar 21) (rVar 12)))) (rRet (rC (.bool false))) (rNx)))))))))
theorem body_spec {cs : List Int} {i : Int} {Q : Sto} {S : PyData} {m : Sd} {T : List Tr} {R : List Rg} {a : App} {day : Int} {x0 x3 x4 x7 x8 x9 x10 x11 x12 x13 x14 x15 x16 x17 x18 x19 x20 x21 : Option Xv} {PP : Out → Sto → Prop} (x : Wt S m T R) (dk : DealOk T R) (am : a ∈ m.apps) (eQ : Q[4]? = some (.frz S)) (ok : StOk cs i)
    (hp : ∀ (cs' : List Int) (i' : Int) (R' : Sto) (x7 x8 x9 x12 x13 x14 x16 x17 x18 x19 x20 x21 : Option Xv), StOk cs' i' → PP (.nx [x0, some (.c 1), some (.c 6), x3, x4, some (.d (appD a)), some (.d (.int day)), x7, x8, x9, x10, x11, x12, x13, x14, x15, x16, x17, x18, x19, x20, x21]) (dM cs' i' Q R')) :
    bodyR [x0, some (.c 1), some (.c 6), x3, x4, some (.d (appD a)), some (.d (.int day)), x7, x8, x9, x10, x11, x12, x13, x14, x15, x16, x17, x18, x19, x20, x21] (stM cs i ++ Q) PP := by
  have er := x.un a am
  have so := x.so a am
  have t0 := titleV_ti dk a.own a.nm day
  have e6 : (stM cs i ++ Q)[6]? = some (.frz S) := eQ
  unfold bodyR
  refine seq_step (asg_i (call_i (args3_i rfl rfl rfl e6 ⟨S, m, a.nm, a, day, T, R, rfl, x.I, x.g, er, x.I2, x.ro, ?_⟩)))
  obtain ⟨V, hV⟩ : ∃ V, titleV a.own T R a.nm day = V := ⟨_, rfl⟩
  rw [hV] at t0 ⊢
  rw [lenD, show (stM cs i ++ Q) ++ [Ob.dic (hX V.1), .dit (lX lwD V.2), .tup [.c (Q.length + 2), .c (Q.length + 2 + 1)]] = gM cs i Q V.1 V.2 ([] ++ .tup [.c (Q.length + 2), .c (Q.length + 2 + 1)] :: []) from rfl]
  have ht : hd (gM cs i Q V.1 V.2 ([] ++ .tup [.c (Q.length + 2), .c (Q.length + 2 + 1)] :: [])) (.c (Q.length + 2 + 2)) = .tup [.c (Q.length + 2), .c (Q.length + 2 + 1)] := by
    have := gM_at (cs := cs) (i := i) (Q := Q) (h := V.1) (L := V.2) (B := []) (B' := []) (.tup [.c (Q.length + 2), .c (Q.length + 2 + 1)])
    rw [show Q.length + 2 + (([] : Sto).length + 2) = Q.length + 2 + 2 from rfl] at this
    simp only [hd, this]
  simp only [rgTup, ht, List.length_cons, List.length_nil, rgCons, rgNil, rgName, set_z, set_s]
  refine ⟨trivial, ?_⟩
  obtain ⟨B0, hB0⟩ : ∃ B0 : Sto, [] ++ Ob.tup [.c (Q.length + 2), .c (Q.length + 2 + 1)] :: [] = B0 := ⟨_, rfl⟩
  rw [hB0]
  -- told
  refine seq_step (asg_i (call_i (args3_i rfl rfl rfl (gM_6 eQ) ⟨S, m, T, R, a.nm, a, day, rfl, x.I, x.g, er, x.I2, x.ro, fun B1 => ?_⟩)))
  rw [hV, gM_app, gM_len, ← List.append_assoc, show Q.length + 2 + (B0.length + 2) + B1.length = Q.length + 2 + ((B0 ++ B1).length + 2) by rw [List.length_append]; omega]
  obtain ⟨B2, hB2⟩ : ∃ B2, B0 ++ B1 = B2 := ⟨_, rfl⟩
  rw [hB2]
  simp only [rgName, set_z, set_s]
  have hl := t0.len
  have sl := shV_len (h := V.1) (by omega)
  have shs := sh_shaped t0 so
  obtain ⟨B3, hB3⟩ : ∃ B3, B2 ++ [Ob.lst (dX ((shV V.1).map shD))] = B3 := ⟨_, rfl⟩
  have e9 := gM_at (cs := cs) (i := i) (Q := Q) (h := V.1) (L := V.2) (B := B2) (B' := []) (.lst (dX ((shV V.1).map shD)))
  refine seq_step (ifs_i (or_i (notlst_i rfl e9 ?_)))
  rw [if_neg (by simp)]
  refine or_i (tb_i (bin_i (var_i rfl (call_i (cons_i (var_i rfl (nil_i ⟨Q.length + 2, V.1, rfl, gM_h, by omega, gNe_cell e9 shs ?_⟩)))))))
  simp only [boX, ifS_some, ifFF]
  refine tb_i (bin_i (app_i (cons_i (sum_spec e9 (by omega) (nil_i (gSum_l _ _ _ (c_i ?_)))))))
  rw [shV_sum t0, gNe_ii, show (!decide ((1000 : Int) = 1000)) = false from rfl]
  simp only [boX, ifS_some, ifFF]
  -- what is left
  refine seq_step (ifs_i (tb_i (bin_i (call_i (args3_i rfl rfl rfl (gM_6 eQ) ⟨S, m, T, R, a.nm, a, day, rfl, x.I, x.g, er, x.I2, x.ro, fun B4 => ?_⟩)))))
  have ll := t0.ll
  rw [hV, gM_app]
  refine call_i (cons_i (var_i rfl (nil_i ⟨Q.length + 3, V.2, rfl, gM_L, t0.ln, by omega, gNe_d (open_shaped t0) ?_⟩)))
  simp only [boX, ifS_some, ifFF]
  rw [List.append_assoc, show [Ob.lst (dX ((shV V.1).map shD))] ++ B4 = Ob.lst (dX ((shV V.1).map shD)) :: B4 from rfl]
  have e9' := gM_at (cs := cs) (i := i) (Q := Q) (h := V.1) (L := V.2) (B := B2) (B' := B4) (.lst (dX ((shV V.1).map shD)))
  refine seq_step (drop_i (apd_i (var_i rfl ⟨by rw [isLst_at e9']; trivial, c_i (gApd_at e9' ⟨by rw [List.length_map, List.length_map]; exact Nat.lt_of_lt_of_le (by omega : (shV V.1).length < 101) (small (by omega)), ?_⟩)⟩)))
  rw [gM_set]
  obtain ⟨B5, hB5⟩ : ∃ B5, B2 ++ Ob.lst (dX ((shV V.1).map shD) ++ [Xv.d (.str "zz")]) :: B4 = B5 := ⟨_, rfl⟩
  rw [hB5]
  refine seq_step (asg_i (cnil_i ?_))
  rw [gM_app, gM_len]
  simp only [rgName, set_z, set_s]
  -- the steps
  refine seq_step ?_
  unfold rFor riRng1
  refine cons_i (take_ev rfl (Ev.c _) ok (by omega) (by omega) fun v cs i ok v0 v1 => nil_i ?_)
  show _ ∧ _ ∧ _
  refine ⟨by omega, by omega, ?_⟩
  refine loopW_inv (fun xs σ M => ∃ (n : Nat) (lo : Int) (cs : List Int) (i : Int) (q : Held × List Le) (St : List Stp) (o13 o14 o16 o17 o18 o19 o20 : Option Xv), xs = rangeX lo n ∧ St.length + n ≤ 50 ∧ StOk cs i ∧ Ti a.own q ∧ St.foldl moveS V = q ∧ q.2.map leK = V.2.map leK ∧ (∀ t ∈ St, [.inr t.g, .inl t.n] ∈ V.2.map leK) ∧ M = gM cs i Q q.1 q.2 (B5 ++ [.lst (dX (St.map spD))]) ∧
    σ = [x0, some (.c 1), some (.c 6), x3, x4, some (.d (appD a)), some (.d (.int day)), some (.c (Q.length + 2)), some (.c (Q.length + 3)), some (.c (Q.length + 2 + (B2.length + 2))), x10, x11, some (.c (Q.length + 2 + (B5.length + 2))), o13, o14, x15, o16, o17, o18, o19, o20, x21]) ?_ ?_ _ _ _ ⟨v.toNat, 0, cs, i, V, [], _, _, _, _, _, _, _, rfl, by simp only [List.length_nil]; omega, ok, t0, rfl, rfl, by simp, rfl, rfl⟩
  · rintro y xs σ M ⟨n, lo, cs, i, q, St, o13, o14, o16, o17, o18, o19, o20, e, sn, ok, tq, fq, kq, ks, rfl, rfl⟩ CC hCC
    obtain ⟨n, rfl⟩ : ∃ n', n = n' + 1 := by
      cases n with
      | zero => cases e
      | succ n => exact ⟨n, rfl⟩
    rw [rangeX_succ] at e
    cases e
    refine ⟨trivial, ?_⟩
    simp only [rgName, set_z, set_s]
    refine turn_spec ok tq (by omega) (fun x14 => ?_) fun t cs i x14 x16 x17 x18 x19 x20 ok tk => ?_
    · exact hCC _ _ ⟨n, _, cs, i, q, St, _, _, _, _, _, _, _, rfl, by omega, ok, tq, fq, kq, ks, rfl, rfl⟩
    · refine hCC _ _ ⟨n, _, cs, i, moveS q t, St ++ [t], _, _, _, _, _, _, _, rfl, by rw [List.length_append, List.length_singleton]; omega, ok, tq.move tk.z, by rw [List.foldl_append, fq]; rfl, (moveV_keys ..).trans kq, fun s hs => ?_, rfl, rfl⟩
      rcases List.mem_append.mp hs with z | z
      · exact ks s z
      · rw [List.mem_singleton.mp z, ← kq]; exact tk.k
  rintro σ M ⟨n, lo, cs, i, q, St, o13, o14, o16, o17, o18, o19, o20, e, sn, ok, tq, fq, kq, ks, rfl, rfl⟩
  refine ⟨trivial, ?_⟩
  have hql := tq.len
  have shq := sh_shaped tq so
  have sps : SeqAt.shaped (.list (St.map spD)) = true := sp_shaped fun t ht => by
    obtain ⟨y, hy, ey⟩ := List.mem_map.mp (ks t ht)
    have : y.giver = t.g := by
      unfold leK at ey
      injection ey with e1 _
      injection e1
    rw [← this]; exact (t0.so y hy).1
  refine seq_step (asg_i (clist_i rfl (gM_at (B' := []) _) ?_))
  rw [gM_app, gM_len]
  simp only [rgName, set_z, set_s]
  obtain ⟨B6, hB6⟩ : ∃ B6, B5 ++ [Ob.lst (dX (St.map spD))] = B6 := ⟨_, rfl⟩
  rw [hB6]
  have fe := fq
  refine ifs_i (or_i (tb_i (bin_i (call_i (args4_i rfl rfl rfl rfl (gM_6 eQ) (gM_at (B' := []) _) ⟨S, m, T, R, a.nm, a, day, St, rfl, x.I, x.g, er, x.I2, x.ro, by omega, by rw [hV]; exact ks, by rw [hV, fq]; omega, fun B7 => ?_⟩)))))
  rw [hV, fq, gM_set, gM_app, gM_len]
  rw [show Q.length + 2 + ((B6 ++ Ob.frz (.list (St.map spD)) :: []).length + 2) + B7.length = Q.length + 2 + ((B6 ++ Ob.frz (.list (St.map spD)) :: B7).length + 2) by simp; omega,
    show B6 ++ Ob.frz (.list (St.map spD)) :: [] ++ (B7 ++ [Ob.lst (dX ((shV q.1).map shD))]) = B6 ++ Ob.frz (.list (St.map spD)) :: B7 ++ Ob.lst (dX ((shV q.1).map shD)) :: [] by simp]
  have e21 : ∀ o : Ob, (gM cs i Q q.1 q.2 (B6 ++ Ob.frz (.list (St.map spD)) :: B7 ++ o :: []))[Q.length + 2 + (B6.length + 2)]? = some (.frz (.list (St.map spD))) := fun o => by
    rw [List.append_assoc]
    exact gM_at _
  have e12 : ∀ o : Ob, (gM cs i Q q.1 q.2 (B6 ++ Ob.frz (.list (St.map spD)) :: B7 ++ o :: []))[Q.length + 2 + (B5.length + 2)]? = some (.lst (dX (St.map spD))) := fun o => by
    rw [← hB6, List.append_assoc, List.append_assoc]
    exact gM_at _
  refine call_i (cons_i (var_i rfl (nil_i ⟨Q.length + 2, q.1, rfl, gM_h, by omega, gNe_cell (gM_at _) shq ?_⟩)))
  simp only [boX, ifS_some, ifFF]
  refine tb_i (bin_i (var_i rfl (var_i rfl (gNe_cc (e21 _) (e12 _) sps ?_))))
  simp only [boX, ifS_some, ifFF]
  exact hp cs i _ _ _ _ _ _ _ _ _ _ _ _ _ ok
end K31

set_option Elab.async false
set_option linter.all false
set_option maxRecDepth 100000
set_option maxHeartbeats 8000000
namespace K31
open PySem PySem.Spec PyProof.Rows L2 G
variable {P : Program} {w : World} {K : PySem.W.Frag} {mg : Str → Option Value} {base : Heap} {k : Nat}
theorem wt_of {ks : List (Str × Option Str)} {ls : List (Str × Int)} {apps : List App} {C : List Int} {F : List (Str × Int × Int)} {T : List Tr} {R : List Rg} (o : OffOk ks ls apps C F) (dk : DealOk T R) : Wt (stD2 ks ls apps C F T R) ⟨apps, ls, C, F⟩ T R := by
  obtain ⟨lo, hlo, aok⟩ := o.aok
  have gd : Gd ⟨apps, ls, C, F⟩ := gd_st (cl := []) o.ll o.al hlo o.lok aok o.cl o.fok o.fl o.fp
  refine ⟨is_st2 .., gd, is2_st2 .., ⟨dk.tl, dk.rl, dk.of, fun t ht => (dk.tb t ht).k.1, fun r hr => (dk.rb r hr).g.1⟩, fun a ha => ?_, o.al, fun a ha => (aok.ow a ha).1⟩
  have ha : a ∈ apps := ha
  have hm : a ∈ apps.filter fun b => decide (b.nm = a.nm) := List.mem_filter.mpr ⟨ha, decide_eq_true rfl⟩
  show (apps.filter fun b => decide (b.nm = a.nm)).head? = some a
  cases q : apps.filter fun b => decide (b.nm = a.nm) with
  | nil => rw [q] at hm; cases hm
  | cons y ys =>
    have hy : y ∈ apps.filter fun b => decide (b.nm = a.nm) := by rw [q]; exact List.mem_cons_self
    obtain ⟨h1, h2⟩ := List.mem_filter.mp hy
    rw [aok.un y h1 a ha (of_decide_eq_true h2)]; rfl
theorem a2_i {σ : Sl} {M : Sto} {a : App} {P : Xv → Sto → Prop} (s : slot σ 5 = some (.d (appD a))) (h : P (.d (.int a.filed)) M) : rBin gIx (rVar 5) (rC (.int 2)) σ M P :=
  bin_i (var_i s (c_i (by rw [gIx_a2]; exact h)))
def daysR : RE := rD (rLst (rCons (rBin gIx (rVar 5) (rC (.int 2))) (rCons (rBin gAdd (rBin gIx (rVar 5) (rC (.int 2))) (rCall (pfPre 2 pf_tk) (rCons (rVar 1) (rCons (rC (.int 90)) (rNil))))) (rCons (rBin gAdd (rBin gIx (rVar 5) (rC (.int 2))) (rCall (pfPre 2 pf_tk) (rCons (rVar 1) (rCons (rC (.int 90)) (rNil))))) (rCons (rC (.int 9000)) (rNil))))))
theorem days_spec {σ : Sl} {cs : List Int} {i : Int} {L : Sto} {a : App} {P : Xv → Sto → Prop} (s1 : slot σ 1 = some (.c 1)) (s5 : slot σ 5 = some (.d (appD a))) (ok : StOk cs i) (h : ∀ (ds : List Int) cs' i', StOk cs' i' → P (.d (.list (ds.map .int))) (stM cs' i' ++ L)) : daysR σ (stM cs i ++ L) P := by
  unfold daysR
  refine lst_i (cons_i (a2_i s5 (cons_i (bin_i (a2_i s5 (take_g s1 ok (by decide) (by decide) fun v cs i ok v0 v1 => ?_))))))
  rw [gAdd_ii]
  refine cons_i (bin_i (a2_i s5 (take_g s1 ok (by decide) (by decide) fun v2 cs i ok v0 v1 => ?_)))
  rw [gAdd_ii]
  exact cons_i (c_i (nil_i (lstD_i [.int a.filed, .int (a.filed + v), .int (a.filed + v2), .int 9000] (h [a.filed, a.filed + v, a.filed + v2, 9000] cs i ok) (by simp))))
theorem ok_law (D : DefOk K mg "law" ["script"] (defArgs s_law) (defBody s_law) (defScope s_law)) (Z : Fx K mg base)
    (C1 : Cal P w K mg base k "_law_state" ["script"] pf_st) (C2 : Cal P w K mg base k "_law_office" ["state"] pf_off) (C3 : Cal P w K mg base k "_law_deals" ["state", "s", "people", "most"] pf_deals) (C4 : Cal P w K mg base k "_law_take" ["state", "most"] (pfPre 2 pf_tk))
    (C5 : Cal P w K mg base k "_law_title" ["s", "name", "day"] pf_ltitle) (C6 : Cal P w K mg base k "shares" ["state", "name", "day"] pf_fsh) (C7 : Cal P w K mg base k "_law_shares" ["held"] pf_lshares) (C8 : Cal P w K mg base k "open_transfers" ["state", "name", "day"] pf_fop) (C9 : Cal P w K mg base k "_law_left" ["left"] pf_lleft) (C10 : Cal P w K mg base k "_law_move" ["held", "left", "step"] pf_lmove) (C11 : Cal P w K mg base k "moved" ["state", "name", "day", "steps"] pf_moved) :
    Cal P w K mg base (k + 1) "law" ["script"] (pfLaw 63) := by
  refine Cal.mk_ (k := k) D sc_law (sd_law Z C1 C2 C3 C4 C5 C6 C7 C8 C9 C10 C11) (fun xs M R ⟨_, e, _⟩ => by rw [e]; rfl) (fun xs M R' h => ?_)
  obtain ⟨nums, rfl, rfl, _, h⟩ := h
  unfold b_law
  obtain ⟨DY, hDY⟩ : ∃ r, daysR = r := ⟨_, rfl⟩
  obtain ⟨BD, hBD⟩ : ∃ r, bodyR = r := ⟨_, rfl⟩
  have d2 := hDY
  have b2 := hBD
  unfold daysR at d2
  unfold bodyR turnR waysR stepR_ sumR at b2
  rw [d2, b2]
  clear d2 b2
  simp only [startX, rAsg, rgName, rVar, rC, rBin, rD, rCl, rFz, rTb, rTr, rIf, rIfS, rRet, rRetN, rNx, rCons, rNil, rTup, rTupC, rLst, rApp, rAppF, rCall, rPar, rNeg, rNot, rAnd, rOr, rChain, rLc, riSeq, rYes, rDrop, rFor, rApd, rExt, rgTup, rgCons, rgNil, rgSub, rIsiX, riRng1, riRng2, slot_z, slot_s, set_z, set_s, at0, at1, at2, at3, at4, at5, at6, dX_c, dX_n, gIx_tup, gIx_lst, gEq_ii, gEq_ss, gNe_ii, gNe_ss, gAdd_ii, gSub_ii, gLt_ii, gLe_ii, gGt_ii, gGe_ii, gIsN_d, gLen_l, gMax_ii, gMin_ii, gInt_b, gInt_i, gAbs_i, gApd_last, isLst_last, boX_b, tru_l, fzL_dX, fzL_n, fzL_cd, Option.map_some, fz_d, pk_d, ifS_some, hd_int, hd_str, hd_bool, hd_none, hd_list, hd_tuple, wipeX, List.map_cons, List.map_nil, List.length_cons, List.length_nil, List.replicate_succ, List.replicate_zero, List.cons_append, List.nil_append, List.append_nil, decide_eq_true_eq, if_true, if_false, Nat.reduceAdd, Nat.reduceSub, Nat.reduceLeDiff, Nat.zero_add, Nat.sub_zero, N_law]
  refine seq_step ?_
  try simp only [startX, rAsg, rgName, rVar, rC, rBin, rD, rCl, rFz, rTb, rTr, rIf, rIfS, rRet, rRetN, rNx, rCons, rNil, rTup, rTupC, rLst, rApp, rAppF, rCall, rPar, rNeg, rNot, rAnd, rOr, rChain, rLc, riSeq, rYes, rDrop, rFor, rApd, rExt, rgTup, rgCons, rgNil, rgSub, rIsiX, riRng1, riRng2, slot_z, slot_s, set_z, set_s, at0, at1, at2, at3, at4, at5, at6, dX_c, dX_n, gIx_tup, gIx_lst, gEq_ii, gEq_ss, gNe_ii, gNe_ss, gAdd_ii, gSub_ii, gLt_ii, gLe_ii, gGt_ii, gGe_ii, gIsN_d, gLen_l, gMax_ii, gMin_ii, gInt_b, gInt_i, gAbs_i, gApd_last, isLst_last, boX_b, tru_l, fzL_dX, fzL_n, fzL_cd, Option.map_some, fz_d, pk_d, ifS_some, hd_int, hd_str, hd_bool, hd_none, hd_list, hd_tuple, wipeX, List.map_cons, List.map_nil, List.length_cons, List.length_nil, List.replicate_succ, List.replicate_zero, List.cons_append, List.nil_append, List.append_nil, decide_eq_true_eq, if_true, if_false, Nat.reduceAdd, Nat.reduceSub, Nat.reduceLeDiff, Nat.zero_add, Nat.sub_zero]
  refine ⟨nums, rfl, rfl, fun cs i ok => ?_⟩
  refine seq_step ?_
  try simp only [startX, rAsg, rgName, rVar, rC, rBin, rD, rCl, rFz, rTb, rTr, rIf, rIfS, rRet, rRetN, rNx, rCons, rNil, rTup, rTupC, rLst, rApp, rAppF, rCall, rPar, rNeg, rNot, rAnd, rOr, rChain, rLc, riSeq, rYes, rDrop, rFor, rApd, rExt, rgTup, rgCons, rgNil, rgSub, rIsiX, riRng1, riRng2, slot_z, slot_s, set_z, set_s, at0, at1, at2, at3, at4, at5, at6, dX_c, dX_n, gIx_tup, gIx_lst, gEq_ii, gEq_ss, gNe_ii, gNe_ss, gAdd_ii, gSub_ii, gLt_ii, gLe_ii, gGt_ii, gGe_ii, gIsN_d, gLen_l, gMax_ii, gMin_ii, gInt_b, gInt_i, gAbs_i, gApd_last, isLst_last, boX_b, tru_l, fzL_dX, fzL_n, fzL_cd, Option.map_some, fz_d, pk_d, ifS_some, hd_int, hd_str, hd_bool, hd_none, hd_list, hd_tuple, wipeX, List.map_cons, List.map_nil, List.length_cons, List.length_nil, List.replicate_succ, List.replicate_zero, List.cons_append, List.nil_append, List.append_nil, decide_eq_true_eq, if_true, if_false, Nat.reduceAdd, Nat.reduceSub, Nat.reduceLeDiff, Nat.zero_add, Nat.sub_zero]
  refine ⟨cs, i, rfl, rfl, ok, fun ks ls apps C F A cs i off hA ok => ?_⟩
  obtain ⟨a, b, c, d, rfl⟩ : ∃ a b c d, A = [a, b, c, d] := by
    match A, hA with
    | [a, b, c, d], _ => exact ⟨a, b, c, d, rfl⟩
  simp only [rgTup, rgCons, rgNil, rgName, show hd (stM cs i ++ ([a, b, c, d] ++ [.dic (stX ks ls apps C F), .tup [.c 6, .d ppD]])) (.c 7) = .tup [.c 6, .d ppD] from rfl, List.length_cons, List.length_nil, set_z, set_s]
  refine ⟨trivial, ?_⟩
  refine seq_step ?_
  try simp only [startX, rAsg, rgName, rVar, rC, rBin, rD, rCl, rFz, rTb, rTr, rIf, rIfS, rRet, rRetN, rNx, rCons, rNil, rTup, rTupC, rLst, rApp, rAppF, rCall, rPar, rNeg, rNot, rAnd, rOr, rChain, rLc, riSeq, rYes, rDrop, rFor, rApd, rExt, rgTup, rgCons, rgNil, rgSub, rIsiX, riRng1, riRng2, slot_z, slot_s, set_z, set_s, at0, at1, at2, at3, at4, at5, at6, dX_c, dX_n, gIx_tup, gIx_lst, gEq_ii, gEq_ss, gNe_ii, gNe_ss, gAdd_ii, gSub_ii, gLt_ii, gLe_ii, gGt_ii, gGe_ii, gIsN_d, gLen_l, gMax_ii, gMin_ii, gInt_b, gInt_i, gAbs_i, gApd_last, isLst_last, boX_b, tru_l, fzL_dX, fzL_n, fzL_cd, Option.map_some, fz_d, pk_d, ifS_some, hd_int, hd_str, hd_bool, hd_none, hd_list, hd_tuple, wipeX, List.map_cons, List.map_nil, List.length_cons, List.length_nil, List.replicate_succ, List.replicate_zero, List.cons_append, List.nil_append, List.append_nil, decide_eq_true_eq, if_true, if_false, Nat.reduceAdd, Nat.reduceSub, Nat.reduceLeDiff, Nat.zero_add, Nat.sub_zero]
  refine ⟨10, cs, i, a, b, c, d, [.tup [.c 6, .d ppD]], ks, ls, apps, C, F, rfl, rfl, by decide, by decide, ok, off, fun T R cs i B dk ok => ?_⟩
  try simp only [startX, rAsg, rgName, rVar, rC, rBin, rD, rCl, rFz, rTb, rTr, rIf, rIfS, rRet, rRetN, rNx, rCons, rNil, rTup, rTupC, rLst, rApp, rAppF, rCall, rPar, rNeg, rNot, rAnd, rOr, rChain, rLc, riSeq, rYes, rDrop, rFor, rApd, rExt, rgTup, rgCons, rgNil, rgSub, rIsiX, riRng1, riRng2, slot_z, slot_s, set_z, set_s, at0, at1, at2, at3, at4, at5, at6, dX_c, dX_n, gIx_tup, gIx_lst, gEq_ii, gEq_ss, gNe_ii, gNe_ss, gAdd_ii, gSub_ii, gLt_ii, gLe_ii, gGt_ii, gGe_ii, gIsN_d, gLen_l, gMax_ii, gMin_ii, gInt_b, gInt_i, gAbs_i, gApd_last, isLst_last, boX_b, tru_l, fzL_dX, fzL_n, fzL_cd, Option.map_some, fz_d, pk_d, ifS_some, hd_int, hd_str, hd_bool, hd_none, hd_list, hd_tuple, wipeX, List.map_cons, List.map_nil, List.length_cons, List.length_nil, List.replicate_succ, List.replicate_zero, List.cons_append, List.nil_append, List.append_nil, decide_eq_true_eq, if_true, if_false, Nat.reduceAdd, Nat.reduceSub, Nat.reduceLeDiff, Nat.zero_add, Nat.sub_zero]
  have x := wt_of off dk
  obtain ⟨lo2, hlo, aok⟩ := off.aok
  have rps := rp_st2 off.kl off.kok off.ll off.al hlo off.lok aok off.cl (fun x hx => (off.cok x hx).1) off.fok off.fl dk.tl dk.rl dk.tb dk.rb
  obtain ⟨L, hL⟩ : ∃ L, (Ob.tup [.c 6, .d ppD] :: B) = L := ⟨_, rfl⟩
  rw [hL]
  refine seq_step ?_
  simp only [startX, rAsg, rgName, rVar, rC, rBin, rD, rCl, rFz, rTb, rTr, rIf, rIfS, rRet, rRetN, rNx, rCons, rNil, rTup, rTupC, rLst, rApp, rAppF, rCall, rPar, rNeg, rNot, rAnd, rOr, rChain, rLc, riSeq, rYes, rDrop, rFor, rApd, rExt, rgTup, rgCons, rgNil, rgSub, rIsiX, riRng1, riRng2, slot_z, slot_s, set_z, set_s, at0, at1, at2, at3, at4, at5, at6, dX_c, dX_n, gIx_tup, gIx_lst, gEq_ii, gEq_ss, gNe_ii, gNe_ss, gAdd_ii, gSub_ii, gLt_ii, gLe_ii, gGt_ii, gGe_ii, gIsN_d, gLen_l, gMax_ii, gMin_ii, gInt_b, gInt_i, gAbs_i, gApd_last, isLst_last, boX_b, tru_l, fzL_dX, fzL_n, fzL_cd, Option.map_some, fz_d, pk_d, ifS_some, hd_int, hd_str, hd_bool, hd_none, hd_list, hd_tuple, wipeX, List.map_cons, List.map_nil, List.length_cons, List.length_nil, List.replicate_succ, List.replicate_zero, List.cons_append, List.nil_append, List.append_nil, decide_eq_true_eq, if_true, if_false, Nat.reduceAdd, Nat.reduceSub, Nat.reduceLeDiff, Nat.zero_add, Nat.sub_zero]
  rw [show fz (stM cs i ++ offQ a b c d ks ls apps C F T R L) (.c 6) = some (stD2 ks ls apps C F T R, stM cs i ++ (a :: b :: c :: d :: .frz (stD2 ks ls apps C F T R) :: L)) from fz_dic (M := stM cs i ++ offQ a b c d ks ls apps C F T R L) (j := 6) (ps := stKvs2 ks ls apps C F T R) rfl, ifS_some]
  have gr : ∀ (M : Sto) (P : Xv → Sto → Prop), P (.d (.str (PyData.shown (stD2 ks ls apps C F T R)))) M → gRepr [.d (stD2 ks ls apps C F T R)] M P := fun M P p => gRepr_d rps (by decide) (by decide) rfl p
  obtain ⟨S, hS⟩ : ∃ S, stD2 ks ls apps C F T R = S := ⟨_, rfl⟩
  rw [hS] at x gr
  simp only [hS]
  obtain ⟨kept, hk⟩ : ∃ y : Str, PyData.shown S = y := ⟨_, rfl⟩
  rw [hk] at gr
  refine gr _ _ ?_
  try simp only [startX, rAsg, rgName, rVar, rC, rBin, rD, rCl, rFz, rTb, rTr, rIf, rIfS, rRet, rRetN, rNx, rCons, rNil, rTup, rTupC, rLst, rApp, rAppF, rCall, rPar, rNeg, rNot, rAnd, rOr, rChain, rLc, riSeq, rYes, rDrop, rFor, rApd, rExt, rgTup, rgCons, rgNil, rgSub, rIsiX, riRng1, riRng2, slot_z, slot_s, set_z, set_s, at0, at1, at2, at3, at4, at5, at6, dX_c, dX_n, gIx_tup, gIx_lst, gEq_ii, gEq_ss, gNe_ii, gNe_ss, gAdd_ii, gSub_ii, gLt_ii, gLe_ii, gGt_ii, gGe_ii, gIsN_d, gLen_l, gMax_ii, gMin_ii, gInt_b, gInt_i, gAbs_i, gApd_last, isLst_last, boX_b, tru_l, fzL_dX, fzL_n, fzL_cd, Option.map_some, fz_d, pk_d, ifS_some, hd_int, hd_str, hd_bool, hd_none, hd_list, hd_tuple, wipeX, List.map_cons, List.map_nil, List.length_cons, List.length_nil, List.replicate_succ, List.replicate_zero, List.cons_append, List.nil_append, List.append_nil, decide_eq_true_eq, if_true, if_false, Nat.reduceAdd, Nat.reduceSub, Nat.reduceLeDiff, Nat.zero_add, Nat.sub_zero]
  clear hS rps hk
  obtain ⟨m, hm⟩ : ∃ m : Sd, (⟨apps, ls, C, F⟩ : Sd) = m := ⟨_, rfl⟩
  have ma : m.apps = apps := by rw [← hm]
  rw [hm] at x
  have fzY : ∀ (cs : List Int) (i : Int) (L : Sto), fz (stM cs i ++ (a :: b :: c :: d :: .frz S :: L)) (.c 6) = some (S, stM cs i ++ (a :: b :: c :: d :: .frz S :: L)) := fun cs i L => fz_fr rfl
  refine seq_step ?_
  simp only [startX, rAsg, rgName, rVar, rC, rBin, rD, rCl, rFz, rTb, rTr, rIf, rIfS, rRet, rRetN, rNx, rCons, rNil, rTup, rTupC, rLst, rApp, rAppF, rCall, rPar, rNeg, rNot, rAnd, rOr, rChain, rLc, riSeq, rYes, rDrop, rFor, rApd, rExt, rgTup, rgCons, rgNil, rgSub, rIsiX, riRng1, riRng2, slot_z, slot_s, set_z, set_s, at0, at1, at2, at3, at4, at5, at6, dX_c, dX_n, gIx_tup, gIx_lst, gEq_ii, gEq_ss, gNe_ii, gNe_ss, gAdd_ii, gSub_ii, gLt_ii, gLe_ii, gGt_ii, gGe_ii, gIsN_d, gLen_l, gMax_ii, gMin_ii, gInt_b, gInt_i, gAbs_i, gApd_last, isLst_last, boX_b, tru_l, fzL_dX, fzL_n, fzL_cd, Option.map_some, fz_d, pk_d, ifS_some, hd_int, hd_str, hd_bool, hd_none, hd_list, hd_tuple, wipeX, List.map_cons, List.map_nil, List.length_cons, List.length_nil, List.replicate_succ, List.replicate_zero, List.cons_append, List.nil_append, List.append_nil, decide_eq_true_eq, if_true, if_false, Nat.reduceAdd, Nat.reduceSub, Nat.reduceLeDiff, Nat.zero_add, Nat.sub_zero, show ∀ (P : Xv → Sto → Prop), gIx (.c 6) (.d (.str "applications")) (stM cs i ++ (a :: b :: c :: d :: .frz S :: L)) P = P (.d (.list (m.apps.map appD))) (stM cs i ++ (a :: b :: c :: d :: .frz S :: L)) from fun P => gIx_fr rfl x.I.fa]
  refine loopW_inv (fun xs σ M => ∃ (rest : List App) (cs : List Int) (i : Int) (L : Sto) (o5 o6 o7 o8 o9 o10 o11 o12 o13 o14 o15 o16 o17 o18 o19 o20 o21 : Option Xv), xs = dX (rest.map appD) ∧ (∀ a ∈ rest, a ∈ m.apps) ∧ StOk cs i ∧ M = stM cs i ++ (a :: b :: c :: d :: .frz S :: L) ∧
    σ = [some (.d (.list (nums.map .int))), some (.c 1), some (.c 6), some (.d ppD), some (.d (.str kept)), o5, o6, o7, o8, o9, o10, o11, o12, o13, o14, o15, o16, o17, o18, o19, o20, o21]) ?_ ?_ _ _ _ ⟨m.apps, cs, i, L, _, _, _, _, _, _, _, _, _, _, _, _, _, _, _, _, _, rfl, fun a ha => ha, ok, rfl, rfl⟩
  rotate_left
  · rintro σ M ⟨rest, cs, i, L, o5, o6, o7, o8, o9, o10, o11, o12, o13, o14, o15, o16, o17, o18, o19, o20, o21, e, _, ok, rfl, rfl⟩
    refine ⟨trivial, ?_⟩
    simp only [startX, rAsg, rgName, rVar, rC, rBin, rD, rCl, rFz, rTb, rTr, rIf, rIfS, rRet, rRetN, rNx, rCons, rNil, rTup, rTupC, rLst, rApp, rAppF, rCall, rPar, rNeg, rNot, rAnd, rOr, rChain, rLc, riSeq, rYes, rDrop, rFor, rApd, rExt, rgTup, rgCons, rgNil, rgSub, rIsiX, riRng1, riRng2, slot_z, slot_s, set_z, set_s, at0, at1, at2, at3, at4, at5, at6, dX_c, dX_n, gIx_tup, gIx_lst, gEq_ii, gEq_ss, gNe_ii, gNe_ss, gAdd_ii, gSub_ii, gLt_ii, gLe_ii, gGt_ii, gGe_ii, gIsN_d, gLen_l, gMax_ii, gMin_ii, gInt_b, gInt_i, gAbs_i, gApd_last, isLst_last, boX_b, tru_l, fzL_dX, fzL_n, fzL_cd, Option.map_some, fz_d, pk_d, ifS_some, hd_int, hd_str, hd_bool, hd_none, hd_list, hd_tuple, wipeX, List.map_cons, List.map_nil, List.length_cons, List.length_nil, List.replicate_succ, List.replicate_zero, List.cons_append, List.nil_append, List.append_nil, decide_eq_true_eq, if_true, if_false, Nat.reduceAdd, Nat.reduceSub, Nat.reduceLeDiff, Nat.zero_add, Nat.sub_zero, fzY]
    refine gr _ _ ?_
    simp only [startX, rAsg, rgName, rVar, rC, rBin, rD, rCl, rFz, rTb, rTr, rIf, rIfS, rRet, rRetN, rNx, rCons, rNil, rTup, rTupC, rLst, rApp, rAppF, rCall, rPar, rNeg, rNot, rAnd, rOr, rChain, rLc, riSeq, rYes, rDrop, rFor, rApd, rExt, rgTup, rgCons, rgNil, rgSub, rIsiX, riRng1, riRng2, slot_z, slot_s, set_z, set_s, at0, at1, at2, at3, at4, at5, at6, dX_c, dX_n, gIx_tup, gIx_lst, gEq_ii, gEq_ss, gNe_ii, gNe_ss, gAdd_ii, gSub_ii, gLt_ii, gLe_ii, gGt_ii, gGe_ii, gIsN_d, gLen_l, gMax_ii, gMin_ii, gInt_b, gInt_i, gAbs_i, gApd_last, isLst_last, boX_b, tru_l, fzL_dX, fzL_n, fzL_cd, Option.map_some, fz_d, pk_d, ifS_some, hd_int, hd_str, hd_bool, hd_none, hd_list, hd_tuple, wipeX, List.map_cons, List.map_nil, List.length_cons, List.length_nil, List.replicate_succ, List.replicate_zero, List.cons_append, List.nil_append, List.append_nil, decide_eq_true_eq, if_true, if_false, Nat.reduceAdd, Nat.reduceSub, Nat.reduceLeDiff, Nat.zero_add, Nat.sub_zero, decide_true]
    exact h _
  rintro y xs σ M ⟨rest, cs, i, L, o5, o6, o7, o8, o9, o10, o11, o12, o13, o14, o15, o16, o17, o18, o19, o20, o21, e, hr, ok, rfl, rfl⟩ CC hCC
  obtain ⟨ap, rest, rfl⟩ : ∃ a r, rest = a :: r := by
    cases rest with
    | nil => cases e
    | cons a r => exact ⟨a, r, rfl⟩
  rw [List.map_cons, dX_c] at e
  cases e
  refine ⟨trivial, ?_⟩
  simp only [rgName, set_z, set_s]
  unfold rFor riSeq
  rw [← hDY]
  refine days_spec rfl rfl ok fun ds cs i ok => ?_
  show loopW _ _ _ _ _ _ _
  refine loopW_inv (fun xs σ M => ∃ (ds : List Int) (cs : List Int) (i : Int) (L : Sto) (o6 o7 o8 o9 o10 o11 o12 o13 o14 o15 o16 o17 o18 o19 o20 o21 : Option Xv), xs = dX (ds.map .int) ∧ StOk cs i ∧ M = stM cs i ++ (a :: b :: c :: d :: .frz S :: L) ∧
    σ = [some (.d (.list (nums.map .int))), some (.c 1), some (.c 6), some (.d ppD), some (.d (.str kept)), some (.d (appD ap)), o6, o7, o8, o9, o10, o11, o12, o13, o14, o15, o16, o17, o18, o19, o20, o21]) ?_ ?_ _ _ _ ⟨ds, cs, i, L, _, _, _, _, _, _, _, _, _, _, _, _, _, _, _, _, rfl, ok, rfl, rfl⟩
  rotate_left
  · rintro σ M ⟨ds, cs, i, L, o6, o7, o8, o9, o10, o11, o12, o13, o14, o15, o16, o17, o18, o19, o20, o21, e, ok, rfl, rfl⟩
    exact ⟨trivial, hCC _ _ ⟨rest, cs, i, L, _, _, _, _, _, _, _, _, _, _, _, _, _, _, _, _, _, rfl, fun z hz => hr z (List.mem_cons_of_mem _ hz), ok, rfl, rfl⟩⟩
  rintro y xs σ M ⟨ds, cs, i, L, o6, o7, o8, o9, o10, o11, o12, o13, o14, o15, o16, o17, o18, o19, o20, o21, e, ok, rfl, rfl⟩ C2 hC2
  obtain ⟨day, ds, rfl⟩ : ∃ a r, ds = a :: r := by
    cases ds with
    | nil => cases e
    | cons a r => exact ⟨a, r, rfl⟩
  rw [List.map_cons, dX_c] at e
  cases e
  refine ⟨trivial, ?_⟩
  simp only [rgName, set_z, set_s]
  rw [← hBD]
  refine body_spec x dk (hr ap List.mem_cons_self) (Q := a :: b :: c :: d :: .frz S :: L) rfl ok fun cs i R' x7 x8 x9 x12 x13 x14 x16 x17 x18 x19 x20 x21 ok => ?_
  exact hC2 _ _ ⟨ds, cs, i, L ++ R', _, _, _, _, _, _, _, _, _, _, _, _, _, _, _, _, rfl, ok, List.append_assoc _ _ _, rfl⟩
end K31

set_option Elab.async false
set_option linter.all false
set_option maxRecDepth 100000
set_option maxHeartbeats 0
/-! The head, printed by genh.py. -/
namespace K31
open PySem PySem.Spec PyProof.Rows L2 G
def dd__wall : He.DefD := ⟨("_wall", none), "_wall", "_wall", defArgs s__wall, defBody s__wall, defScope s__wall, [], []⟩
def dd_row_of : He.DefD := ⟨("row_of", none), "row_of", "row_of", defArgs s_row_of, defBody s_row_of, defScope s_row_of, [], []⟩
def dd_shares : He.DefD := ⟨("shares", none), "shares", "shares", defArgs s_shares, defBody s_shares, defScope s_shares, [], []⟩
def dd_open_transfers : He.DefD := ⟨("open_transfers", none), "open_transfers", "open_transfers", defArgs s_open_transfers, defBody s_open_transfers, defScope s_open_transfers, [], []⟩
def dd_moved : He.DefD := ⟨("moved", none), "moved", "moved", defArgs s_moved, defBody s_moved, defScope s_moved, [], []⟩
def dd__law_state : He.DefD := ⟨("_law_state", none), "_law_state", "_law_state", defArgs s__law_state, defBody s__law_state, defScope s__law_state, [], []⟩
def dd__law_take : He.DefD := ⟨("_law_take", none), "_law_take", "_law_take", defArgs s__law_take, defBody s__law_take, defScope s__law_take, [], []⟩
def dd__law_office : He.DefD := ⟨("_law_office", none), "_law_office", "_law_office", defArgs s__law_office, defBody s__law_office, defScope s__law_office, [], []⟩
def dd__law_row : He.DefD := ⟨("_law_row", none), "_law_row", "_law_row", defArgs s__law_row, defBody s__law_row, defScope s__law_row, [], []⟩
def dd__law_deals : He.DefD := ⟨("_law_deals", none), "_law_deals", "_law_deals", defArgs s__law_deals, defBody s__law_deals, defScope s__law_deals, [], []⟩
def dd__law_title : He.DefD := ⟨("_law_title", none), "_law_title", "_law_title", defArgs s__law_title, defBody s__law_title, defScope s__law_title, [], []⟩
def dd__law_move : He.DefD := ⟨("_law_move", none), "_law_move", "_law_move", defArgs s__law_move, defBody s__law_move, defScope s__law_move, [], []⟩
def dd__law_shares : He.DefD := ⟨("_law_shares", none), "_law_shares", "_law_shares", defArgs s__law_shares, defBody s__law_shares, defScope s__law_shares, [], []⟩
def dd__law_left : He.DefD := ⟨("_law_left", none), "_law_left", "_law_left", defArgs s__law_left, defBody s__law_left, defScope s__law_left, [], []⟩
def dd_law : He.DefD := ⟨("law", none), "law", "law", defArgs s_law, defBody s_law, defScope s_law, [], []⟩
def dd_Title___init__ : He.DefD := ⟨("Title", some "__init__"), "__init__", "Title.__init__", defArgs s_Title___init__, defBody s_Title___init__, defScope s_Title___init__, [], []⟩
def dd_Title_move : He.DefD := ⟨("Title", some "move"), "move", "Title.move", defArgs s_Title_move, defBody s_Title_move, defScope s_Title_move, [], []⟩
def dd_Title_may_move : He.DefD := ⟨("Title", some "may_move"), "may_move", "Title.may_move", defArgs s_Title_may_move, defBody s_Title_may_move, defScope s_Title_may_move, [], []⟩
def dd_Title_shares : He.DefD := ⟨("Title", some "shares"), "shares", "Title.shares", defArgs s_Title_shares, defBody s_Title_shares, defScope s_Title_shares, [], []⟩
def dd_Title_open_rows : He.DefD := ⟨("Title", some "open_rows"), "open_rows", "Title.open_rows", defArgs s_Title_open_rows, defBody s_Title_open_rows, defScope s_Title_open_rows, [], []⟩
def dd_Title_sum_of : He.DefD := ⟨("Title", some "sum_of"), "sum_of", "Title.sum_of", defArgs s_Title_sum_of, defBody s_Title_sum_of, defScope s_Title_sum_of, [], []⟩
def dfs : List He.DefD := [dd__wall, dd_row_of, dd_shares, dd_open_transfers, dd_moved, dd__law_state, dd__law_take, dd__law_office, dd__law_row, dd__law_deals, dd__law_title, dd__law_move, dd__law_shares, dd__law_left, dd_law, dd_Title___init__, dd_Title_move, dd_Title_may_move, dd_Title_shares, dd_Title_open_rows, dd_Title_sum_of]
def fcs : List He.Fa := [.glo "_wall", .glo "row_of", .glo "shares", .glo "open_transfers", .glo "moved", .glo "_law_state", .glo "_law_take", .glo "_law_office", .glo "_law_row", .glo "_law_deals", .glo "_law_title", .glo "_law_move", .glo "_law_shares", .glo "_law_left", .glo "law", .free "abs", .free "int", .free "isinstance", .free "len", .free "list", .free "max", .free "min", .free "range", .free "repr", .free "set", .free "sorted", .free "str", .free "sum", .int "WHOLE" 1000, .glo "Title", .cls "Title", .noat "Title" "held", .noat "Title" "left", .noat "Title" "takers", .mkr "Title", .meth "Title" "move", .meth "Title" "may_move", .meth "Title" "shares", .meth "Title" "open_rows", .meth "Title" "sum_of"]
def nm0 : List PySem.Str := ["_wall", "row_of", "WHOLE", "Title", "shares", "open_transfers", "moved", "_law_state", "_law_take", "_law_office", "_law_row", "_law_deals", "_law_title", "_law_move", "_law_shares", "_law_left"]
def nms : List PySem.Str := nm0
abbrev R : PySem.W.OpenRow := PySem.W.OpenLaw.row PySem.Challenge.rw_claimshold_k31_shares_of_titles
abbrev hk : PySem.W.Hook := He.hookD 4 fcs dfs
def ob (s : PySem.W.SharedT) : He.AlD := He.obsDG 4 fcs dfs (HandSHeadRun.getT s)
theorem ob_eq (s : PySem.W.SharedT) : ob s = hk.obs s.abs := He.obsDG_eq (HandSHeadRun.getT_eq s)
theorem run (w : World) : HandSHeadRun.RunEq R (PySem.W.view R.prog [19]) hk ob 3000 nms w := by
  intro os
  kernel_rfl
section
variable {K : PySem.W.Frag} {h base : Heap} {mg : Str → Option Value}
theorem do__wall (X : K.In h) (G : h.Ns mainGlobals mg) (c : He.SaysD fcs dfs K) : DefOk K mg "_wall" ["k"] (defArgs s__wall) (defBody s__wall) (defScope s__wall) := by
  obtain ⟨fd, F⟩ := c.def_ 0 (d := dd__wall) rfl
  exact ⟨_, fd, He.glo_ok X G (c.fact 0 (f := .glo "_wall") rfl), F, F.bindsN fun _ _ _ _ _ _ us hl => match us, hl with | [_], _ => rfl⟩
theorem do_row_of (X : K.In h) (G : h.Ns mainGlobals mg) (c : He.SaysD fcs dfs K) : DefOk K mg "row_of" ["state", "name"] (defArgs s_row_of) (defBody s_row_of) (defScope s_row_of) := by
  obtain ⟨fd, F⟩ := c.def_ 1 (d := dd_row_of) rfl
  exact ⟨_, fd, He.glo_ok X G (c.fact 1 (f := .glo "row_of") rfl), F, F.bindsN fun _ _ _ _ _ _ us hl => match us, hl with | [_, _], _ => rfl⟩
theorem do_shares (X : K.In h) (G : h.Ns mainGlobals mg) (c : He.SaysD fcs dfs K) : DefOk K mg "shares" ["state", "name", "day"] (defArgs s_shares) (defBody s_shares) (defScope s_shares) := by
  obtain ⟨fd, F⟩ := c.def_ 2 (d := dd_shares) rfl
  exact ⟨_, fd, He.glo_ok X G (c.fact 2 (f := .glo "shares") rfl), F, F.bindsN fun _ _ _ _ _ _ us hl => match us, hl with | [_, _, _], _ => rfl⟩
theorem do_open_transfers (X : K.In h) (G : h.Ns mainGlobals mg) (c : He.SaysD fcs dfs K) : DefOk K mg "open_transfers" ["state", "name", "day"] (defArgs s_open_transfers) (defBody s_open_transfers) (defScope s_open_transfers) := by
  obtain ⟨fd, F⟩ := c.def_ 3 (d := dd_open_transfers) rfl
  exact ⟨_, fd, He.glo_ok X G (c.fact 3 (f := .glo "open_transfers") rfl), F, F.bindsN fun _ _ _ _ _ _ us hl => match us, hl with | [_, _, _], _ => rfl⟩
theorem do_moved (X : K.In h) (G : h.Ns mainGlobals mg) (c : He.SaysD fcs dfs K) : DefOk K mg "moved" ["state", "name", "day", "steps"] (defArgs s_moved) (defBody s_moved) (defScope s_moved) := by
  obtain ⟨fd, F⟩ := c.def_ 4 (d := dd_moved) rfl
  exact ⟨_, fd, He.glo_ok X G (c.fact 4 (f := .glo "moved") rfl), F, F.bindsN fun _ _ _ _ _ _ us hl => match us, hl with | [_, _, _, _], _ => rfl⟩
theorem do__law_state (X : K.In h) (G : h.Ns mainGlobals mg) (c : He.SaysD fcs dfs K) : DefOk K mg "_law_state" ["script"] (defArgs s__law_state) (defBody s__law_state) (defScope s__law_state) := by
  obtain ⟨fd, F⟩ := c.def_ 5 (d := dd__law_state) rfl
  exact ⟨_, fd, He.glo_ok X G (c.fact 5 (f := .glo "_law_state") rfl), F, F.bindsN fun _ _ _ _ _ _ us hl => match us, hl with | [_], _ => rfl⟩
theorem do__law_take (X : K.In h) (G : h.Ns mainGlobals mg) (c : He.SaysD fcs dfs K) : DefOk K mg "_law_take" ["state", "most"] (defArgs s__law_take) (defBody s__law_take) (defScope s__law_take) := by
  obtain ⟨fd, F⟩ := c.def_ 6 (d := dd__law_take) rfl
  exact ⟨_, fd, He.glo_ok X G (c.fact 6 (f := .glo "_law_take") rfl), F, F.bindsN fun _ _ _ _ _ _ us hl => match us, hl with | [_, _], _ => rfl⟩
theorem do__law_office (X : K.In h) (G : h.Ns mainGlobals mg) (c : He.SaysD fcs dfs K) : DefOk K mg "_law_office" ["state"] (defArgs s__law_office) (defBody s__law_office) (defScope s__law_office) := by
  obtain ⟨fd, F⟩ := c.def_ 7 (d := dd__law_office) rfl
  exact ⟨_, fd, He.glo_ok X G (c.fact 7 (f := .glo "_law_office") rfl), F, F.bindsN fun _ _ _ _ _ _ us hl => match us, hl with | [_], _ => rfl⟩
theorem do__law_row (X : K.In h) (G : h.Ns mainGlobals mg) (c : He.SaysD fcs dfs K) : DefOk K mg "_law_row" ["s", "name"] (defArgs s__law_row) (defBody s__law_row) (defScope s__law_row) := by
  obtain ⟨fd, F⟩ := c.def_ 8 (d := dd__law_row) rfl
  exact ⟨_, fd, He.glo_ok X G (c.fact 8 (f := .glo "_law_row") rfl), F, F.bindsN fun _ _ _ _ _ _ us hl => match us, hl with | [_, _], _ => rfl⟩
theorem do__law_deals (X : K.In h) (G : h.Ns mainGlobals mg) (c : He.SaysD fcs dfs K) : DefOk K mg "_law_deals" ["state", "s", "people", "most"] (defArgs s__law_deals) (defBody s__law_deals) (defScope s__law_deals) := by
  obtain ⟨fd, F⟩ := c.def_ 9 (d := dd__law_deals) rfl
  exact ⟨_, fd, He.glo_ok X G (c.fact 9 (f := .glo "_law_deals") rfl), F, F.bindsN fun _ _ _ _ _ _ us hl => match us, hl with | [_, _, _, _], _ => rfl⟩
theorem do__law_title (X : K.In h) (G : h.Ns mainGlobals mg) (c : He.SaysD fcs dfs K) : DefOk K mg "_law_title" ["s", "name", "day"] (defArgs s__law_title) (defBody s__law_title) (defScope s__law_title) := by
  obtain ⟨fd, F⟩ := c.def_ 10 (d := dd__law_title) rfl
  exact ⟨_, fd, He.glo_ok X G (c.fact 10 (f := .glo "_law_title") rfl), F, F.bindsN fun _ _ _ _ _ _ us hl => match us, hl with | [_, _, _], _ => rfl⟩
theorem do__law_move (X : K.In h) (G : h.Ns mainGlobals mg) (c : He.SaysD fcs dfs K) : DefOk K mg "_law_move" ["held", "left", "step"] (defArgs s__law_move) (defBody s__law_move) (defScope s__law_move) := by
  obtain ⟨fd, F⟩ := c.def_ 11 (d := dd__law_move) rfl
  exact ⟨_, fd, He.glo_ok X G (c.fact 11 (f := .glo "_law_move") rfl), F, F.bindsN fun _ _ _ _ _ _ us hl => match us, hl with | [_, _, _], _ => rfl⟩
theorem do__law_shares (X : K.In h) (G : h.Ns mainGlobals mg) (c : He.SaysD fcs dfs K) : DefOk K mg "_law_shares" ["held"] (defArgs s__law_shares) (defBody s__law_shares) (defScope s__law_shares) := by
  obtain ⟨fd, F⟩ := c.def_ 12 (d := dd__law_shares) rfl
  exact ⟨_, fd, He.glo_ok X G (c.fact 12 (f := .glo "_law_shares") rfl), F, F.bindsN fun _ _ _ _ _ _ us hl => match us, hl with | [_], _ => rfl⟩
theorem do__law_left (X : K.In h) (G : h.Ns mainGlobals mg) (c : He.SaysD fcs dfs K) : DefOk K mg "_law_left" ["left"] (defArgs s__law_left) (defBody s__law_left) (defScope s__law_left) := by
  obtain ⟨fd, F⟩ := c.def_ 13 (d := dd__law_left) rfl
  exact ⟨_, fd, He.glo_ok X G (c.fact 13 (f := .glo "_law_left") rfl), F, F.bindsN fun _ _ _ _ _ _ us hl => match us, hl with | [_], _ => rfl⟩
theorem do_law (X : K.In h) (G : h.Ns mainGlobals mg) (c : He.SaysD fcs dfs K) : DefOk K mg "law" ["script"] (defArgs s_law) (defBody s_law) (defScope s_law) := by
  obtain ⟨fd, F⟩ := c.def_ 14 (d := dd_law) rfl
  exact ⟨_, fd, He.glo_ok X G (c.fact 14 (f := .glo "law") rfl), F, F.bindsN fun _ _ _ _ _ _ us hl => match us, hl with | [_], _ => rfl⟩
theorem do_Title___init__ (X : K.In h) (G : h.Ns mainGlobals mg) (c : He.SaysD fcs dfs K) : MkOk K mg "Title" (He.ga K "Title") "Title.__init__" ["self", "state", "name", "day"] (defArgs s_Title___init__) (defBody s_Title___init__) (defScope s_Title___init__) := by
  obtain ⟨fd, F⟩ := c.def_ 15 (d := dd_Title___init__) rfl
  exact ⟨_, fd, He.glo_ok X G (c.fact 29 (f := .glo "Title") rfl), He.mkr_ok (c.fact 34 (f := .mkr "Title") rfl), F, F.bindsN fun _ _ _ _ _ _ us hl => match us, hl with | [_, _, _, _], _ => rfl⟩
theorem do_Title_move (X : K.In h) (G : h.Ns mainGlobals mg) (c : He.SaysD fcs dfs K) : MethOk K (He.ga K "Title") "move" "Title.move" ["self", "giver", "number", "size"] (defArgs s_Title_move) (defBody s_Title_move) (defScope s_Title_move) := by
  obtain ⟨fd, F⟩ := c.def_ 16 (d := dd_Title_move) rfl
  exact ⟨_, fd, He.meth_ok (c.fact 35 (f := .meth "Title" "move") rfl), F, F.bindsN fun _ _ _ _ _ _ us hl => match us, hl with | [_, _, _, _], _ => rfl⟩
theorem do_Title_may_move (X : K.In h) (G : h.Ns mainGlobals mg) (c : He.SaysD fcs dfs K) : MethOk K (He.ga K "Title") "may_move" "Title.may_move" ["self", "step"] (defArgs s_Title_may_move) (defBody s_Title_may_move) (defScope s_Title_may_move) := by
  obtain ⟨fd, F⟩ := c.def_ 17 (d := dd_Title_may_move) rfl
  exact ⟨_, fd, He.meth_ok (c.fact 36 (f := .meth "Title" "may_move") rfl), F, F.bindsN fun _ _ _ _ _ _ us hl => match us, hl with | [_, _], _ => rfl⟩
theorem do_Title_shares (X : K.In h) (G : h.Ns mainGlobals mg) (c : He.SaysD fcs dfs K) : MethOk K (He.ga K "Title") "shares" "Title.shares" ["self"] (defArgs s_Title_shares) (defBody s_Title_shares) (defScope s_Title_shares) := by
  obtain ⟨fd, F⟩ := c.def_ 18 (d := dd_Title_shares) rfl
  exact ⟨_, fd, He.meth_ok (c.fact 37 (f := .meth "Title" "shares") rfl), F, F.bindsN fun _ _ _ _ _ _ us hl => match us, hl with | [_], _ => rfl⟩
theorem do_Title_open_rows (X : K.In h) (G : h.Ns mainGlobals mg) (c : He.SaysD fcs dfs K) : MethOk K (He.ga K "Title") "open_rows" "Title.open_rows" ["self"] (defArgs s_Title_open_rows) (defBody s_Title_open_rows) (defScope s_Title_open_rows) := by
  obtain ⟨fd, F⟩ := c.def_ 19 (d := dd_Title_open_rows) rfl
  exact ⟨_, fd, He.meth_ok (c.fact 38 (f := .meth "Title" "open_rows") rfl), F, F.bindsN fun _ _ _ _ _ _ us hl => match us, hl with | [_], _ => rfl⟩
theorem do_Title_sum_of (X : K.In h) (G : h.Ns mainGlobals mg) (c : He.SaysD fcs dfs K) : MethOk K (He.ga K "Title") "sum_of" "Title.sum_of" ["self", "group"] (defArgs s_Title_sum_of) (defBody s_Title_sum_of) (defScope s_Title_sum_of) := by
  obtain ⟨fd, F⟩ := c.def_ 20 (d := dd_Title_sum_of) rfl
  exact ⟨_, fd, He.meth_ok (c.fact 39 (f := .meth "Title" "sum_of") rfl), F, F.bindsN fun _ _ _ _ _ _ us hl => match us, hl with | [_, _], _ => rfl⟩
theorem fx (X : K.In h) (G : h.Ns mainGlobals mg) (c : He.SaysD fcs dfs K) (hs : ∃ m, base.Ns sysModules m) : Fx K mg base := ⟨He.free_ok X G (c.fact 15 (f := .free "abs") rfl), He.free_ok X G (c.fact 16 (f := .free "int") rfl), He.free_ok X G (c.fact 17 (f := .free "isinstance") rfl), He.free_ok X G (c.fact 18 (f := .free "len") rfl), He.free_ok X G (c.fact 19 (f := .free "list") rfl), He.free_ok X G (c.fact 20 (f := .free "max") rfl), He.free_ok X G (c.fact 21 (f := .free "min") rfl), He.free_ok X G (c.fact 22 (f := .free "range") rfl), He.free_ok X G (c.fact 23 (f := .free "repr") rfl), He.free_ok X G (c.fact 24 (f := .free "set") rfl), He.free_ok X G (c.fact 25 (f := .free "sorted") rfl), He.free_ok X G (c.fact 26 (f := .free "str") rfl), He.free_ok X G (c.fact 27 (f := .free "sum") rfl), He.int_ok X G (c.fact 28 (f := .int "WHOLE" 1000) rfl), He.cls_ok (c.fact 30 (f := .cls "Title") rfl), He.noat_ok (c.fact 31 (f := .noat "Title" "held") rfl), He.noat_ok (c.fact 32 (f := .noat "Title" "left") rfl), He.noat_ok (c.fact 33 (f := .noat "Title" "takers") rfl), hs⟩
end
section
variable {P : Program} {w : World} {K : PySem.W.Frag} {h base : Heap} {mg : Str → Option Value}
theorem law_cal (X : K.In h) (G : h.Ns mainGlobals mg) (c : He.SaysD fcs dfs K) (hs : ∃ m, base.Ns sysModules m) : Cal P w K mg base 5 "law" ["script"] (pfLaw 63) := by
  have Z := fx (base := base) X G c hs
  have c_row := ok_row_of (P := P) (w := w) (do_row_of X G c) Z
  have c_lrow := ok__law_row (P := P) (w := w) (do__law_row X G c) Z
  have c_move := ok_move (P := P) (w := w) (k := 0) (do_Title_move X G c) Z
  have c_init := ok_init (k := 1) (do_Title___init__ X G c) Z c_row c_move
  have c_move3 := ok_move (P := P) (w := w) (k := 2) (do_Title_move X G c) Z
  have c_sh := ok_shares (P := P) (w := w) (k := 2) (do_Title_shares X G c) Z
  have c_or := ok_orows (P := P) (w := w) (k := 2) (do_Title_open_rows X G c) Z
  have c_fsh := ok_fsh (k := 3) (j := 2) (by decide) (do_shares X G c) Z c_init c_sh
  have c_fop := ok_fop (k := 3) (j := 2) (by decide) (do_open_transfers X G c) Z c_init c_or
  have c_moved := ok_moved (k := 3) (j := 2) (by decide) (do_moved X G c) Z c_init c_move3 c_sh
  have c_tk := ok_take (P := P) (w := w) (do__law_take X G c) Z
  have c_st := ok_state (P := P) (w := w) (do__law_state X G c) Z
  have c_off := ok_office (do__law_office X G c) Z c_tk
  have c_deals := ok_deals (do__law_deals X G c) Z c_tk
  have c_lmove := ok_lmove (P := P) (w := w) (k := 0) (do__law_move X G c) Z
  have c_lti := ok_ltitle (k := 1) (do__law_title X G c) Z c_lrow c_lmove
  have c_lsh := ok_lshares (P := P) (w := w) (k := 0) (do__law_shares X G c) Z
  have c_lleft := ok_lleft (P := P) (w := w) (k := 0) (do__law_left X G c) Z
  exact ok_law (k := 4) (do_law X G c) Z (c_st.mono (by decide)) (c_off.mono (by decide)) (c_deals.mono (by decide)) (c_tk.mono (by decide)) (c_lti.mono (by decide)) c_fsh (c_lsh.mono (by decide)) c_fop (c_lleft.mono (by decide)) (c_lmove.mono (by decide)) c_moved
end

end K31
open PySem PySem.W PySem.Calls PyProof.Rows
theorem PySem.Challenge.cw_claimshold_k31_shares_of_titles_holds : PySem.Challenge.rw_claimshold_k31_shares_of_titles.Holds := by
  w_on; o_law
  refine HandSHeadRun.head_any (r := OpenLaw.row PySem.Challenge.rw_claimshold_k31_shares_of_titles) (q := view (OpenLaw.row PySem.Challenge.rw_claimshold_k31_shares_of_titles).prog [19]) (H := K31.hk) (ob := K31.ob) (M := 3000) (loose := K31.nms) (d := HandSHeadRun.topDef (OpenLaw.row PySem.Challenge.rw_claimshold_k31_shares_of_titles).prog 19) (kwd := []) K31.ob_eq
    (by kernel_rfl) (fun s => by kernel_rfl) K31.run (by kernel_rfl) (by kernel_rfl) (by kernel_rfl) (by rfl) (by first | assumption | decide +kernel) (by decide +kernel) ⟨rfl, rfl, rfl, rfl, rfl, by decide +kernel⟩ ?hw ?hc
  case hw => w_witness2
  case hc =>
    refine G.walk_G (l := PySem.Challenge.rw_claimshold_k31_shares_of_titles) (n := 63) (k := 5) (x := "script") rfl (by decide) (by kernel_rfl) ⟨rfl, by decide, by decide⟩ (by kernel_rfl) ?F
    intro w mg fa h Y G hmg0
    obtain ⟨K, KX, c⟩ := Y
    refine ⟨K, KX, fun base Kb Gb hs => ?_⟩
    have e : (HandSHeadRun.topDef (OpenLaw.row PySem.Challenge.rw_claimshold_k31_shares_of_titles).prog 19).name = ("law" : PySem.Str) := by kernel_rfl
    rw [e]
    exact K31.law_cal KX G c hs

