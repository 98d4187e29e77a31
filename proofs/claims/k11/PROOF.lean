import PyProof.Rows.All
import HandS.ForMost
import KE.SortData
import PyProof.ReprRoads
import HandS.Wide
import HandS.Deep
import HandS.TupAny
import HandS.Flow
import HandS.Defaults
import KE.DataMinMax
import HandS.IsInst
import HandS.Set
import HandS.SetFor
import HandS.SetIn
import KE.KRevSl
import HandS.DictComp
import HandS.Iter
import PySem.Challenge.RW_claimshold_k11_coverage
import KE.KStateDown
import HandS.More
import HandS.Words
import HandS.WordsExc
import HandS.Head0
import HandS.Head1
import HandS.Head2
import HandS.HeadEnd
import HandS.HeadHook1
import HandS.HeadHook2
set_option Elab.async false
set_option linter.all false
set_option maxRecDepth 100000
set_option maxHeartbeats 4000000
/-! G0: values that are data or cells, the store, worlds, the invariant, freezing and peeking. -/
namespace G
open PySem PySem.Spec PyProof.Rows L2

inductive Xv where
  | d (d : PyData)
  | c (i : Nat)
instance : Inhabited Xv := ⟨.d .none⟩

inductive Ob where
  | lst (xs : List Xv)
  | tup (xs : List Xv)
  | dic (kvs : List (Key × Xv))
  | dit (kvs : List (List Key × Xv))
  | ins (C : Addr) (fs : List (Str × Xv))
  | frz (d : PyData)
abbrev Sto := List Ob

def kD : Key → PyData
  | .inl i => .int i
  | .inr x => .str x

mutual
inductive Dq (K : PySem.W.Frag) (F : Hp) : V → PyData → Prop
  | non : Dq K F .non .none
  | bl (b : Bool) : Dq K F (.bl b) (.bool b)
  | int (i : Int) : Dq K F (.int i) (.int i)
  | str (x : Str) : Dq K F (.str x) (.str x)
  | lst {a : Addr} {xs : List V} {ds : List PyData} : SqL K F a xs → DqAll K F xs ds → Dq K F (.ref a) (.list ds)
  | tup {a : Addr} {xs : List V} {ds : List PyData} : SqT K F a xs → DqAll K F xs ds → Dq K F (.ref a) (.tuple ds)
  | dic {a : Addr} {kvs : List (Key × V)} {ds : List PyData} : Rd F a (.dK kvs) → DqAll K F (kvs.map (·.2)) ds → Dq K F (.ref a) (.dict ((kvs.map fun p => kD p.1).zip ds))
inductive DqAll (K : PySem.W.Frag) (F : Hp) : List V → List PyData → Prop
  | nil : DqAll K F [] []
  | cons {v : V} {vs : List V} {d : PyData} {ds : List PyData} : Dq K F v d → DqAll K F vs ds → DqAll K F (v :: vs) (d :: ds)
end

def plainO : HO → Prop
  | .lst _ => True
  | .tup _ => True
  | .dK _ => True
  | _ => False
/-- what may be read stays to be read -/
structure SameR (F F' : Hp) : Prop where
  rd : ∀ a u, plainO u → Rd F a u → Rd F' a u
  dom : ∀ a, F a ≠ none → F' a ≠ none
  fz : ∀ a o u, F a = some (.frz o u) → F' a = some (.frz o u)
theorem SameR.of {F F' : Hp} (s : Same F F') : SameR F F' := ⟨fun a u _ r => by
  rcases r with r | ⟨o, r⟩
  · exact .inl (s _ _ r)
  · exact .inr ⟨o, s _ _ r⟩, fun a h z => h (s.free z), fun a o u h => s _ _ h⟩
theorem SameR.refl (F : Hp) : SameR F F := ⟨fun _ _ _ h => h, fun _ h => h, fun _ _ _ h => h⟩
theorem SameR.trans {A B C : Hp} (a : SameR A B) (b : SameR B C) : SameR A C := ⟨fun x u p h => b.rd x u p (a.rd x u p h), fun x h => b.dom x (a.dom x h), fun x o u h => b.fz x o u (a.fz x o u h)⟩
theorem SameR.sqL {K : PySem.W.Frag} {F F' : Hp} (s : SameR F F') {a : Addr} {xs : List V} (h : SqL K F a xs) : SqL K F' a xs := by
  rcases h with h | h
  · exact .inl (s.rd _ _ trivial h)
  · exact .inr h
theorem SameR.sqT {K : PySem.W.Frag} {F F' : Hp} (s : SameR F F') {a : Addr} {xs : List V} (h : SqT K F a xs) : SqT K F' a xs := by
  rcases h with h | h
  · exact .inl (s.rd _ _ trivial h)
  · exact .inr h
section
variable {K : PySem.W.Frag} {F F' : Hp}
mutual
theorem Dq.same (s : SameR F F') : ∀ {v : V} {d : PyData}, Dq K F v d → Dq K F' v d
  | _, _, .non => .non
  | _, _, .bl b => .bl b
  | _, _, .int i => .int i
  | _, _, .str x => .str x
  | _, _, .lst h r => .lst (s.sqL h) (DqAll.same s r)
  | _, _, .tup h r => .tup (s.sqT h) (DqAll.same s r)
  | _, _, .dic h r => .dic (s.rd _ _ trivial h) (DqAll.same s r)
theorem DqAll.same (s : SameR F F') : ∀ {vs : List V} {ds : List PyData}, DqAll K F vs ds → DqAll K F' vs ds
  | _, _, .nil => .nil
  | _, _, .cons h r => .cons (Dq.same s h) (DqAll.same s r)
end
theorem DqAll.length : ∀ {vs : List V} {ds : List PyData}, DqAll K F vs ds → vs.length = ds.length
  | _, _, .nil => rfl
  | _, _, .cons _ r => by simp [DqAll.length r]
theorem DqAll.get : ∀ {vs : List V} {ds : List PyData} {i : Nat} {d : PyData}, DqAll K F vs ds → ds[i]? = some d → ∃ v, vs[i]? = some v ∧ Dq K F v d
  | _, _, _, _, .nil, h => by simp at h
  | _, _, 0, _, .cons h _, e => by simp at e; subst e; exact ⟨_, rfl, h⟩
  | _, _, i + 1, d, .cons _ r, e => by
    obtain ⟨v, h1, h2⟩ := DqAll.get (i := i) (d := d) r (by simpa using e)
    exact ⟨v, by simpa using h1, h2⟩
theorem DqAll.append : ∀ {vs ws : List V} {ds es : List PyData}, DqAll K F vs ds → DqAll K F ws es → DqAll K F (vs ++ ws) (ds ++ es)
  | _, _, _, _, .nil, r => r
  | _, _, _, _, .cons h t, r => .cons h (DqAll.append t r)
end

structure Wd where
  θ : List Addr
  F : Hp
  G : Hp
structure Wd.lf (W W' : Wd) : Prop where
  th : ∀ (i : Nat) a, W.θ[i]? = some a → W'.θ[i]? = some a
  f : SameR W.F W'.F
structure Wd.le (W W' : Wd) : Prop extends Wd.lf W W' where
  g : W'.G = W.G
theorem Wd.lf.refl (W : Wd) : W.lf W := ⟨fun _ _ h => h, SameR.refl _⟩
theorem Wd.lf.trans {A B C : Wd} (a : A.lf B) (b : B.lf C) : A.lf C := ⟨fun i x h => b.th i x (a.th i x h), a.f.trans b.f⟩
theorem Wd.le.refl (W : Wd) : W.le W := ⟨.refl W, rfl⟩
theorem Wd.le.trans {A B C : Wd} (a : A.le B) (b : B.le C) : A.le C := ⟨a.tolf.trans b.tolf, b.g.trans a.g⟩

def VX (K : PySem.W.Frag) (W : Wd) (v : V) : Xv → Prop
  | .d d => Dq K W.F v d
  | .c i => ∃ a, v = .ref a ∧ W.θ[i]? = some a
abbrev VXs (K : PySem.W.Frag) (W : Wd) : List V → List Xv → Prop := Paired (VX K W)
theorem VX.lf {K : PySem.W.Frag} {W W' : Wd} (l : W.lf W') {v : V} {x : Xv} (h : VX K W v x) : VX K W' v x := by
  cases x with
  | d d => exact Dq.same l.f h
  | c i => obtain ⟨a, e, q⟩ := h; exact ⟨a, e, l.th _ _ q⟩
theorem VX.le {K : PySem.W.Frag} {W W' : Wd} (l : W.le W') {v : V} {x : Xv} (h : VX K W v x) : VX K W' v x := h.lf l.tolf
theorem VXs.lf {K : PySem.W.Frag} {W W' : Wd} (l : W.lf W') {vs : List V} {xs : List Xv} (h : Paired (VX K W) vs xs) : Paired (VX K W') vs xs := L2.Paired.mapP h fun _ _ => VX.lf l
theorem VXs.le {K : PySem.W.Frag} {W W' : Wd} (l : W.le W') {vs : List V} {xs : List Xv} (h : VXs K W vs xs) : VXs K W' vs xs := L2.Paired.mapP h fun _ _ => VX.le l
abbrev dX (ds : List PyData) : List Xv := ds.map .d
theorem VXs.ofD {K : PySem.W.Frag} {W : Wd} : ∀ {vs : List V} {ds : List PyData}, DqAll K W.F vs ds → VXs K W vs (dX ds)
  | _, _, .nil => .nil
  | _, _, .cons h r => .cons h (VXs.ofD r)
theorem VXs.toD {K : PySem.W.Frag} {W : Wd} : ∀ {ds : List PyData} {vs : List V}, VXs K W vs (dX ds) → DqAll K W.F vs ds
  | [], _, h => by cases h; exact .nil
  | d :: ds, _, h => by
    cases h with
    | cons a r => exact .cons a (VXs.toD r)
theorem VXs.length {K : PySem.W.Frag} {W : Wd} {vs : List V} {xs : List Xv} (h : VXs K W vs xs) : vs.length = xs.length := Paired.length h
theorem VXs.get {K : PySem.W.Frag} {W : Wd} : ∀ {vs : List V} {xs : List Xv} {i : Nat} {x : Xv}, VXs K W vs xs → xs[i]? = some x → ∃ v, vs[i]? = some v ∧ VX K W v x
  | _, _, _, _, .nil, h => by simp at h
  | _, _, 0, _, .cons h _, e => by simp at e; subst e; exact ⟨_, rfl, h⟩
  | _, _, i + 1, x, .cons _ r, e => by
    obtain ⟨v, h1, h2⟩ := VXs.get (i := i) (x := x) r (by simpa using e)
    exact ⟨v, by simpa using h1, h2⟩
theorem VXs.getV {K : PySem.W.Frag} {W : Wd} : ∀ {vs : List V} {xs : List Xv} {i : Nat} {v : V}, VXs K W vs xs → vs[i]? = some v → ∃ x, xs[i]? = some x ∧ VX K W v x
  | _, _, _, _, .nil, h => by simp at h
  | _, _, 0, _, .cons h _, e => by simp at e; subst e; exact ⟨_, rfl, h⟩
  | _, _, i + 1, v, .cons _ r, e => by
    obtain ⟨x, h1, h2⟩ := VXs.getV (i := i) (v := v) r (by simpa using e)
    exact ⟨x, by simpa using h1, h2⟩
theorem VXs.append {K : PySem.W.Frag} {W : Wd} : ∀ {vs ws : List V} {xs ys : List Xv}, VXs K W vs xs → VXs K W ws ys → VXs K W (vs ++ ws) (xs ++ ys)
  | _, _, _, _, .nil, r => r
  | _, _, _, _, .cons h t, r => .cons h (VXs.append t r)
theorem VXs.set {K : PySem.W.Frag} {W : Wd} {v : V} {x : Xv} (h : VX K W v x) : ∀ {vs : List V} {xs : List Xv} (i : Nat), VXs K W vs xs → VXs K W (vs.set i v) (xs.set i x)
  | _, _, _, .nil => .nil
  | _, _, 0, .cons _ t => .cons h t
  | _, _, i + 1, .cons q t => .cons q (VXs.set h i t)

def KVX {κ : Type} (K : PySem.W.Frag) (W : Wd) : List (κ × V) → List (κ × Xv) → Prop := Paired fun p q => p.1 = q.1 ∧ VX K W p.2 q.2
theorem KVX.lf {κ : Type} {K : PySem.W.Frag} {W W' : Wd} (l : W.lf W') {vs : List (κ × V)} {xs : List (κ × Xv)} (h : KVX K W vs xs) : KVX K W' vs xs := L2.Paired.mapP h fun _ _ q => ⟨q.1, q.2.lf l⟩
theorem KVX.le {κ : Type} {K : PySem.W.Frag} {W W' : Wd} (l : W.le W') {vs : List (κ × V)} {xs : List (κ × Xv)} (h : KVX K W vs xs) : KVX K W' vs xs := h.lf l.tolf

/-- what stands at the address of a cell -/
def OkOb (K : PySem.W.Frag) (W : Wd) (H : Hp) (a : Addr) : Ob → Prop
  | .lst xs => W.F a = none ∧ ∃ vs, H a = some (.lst vs) ∧ VXs K W vs xs
  | .tup xs => W.F a = none ∧ ∃ vs, H a = some (.tup vs) ∧ VXs K W vs xs
  | .dic kvs => W.F a = none ∧ ∃ vs, H a = some (.dK vs) ∧ KVX K W vs kvs
  | .dit kvs => W.F a = none ∧ ∃ vs, H a = some (.dT vs) ∧ KVX K W vs kvs
  | .ins C fs => W.F a = none ∧ ∃ dx vs, H a = some (.ins C dx vs) ∧ KVX K W vs fs
  | .frz d => Dq K W.F (.ref a) d

structure InvS (K : PySem.W.Frag) (W : Wd) (M : Sto) (H : Hp) : Prop where
  len : W.θ.length = M.length
  nd : W.θ.Nodup
  ob : ∀ (i : Nat) a o, W.θ[i]? = some a → M[i]? = some o → OkOb K W H a o
  sf : Same W.F H
  sg : Same W.G H
  fg : ∀ a, W.F a = none ∨ W.G a = none
  tg : ∀ a ∈ W.θ, W.G a = none
  th : ∀ a ∈ W.θ, H a ≠ none

section
variable {K : PySem.W.Frag} {W W' : Wd} {M M' : Sto} {H H' : Hp}

theorem OkOb.lf (l : W.lf W') (s : H a = H' a) (f : W'.F a = W.F a) {o : Ob} (h : OkOb K W H a o) : OkOb K W' H' a o := by
  cases o with
  | lst xs => obtain ⟨h0, vs, h1, h2⟩ := h; exact ⟨f.trans h0, vs, s ▸ h1, VXs.lf l h2⟩
  | tup xs => obtain ⟨h0, vs, h1, h2⟩ := h; exact ⟨f.trans h0, vs, s ▸ h1, VXs.lf l h2⟩
  | dic xs => obtain ⟨h0, vs, h1, h2⟩ := h; exact ⟨f.trans h0, vs, s ▸ h1, h2.lf l⟩
  | dit xs => obtain ⟨h0, vs, h1, h2⟩ := h; exact ⟨f.trans h0, vs, s ▸ h1, h2.lf l⟩
  | ins C fs => obtain ⟨h0, dx, vs, h1, h2⟩ := h; exact ⟨f.trans h0, dx, vs, s ▸ h1, h2.lf l⟩
  | frz d => exact Dq.same l.f h
theorem OkOb.le {a : Addr} (l : W.le W') (s : H a = H' a) (f : W'.F a = W.F a) {o : Ob} (h : OkOb K W H a o) : OkOb K W' H' a o := h.lf l.tolf s f
theorem InvS.cell (I : InvS K W M H) {i : Nat} {o : Ob} (e : M[i]? = some o) : ∃ a, W.θ[i]? = some a ∧ OkOb K W H a o := by
  have hi : i < W.θ.length := by rw [I.len]; exact (List.getElem?_eq_some_iff.mp e).1
  exact ⟨W.θ[i], List.getElem?_eq_getElem hi, I.ob i _ o (List.getElem?_eq_getElem hi) e⟩
theorem InvS.fresh (I : InvS K W M H) {p : Addr} (h : H p = none) : W.F p = none ∧ W.G p = none ∧ p ∉ W.θ :=
  ⟨I.sf.free h, I.sg.free h, fun z => I.th p z h⟩
theorem same_new {H : Hp} {p : Addr} {o : HO} (h : H p = none) : Same H (upd H p o) := fun b x e => by
  rw [upd_ne (ne_of_none e h)]
  exact e
theorem get_snoc {α : Type} {l : List α} {a b : α} {i : Nat} (h : (l ++ [a])[i]? = some b) : l[i]? = some b ∨ (i = l.length ∧ b = a) := by
  by_cases hi : i < l.length
  · rw [List.getElem?_append_left hi] at h; exact .inl h
  · rw [List.getElem?_append_right (by omega)] at h
    have : i - l.length = 0 := by
      cases e : i - l.length with
      | zero => rfl
      | succ n => rw [e] at h; simp at h
    rw [this] at h
    simp at h
    exact .inr ⟨by omega, h.symm⟩
theorem get_snoc_old {α : Type} {l : List α} {a b : α} {i : Nat} (h : l[i]? = some b) : (l ++ [a])[i]? = some b := by
  rw [List.getElem?_append_left (List.getElem?_eq_some_iff.mp h).1]; exact h
/-- a new object that is nobody's data: a cell. It stands with what it holds -/
theorem InvS.newCell (I : InvS K W M H) {p : Addr} (hp : H p = none) {u : HO} {o : Ob} (ok : ∀ W' : Wd, W.le W' → W'.F p = none → OkOb K W' (upd H p u) p o) :
    InvS K ⟨W.θ ++ [p], W.F, W.G⟩ (M ++ [o]) (upd H p u) ∧ W.le ⟨W.θ ++ [p], W.F, W.G⟩ := by
  obtain ⟨f0, g0, t0⟩ := I.fresh hp
  have l : W.le ⟨W.θ ++ [p], W.F, W.G⟩ := ⟨⟨fun i a h => get_snoc_old h, SameR.refl _⟩, rfl⟩
  refine ⟨⟨by simp [I.len], ?_, fun i a o' h1 h2 => ?_, I.sf.trans (same_new hp), I.sg.trans (same_new hp), I.fg, fun a ha => ?_, fun a ha => ?_⟩, l⟩
  · show (W.θ ++ [p]).Nodup
    rw [List.nodup_append]
    exact ⟨I.nd, by simp, fun a ha b hb => by
      simp at hb; subst hb
      rintro rfl
      exact t0 ha⟩
  · rcases get_snoc h1 with h1 | ⟨e1, rfl⟩
    · rcases get_snoc h2 with h2 | ⟨e2, _⟩
      · have ha : a ≠ p := fun e => t0 (e ▸ List.mem_of_getElem? h1)
        exact (I.ob i a o' h1 h2).le l (upd_ne ha).symm rfl
      · exfalso
        have := (List.getElem?_eq_some_iff.mp h1).1
        rw [I.len] at this
        omega
    · rcases get_snoc h2 with h2 | ⟨_, rfl⟩
      · exfalso
        have := (List.getElem?_eq_some_iff.mp h2).1
        rw [← I.len] at this
        omega
      · exact ok _ l f0
  · rcases List.mem_append.mp ha with ha | ha
    · exact I.tg a ha
    · simp at ha; subst ha; exact g0
  · rcases List.mem_append.mp ha with ha | ha
    · rw [upd_ne (show a ≠ p from fun e => t0 (e ▸ ha))]; exact I.th a ha
    · simp at ha; subst ha; rw [upd_same]; simp
/-- a new object that is data from the start -/
theorem InvS.newData (I : InvS K W M H) {p : Addr} (hp : H p = none) (u : HO) :
    InvS K ⟨W.θ, upd W.F p u, W.G⟩ M (upd H p u) ∧ W.le ⟨W.θ, upd W.F p u, W.G⟩ := by
  obtain ⟨f0, g0, t0⟩ := I.fresh hp
  have l : W.le ⟨W.θ, upd W.F p u, W.G⟩ := ⟨⟨fun i a h => h, .of (same_new f0)⟩, rfl⟩
  refine ⟨⟨I.len, I.nd, fun i a o' h1 h2 => ?_, fun b o h => ?_, I.sg.trans (same_new hp), fun a => ?_, I.tg, fun a ha => ?_⟩, l⟩
  · have ha : a ≠ p := fun e => t0 (e ▸ List.mem_of_getElem? h1)
    exact (I.ob i a o' h1 h2).le l (upd_ne ha).symm (upd_ne ha)
  · by_cases e : b = p
    · subst e
      have h : upd W.F b u b = some o := h
      rw [upd_same] at h ⊢; exact h
    · have h : upd W.F p u b = some o := h
      rw [upd_ne e] at h ⊢; exact I.sf b o h
  · by_cases e : a = p
    · subst e; exact .inr g0
    · rcases I.fg a with q | q
      · exact .inl (by show upd W.F p u a = none; rw [upd_ne e]; exact q)
      · exact .inr q
  · rw [upd_ne (show a ≠ p from fun e => t0 (e ▸ ha))]; exact I.th a ha
/-- a new object that nobody knows of -/
theorem InvS.newLoose (I : InvS K W M H) {p : Addr} (hp : H p = none) (u : HO) : InvS K W M (upd H p u) := by
  obtain ⟨f0, g0, t0⟩ := I.fresh hp
  refine ⟨I.len, I.nd, fun i a o' h1 h2 => ?_, I.sf.trans (same_new hp), I.sg.trans (same_new hp), I.fg, I.tg, fun a ha => ?_⟩
  · have ha : a ≠ p := fun e => t0 (e ▸ List.mem_of_getElem? h1)
    exact (I.ob i a o' h1 h2).le (Wd.le.refl W) (upd_ne ha).symm rfl
  · rw [upd_ne (show a ≠ p from fun e => t0 (e ▸ ha))]; exact I.th a ha
/-- a cell is written -/
theorem InvS.write (I : InvS K W M H) {i : Nat} {a : Addr} (ha : W.θ[i]? = some a) (hf : W.F a = none) {u : HO} {o : Ob} (ok : OkOb K W (upd H a u) a o) : InvS K W (M.set i o) (upd H a u) := by
  have hm : a ∈ W.θ := List.mem_of_getElem? ha
  have hi := (List.getElem?_eq_some_iff.mp ha).1
  refine ⟨by simp [I.len], I.nd, fun j b o' h1 h2 => ?_, fun b x h => ?_, fun b x h => ?_, I.fg, I.tg, fun b hb => ?_⟩
  · by_cases e : j = i
    · subst e
      rw [ha] at h1; cases h1
      rw [List.getElem?_set_self (by rw [← I.len]; exact hi)] at h2
      cases h2; exact ok
    · rw [List.getElem?_set_ne (Ne.symm e)] at h2
      have hb : b ≠ a := fun z => by
        subst z
        obtain ⟨q1, e1⟩ := List.getElem?_eq_some_iff.mp h1
        obtain ⟨q2, e2⟩ := List.getElem?_eq_some_iff.mp ha
        exact e ((List.getElem_inj I.nd).mp (e1.trans e2.symm))
      exact (I.ob j b o' h1 h2).le (Wd.le.refl W) (upd_ne hb).symm rfl
  · rw [upd_ne (ne_of_none h hf)]; exact I.sf b x h
  · rw [upd_ne (ne_of_none h (I.tg a hm))]; exact I.sg b x h
  · by_cases e : b = a
    · subst e; rw [upd_same]; simp
    · rw [upd_ne e]; exact I.th b hb
/-- a cell becomes data -/
theorem InvS.freeze (I : InvS K W M H) {i : Nat} {a : Addr} (ha : W.θ[i]? = some a) (hf : W.F a = none) {u : HO} (hu : H a = some u) {d : PyData} (ok : Dq K (upd W.F a u) (.ref a) d) :
    InvS K ⟨W.θ, upd W.F a u, W.G⟩ (M.set i (.frz d)) H ∧ W.le ⟨W.θ, upd W.F a u, W.G⟩ := by
  have hm : a ∈ W.θ := List.mem_of_getElem? ha
  have hi := (List.getElem?_eq_some_iff.mp ha).1
  have l : W.le ⟨W.θ, upd W.F a u, W.G⟩ := ⟨⟨fun i a h => h, .of (same_new hf)⟩, rfl⟩
  refine ⟨⟨by simp [I.len], I.nd, fun j b o' h1 h2 => ?_, fun b x h => ?_, I.sg, fun b => ?_, I.tg, I.th⟩, l⟩
  · by_cases e : j = i
    · subst e
      have h1 : W.θ[j]? = some b := h1
      rw [ha] at h1; cases h1
      rw [List.getElem?_set_self (by rw [← I.len]; exact hi)] at h2
      cases h2; exact ok
    · rw [List.getElem?_set_ne (Ne.symm e)] at h2
      have hb : b ≠ a := fun z => by
        subst z
        obtain ⟨q1, e1⟩ := List.getElem?_eq_some_iff.mp h1
        obtain ⟨q2, e2⟩ := List.getElem?_eq_some_iff.mp ha
        exact e ((List.getElem_inj I.nd).mp (e1.trans e2.symm))
      exact (I.ob j b o' h1 h2).le l rfl (upd_ne hb)
  · have h : upd W.F a u b = some x := h
    by_cases e : b = a
    · subst e; rw [upd_same] at h; cases h; exact hu
    · rw [upd_ne e] at h; exact I.sf b x h
  · by_cases e : b = a
    · subst e; exact .inr (I.tg b hm)
    · rcases I.fg b with q | q
      · exact .inl (by show upd W.F a u b = none; rw [upd_ne e]; exact q)
      · exact .inr q
end

/-! ### freezing and peeking -/
def frzLf (f : Sto → Xv → Option (PyData × Sto)) : Sto → List Xv → Option (List PyData × Sto)
  | M, [] => some ([], M)
  | M, x :: xs => match f M x with
    | some (d, M') => match frzLf f M' xs with
      | some (ds, M'') => some (d :: ds, M'')
      | none => none
    | none => none
def frzN : Nat → Sto → Xv → Option (PyData × Sto)
  | 0, M, x => match x with
    | .d d => some (d, M)
    | .c _ => none
  | n + 1, M, x => match x with
    | .d d => some (d, M)
    | .c i => match M[i]? with
      | some (.frz d) => some (d, M)
      | some (.lst xs) => match frzLf (frzN n) M xs with
        | some (ds, M') => match M'[i]? with
          | some (.lst _) => some (.list ds, M'.set i (.frz (.list ds)))
          | _ => none
        | none => none
      | some (.tup xs) => match frzLf (frzN n) M xs with
        | some (ds, M') => match M'[i]? with
          | some (.tup _) => some (.tuple ds, M'.set i (.frz (.tuple ds)))
          | _ => none
        | none => none
      | some (.dic kvs) => match frzLf (frzN n) M (kvs.map (·.2)) with
        | some (ds, M') => match M'[i]? with
          | some (.dic _) => some (.dict ((kvs.map fun p => kD p.1).zip ds), M'.set i (.frz (.dict ((kvs.map fun p => kD p.1).zip ds))))
          | _ => none
        | none => none
      | _ => none
abbrev frzL (n : Nat) : Sto → List Xv → Option (List PyData × Sto) := frzLf (frzN n)
def pkLf (f : Xv → Option PyData) : List Xv → Option (List PyData)
  | [] => some []
  | x :: xs => match f x with
    | some d => match pkLf f xs with
      | some ds => some (d :: ds)
      | none => none
    | none => none
def pkN : Nat → Sto → Xv → Option PyData
  | 0, _, x => match x with
    | .d d => some d
    | .c _ => none
  | n + 1, M, x => match x with
    | .d d => some d
    | .c i => match M[i]? with
      | some (.frz d) => some d
      | some (.lst xs) => match pkLf (pkN n M) xs with
        | some ds => some (.list ds)
        | none => none
      | some (.tup xs) => match pkLf (pkN n M) xs with
        | some ds => some (.tuple ds)
        | none => none
      | some (.dic kvs) => match pkLf (pkN n M) (kvs.map (·.2)) with
        | some ds => some (.dict ((kvs.map fun p => kD p.1).zip ds))
        | none => none
      | _ => none
abbrev pkL (n : Nat) (M : Sto) : List Xv → Option (List PyData) := pkLf (pkN n M)
abbrev pk (M : Sto) (x : Xv) : Option PyData := pkN 6 M x
abbrev fz (M : Sto) (x : Xv) : Option (PyData × Sto) := frzN 6 M x
abbrev fzL (M : Sto) (x : List Xv) : Option (List PyData × Sto) := frzL 6 M x

theorem pkN_d (n : Nat) (M : Sto) (d : PyData) : pkN n M (.d d) = some d := by cases n <;> rfl
theorem pkL_d (n : Nat) (M : Sto) : ∀ ds : List PyData, pkL n M (dX ds) = some ds
  | [] => rfl
  | d :: ds => by
    show pkLf (pkN n M) (.d d :: dX ds) = _
    have := pkL_d n M ds
    unfold pkL at this
    rw [pkLf, pkN_d, this]
theorem frzN_d (n : Nat) (M : Sto) (d : PyData) : frzN n M (.d d) = some (d, M) := by cases n <;> rfl
theorem frzL_d (n : Nat) (M : Sto) : ∀ ds : List PyData, frzL n M (dX ds) = some (ds, M)
  | [] => rfl
  | d :: ds => by
    show frzLf (frzN n) M (.d d :: dX ds) = _
    have := frzL_d n M ds
    unfold frzL at this
    rw [frzLf, frzN_d]
    dsimp only
    rw [this]

section
variable {K : PySem.W.Frag} {W : Wd} {M : Sto} {H : Hp}
theorem KVX.split {κ : Type} {K : PySem.W.Frag} {W : Wd} : ∀ {vs : List (κ × V)} {xs : List (κ × Xv)}, KVX K W vs xs → vs.map (·.1) = xs.map (·.1) ∧ VXs K W (vs.map (·.2)) (xs.map (·.2))
  | _, _, .nil => ⟨rfl, .nil⟩
  | _, _, .cons h r => by
    obtain ⟨e1, e2⟩ := KVX.split r
    refine ⟨?_, .cons h.2 e2⟩
    simp [h.1]
    exact e1
theorem map_fst {κ α β γ : Type} (f : κ → γ) {l : List (κ × α)} {m : List (κ × β)} (h : l.map (·.1) = m.map (·.1)) : (l.map fun p => f p.1) = m.map fun p => f p.1 := by
  have e := congrArg (List.map f) h
  rw [List.map_map, List.map_map] at e
  exact e
theorem pkLf_ok {f : Xv → Option PyData} : ∀ (xs : List Xv) (vs : List V) (ds : List PyData), (∀ x v d, VX K W v x → f x = some d → Dq K H v d) → VXs K W vs xs → pkLf f xs = some ds → DqAll K H vs ds
  | [], vs, ds, _, h, q => by
    cases h
    cases q; exact .nil
  | x :: xs, _, ds, hf, h, q => by
    cases h with
    | cons h1 h2 =>
      rw [pkLf] at q
      cases e1 : f x with
      | none => rw [e1] at q; cases q
      | some d =>
        rw [e1] at q
        dsimp only at q
        cases e2 : pkLf f xs with
        | none => rw [e2] at q; cases q
        | some ds' => rw [e2] at q; cases q; exact .cons (hf x _ d h1 e1) (pkLf_ok xs _ ds' hf h2 e2)
theorem pkN_ok (I : InvS K W M H) : ∀ (n : Nat) (x : Xv) (v : V) (d : PyData), VX K W v x → pkN n M x = some d → Dq K H v d
  | n, .d d, v, e, h, q => by
    rw [pkN_d] at q; cases q
    exact Dq.same (.of I.sf) h
  | 0, .c i, v, e, h, q => by simp [pkN] at q
  | n + 1, .c i, v, e, h, q => by
    obtain ⟨a, rfl, ha⟩ := h
    unfold pkN at q
    dsimp only at q
    cases hm : M[i]? with
    | none => rw [hm] at q; cases q
    | some o =>
      rw [hm] at q
      have ok := I.ob i a o ha hm
      have ih := pkN_ok I n
      cases o with
      | frz d => cases q; exact Dq.same (.of I.sf) ok
      | lst xs =>
        obtain ⟨_, vs, h1, h2⟩ := ok
        dsimp only at q
        cases hl : pkLf (pkN n M) xs with
        | none => rw [hl] at q; cases q
        | some ds => rw [hl] at q; cases q; exact .lst (.of h1) (pkLf_ok xs vs ds ih h2 hl)
      | tup xs =>
        obtain ⟨_, vs, h1, h2⟩ := ok
        dsimp only at q
        cases hl : pkLf (pkN n M) xs with
        | none => rw [hl] at q; cases q
        | some ds => rw [hl] at q; cases q; exact .tup (.of h1) (pkLf_ok xs vs ds ih h2 hl)
      | dic kvs =>
        obtain ⟨_, vs, h1, h2⟩ := ok
        obtain ⟨e1, e2⟩ := KVX.split h2
        dsimp only at q
        cases hl : pkLf (pkN n M) (kvs.map (·.2)) with
        | none => rw [hl] at q; cases q
        | some ds =>
          rw [hl] at q; cases q
          have := Dq.dic (K := K) (F := H) (a := a) (kvs := vs) (ds := ds) (.inl h1) (pkLf_ok _ _ ds ih e2 hl)
          rw [map_fst kD e1] at this
          exact this
      | dit kvs => cases q
      | ins C fs => cases q
end

section
variable {K : PySem.W.Frag} {H : Hp}
theorem frzLf_ok {f : Sto → Xv → Option (PyData × Sto)} (hf : ∀ (x : Xv) (W : Wd) (M M' : Sto) (v : V) (d : PyData), InvS K W M H → VX K W v x → f M x = some (d, M') → ∃ W', W.le W' ∧ W'.θ = W.θ ∧ InvS K W' M' H ∧ Dq K W'.F v d) :
    ∀ (xs : List Xv) (W : Wd) (M M' : Sto) (vs : List V) (ds : List PyData), InvS K W M H → VXs K W vs xs → frzLf f M xs = some (ds, M') → ∃ W', W.le W' ∧ W'.θ = W.θ ∧ InvS K W' M' H ∧ DqAll K W'.F vs ds
  | [], W, M, M', vs, ds, I, h, q => by
    cases h
    cases q; exact ⟨W, .refl W, rfl, I, .nil⟩
  | x :: xs, W, M, M', _, ds, I, h, q => by
    cases h with
    | cons h1 h2 =>
      rw [frzLf] at q
      cases e1 : f M x with
      | none => rw [e1] at q; cases q
      | some r =>
        obtain ⟨d, Ma⟩ := r
        rw [e1] at q
        dsimp only at q
        obtain ⟨W1, l1, t1, I1, r1⟩ := hf x W M Ma _ d I h1 e1
        cases e2 : frzLf f Ma xs with
        | none => rw [e2] at q; cases q
        | some r' =>
          obtain ⟨ds', Mb⟩ := r'
          rw [e2] at q
          cases q
          obtain ⟨W2, l2, t2, I2, r2⟩ := frzLf_ok hf xs W1 Ma _ _ ds' I1 (VXs.le l1 h2) e2
          exact ⟨W2, l1.trans l2, t2.trans t1, I2, .cons (r1.same l2.f) r2⟩
theorem frzN_ok : ∀ (n : Nat) (x : Xv) (W : Wd) (M M' : Sto) (v : V) (d : PyData), InvS K W M H → VX K W v x → frzN n M x = some (d, M') → ∃ W', W.le W' ∧ W'.θ = W.θ ∧ InvS K W' M' H ∧ Dq K W'.F v d
  | n, .d d, W, M, M', v, e, I, h, q => by
    rw [frzN_d] at q; cases q
    exact ⟨W, .refl W, rfl, I, h⟩
  | 0, .c i, W, M, M', v, e, I, h, q => by simp [frzN] at q
  | n + 1, .c i, W, M, M', v, e, I, h, q => by
    obtain ⟨a, rfl, ha⟩ := h
    have ih := frzN_ok n
    unfold frzN at q
    dsimp only at q
    cases hm : M[i]? with
    | none => rw [hm] at q; cases q
    | some o =>
      rw [hm] at q
      have ok := I.ob i a o ha hm
      cases o with
      | frz d => cases q; exact ⟨W, .refl W, rfl, I, ok⟩
      | lst xs =>
        obtain ⟨_, vs, h1, h2⟩ := ok
        dsimp only at q
        cases hl : frzLf (frzN n) M xs with
        | none => rw [hl] at q; cases q
        | some r =>
          obtain ⟨ds, Ma⟩ := r
          rw [hl] at q
          dsimp only at q
          obtain ⟨W1, l1, t1, I1, r1⟩ := frzLf_ok ih xs W M Ma vs ds I h2 hl
          cases hm1 : Ma[i]? with
          | none => rw [hm1] at q; cases q
          | some o1 =>
            rw [hm1] at q
            have ok1 := I1.ob i a o1 (t1 ▸ ha) hm1
            cases o1 with
            | lst ys =>
              cases q
              obtain ⟨f0, _⟩ := ok1
              obtain ⟨J, l⟩ := I1.freeze (d := .list ds) (t1 ▸ ha) f0 h1 (.lst (.of upd_same) (r1.same (.of (same_new f0))))
              exact ⟨_, l1.trans l, t1, J, .lst (.of upd_same) (r1.same (.of (same_new f0)))⟩
            | _ => cases q
      | tup xs =>
        obtain ⟨_, vs, h1, h2⟩ := ok
        dsimp only at q
        cases hl : frzLf (frzN n) M xs with
        | none => rw [hl] at q; cases q
        | some r =>
          obtain ⟨ds, Ma⟩ := r
          rw [hl] at q
          dsimp only at q
          obtain ⟨W1, l1, t1, I1, r1⟩ := frzLf_ok ih xs W M Ma vs ds I h2 hl
          cases hm1 : Ma[i]? with
          | none => rw [hm1] at q; cases q
          | some o1 =>
            rw [hm1] at q
            have ok1 := I1.ob i a o1 (t1 ▸ ha) hm1
            cases o1 with
            | tup ys =>
              cases q
              obtain ⟨f0, _⟩ := ok1
              obtain ⟨J, l⟩ := I1.freeze (d := .tuple ds) (t1 ▸ ha) f0 h1 (.tup (.of upd_same) (r1.same (.of (same_new f0))))
              exact ⟨_, l1.trans l, t1, J, .tup (.of upd_same) (r1.same (.of (same_new f0)))⟩
            | _ => cases q
      | dic kvs =>
        obtain ⟨_, vs, h1, h2⟩ := ok
        obtain ⟨e1, e2⟩ := KVX.split h2
        dsimp only at q
        cases hl : frzLf (frzN n) M (kvs.map (·.2)) with
        | none => rw [hl] at q; cases q
        | some r =>
          obtain ⟨ds, Ma⟩ := r
          rw [hl] at q
          dsimp only at q
          obtain ⟨W1, l1, t1, I1, r1⟩ := frzLf_ok ih _ W M Ma _ ds I e2 hl
          cases hm1 : Ma[i]? with
          | none => rw [hm1] at q; cases q
          | some o1 =>
            rw [hm1] at q
            have ok1 := I1.ob i a o1 (t1 ▸ ha) hm1
            cases o1 with
            | dic ys =>
              cases q
              obtain ⟨f0, _⟩ := ok1
              have hd := Dq.dic (K := K) (F := upd W1.F a (.dK vs)) (a := a) (kvs := vs) (ds := ds) (.inl upd_same) (r1.same (.of (same_new f0)))
              rw [map_fst kD e1] at hd
              obtain ⟨J, l⟩ := I1.freeze (t1 ▸ ha) f0 h1 hd
              exact ⟨_, l1.trans l, t1, J, hd⟩
            | _ => cases q
      | dit kvs => cases q
      | ins C fs => cases q
end
end G

set_option Elab.async false
set_option linter.all false
set_option maxRecDepth 100000
set_option maxHeartbeats 4000000
/-! G1: the judgements over data and store; names, constants, operators, tests. -/
namespace G
open PySem PySem.Spec PyProof.Rows L2
abbrev St := L2.St

def ifS {α : Type} (o : Option α) (P : α → Prop) : Prop := match o with
  | some a => P a
  | none => False
theorem ifS_of {α : Type} {o : Option α} {P : α → Prop} (h : ifS o P) : ∃ a, o = some a ∧ P a := by
  cases o with
  | none => exact h.elim
  | some a => exact ⟨a, rfl, h⟩
@[simp] theorem ifS_some {α : Type} (a : α) (P : α → Prop) : ifS (some a) P = P a := rfl
@[simp] theorem ifS_none {α : Type} (P : α → Prop) : ifS none P = False := rfl

abbrev Sl := List (Option Xv)
abbrev RE := Sl → Sto → (Xv → Sto → Prop) → Prop
abbrev RF := Sl → Sto → (List Xv → Sto → Prop) → Prop
abbrev RT := Sl → Sto → (Bool → Sto → Prop) → Prop
inductive Out where
  | nx (σ : Sl) | rt (x : Xv) | bk (σ : Sl) | ct (σ : Sl)
abbrev RS := Sl → Sto → (Out → Sto → Prop) → Prop

def slot (σ : Sl) (i : Nat) : Option Xv := match σ[i]? with
  | some (some x) => some x
  | _ => none
def Slr (K : PySem.W.Frag) (W : Wd) (σ : St) (σx : Sl) : Prop := σ.length = σx.length ∧ ∀ (i : Nat) x, σx[i]? = some (some x) → ∃ v, σ[i]? = some (some v) ∧ VX K W v x
section
variable {K : PySem.W.Frag} {W W' : Wd} {M : Sto} {H : Hp} {σ : St} {σx : Sl}
theorem Slr.lf (l : W.lf W') (h : Slr K W σ σx) : Slr K W' σ σx := ⟨h.1, fun i x e => let ⟨v, h1, h2⟩ := h.2 i x e; ⟨v, h1, h2.lf l⟩⟩
theorem Slr.le (l : W.le W') (h : Slr K W σ σx) : Slr K W' σ σx := h.lf l.tolf
theorem Slr.set (h : Slr K W σ σx) (i : Nat) {v : V} {x : Xv} (r : VX K W v x) : Slr K W (σ.set i (some v)) (σx.set i (some x)) := by
  refine ⟨by simp [h.1], fun j y e => ?_⟩
  by_cases q : i = j
  · subst q
    by_cases hi : i < σx.length
    · rw [List.getElem?_set_self hi] at e
      cases e
      exact ⟨v, by rw [List.getElem?_set_self (by rw [h.1]; exact hi)], r⟩
    · rw [List.getElem?_eq_none (by simpa using hi)] at e; cases e
  · rw [List.getElem?_set_ne q] at e
    obtain ⟨w, h1, h2⟩ := h.2 j y e
    exact ⟨w, by rw [List.getElem?_set_ne q]; exact h1, h2⟩
theorem Slr.slot (h : Slr K W σ σx) {i : Nat} {x : Xv} (e : slot σx i = some x) : ∃ v, σ[i]? = some (some v) ∧ VX K W v x := by
  unfold G.slot at e
  split at e
  · rename_i y hy
    cases e
    exact h.2 i _ hy
  · cases e
end

/-- a loose object: nobody's -/
structure Loose (W : Wd) (H : Hp) (a : Addr) (u : HO) : Prop where
  at_ : H a = some u
  f : W.F a = none
  g : W.G a = none
  t : a ∉ W.θ
section
variable {K : PySem.W.Frag} {W : Wd} {M : Sto} {H : Hp} {a : Addr} {u : HO}
theorem InvS.loose (I : InvS K W M H) {p : Addr} (hp : H p = none) (u : HO) : InvS K W M (upd H p u) ∧ Loose W (upd H p u) p u := by
  obtain ⟨f0, g0, t0⟩ := I.fresh hp
  exact ⟨I.newLoose hp u, upd_same, f0, g0, t0⟩
theorem InvS.adoptCell (I : InvS K W M H) (L : Loose W H a u) {o : Ob} (ok : ∀ W' : Wd, W.le W' → W'.F a = none → OkOb K W' H a o) :
    InvS K ⟨W.θ ++ [a], W.F, W.G⟩ (M ++ [o]) H ∧ W.le ⟨W.θ ++ [a], W.F, W.G⟩ ∧ VX K ⟨W.θ ++ [a], W.F, W.G⟩ (.ref a) (.c M.length) := by
  have l : W.le ⟨W.θ ++ [a], W.F, W.G⟩ := ⟨⟨fun i b h => get_snoc_old h, SameR.refl _⟩, rfl⟩
  refine ⟨⟨by simp [I.len], ?_, fun i b o' h1 h2 => ?_, I.sf, I.sg, I.fg, fun b hb => ?_, fun b hb => ?_⟩, l, ⟨a, rfl, ?_⟩⟩
  · show (W.θ ++ [a]).Nodup
    rw [List.nodup_append]
    exact ⟨I.nd, by simp, fun b hb c hc => by
      simp at hc; subst hc
      rintro rfl
      exact L.t hb⟩
  · rcases get_snoc h1 with h1 | ⟨e1, rfl⟩
    · rcases get_snoc h2 with h2 | ⟨e2, _⟩
      · exact (I.ob i b o' h1 h2).le l rfl rfl
      · exfalso
        have := (List.getElem?_eq_some_iff.mp h1).1
        rw [I.len] at this
        omega
    · rcases get_snoc h2 with h2 | ⟨_, rfl⟩
      · exfalso
        have := (List.getElem?_eq_some_iff.mp h2).1
        rw [← I.len] at this
        omega
      · exact ok _ l L.f
  · rcases List.mem_append.mp hb with hb | hb
    · exact I.tg b hb
    · simp at hb; subst hb; exact L.g
  · rcases List.mem_append.mp hb with hb | hb
    · exact I.th b hb
    · simp at hb; subst hb; rw [L.at_]; simp
  · show (W.θ ++ [a])[M.length]? = some a
    rw [← I.len]
    simp
theorem InvS.adoptData (I : InvS K W M H) (L : Loose W H a u) : InvS K ⟨W.θ, upd W.F a u, W.G⟩ M H ∧ W.le ⟨W.θ, upd W.F a u, W.G⟩ := by
  have l : W.le ⟨W.θ, upd W.F a u, W.G⟩ := ⟨⟨fun i b h => h, .of (same_new L.f)⟩, rfl⟩
  refine ⟨⟨I.len, I.nd, fun i b o' h1 h2 => ?_, fun b o h => ?_, I.sg, fun b => ?_, I.tg, I.th⟩, l⟩
  · have hb : b ≠ a := fun e => L.t (e ▸ List.mem_of_getElem? h1)
    exact (I.ob i b o' h1 h2).le l rfl (upd_ne hb)
  · have h : upd W.F a u b = some o := h
    by_cases e : b = a
    · subst e; rw [upd_same] at h; cases h; exact L.at_
    · rw [upd_ne e] at h; exact I.sf b o h
  · by_cases e : b = a
    · subst e; exact .inr L.g
    · rcases I.fg b with q | q
      · exact .inl (by show upd W.F a u b = none; rw [upd_ne e]; exact q)
      · exact .inr q
end

def Snd (K : PySem.W.Frag) (t : TE) (r : RE) : Prop := ∀ (W : Wd) (M : Sto) (H : Hp) (σ : St) (σx : Sl) (P : Xv → Sto → Prop) (Q : VK), InvS K W M H → Slr K W σ σx → r σx M P →
  (∀ W' M' H' v x, W.le W' → InvS K W' M' H' → VX K W' v x → P x M' → Q v H') → t σ H Q
def SndF (K : PySem.W.Frag) (t : TE) (r : RF) : Prop := ∀ (W : Wd) (M : Sto) (H : Hp) (σ : St) (σx : Sl) (P : List Xv → Sto → Prop) (Q : VK), InvS K W M H → Slr K W σ σx → r σx M P →
  (∀ W' M' H' a vs xs, W.le W' → InvS K W' M' H' → Loose W' H' a (.lst vs) → VXs K W' vs xs → P xs M' → Q (.ref a) H') → t σ H Q
def SndT (K : PySem.W.Frag) (t : TT) (r : RT) : Prop := ∀ (W : Wd) (M : Sto) (H : Hp) (σ : St) (σx : Sl) (P : Bool → Sto → Prop) (Q : Bool → Hp → Prop), InvS K W M H → Slr K W σ σx → r σx M P →
  (∀ W' M' H' b, W.le W' → InvS K W' M' H' → P b M' → Q b H') → t σ H Q
def SndA (K : PySem.W.Frag) (t : TA) (r : RF) : Prop := ∀ (W : Wd) (M : Sto) (H : Hp) (σ : St) (σx : Sl) (P : List Xv → Sto → Prop) (Q : List V → Hp → Prop), InvS K W M H → Slr K W σ σx → r σx M P →
  (∀ W' M' H' vs xs, W.le W' → InvS K W' M' H' → VXs K W' vs xs → P xs M' → Q vs H') → t σ H Q
def Fin (K : PySem.W.Frag) (W : Wd) (D : Ends) (H : Hp) : Out → Prop
  | .nx σx => ∀ σ, Slr K W σ σx → D.nx σ H
  | .rt x => ∀ v, VX K W v x → D.rt v H
  | .bk σx => ∀ σ, Slr K W σ σx → D.bk σ H
  | .ct σx => ∀ σ, Slr K W σ σx → D.ct σ H
def SndS (K : PySem.W.Frag) (t : TS) (r : RS) : Prop := ∀ (W : Wd) (M : Sto) (H : Hp) (σ : St) (σx : Sl) (P : Out → Sto → Prop) (D : Ends), InvS K W M H → Slr K W σ σx → r σx M P →
  (∀ W' M' H' o, W.le W' → InvS K W' M' H' → P o M' → Fin K W' D H' o) → t D σ H

def SE (X : Cx) (e : Expr) (r : RE) : Prop := ∃ t, PE X e t ∧ Snd X.K t r
def SF (X : Cx) (e : Expr) (r : RF) : Prop := ∃ t, PE X e t ∧ SndF X.K t r
def SC (X : Cx) (e : Expr) (r : RT) : Prop := ∃ t, PT X e t ∧ SndT X.K t r
def SA (X : Cx) (es : List Expr) (r : RF) : Prop := ∃ t, PA X es t ∧ SndA X.K t r
def SS (X : Cx) (st : Stmt) (r : RS) : Prop := ∃ t, PS X st t ∧ SndS X.K t r
def SSs (X : Cx) (st : List Stmt) (r : RS) : Prop := ∃ t, PSs X st t ∧ SndS X.K t r

/-! ### names, constants -/
def rVar (i : Nat) : RE := fun σ M P => ifS (slot σ i) fun x => P x M
def rC (d : PyData) : RE := fun _ M P => P (.d d) M
section
variable {X : Cx}
theorem se_var (i : Nat) {x : Str} {pos : Pos} (hN : X.N[i]? = some x := by rfl) (hv : Vis X.env.scope x := by first | exact Or.inl rfl | exact Or.inr (Or.inl rfl) | exact Or.inr (Or.inr rfl)) (hd : (x == ("__debug__" : Str)) = false := by decide)
    (hcd : (x == ("__classdict__" : Str)) = false := by decide) : SE X (.Name x pos) (rVar i) := by
  refine ⟨tVar i, pe_var hN hv hd hcd, fun W M H σ σx P Q I S h q => ?_⟩
  obtain ⟨x, e, h⟩ := ifS_of h
  obtain ⟨v, h1, h2⟩ := S.slot e
  exact ⟨v, h1, q W M H v x (.refl W) I h2 h⟩
theorem snd_c {K : PySem.W.Frag} {v : V} {d : PyData} (h : ∀ F, Dq K F v d) : Snd K (tC v) (rC d) := fun W M H σ σx P Q I S h' q => q W M H v (.d d) (.refl W) I (h _) h'
theorem se_int {i : Int} {j : Nat} {pos : Pos} : SE X (.Constant (.int i) j pos) (rC (.int i)) := ⟨_, pe_int, snd_c fun _ => .int i⟩
theorem se_bl {b : Bool} {j : Nat} {pos : Pos} : SE X (.Constant (.bool b) j pos) (rC (.bool b)) := ⟨_, pe_bl, snd_c fun _ => .bl b⟩
theorem se_non {j : Nat} {pos : Pos} : SE X (.Constant .none j pos) (rC .none) := ⟨_, pe_non, snd_c fun _ => .non⟩
theorem se_str {x : Str} {j : Nat} {pos : Pos} : SE X (.Constant (.str x) j pos) (rC (.str x)) := ⟨_, pe_str, snd_c fun _ => .str x⟩
/-- an int of the module's top -/
theorem se_gint {x : Str} {pos : Pos} {i : Int} {t : Tok} (hg : Gl X x) (hm : X.mg x = some (.int i t)) (hd : (x == ("__debug__" : Str)) = false := by decide) : SE X (.Name x pos) (rC (.int i)) :=
  ⟨_, pe_glob (v := .int i) hg hm ⟨t, rfl⟩ hd, snd_c fun _ => .int i⟩
end

/-! ### a value's head -/
inductive Hd where
  | sc (d : PyData)
  | lst (xs : List Xv)
  | tup (xs : List Xv)
  | dic (kvs : List (PyData × Xv))
  | dit (kvs : List (List Key × Xv))
  | no
def hdD : PyData → Hd
  | .list ds => .lst (dX ds)
  | .tuple ds => .tup (dX ds)
  | .dict kvs => .dic (kvs.map fun p => (p.1, .d p.2))
  | d => .sc d
def hd (M : Sto) : Xv → Hd
  | .d d => hdD d
  | .c i => match M[i]? with
    | some (.lst xs) => .lst xs
    | some (.tup xs) => .tup xs
    | some (.dic kvs) => .dic (kvs.map fun p => (kD p.1, p.2))
    | some (.dit kvs) => .dit kvs
    | some (.frz d) => hdD d
    | _ => .no
def scV : PyData → V → Prop
  | .none, v => v = .non
  | .bool b, v => v = .bl b
  | .int i, v => v = .int i
  | .str x, v => v = .str x
  | _, _ => False
/-- how a head lies in the heap -/
def HdOk (K : PySem.W.Frag) (W : Wd) (H : Hp) (v : V) : Hd → Prop
  | .sc d => scV d v
  | .lst xs => ∃ a vs, v = .ref a ∧ SqL K H a vs ∧ VXs K W vs xs
  | .tup xs => ∃ a vs, v = .ref a ∧ SqT K H a vs ∧ VXs K W vs xs
  | .dic kvs => ∃ a, v = .ref a ∧ ∃ vs : List (Key × V), Rd H a (.dK vs) ∧ Paired (fun p q => kD p.1 = q.1 ∧ VX K W p.2 q.2) vs kvs
  | .dit kvs => ∃ a, v = .ref a ∧ ∃ vs : List (List Key × V), Rd H a (.dT vs) ∧ KVX K W vs kvs
  | .no => True
section
variable {K : PySem.W.Frag} {W : Wd} {M : Sto} {H : Hp}
theorem pair_zip {κ : Type} {f : κ → PyData} : ∀ {kvs : List (κ × V)} {ds : List PyData}, DqAll K W.F (kvs.map (·.2)) ds →
    Paired (fun (p : κ × V) (q : PyData × Xv) => f p.1 = q.1 ∧ VX K W p.2 q.2) kvs (((kvs.map fun p => f p.1).zip ds).map fun p => (p.1, .d p.2))
  | [], _, h => by cases h; exact .nil
  | p :: kvs, _, h => by
    cases h with
    | cons h1 h2 => exact .cons ⟨rfl, h1⟩ (pair_zip h2)
theorem hdD_ok (I : InvS K W M H) {v : V} {d : PyData} (h : Dq K W.F v d) : HdOk K W H v (hdD d) := by
  cases h with
  | non => exact (rfl : V.non = V.non)
  | bl b => exact (rfl : V.bl b = V.bl b)
  | int i => exact (rfl : V.int i = V.int i)
  | str x => exact (rfl : V.str x = V.str x)
  | lst h1 h2 => exact ⟨_, _, rfl, I.sf.seq h1, VXs.ofD h2⟩
  | tup h1 h2 => exact ⟨_, _, rfl, (SameR.of I.sf).sqT h1, VXs.ofD h2⟩
  | dic h1 h2 => exact ⟨_, rfl, _, (SameR.of I.sf).rd _ _ trivial h1, pair_zip h2⟩
theorem KVX.pair {κ : Type} {f : κ → PyData} : ∀ {vs : List (κ × V)} {xs : List (κ × Xv)}, KVX K W vs xs → Paired (fun p q => f p.1 = q.1 ∧ VX K W p.2 q.2) vs (xs.map fun p => (f p.1, p.2))
  | _, _, .nil => .nil
  | _, _, .cons h r => .cons ⟨congrArg f h.1, h.2⟩ (KVX.pair r)
theorem hd_ok (I : InvS K W M H) {v : V} {x : Xv} (h : VX K W v x) : HdOk K W H v (hd M x) := by
  cases x with
  | d d => exact hdD_ok I h
  | c i =>
    obtain ⟨a, rfl, ha⟩ := h
    cases hm : M[i]? with
    | none => simp only [hd, hm]; trivial
    | some o =>
      have ok := I.ob i a o ha hm
      cases o with
      | lst xs => simp only [hd, hm]; obtain ⟨_, vs, h1, h2⟩ := ok; exact ⟨a, vs, rfl, .of h1, h2⟩
      | tup xs => simp only [hd, hm]; obtain ⟨_, vs, h1, h2⟩ := ok; exact ⟨a, vs, rfl, .of h1, h2⟩
      | dic kvs => simp only [hd, hm]; obtain ⟨_, vs, h1, h2⟩ := ok; exact ⟨a, rfl, vs, .inl h1, KVX.pair h2⟩
      | dit kvs => simp only [hd, hm]; obtain ⟨_, vs, h1, h2⟩ := ok; exact ⟨a, rfl, vs, .inl h1, h2⟩
      | frz d => simp only [hd, hm]; exact hdD_ok I ok
      | ins C fs => simp only [hd, hm]; trivial
theorem HdOk.le {W' : Wd} (l : W.le W') {v : V} {h : Hd} (q : HdOk K W H v h) : HdOk K W' H v h := by
  cases h with
  | sc d => exact q
  | no => trivial
  | lst xs => obtain ⟨a, vs, e, h1, h2⟩ := q; exact ⟨a, vs, e, h1, h2.le l⟩
  | tup xs => obtain ⟨a, vs, e, h1, h2⟩ := q; exact ⟨a, vs, e, h1, h2.le l⟩
  | dic kvs =>
    obtain ⟨a, e, vs, h1, h2⟩ := q
    exact ⟨a, e, vs, h1, L2.Paired.mapP h2 fun _ _ z => ⟨z.1, z.2.le l⟩⟩
  | dit kvs =>
    obtain ⟨a, e, vs, h1, h2⟩ := q
    exact ⟨a, e, vs, h1, h2.le l⟩
end
@[simp] theorem hd_int (M : Sto) (i : Int) : hd M (.d (.int i)) = .sc (.int i) := rfl
@[simp] theorem hd_str (M : Sto) (i : Str) : hd M (.d (.str i)) = .sc (.str i) := rfl
@[simp] theorem hd_bool (M : Sto) (i : Bool) : hd M (.d (.bool i)) = .sc (.bool i) := rfl
@[simp] theorem hd_none (M : Sto) : hd M (.d .none) = .sc .none := rfl
@[simp] theorem hd_list (M : Sto) (ds : List PyData) : hd M (.d (.list ds)) = .lst (dX ds) := rfl
@[simp] theorem hd_tuple (M : Sto) (ds : List PyData) : hd M (.d (.tuple ds)) = .tup (dX ds) := rfl

/-! ### fresh lists as data, as cells -/
/-- a fresh list as data -/
def rD (r : RF) : RE := fun σ M P => r σ M fun xs M1 => ifS (fzL M1 xs) fun q => P (.d (.list q.1)) q.2
/-- .. as a cell -/
def rCl (r : RF) : RE := fun σ M P => r σ M fun xs M1 => P (.c M1.length) (M1 ++ [.lst xs])
section
variable {K : PySem.W.Frag} {t : TE} {r : RF}
theorem snd_rD (h : SndF K t r) : Snd K t (rD r) := by
  intro W M H σ σx P Q I S hr q
  refine h W M H σ σx _ Q I S hr fun W1 M1 H1 a vs xs l1 I1 L1 v1 p1 => ?_
  obtain ⟨⟨ds, M2⟩, e, p⟩ := ifS_of p1
  obtain ⟨W2, l2, t2, I2, d2⟩ := frzLf_ok (frzN_ok 6) xs W1 M1 M2 vs ds I1 v1 e
  by_cases hf : W2.F a = none
  · have hg : W2.G a = none := by rw [l2.g]; exact L1.g
    have L2 : Loose W2 H1 a (.lst vs) := ⟨L1.at_, hf, hg, by rw [t2]; exact L1.t⟩
    obtain ⟨I3, l3⟩ := I2.adoptData L2
    exact q _ M2 H1 _ (.d (.list ds)) (l1.trans (l2.trans l3)) I3 (show Dq K _ _ _ from .lst (.of upd_same) (d2.same l3.f)) p
  · cases hz : W2.F a with
    | none => exact absurd hz hf
    | some u =>
      have e1 := I2.sf a u hz
      rw [L1.at_] at e1
      cases e1
      exact q _ M2 H1 _ (.d (.list ds)) (l1.trans l2) I2 (show Dq K _ _ _ from .lst (.of hz) d2) p
theorem snd_rCl (h : SndF K t r) : Snd K t (rCl r) := by
  intro W M H σ σx P Q I S hr q
  refine h W M H σ σx _ Q I S hr fun W1 M1 H1 a vs xs l1 I1 L1 v1 p1 => ?_
  obtain ⟨I2, l2, x2⟩ := I1.adoptCell L1 (o := .lst xs) fun W' l' f' => ⟨f', vs, L1.at_, v1.le l'⟩
  exact q _ _ H1 _ _ (l1.trans l2) I2 x2 p1
end
theorem SF.data {X : Cx} {e : Expr} {r : RF} (h : SF X e r) : SE X e (rD r) := let ⟨t, p, s⟩ := h; ⟨t, p, snd_rD s⟩
theorem SF.cell {X : Cx} {e : Expr} {r : RF} (h : SF X e r) : SE X e (rCl r) := let ⟨t, p, s⟩ := h; ⟨t, p, snd_rCl s⟩
/-- what stands as a value is frozen here -/
def rFz (r : RE) : RE := fun σ M P => r σ M fun x M1 => ifS (fz M1 x) fun q => P (.d q.1) q.2
theorem SE.fz {X : Cx} {e : Expr} {r : RE} (h : SE X e r) : SE X e (rFz r) := by
  obtain ⟨t, p, s⟩ := h
  refine ⟨t, p, fun W M H σ σx P Q I S hr q => ?_⟩
  refine s W M H σ σx _ Q I S hr fun W1 M1 H1 v x l1 I1 v1 p1 => ?_
  obtain ⟨⟨d, M2⟩, e, p⟩ := ifS_of p1
  obtain ⟨W2, l2, t2, I2, d2⟩ := frzN_ok 6 x W1 M1 M2 v d I1 v1 e
  exact q W2 M2 H1 v (.d d) (l1.trans l2) I2 d2 p

/-! ### operators by values -/
abbrev G2 := Xv → Xv → Sto → (Xv → Sto → Prop) → Prop
def OpX (X : Cx) (f : Value → Value → Sem Value) (g : G2) : Prop := ∃ r, OpR X f r ∧ ∀ (W : Wd) (M : Sto) (H : Hp) (v u : V) (x y : Xv) (P : Xv → Sto → Prop) (Q : VK), InvS X.K W M H → VX X.K W v x → VX X.K W u y → g x y M P →
  (∀ W' M' H' z zx, W.le W' → InvS X.K W' M' H' → VX X.K W' z zx → P zx M' → Q z H') → r v u H Q
def rBin (g : G2) (ra rb : RE) : RE := fun σ M P => ra σ M fun x M1 => rb σ M1 fun y M2 => g x y M2 P
section
variable {X : Cx} {a b c : Expr} {ra rb rc : RE} {pos : Pos}
theorem snd_bin {K : PySem.W.Frag} {ta tb : TE} {r : R2} {g : G2} (ha : Snd K ta ra) (hb : Snd K tb rb)
    (h : ∀ (W : Wd) (M : Sto) (H : Hp) (v u : V) (x y : Xv) (P : Xv → Sto → Prop) (Q : VK), InvS K W M H → VX K W v x → VX K W u y → g x y M P →
      (∀ W' M' H' z zx, W.le W' → InvS K W' M' H' → VX K W' z zx → P zx M' → Q z H') → r v u H Q) : Snd K (tOp r ta tb) (rBin g ra rb) := by
  intro W M H σ σx P Q I S hr q
  refine ha W M H σ σx _ _ I S hr fun W1 M1 H1 v x l1 I1 v1 p1 => ?_
  refine hb W1 M1 H1 σ σx _ _ I1 (S.le l1) p1 fun W2 M2 H2 u y l2 I2 v2 p2 => ?_
  exact h W2 M2 H2 v u x y P Q I2 (v1.le l2) v2 p2 fun W3 M3 H3 z zx l3 I3 v3 p3 => q W3 M3 H3 z zx (l1.trans (l2.trans l3)) I3 v3 p3
theorem se_bin {op : Operator} {g : G2} (ho : OpX X (binaryOp op) g) (ha : SE X a ra) (hb : SE X b rb) : SE X (.BinOp a op b pos) (rBin g ra rb) := by
  obtain ⟨r, h1, h2⟩ := ho
  obtain ⟨ta, pa, sa⟩ := ha
  obtain ⟨tb, pb, sb⟩ := hb
  exact ⟨_, pe_op h1 pa pb, snd_bin sa sb h2⟩
theorem se_cmp {op : CmpOp} {g : G2} (ho : OpX X (compareOp op) g) (ha : SE X a ra) (hb : SE X b rb) (hm : behindInMarks op b = false := by first | exact nomark _ | rfl) : SE X (.Compare a [op] [b] pos) (rBin g ra rb) := by
  obtain ⟨r, h1, h2⟩ := ho
  obtain ⟨ta, pa, sa⟩ := ha
  obtain ⟨tb, pb, sb⟩ := hb
  exact ⟨_, pe_cmpR h1 pa pb hm, snd_bin sa sb h2⟩
end
end G

set_option Elab.async false
set_option linter.all false
set_option maxRecDepth 100000
set_option maxHeartbeats 4000000
/-! G2: operators, comparisons, subscripts over data and store. -/
namespace G
open PySem PySem.Spec PyProof.Rows L2

/-! ### data that Python compares -/
section
variable {K : PySem.W.Frag} {F : Hp}
mutual
theorem Dq.toDp : ∀ {d : PyData} {v : V}, d.canLay0 = true → Dq K F v d → Dp K F v d
  | _, _, _, .non => .non
  | _, _, _, .bl b => .bl b
  | _, _, _, .int i => .int i
  | _, _, _, .str x => .str x
  | _, _, h, .lst h1 r => .lst h1 (DqAll.toDp (by simpa [PyData.canLay0] using h) r)
  | _, _, h, .tup h1 r => .tup h1 (DqAll.toDp (by simpa [PyData.canLay0] using h) r)
  | _, _, h, .dic _ _ => by simp [PyData.canLay0] at h
theorem DqAll.toDp : ∀ {ds : List PyData} {vs : List V}, PyData.canLayAll0 ds = true → DqAll K F vs ds → DpAll K F vs ds
  | _, _, _, .nil => .nil
  | d :: ds, _, h, .cons h1 r => by
    have h' : d.canLay0 = true ∧ PyData.canLayAll0 ds = true := by simpa [PyData.canLayAll0] using h
    exact .cons (Dq.toDp h'.1 h1) (DqAll.toDp h'.2 r)
end
theorem Dq.dp {d : PyData} {v : V} (h : SeqAt.shaped d = true) (q : Dq K F v d) : Dp K F v d := q.toDp (SeqAt.canLay_of_shaped h)
end

theorem OpX.of1 {X : Cx} {f : Value → Value → Sem Value} {g : G2} {r : R2} (h : OpR X f r) (k : ∀ (W : Wd) (M : Sto) (H : Hp) (v u : V) (x y : Xv) (P : Xv → Sto → Prop) (Q : VK), InvS X.K W M H → VX X.K W v x → VX X.K W u y → g x y M P →
  (∀ W' M' H' z zx, W.le W' → InvS X.K W' M' H' → VX X.K W' z zx → P zx M' → Q z H') → r v u H Q) : OpX X f g := ⟨r, h, k⟩

/-! ### int operators -/
def gI (C : Int → Int → Prop) (f : Int → Int → PyData) : G2 := fun x y M P => match hd M x, hd M y with
  | .sc (.int i), .sc (.int j) => C i j ∧ P (.d (f i j)) M
  | _, _ => False
theorem gI_of {C : Int → Int → Prop} {f : Int → Int → PyData} {x y : Xv} {M : Sto} {P : Xv → Sto → Prop} (h : gI C f x y M P) : ∃ i j, hd M x = .sc (.int i) ∧ hd M y = .sc (.int j) ∧ C i j ∧ P (.d (f i j)) M := by
  unfold gI at h
  split at h
  · rename_i i j e1 e2
    exact ⟨i, j, e1, e2, h.1, h.2⟩
  · exact h.elim
theorem scI {K : PySem.W.Frag} {W : Wd} {M : Sto} {H : Hp} {v : V} {x : Xv} {i : Int} (I : InvS K W M H) (h : VX K W v x) (e : hd M x = .sc (.int i)) : v = .int i := by
  have := hd_ok I h
  rw [e] at this
  exact this
theorem scS {K : PySem.W.Frag} {W : Wd} {M : Sto} {H : Hp} {v : V} {x : Xv} {i : Str} (I : InvS K W M H) (h : VX K W v x) (e : hd M x = .sc (.str i)) : v = .str i := by
  have := hd_ok I h
  rw [e] at this
  exact this
theorem opx_int {X : Cx} {f : Value → Value → Sem Value} {C : Int → Int → Prop} {g : Int → Int → V} {gd : Int → Int → PyData} (h : OpR X f (rI C g)) (hg : ∀ F i j, Dq X.K F (g i j) (gd i j)) : OpX X f (gI C gd) :=
  .of1 h fun W M H v u x y P Q I v1 v2 p q => by
    obtain ⟨i, j, e1, e2, c, p⟩ := gI_of p
    exact ⟨i, j, scI I v1 e1, scI I v2 e2, c, q W M H _ (.d (gd i j)) (.refl W) I (hg _ i j) p⟩
theorem opx_int0 {X : Cx} {f : Value → Value → Sem Value} {g : Int → Int → V} {gd : Int → Int → PyData} (h : OpR X f (rI0 g)) (hg : ∀ F i j, Dq X.K F (g i j) (gd i j)) : OpX X f (gI (fun _ _ => True) gd) :=
  .of1 h fun W M H v u x y P Q I v1 v2 p q => by
    obtain ⟨i, j, e1, e2, c, p⟩ := gI_of p
    exact ⟨i, j, scI I v1 e1, scI I v2 e2, q W M H _ (.d (gd i j)) (.refl W) I (hg _ i j) p⟩
abbrev gSub : G2 := gI (fun _ _ => True) fun i j => .int (i - j)
abbrev gMul : G2 := gI CMul fun i j => .int (i * j)
abbrev gDiv : G2 := gI (fun _ j => 0 < j ∧ j < 1073741824) fun i j => .int (i / j)
abbrev gMod : G2 := gI (fun _ j => 0 < j) fun i j => .int (i % j)
abbrev gPow : G2 := gI CPow fun i j => .int (i ^ j.toNat)
section
variable {X : Cx}
theorem ox_sub : OpX X (binaryOp .Sub) gSub := opx_int0 op_sub fun _ _ _ => .int _
theorem ox_mul : OpX X (binaryOp .Mult) gMul := opx_int op_mul fun _ _ _ => .int _
theorem ox_div : OpX X (binaryOp .FloorDiv) gDiv := opx_int op_fdiv fun _ _ _ => .int _
theorem ox_mod : OpX X (binaryOp .Mod) gMod := opx_int op_mod fun _ _ _ => .int _
theorem ox_pow : OpX X (binaryOp .Pow) gPow := opx_int op_pow fun _ _ _ => .int _
end

/-! ### + -/
def dT : Xv → Option (List PyData)
  | .d (.tuple ds) => some ds
  | _ => none
def gAdd : G2 := fun x y M P => match hd M x, hd M y with
  | .sc (.int i), .sc (.int j) => P (.d (.int (i + j))) M
  | .sc (.str a), .sc (.str b) => a.length + b.length ≤ sizeLine ∧ P (.d (.str (a ++ b))) M
  | .lst xs, .lst ys => xs.length + ys.length ≤ sizeLine ∧ ifS (fzL M (xs ++ ys)) fun q => P (.d (.list q.1)) q.2
  | .tup _, .tup _ => ifS (dT x) fun ds => ifS (dT y) fun es => ds.length + es.length ≤ sizeLine ∧ P (.d (.tuple (ds ++ es))) M
  | _, _ => False
def rCatL (K : PySem.W.Frag) : R2 := fun x y H Q => ∃ l b xs zs, x = .ref l ∧ y = .ref b ∧ SqL K H l xs ∧ SqL K H b zs ∧ xs.length + zs.length ≤ sizeLine ∧ ∀ p, H p = none → Q (.ref p) (upd H p (.lst (xs ++ zs)))
theorem op_catL {X : Cx} : OpR X (binaryOp .Add) (rCatL X.K) := by
  intro pins s σ H x y v u Q I rx ry h
  obtain ⟨l, b, xs, zs, rfl, rfl, hH, hB, hz, q⟩ := h
  cases rx
  cases ry
  obtain ⟨its, r, p1, z⟩ := I.list hH
  obtain ⟨its2, r2, p2, z2⟩ := I.list hB
  have hl := r.length
  have hl2 := r2.length
  obtain ⟨⟨cls, dd, data, sl⟩, ho, hc, n, hd⟩ := id p1.isList
  obtain ⟨⟨cls2, dd2, data2, sl2⟩, ho2, hc2, n2, hd2⟩ := id p2.isList
  simp only at hc hd hc2 hd2
  subst hc hd hc2 hd2
  have e : its.toArray ++ its2.toArray = (its ++ its2).toArray := by simp
  refine concat_meets ⟨_, ho, rfl⟩ ⟨_, ho2, rfl⟩ noFill_list_add seq_list_add PySem.F.slot_list_add PySem.F.entry_list_add (PySem.F.args_list_add_2 _ _) (list_addW l b its.toArray its2.toArray n n2 dd dd2 sl sl2 (by simpa [← hl, ← hl2] using hz)) ⟨ho, ho2, ?_⟩
  rw [e]
  exact ⟨.ref _, _, I.lnew (t' := s.toks) (r.append r2) (by rw [List.length_append]; omega), rfl, q _ I.fresh⟩
/-- a loose list becomes data -/
theorem adopt_frz {K : PySem.W.Frag} {W1 : Wd} {M1 M2 : Sto} {H1 : Hp} {a : Addr} {vs : List V} {xs : List Xv} {ds : List PyData} (I1 : InvS K W1 M1 H1) (L1 : Loose W1 H1 a (.lst vs)) (v1 : VXs K W1 vs xs) (e : fzL M1 xs = some (ds, M2)) :
    ∃ W3, W1.le W3 ∧ InvS K W3 M2 H1 ∧ VX K W3 (.ref a) (.d (.list ds)) := by
  obtain ⟨W2, l2, t2, I2, d2⟩ := frzLf_ok (frzN_ok 6) xs W1 M1 M2 vs ds I1 v1 e
  by_cases hf : W2.F a = none
  · have hg : W2.G a = none := by rw [l2.g]; exact L1.g
    have L2 : Loose W2 H1 a (.lst vs) := ⟨L1.at_, hf, hg, by rw [t2]; exact L1.t⟩
    obtain ⟨I3, l3⟩ := I2.adoptData L2
    exact ⟨_, l2.trans l3, I3, show Dq K _ _ _ from .lst (.of upd_same) (d2.same l3.f)⟩
  · cases hz : W2.F a with
    | none => exact absurd hz hf
    | some u =>
      have e1 := I2.sf a u hz
      rw [L1.at_] at e1
      cases e1
      exact ⟨W2, l2, I2, show Dq K _ _ _ from .lst (.of hz) d2⟩
theorem adopt_tup {K : PySem.W.Frag} {W1 : Wd} {M1 M2 : Sto} {H1 : Hp} {a : Addr} {vs : List V} {xs : List Xv} {ds : List PyData} (I1 : InvS K W1 M1 H1) (L1 : Loose W1 H1 a (.tup vs)) (v1 : VXs K W1 vs xs) (e : fzL M1 xs = some (ds, M2)) :
    ∃ W3, W1.le W3 ∧ InvS K W3 M2 H1 ∧ VX K W3 (.ref a) (.d (.tuple ds)) := by
  obtain ⟨W2, l2, t2, I2, d2⟩ := frzLf_ok (frzN_ok 6) xs W1 M1 M2 vs ds I1 v1 e
  by_cases hf : W2.F a = none
  · have hg : W2.G a = none := by rw [l2.g]; exact L1.g
    have L2 : Loose W2 H1 a (.tup vs) := ⟨L1.at_, hf, hg, by rw [t2]; exact L1.t⟩
    obtain ⟨I3, l3⟩ := I2.adoptData L2
    exact ⟨_, l2.trans l3, I3, show Dq K _ _ _ from .tup (.of upd_same) (d2.same l3.f)⟩
  · cases hz : W2.F a with
    | none => exact absurd hz hf
    | some u =>
      have e1 := I2.sf a u hz
      rw [L1.at_] at e1
      cases e1
      exact ⟨W2, l2, I2, show Dq K _ _ _ from .tup (.of hz) d2⟩
section
variable {K : PySem.W.Frag} {W W' : Wd} {M : Sto} {H : Hp}
theorem InvS.sqL (I : InvS K W M H) {p : Addr} (hp : H p = none) {u : HO} {a : Addr} {vs : List V} (h : SqL K H a vs) : SqL K (upd H p u) a vs := (same_new hp).seq h
end
theorem lstH {K : PySem.W.Frag} {W : Wd} {M : Sto} {H : Hp} {v : V} {x : Xv} {xs : List Xv} (I : InvS K W M H) (h : VX K W v x) (e : hd M x = .lst xs) : ∃ a vs, v = .ref a ∧ SqL K H a vs ∧ VXs K W vs xs := by
  have := hd_ok I h
  rw [e] at this
  exact this
theorem tupH {K : PySem.W.Frag} {W : Wd} {M : Sto} {H : Hp} {v : V} {x : Xv} {xs : List Xv} (I : InvS K W M H) (h : VX K W v x) (e : hd M x = .tup xs) : ∃ a vs, v = .ref a ∧ SqT K H a vs ∧ VXs K W vs xs := by
  have := hd_ok I h
  rw [e] at this
  exact this
theorem dT_of {x : Xv} {ds : List PyData} (h : dT x = some ds) : x = .d (.tuple ds) := by
  unfold dT at h
  split at h
  · cases h; rfl
  · cases h
theorem vx_tup {K : PySem.W.Frag} {W : Wd} {v : V} {ds : List PyData} (h : VX K W v (.d (.tuple ds))) : ∃ a vs, v = .ref a ∧ SqT K W.F a vs ∧ DqAll K W.F vs ds := by
  have h : Dq K W.F v (.tuple ds) := h
  cases h with
  | tup h1 h2 => exact ⟨_, _, rfl, h1, h2⟩
theorem ox_add {X : Cx} : OpX X (binaryOp .Add) gAdd := by
  refine .of1 (op_add.or (op_add_str.or (op_catL.or op_catA))) fun W M H v u x y P Q I v1 v2 p q => ?_
  unfold gAdd at p
  split at p
  · rename_i i j e1 e2
    exact .inl ⟨i, j, scI I v1 e1, scI I v2 e2, q W M H _ (.d (.int (i + j))) (.refl W) I (show Dq _ _ _ _ from .int _) p⟩
  · rename_i i j e1 e2
    exact .inr (.inl ⟨i, j, scS I v1 e1, scS I v2 e2, p.1, q W M H _ (.d (.str (i ++ j))) (.refl W) I (show Dq _ _ _ _ from .str _) p.2⟩)
  · rename_i xs ys e1 e2
    obtain ⟨a, vs, rfl, s1, r1⟩ := lstH I v1 e1
    obtain ⟨b, us, rfl, s2, r2⟩ := lstH I v2 e2
    refine .inr (.inr (.inl ⟨a, b, vs, us, rfl, rfl, s1, s2, by rw [r1.length, r2.length]; exact p.1, fun p' hp => ?_⟩))
    obtain ⟨I2, L2⟩ := I.loose hp (.lst (vs ++ us))
    obtain ⟨⟨ds, M2⟩, e, pp⟩ := ifS_of p.2
    obtain ⟨W3, l3, I3, v3⟩ := adopt_frz I2 L2 (r1.append r2) e
    exact q W3 M2 _ _ _ l3 I3 v3 pp
  · rename_i xs ys e1 e2
    obtain ⟨ds, e3, p⟩ := ifS_of p
    obtain ⟨es, e4, p⟩ := ifS_of p
    have e3 := dT_of e3
    have e4 := dT_of e4
    subst e3 e4
    obtain ⟨a, vs, rfl, s1, r1⟩ := vx_tup v1
    obtain ⟨b, us, rfl, s2, r2⟩ := vx_tup v2
    refine .inr (.inr (.inr ⟨a, b, vs, us, rfl, rfl, (SameR.of I.sf).sqT s1, (SameR.of I.sf).sqT s2, by rw [r1.length, r2.length]; exact p.1, fun ev => ?_, fun _ eu => ?_, fun _ _ p' hp => ?_⟩))
    · subst ev
      cases r1
      exact q W M H _ (.d (.tuple es)) (.refl W) I v2 p.2
    · subst eu
      cases r2
      have p2 := p.2
      rw [List.append_nil] at p2
      exact q W M H _ (.d (.tuple ds)) (.refl W) I v1 p2
    · obtain ⟨I2, l2⟩ := I.newData hp (.tup (vs ++ us))
      exact q _ M _ _ (.d (.tuple (ds ++ es))) l2 I2 (show Dq _ _ _ _ from .tup (.of upd_same) (DqAll.append (r1.same l2.f) (r2.same l2.f))) p.2
  · exact p.elim

/-! ### == and != -/
def scD : PyData → Bool
  | .none | .bool _ | .int _ | .str _ => true
  | _ => false
/-- scalars of kinds that are compared without more -/
def scEq : PyData → PyData → Bool
  | .int _, .int _ => true
  | .str _, .str _ => true
  | .bool _, .bool _ => true
  | .none, .none => true
  | .none, .int _ => true
  | .int _, .none => true
  | .none, .str _ => true
  | .str _, .none => true
  | _, _ => false
def gEq : G2 := fun x y M P => ifS (pk M x) fun d => ifS (pk M y) fun e => (scEq d e = true ∨ (SeqAt.shaped d = true ∧ SeqAt.shaped e = true)) ∧ P (.d (.bool (PyData.eqv d e))) M
def gNe : G2 := fun x y M P => ifS (pk M x) fun d => ifS (pk M y) fun e => (scEq d e = true ∨ (SeqAt.shaped d = true ∧ SeqAt.shaped e = true)) ∧ P (.d (.bool (!PyData.eqv d e))) M
theorem scEq_ok {K : PySem.W.Frag} {F : Hp} {v u : V} {d e : PyData} (h : scEq d e = true) (h1 : Dq K F v d) (h2 : Dq K F u e) : scal v u = true ∧ decide (v = u) = PyData.eqv d e := by
  cases h1 <;> cases h2 <;> first
    | (simp [scEq] at h; done)
    | (refine ⟨rfl, ?_⟩; first | (rw [dec_int]; simp [PyData.eqv]) | (rw [dec_str]; simp [PyData.eqv]) | (rw [dec_bl]; simp [PyData.eqv]) | simp [PyData.eqv])
theorem ox_eq {X : Cx} (hu : X.A.units + 64 < cLine) : OpX X (compareOp .Eq) gEq := by
  refine .of1 (op_eq.or (op_eqD hu)) fun W M H v u x y P Q I v1 v2 p q => ?_
  obtain ⟨d, e1, p⟩ := ifS_of p
  obtain ⟨e, e2, p⟩ := ifS_of p
  have d1 := pkN_ok I 6 x v d v1 e1
  have d2 := pkN_ok I 6 y u e v2 e2
  have fin := q W M H (.bl (PyData.eqv d e)) (.d (.bool (PyData.eqv d e))) (.refl W) I (show Dq _ _ _ _ from .bl _) p.2
  rcases p.1 with h | ⟨h1, h2⟩
  · obtain ⟨z1, z2⟩ := scEq_ok h d1 d2
    exact .inl ⟨z1, by rw [z2]; exact fin⟩
  · exact .inr ⟨d, e, d1.dp h1, d2.dp h2, h1, h2, fin⟩
theorem ox_ne {X : Cx} (hu : X.A.units + 64 < cLine) : OpX X (compareOp .NotEq) gNe := by
  refine .of1 (op_ne.or (op_neD hu)) fun W M H v u x y P Q I v1 v2 p q => ?_
  obtain ⟨d, e1, p⟩ := ifS_of p
  obtain ⟨e, e2, p⟩ := ifS_of p
  have d1 := pkN_ok I 6 x v d v1 e1
  have d2 := pkN_ok I 6 y u e v2 e2
  have fin := q W M H (.bl (!PyData.eqv d e)) (.d (.bool (!PyData.eqv d e))) (.refl W) I (show Dq _ _ _ _ from .bl _) p.2
  rcases p.1 with h | ⟨h1, h2⟩
  · obtain ⟨z1, z2⟩ := scEq_ok h d1 d2
    exact .inl ⟨z1, by rw [z2]; exact fin⟩
  · exact .inr ⟨d, e, d1.dp h1, d2.dp h2, h1, h2, fin⟩

/-! ### < <= > >= of ints and texts -/
def gOrd (fi : Int → Int → Bool) (fs : List Nat → List Nat → Bool) : G2 := fun x y M P => match hd M x, hd M y with
  | .sc (.int i), .sc (.int j) => P (.d (.bool (fi i j))) M
  | .sc (.str a), .sc (.str b) => P (.d (.bool (fs a.cps.toList b.cps.toList))) M
  | _, _ => False
abbrev gLt : G2 := gOrd (fun i j => decide (i < j)) fun a b => decide (a < b)
abbrev gLe : G2 := gOrd (fun i j => decide (i ≤ j)) fun a b => !decide (b < a)
abbrev gGt : G2 := gOrd (fun i j => decide (j < i)) fun a b => decide (b < a)
abbrev gGe : G2 := gOrd (fun i j => decide (j ≤ i)) fun a b => !decide (a < b)
theorem opx_ord {X : Cx} {f : Value → Value → Sem Value} {fi : Int → Int → Bool} {fs : List Nat → List Nat → Bool} (h1 : OpR X f (rI0 fun i j => .bl (fi i j))) (h2 : OpR X f (fun x y H Q => ∃ i j, x = .str i ∧ y = .str j ∧ Q (.bl (fs i.cps.toList j.cps.toList)) H)) :
    OpX X f (gOrd fi fs) := by
  refine .of1 (h1.or h2) fun W M H v u x y P Q I v1 v2 p q => ?_
  unfold gOrd at p
  split at p
  · rename_i i j e1 e2
    exact .inl ⟨i, j, scI I v1 e1, scI I v2 e2, q W M H _ (.d (.bool _)) (.refl W) I (show Dq _ _ _ _ from .bl _) p⟩
  · rename_i i j e1 e2
    exact .inr ⟨i, j, scS I v1 e1, scS I v2 e2, q W M H _ (.d (.bool _)) (.refl W) I (show Dq _ _ _ _ from .bl _) p⟩
  · exact p.elim
section
variable {X : Cx}
theorem ox_lt : OpX X (compareOp .Lt) gLt := opx_ord op_lt op_lt_str
theorem ox_le : OpX X (compareOp .LtE) gLe := opx_ord op_le op_le_str
theorem ox_gt : OpX X (compareOp .Gt) gGt := opx_ord op_gt op_gt_str
theorem ox_ge : OpX X (compareOp .GtE) gGe := opx_ord op_ge op_ge_str
end

/-! ### is None -/
def isN : Xv → Bool
  | .d .none => true
  | _ => false
def gIsN (neg : Bool) : G2 := fun x y M P => match y with
  | .d .none => P (.d (.bool (if neg then !isN x else isN x))) M
  | _ => False
theorem isN_ok {K : PySem.W.Frag} {W : Wd} {v : V} {x : Xv} (h : VX K W v x) : decide (v = .non) = isN x := by
  cases x with
  | c i => obtain ⟨a, rfl, _⟩ := h; rfl
  | d d =>
    have h : Dq K W.F v d := h
    cases h <;> rfl
theorem ox_is {X : Cx} : OpX X (compareOp .Is) (gIsN false) := by
  refine .of1 op_isN fun W M H v u x y P Q I v1 v2 p q => ?_
  unfold gIsN at p
  split at p
  · have z : Dq X.K W.F u .none := v2
    cases z
    refine ⟨rfl, ?_⟩
    rw [isN_ok v1]
    exact q W M H _ (.d (.bool (isN x))) (.refl W) I (show Dq _ _ _ _ from .bl _) p
  · exact p.elim
theorem ox_isnot {X : Cx} : OpX X (compareOp .IsNot) (gIsN true) := by
  refine .of1 op_notN fun W M H v u x y P Q I v1 v2 p q => ?_
  unfold gIsN at p
  split at p
  · have z : Dq X.K W.F u .none := v2
    cases z
    refine ⟨rfl, ?_⟩
    rw [isN_ok v1]
    exact q W M H _ (.d (.bool (!isN x))) (.refl W) I (show Dq _ _ _ _ from .bl _) p
  · exact p.elim

/-! ### dicts by key -/
def keyEq : PyData → PyData → Bool
  | .int i, .int j => decide (i = j)
  | .str a, .str b => decide (a = b)
  | _, _ => false
def isKey : PyData → Bool
  | .int _ => true
  | .str _ => true
  | _ => false
def dget (kvs : List (PyData × Xv)) (k : PyData) : Option Xv := match kvs with
  | [] => none
  | p :: r => if keyEq p.1 k then some p.2 else dget r k
def keyOf : PyData → Option Key
  | .int i => some (.inl i)
  | .str a => some (.inr a)
  | _ => none
theorem keyOf_of {d : PyData} {k : Key} (h : keyOf d = some k) : d = kD k := by
  unfold keyOf at h
  split at h <;> cases h <;> rfl
theorem keyEq_kD (a b : Key) : keyEq (kD a) (kD b) = decide (a = b) := by
  cases a <;> cases b <;> simp [kD, keyEq]
theorem dget_ok {K : PySem.W.Frag} {W : Wd} : ∀ {vs : List (Key × V)} {kvs : List (PyData × Xv)} (k : Key), Paired (fun p q => kD p.1 = q.1 ∧ VX K W p.2 q.2) vs kvs →
    (dget kvs (kD k) = none ∧ valV vs k = none) ∨ ∃ v x, dget kvs (kD k) = some x ∧ valV vs k = some v ∧ VX K W v x
  | _, _, k, .nil => .inl ⟨rfl, rfl⟩
  | p :: vs, q :: kvs, k, .cons h r => by
    by_cases e : p.1 = k
    · refine .inr ⟨p.2, q.2, ?_, valV_pos e, h.2⟩
      unfold dget
      rw [← h.1, keyEq_kD, decide_eq_true e]
      rfl
    · rw [valV_neg e]
      unfold dget
      rw [← h.1, keyEq_kD, decide_eq_false e]
      exact dget_ok k r
theorem dicH {K : PySem.W.Frag} {W : Wd} {M : Sto} {H : Hp} {v : V} {x : Xv} {kvs : List (PyData × Xv)} (I : InvS K W M H) (h : VX K W v x) (e : hd M x = .dic kvs) :
    ∃ a, v = .ref a ∧ ∃ vs : List (Key × V), Rd H a (.dK vs) ∧ Paired (fun p q => kD p.1 = q.1 ∧ VX K W p.2 q.2) vs kvs := by
  have := hd_ok I h
  rw [e] at this
  exact this
theorem keyV {K : PySem.W.Frag} {F : Hp} {v : V} {k : Key} (h : Dq K F v (kD k)) : v = kV k := by
  cases k with
  | inl i => have h : Dq K F v (.int i) := h; cases h; rfl
  | inr x => have h : Dq K F v (.str x) := h; cases h; rfl
/-- d[k] read as what a look-up gives: text and int keys -/
theorem dGet_ok {K : PySem.W.Frag} {W : Wd} {M : Sto} {H : Hp} {v u : V} {x : Xv} {kvs : List (PyData × Xv)} {d : PyData} {k : Key} (I : InvS K W M H) (h : VX K W v x) (e : hd M x = .dic kvs) (hk : VX K W u (.d d)) (ek : keyOf d = some k) :
    ∃ a, v = .ref a ∧ IsD H a ∧ ((dget kvs d = none ∧ DGet H a u none) ∨ ∃ w y, dget kvs d = some y ∧ DGet H a u (some w) ∧ VX K W w y) := by
  have ed := keyOf_of ek
  subst ed
  have eu : u = kV k := keyV (F := W.F) hk
  subst eu
  obtain ⟨a, rfl, vs, h1, h2⟩ := dicH I h e
  refine ⟨a, rfl, .inl ⟨vs, h1⟩, ?_⟩
  rcases dget_ok k h2 with ⟨q1, q2⟩ | ⟨w, y, q1, q2, q3⟩
  · exact .inl ⟨q1, .inl ⟨vs, k, h1, rfl, q2.symm⟩⟩
  · exact .inr ⟨w, y, q1, .inl ⟨vs, k, h1, rfl, q2.symm⟩, q3⟩
end G

set_option Elab.async false
set_option linter.all false
set_option maxRecDepth 100000
set_option maxHeartbeats 4000000
/-! G3: tests, and or not, subscripts, slices, displays over data and store. -/
namespace G
open PySem PySem.Spec PyProof.Rows L2

/-! ### truth -/
def tru (M : Sto) (x : Xv) : Option Bool := match hd M x with
  | .sc .none => some false
  | .sc (.bool b) => some b
  | .sc (.int i) => some (i != 0)
  | .sc (.str s) => if s.length ≤ sizeLine then some ((s.length : Int) != 0) else none
  | .lst xs => some (!xs.isEmpty)
  | .tup xs => some (!xs.isEmpty)
  | _ => none
theorem VXs.empty {K : PySem.W.Frag} {W : Wd} {vs : List V} {xs : List Xv} (h : VXs K W vs xs) : vs.isEmpty = xs.isEmpty := by
  cases h <;> rfl
theorem tru_okX {K : PySem.W.Frag} {W : Wd} {M : Sto} {H : Hp} {v : V} {x : Xv} {b : Bool} (I : InvS K W M H) (h : VX K W v x) (e : tru M x = some b) : TruV K v H b := by
  unfold tru at e
  have ok := hd_ok I h
  split at e
  · rename_i q; rw [q] at ok; have ok : v = .non := ok; subst ok; cases e; rfl
  · rename_i q; rw [q] at ok; have ok : v = .bl _ := ok; subst ok; cases e; rfl
  · rename_i q; rw [q] at ok; have ok : v = .int _ := ok; subst ok; cases e; rfl
  · rename_i s q
    rw [q] at ok
    have ok : v = .str _ := ok
    subst ok
    by_cases hs : s.length ≤ sizeLine
    · rw [if_pos hs] at e; cases e; exact ⟨hs, rfl⟩
    · rw [if_neg hs] at e; cases e
  · rename_i q; rw [q] at ok; obtain ⟨a, vs, rfl, h1, h2⟩ := ok; cases e; exact .inl ⟨vs, h1, by rw [h2.empty]⟩
  · rename_i q; rw [q] at ok; obtain ⟨a, vs, rfl, h1, h2⟩ := ok; cases e; exact .inr (.inl ⟨vs, h1, by rw [h2.empty]⟩)
  · cases e
def rTr (r : RE) : RT := fun σ M P => r σ M fun x M1 => ifS (tru M1 x) fun b => P b M1
def boX : Xv → Option Bool
  | .d (.bool b) => some b
  | _ => none
theorem boX_of {x : Xv} {b : Bool} (h : boX x = some b) : x = .d (.bool b) := by
  unfold boX at h
  split at h <;> cases h
  rfl
theorem boV {K : PySem.W.Frag} {W : Wd} {v : V} {b : Bool} (h : VX K W v (.d (.bool b))) : v = .bl b := by
  have h : Dq K W.F v (.bool b) := h
  cases h; rfl
def rTb (r : RE) : RT := fun σ M P => r σ M fun x M1 => ifS (boX x) fun b => P b M1
section
variable {X : Cx} {a b c : Expr} {ra rb rc : RE} {pos : Pos}
theorem sc_val (ha : SE X a ra) (he : ∀ whole, isTrue a X.env whole = (do let v ← whole; standAt a.pos; holding [v] (truthy v)) := by intro _; rfl) : SC X a (rTr ra) := by
  obtain ⟨ta, pa, sa⟩ := ha
  refine ⟨_, pt_truth pa he, fun W M H σ σx P Q I S hr q => ?_⟩
  refine sa W M H σ σx _ _ I S hr fun W1 M1 H1 v x l1 I1 v1 p1 => ?_
  obtain ⟨b, e, p⟩ := ifS_of p1
  exact ⟨b, tru_okX I1 v1 e, q W1 M1 H1 b l1 I1 p⟩
theorem snd_test {K : PySem.W.Frag} {t : TE} {r : RE} (h : Snd K t r) : SndT K (tTest t) (rTb r) := by
  intro W M H σ σx P Q I S hr q
  refine h W M H σ σx _ _ I S hr fun W1 M1 H1 v x l1 I1 v1 p1 => ?_
  obtain ⟨b, e, p⟩ := ifS_of p1
  have ex := boX_of e
  subst ex
  exact ⟨b, boV v1, q W1 M1 H1 b l1 I1 p⟩
theorem sc_cmp {op : CmpOp} {g : G2} (ho : OpX X (compareOp op) g) (ha : SE X a ra) (hb : SE X b rb) (hm : behindInMarks op b = false := by first | exact nomark _ | rfl) : SC X (.Compare a [op] [b] pos) (rTb (rBin g ra rb)) := by
  obtain ⟨r, h1, h2⟩ := ho
  obtain ⟨ta, pa, sa⟩ := ha
  obtain ⟨tb, pb, sb⟩ := hb
  exact ⟨_, pt_cmpR h1 pa pb hm, snd_test (snd_bin sa sb h2)⟩
/-- a op b op' c -/
def rChain (g g' : G2) (ra rb rc : RE) : RE := fun σ M P => ra σ M fun x M1 => rb σ M1 fun y M2 => g x y M2 fun z M3 => ifS (boX z) fun k => if k = true then rc σ M3 fun w M4 => g' y w M4 P else P (.d (.bool false)) M3
theorem snd_chain {K : PySem.W.Frag} {ta tb tc : TE} {r r' : R2} {g g' : G2} (ha : Snd K ta ra) (hb : Snd K tb rb) (hc : Snd K tc rc)
    (h : ∀ (W : Wd) (M : Sto) (H : Hp) (v u : V) (x y : Xv) (P : Xv → Sto → Prop) (Q : VK), InvS K W M H → VX K W v x → VX K W u y → g x y M P →
      (∀ W' M' H' z zx, W.le W' → InvS K W' M' H' → VX K W' z zx → P zx M' → Q z H') → r v u H Q)
    (h' : ∀ (W : Wd) (M : Sto) (H : Hp) (v u : V) (x y : Xv) (P : Xv → Sto → Prop) (Q : VK), InvS K W M H → VX K W v x → VX K W u y → g' x y M P →
      (∀ W' M' H' z zx, W.le W' → InvS K W' M' H' → VX K W' z zx → P zx M' → Q z H') → r' v u H Q) : Snd K (tChain r r' ta tb tc) (rChain g g' ra rb rc) := by
  intro W M H σ σx P Q I S hr q
  refine ha W M H σ σx _ _ I S hr fun W1 M1 H1 v x l1 I1 v1 p1 => ?_
  refine hb W1 M1 H1 σ σx _ _ I1 (S.le l1) p1 fun W2 M2 H2 u y l2 I2 v2 p2 => ?_
  refine h W2 M2 H2 v u x y _ _ I2 (v1.le l2) v2 p2 fun W3 M3 H3 z zx l3 I3 v3 p3 => ?_
  obtain ⟨k, e, p⟩ := ifS_of p3
  have ex := boX_of e
  subst ex
  refine ⟨k, boV v3, ?_⟩
  cases k with
  | true =>
    rw [if_pos rfl] at p ⊢
    refine hc W3 M3 H3 σ σx _ _ I3 (S.le (l1.trans (l2.trans l3))) p fun W4 M4 H4 w wx l4 I4 v4 p4 => ?_
    exact h' W4 M4 H4 u w y wx P Q I4 (v2.le (l3.trans l4)) v4 p4 fun W5 M5 H5 z zx l5 I5 v5 p5 => q W5 M5 H5 z zx (l1.trans (l2.trans (l3.trans (l4.trans l5)))) I5 v5 p5
  | false =>
    rw [if_neg Bool.false_ne_true] at p ⊢
    exact q W3 M3 H3 _ (.d (.bool false)) (l1.trans (l2.trans l3)) I3 (show Dq _ _ _ _ from .bl _) p
theorem se_chain {op op' : CmpOp} {g g' : G2} (ho : OpX X (compareOp op) g) (ho' : OpX X (compareOp op') g') (ha : SE X a ra) (hb : SE X b rb) (hc : SE X c rc) (hm : lastMarks [op, op'] [b, c] = false := by with_unfolding_all rfl) :
    SE X (.Compare a [op, op'] [b, c] pos) (rChain g g' ra rb rc) := by
  obtain ⟨r, h1, h2⟩ := ho
  obtain ⟨r', h1', h2'⟩ := ho'
  obtain ⟨ta, pa, sa⟩ := ha
  obtain ⟨tb, pb, sb⟩ := hb
  obtain ⟨tc, pc, sc⟩ := hc
  exact ⟨_, pe_chain h1 h1' pa pb pc hm, snd_chain sa sb sc h2 h2'⟩
theorem sc_chain {op op' : CmpOp} {g g' : G2} (ho : OpX X (compareOp op) g) (ho' : OpX X (compareOp op') g') (ha : SE X a ra) (hb : SE X b rb) (hc : SE X c rc) (hm : lastMarks [op, op'] [b, c] = false := by with_unfolding_all rfl) :
    SC X (.Compare a [op, op'] [b, c] pos) (rTb (rChain g g' ra rb rc)) := by
  obtain ⟨r, h1, h2⟩ := ho
  obtain ⟨r', h1', h2'⟩ := ho'
  obtain ⟨ta, pa, sa⟩ := ha
  obtain ⟨tb, pb, sb⟩ := hb
  obtain ⟨tc, pc, sc⟩ := hc
  exact ⟨_, pt_chain h1 h1' pa pb pc hm, snd_test (snd_chain sa sb sc h2 h2')⟩
end

/-! ### and, or, not as tests -/
def SW (X : Cx) (e : Expr) (r : RT) : Prop := ∃ t, PW X e t ∧ SndT X.K t r
def rAnd (r u : RT) : RT := fun σ M P => r σ M fun c M1 => if c = true then u σ M1 P else P false M1
def rOr (r u : RT) : RT := fun σ M P => r σ M fun c M1 => if c = true then P true M1 else u σ M1 P
def rNot (r : RT) : RT := fun σ M P => r σ M fun c M1 => P (!c) M1
section
variable {X : Cx} {a b : Expr} {ra rb : RT} {rest : List Expr} {pos : Pos}
theorem SW.sc {e : Expr} (h : SW X e ra) : SC X e ra := let ⟨t, p, s⟩ := h; ⟨t, p.pt, s⟩
theorem sw_and1 (ha : SC X a ra) : SW X (.BoolOp .And [a] pos) ra := let ⟨t, p, s⟩ := ha; ⟨t, pw_and1 p, s⟩
theorem sw_or1 (ha : SC X a ra) : SW X (.BoolOp .Or [a] pos) ra := let ⟨t, p, s⟩ := ha; ⟨t, pw_or1 p, s⟩
theorem sw_and (ha : SC X a ra) (hb : SW X (.BoolOp .And (b :: rest) pos) rb) : SW X (.BoolOp .And (a :: b :: rest) pos) (rAnd ra rb) := by
  obtain ⟨ta, pa, sa⟩ := ha
  obtain ⟨tb, pb, sb⟩ := hb
  refine ⟨_, pw_and pa pb, fun W M H σ σx P Q I S hr q => ?_⟩
  refine sa W M H σ σx _ _ I S hr fun W1 M1 H1 c l1 I1 p1 => ?_
  cases c with
  | true =>
    rw [if_pos rfl] at p1 ⊢
    exact sb W1 M1 H1 σ σx _ _ I1 (S.le l1) p1 fun W2 M2 H2 d l2 I2 p2 => q W2 M2 H2 d (l1.trans l2) I2 p2
  | false =>
    rw [if_neg Bool.false_ne_true] at p1 ⊢
    exact q W1 M1 H1 false l1 I1 p1
theorem sw_or (ha : SC X a ra) (hb : SW X (.BoolOp .Or (b :: rest) pos) rb) : SW X (.BoolOp .Or (a :: b :: rest) pos) (rOr ra rb) := by
  obtain ⟨ta, pa, sa⟩ := ha
  obtain ⟨tb, pb, sb⟩ := hb
  refine ⟨_, pw_or pa pb, fun W M H σ σx P Q I S hr q => ?_⟩
  refine sa W M H σ σx _ _ I S hr fun W1 M1 H1 c l1 I1 p1 => ?_
  cases c with
  | false =>
    rw [if_neg Bool.false_ne_true] at p1 ⊢
    exact sb W1 M1 H1 σ σx _ _ I1 (S.le l1) p1 fun W2 M2 H2 d l2 I2 p2 => q W2 M2 H2 d (l1.trans l2) I2 p2
  | true =>
    rw [if_pos rfl] at p1 ⊢
    exact q W1 M1 H1 true l1 I1 p1
theorem sc_not (ha : SC X a ra) : SC X (.UnaryOp .Not a pos) (rNot ra) := by
  obtain ⟨ta, pa, sa⟩ := ha
  refine ⟨_, pt_not pa, fun W M H σ σx P Q I S hr q => ?_⟩
  exact sa W M H σ σx _ _ I S hr fun W1 M1 H1 c l1 I1 p1 => q W1 M1 H1 _ l1 I1 p1
end
/-! ### and, or, not as values, by truth -/
def rAndV (ra rb : RE) : RE := fun σ M P => ra σ M fun x M1 => ifS (tru M1 x) fun k => if k = true then rb σ M1 P else P x M1
def rOrV (ra rb : RE) : RE := fun σ M P => ra σ M fun x M1 => ifS (tru M1 x) fun k => if k = true then P x M1 else rb σ M1 P
def rNotV (ra : RE) : RE := fun σ M P => ra σ M fun x M1 => ifS (tru M1 x) fun k => P (.d (.bool (!k))) M1
section
variable {X : Cx} {a b c : Expr} {ra rb : RE} {rc : RT} {rest : List Expr} {pos : Pos}
theorem se_one {op} (h : SE X a ra) : SE X (.BoolOp op [a] pos) ra := let ⟨t, p, s⟩ := h; ⟨t, pe_one p, s⟩
theorem se_and (ha : SE X a ra) (hb : SE X (.BoolOp .And (b :: rest) pos) rb) : SE X (.BoolOp .And (a :: b :: rest) pos) (rAndV ra rb) := by
  obtain ⟨ta, pa, sa⟩ := ha
  obtain ⟨tb, pb, sb⟩ := hb
  refine ⟨_, pe_andT pa pb, fun W M H σ σx P Q I S hr q => ?_⟩
  refine sa W M H σ σx _ _ I S hr fun W1 M1 H1 v x l1 I1 v1 p1 => ?_
  obtain ⟨k, e, p⟩ := ifS_of p1
  refine ⟨k, tru_okX I1 v1 e, ?_⟩
  cases k with
  | true =>
    rw [if_pos rfl] at p ⊢
    exact sb W1 M1 H1 σ σx _ _ I1 (S.le l1) p fun W2 M2 H2 u y l2 I2 v2 p2 => q W2 M2 H2 u y (l1.trans l2) I2 v2 p2
  | false =>
    rw [if_neg Bool.false_ne_true] at p ⊢
    exact q W1 M1 H1 v x l1 I1 v1 p
theorem se_or (ha : SE X a ra) (hb : SE X (.BoolOp .Or (b :: rest) pos) rb) : SE X (.BoolOp .Or (a :: b :: rest) pos) (rOrV ra rb) := by
  obtain ⟨ta, pa, sa⟩ := ha
  obtain ⟨tb, pb, sb⟩ := hb
  refine ⟨_, pe_orT pa pb, fun W M H σ σx P Q I S hr q => ?_⟩
  refine sa W M H σ σx _ _ I S hr fun W1 M1 H1 v x l1 I1 v1 p1 => ?_
  obtain ⟨k, e, p⟩ := ifS_of p1
  refine ⟨k, tru_okX I1 v1 e, ?_⟩
  cases k with
  | false =>
    rw [if_neg Bool.false_ne_true] at p ⊢
    exact sb W1 M1 H1 σ σx _ _ I1 (S.le l1) p fun W2 M2 H2 u y l2 I2 v2 p2 => q W2 M2 H2 u y (l1.trans l2) I2 v2 p2
  | true =>
    rw [if_pos rfl] at p ⊢
    exact q W1 M1 H1 v x l1 I1 v1 p
theorem se_not (ha : SE X a ra) : SE X (.UnaryOp .Not a pos) (rNotV ra) := by
  obtain ⟨ta, pa, sa⟩ := ha
  refine ⟨_, pe_notT pa, fun W M H σ σx P Q I S hr q => ?_⟩
  refine sa W M H σ σx _ _ I S hr fun W1 M1 H1 v x l1 I1 v1 p1 => ?_
  obtain ⟨k, e, p⟩ := ifS_of p1
  exact ⟨k, tru_okX I1 v1 e, q W1 M1 H1 _ (.d (.bool (!k))) l1 I1 (show Dq _ _ _ _ from .bl _) p⟩
def rIf (rc : RT) (ra rb : RE) : RE := fun σ M P => rc σ M fun k M1 => if k = true then ra σ M1 P else rb σ M1 P
theorem se_ifExp (hc : SC X c rc) (ha : SE X a ra) (hb : SE X b rb) : SE X (.IfExp c a b pos) (rIf rc ra rb) := by
  obtain ⟨tc, pc, sc⟩ := hc
  obtain ⟨ta, pa, sa⟩ := ha
  obtain ⟨tb, pb, sb⟩ := hb
  refine ⟨_, pe_ifExp pc pa pb, fun W M H σ σx P Q I S hr q => ?_⟩
  refine sc W M H σ σx _ _ I S hr fun W1 M1 H1 k l1 I1 p1 => ?_
  cases k with
  | true =>
    rw [if_pos rfl] at p1 ⊢
    exact sa W1 M1 H1 σ σx _ _ I1 (S.le l1) p1 fun W2 M2 H2 u y l2 I2 v2 p2 => q W2 M2 H2 u y (l1.trans l2) I2 v2 p2
  | false =>
    rw [if_neg Bool.false_ne_true] at p1 ⊢
    exact sb W1 M1 H1 σ σx _ _ I1 (S.le l1) p1 fun W2 M2 H2 u y l2 I2 v2 p2 => q W2 M2 H2 u y (l1.trans l2) I2 v2 p2
/-- -a -/
def rNeg (ra : RE) : RE := fun σ M P => ra σ M fun x M1 => match hd M1 x with
  | .sc (.int i) => P (.d (.int (-i))) M1
  | _ => False
theorem se_neg (ha : SE X a ra) : SE X (.UnaryOp .USub a pos) (rNeg ra) := by
  obtain ⟨ta, pa, sa⟩ := ha
  refine ⟨_, pe_un un_neg pa, fun W M H σ σx P Q I S hr q => ?_⟩
  refine sa W M H σ σx _ _ I S hr fun W1 M1 H1 v x l1 I1 v1 p1 => ?_
  split at p1
  · rename_i i e
    exact ⟨i, scI I1 v1 e, q W1 M1 H1 _ (.d (.int (-i))) l1 I1 (show Dq _ _ _ _ from .int _) p1⟩
  · exact p1.elim
end

/-! ### subscripts -/
def gIx : G2 := fun x y M P => match hd M x, hd M y with
  | .lst xs, .sc (.int i) => ifS (atI xs i) fun z => P z M
  | .tup xs, .sc (.int i) => ifS (atI xs i) fun z => P z M
  | .sc (.str s), .sc (.int i) => s.length ≤ sizeLine ∧ ifS (atI s.cps.toList i) fun c => P (.d (.str ⟨#[c]⟩)) M
  | .dic kvs, .sc k => ifS (keyOf k) fun _ => ifS (dget kvs k) fun z => P z M
  | _, _ => False
theorem VXs.atI {K : PySem.W.Frag} {W : Wd} {vs : List V} {xs : List Xv} {i : Int} {x : Xv} (h : VXs K W vs xs) (e : L2.atI xs i = some x) : ∃ v, L2.atI vs i = some v ∧ VX K W v x := by
  unfold L2.atI at e ⊢
  rw [h.length]
  cases hj : ixN xs.length i with
  | none => rw [hj] at e; cases e
  | some j => rw [hj] at e; exact VXs.get h e
def rIxD : R2 := fun x y H Q => ∃ a v, x = .ref a ∧ DGet H a y (some v) ∧ Q v H
theorem ix_dic {X : Cx} (hu : X.A.units + 1 < cLine) : IxR X rIxD := by
  intro value slice pins s σ H x y v u Q I rx ry h hs
  obtain ⟨a, z, rfl, g, q⟩ := h
  obtain rfl : v = Value.ref a := rx
  exact tail_any (dict_typeIs I g) PySem.F.slot_dict_getitem.lookup (d_getItem hu I g ry fun w' s3 I3 rw' => ⟨z, H, I3, rw', q⟩) hs
theorem scAny {K : PySem.W.Frag} {W : Wd} {M : Sto} {H : Hp} {v : V} {x : Xv} {d : PyData} (I : InvS K W M H) (h : VX K W v x) (e : hd M x = .sc d) : VX K W v (.d d) := by
  have ok := hd_ok I h
  rw [e] at ok
  have ok : scV d v := ok
  unfold scV at ok
  split at ok
  · subst ok; exact (show Dq _ _ _ _ from .non)
  · subst ok; exact (show Dq _ _ _ _ from .bl _)
  · subst ok; exact (show Dq _ _ _ _ from .int _)
  · subst ok; exact (show Dq _ _ _ _ from .str _)
  · exact ok.elim
theorem ixx {X : Cx} {a b : Expr} {ra rb : RE} {pos : Pos} (hu : X.A.units + 1 < cLine) (ha : SE X a ra) (hb : SE X b rb) (hs : PlainIx b := by intro _ _; rfl) : SE X (.Subscript a b pos) (rBin gIx ra rb) := by
  obtain ⟨ta, pa, sa⟩ := ha
  obtain ⟨tb, pb, sb⟩ := hb
  refine ⟨_, pe_ix (ix_list.or (ix_tup.or (ix_str.or (ix_dic hu)))) pa pb hs, snd_bin sa sb fun W M H v u x y P Q I v1 v2 p q => ?_⟩
  unfold gIx at p
  split at p
  · rename_i xs i e1 e2
    obtain ⟨a, vs, rfl, h1, h2⟩ := lstH I v1 e1
    obtain ⟨z, e3, p⟩ := ifS_of p
    obtain ⟨w, e4, h4⟩ := h2.atI e3
    exact .inl ⟨a, vs, i, w, rfl, scI I v2 e2, h1, e4, q W M H w z (.refl W) I h4 p⟩
  · rename_i xs i e1 e2
    obtain ⟨a, vs, rfl, h1, h2⟩ := tupH I v1 e1
    obtain ⟨z, e3, p⟩ := ifS_of p
    obtain ⟨w, e4, h4⟩ := h2.atI e3
    exact .inr (.inl ⟨a, vs, i, w, rfl, scI I v2 e2, h1, e4, q W M H w z (.refl W) I h4 p⟩)
  · rename_i s i e1 e2
    obtain ⟨c, e3, p2⟩ := ifS_of p.2
    exact .inr (.inr (.inl ⟨s, i, c, scS I v1 e1, scI I v2 e2, p.1, e3, q W M H _ (.d (.str ⟨#[c]⟩)) (.refl W) I (show Dq _ _ _ _ from .str _) p2⟩))
  · rename_i kvs k e1 e2
    obtain ⟨kk, ek, p⟩ := ifS_of p
    obtain ⟨z, e3, p⟩ := ifS_of p
    obtain ⟨a, rfl, _, h⟩ := dGet_ok I v1 e1 (scAny I v2 e2) ek
    rcases h with ⟨h1, _⟩ | ⟨w, y', h1, h2, h3⟩
    · rw [h1] at e3; cases e3
    · rw [h1] at e3; cases e3
      exact .inr (.inr (.inr ⟨a, w, rfl, h2, q W M H w _ (.refl W) I h3 p⟩))
  · exact p.elim

/-! ### slices -/
def SO (X : Cx) (e : Option Expr) (r : Sl → Sto → (Option Int → Sto → Prop) → Prop) : Prop := ∃ t, PO X e t ∧ ∀ (W : Wd) (M : Sto) (H : Hp) (σ : St) (σx : Sl) (P : Option Int → Sto → Prop) (Q : Option Int → Hp → Prop), InvS X.K W M H → Slr X.K W σ σx → r σx M P →
  (∀ W' M' H' o, W.le W' → InvS X.K W' M' H' → P o M' → Q o H') → t σ H Q
def rNoP : Sl → Sto → (Option Int → Sto → Prop) → Prop := fun _ M P => P none M
def rPart (r : RE) : Sl → Sto → (Option Int → Sto → Prop) → Prop := fun σ M P => r σ M fun x M1 => match hd M1 x with
  | .sc (.int i) => P (some i) M1
  | _ => False
theorem so_none {X : Cx} : SO X none rNoP := ⟨_, po_none, fun W M H σ σx P Q I S h q => q W M H none (.refl W) I h⟩
theorem so_some {X : Cx} {e : Expr} {r : RE} (h : SE X e r) : SO X (some e) (rPart r) := by
  obtain ⟨t, p, s⟩ := h
  refine ⟨_, po_some p, fun W M H σ σx P Q I S hr q => ?_⟩
  refine s W M H σ σx _ _ I S hr fun W1 M1 H1 v x l1 I1 v1 p1 => ?_
  split at p1
  · rename_i i e
    exact ⟨i, scI I1 v1 e, q W1 M1 H1 (some i) l1 I1 p1⟩
  · exact p1.elim
def cutX {α : Type} (xs : List α) (lo hi : Option Int) : List α := (xs.drop (HT.sIx xs.length 0 lo)).take (HT.sIx xs.length xs.length hi - HT.sIx xs.length 0 lo)
theorem Paired.dropP {α β : Type} {F : α → β → Prop} : ∀ {l₁ : List α} {l₂ : List β} (n : Nat), Paired F l₁ l₂ → Paired F (l₁.drop n) (l₂.drop n)
  | _, _, 0, h => h
  | _, _, _ + 1, .nil => .nil
  | _, _, n + 1, .cons _ t => Paired.dropP n t
theorem Paired.takeP {α β : Type} {F : α → β → Prop} : ∀ {l₁ : List α} {l₂ : List β} (n : Nat), Paired F l₁ l₂ → Paired F (l₁.take n) (l₂.take n)
  | _, _, 0, _ => .nil
  | _, _, _ + 1, .nil => .nil
  | _, _, n + 1, .cons h t => .cons h (Paired.takeP n t)
theorem VXs.cut {K : PySem.W.Frag} {W : Wd} {vs : List V} {xs : List Xv} (h : VXs K W vs xs) (lo hi : Option Int) : VXs K W (cutV vs lo hi) (cutX xs lo hi) := by
  unfold cutV cutX
  rw [h.length]
  exact Paired.takeP _ (Paired.dropP _ h)
theorem cutX_map {α β : Type} (f : α → β) (xs : List α) (lo hi : Option Int) : cutX (xs.map f) lo hi = (cutX xs lo hi).map f := by
  unfold cutX
  rw [List.length_map, List.map_take, List.map_drop]
/-- a slice: new data (a tuple's whole is itself) -/
def gSl (x : Xv) (lo hi : Option Int) (M : Sto) (P : Xv → Sto → Prop) : Prop := match hd M x with
  | .lst xs => ifS (fzL M (cutX xs lo hi)) fun q => P (.d (.list q.1)) q.2
  | .tup _ => ifS (dT x) fun ds => P (.d (.tuple (cutX ds lo hi))) M
  | .sc (.str s) => s.length ≤ sizeLine ∧ P (.d (.str (cutS s lo hi))) M
  | _ => False
def rSl (re : RE) (rl rh : Sl → Sto → (Option Int → Sto → Prop) → Prop) : RE := fun σ M P => re σ M fun x M1 => rl σ M1 fun l M2 => rh σ M2 fun u M3 => gSl x l u M3 P
/-- a list's slice, fresh -/
def rSlF (re : RE) (rl rh : Sl → Sto → (Option Int → Sto → Prop) → Prop) : RF := fun σ M P => re σ M fun x M1 => rl σ M1 fun l M2 => rh σ M2 fun u M3 => match hd M3 x with
  | .lst xs => P (cutX xs l u) M3
  | _ => False
theorem cutX_whole {α : Type} {xs : List α} {lo hi : Option Int} (h : HT.sIx xs.length 0 lo = 0 ∧ HT.sIx xs.length xs.length hi = xs.length) : cutX xs lo hi = xs := by
  unfold cutX
  rw [h.1, h.2]
  simp
section
variable {X : Cx} {e : Expr} {lo hi : Option Expr} {re : RE} {rl rh : Sl → Sto → (Option Int → Sto → Prop) → Prop} {pos p2 : Pos}
theorem se_slice (he : SE X e re) (hl : SO X lo rl) (hh : SO X hi rh) : SE X (.Subscript e (.Slice lo hi none p2) pos) (rSl re rl rh) := by
  obtain ⟨te, pe, se⟩ := he
  obtain ⟨tl, pl, sl⟩ := hl
  obtain ⟨th, ph, sh⟩ := hh
  refine ⟨_, pe_slice (sl_list.or (sl_tupA.or sl_str)) pe pl ph, fun W M H σ σx P Q I S hr q => ?_⟩
  refine se W M H σ σx _ _ I S hr fun W1 M1 H1 v x l1 I1 v1 p1 => ?_
  refine sl W1 M1 H1 σ σx _ _ I1 (S.le l1) p1 fun W2 M2 H2 l l2 I2 p2 => ?_
  refine sh W2 M2 H2 σ σx _ _ I2 (S.le (l1.trans l2)) p2 fun W3 M3 H3 u l3 I3 p3 => ?_
  have v3 := v1.le (l2.trans l3)
  have l03 := l1.trans (l2.trans l3)
  unfold gSl at p3
  split at p3
  · rename_i xs e1
    obtain ⟨a, vs, rfl, h1, h2⟩ := lstH I3 v3 e1
    obtain ⟨⟨ds, M4⟩, e2, p⟩ := ifS_of p3
    refine .inl ⟨a, vs, rfl, h1, fun p' hp => ?_⟩
    obtain ⟨I4, L4⟩ := I3.loose hp (.lst (cutV vs l u))
    obtain ⟨W5, l5, I5, v5⟩ := adopt_frz I4 L4 (h2.cut l u) e2
    exact q W5 M4 _ _ _ (l03.trans l5) I5 v5 p
  · rename_i xs e1
    obtain ⟨ds, e2, p⟩ := ifS_of p3
    have e2 := dT_of e2
    subst e2
    obtain ⟨a, vs, rfl, h1, h2⟩ := vx_tup v3
    refine .inr (.inl ⟨a, vs, rfl, (SameR.of I3.sf).sqT h1, fun hw => ?_, fun hw p' hp => ?_⟩)
    · rw [h2.length] at hw
      rw [cutX_whole hw] at p
      exact q W3 M3 H3 _ _ l03 I3 v3 p
    · obtain ⟨I4, l4⟩ := I3.newData hp (.tup (cutV vs l u))
      have z := (VXs.ofD h2).cut l u
      rw [cutX_map] at z
      exact q _ M3 _ _ (.d (.tuple (cutX ds l u))) (l03.trans l4) I4 (show Dq _ _ _ _ from .tup (.of upd_same) ((VXs.toD z).same l4.f)) p
  · rename_i s e1
    exact .inr (.inr ⟨s, scS I3 v3 e1, p3.1, q W3 M3 H3 _ (.d (.str (cutS s l u))) l03 I3 (show Dq _ _ _ _ from .str _) p3.2⟩)
  · exact p3.elim
theorem sf_slice (he : SE X e re) (hl : SO X lo rl) (hh : SO X hi rh) : SF X (.Subscript e (.Slice lo hi none p2) pos) (rSlF re rl rh) := by
  obtain ⟨te, pe, se⟩ := he
  obtain ⟨tl, pl, sl⟩ := hl
  obtain ⟨th, ph, sh⟩ := hh
  refine ⟨_, pe_slice sl_list pe pl ph, fun W M H σ σx P Q I S hr q => ?_⟩
  refine se W M H σ σx _ _ I S hr fun W1 M1 H1 v x l1 I1 v1 p1 => ?_
  refine sl W1 M1 H1 σ σx _ _ I1 (S.le l1) p1 fun W2 M2 H2 l l2 I2 p2 => ?_
  refine sh W2 M2 H2 σ σx _ _ I2 (S.le (l1.trans l2)) p2 fun W3 M3 H3 u l3 I3 p3 => ?_
  have v3 := v1.le (l2.trans l3)
  split at p3
  · rename_i xs e1
    obtain ⟨a, vs, rfl, h1, h2⟩ := lstH I3 v3 e1
    refine ⟨a, vs, rfl, h1, fun p' hp => ?_⟩
    obtain ⟨I4, L4⟩ := I3.loose hp (.lst (cutV vs l u))
    exact q W3 M3 _ _ _ _ (l1.trans (l2.trans l3)) I4 L4 (h2.cut l u) p3
  · exact p3.elim
end

/-! ### argument lists, displays -/
def rNil : RF := fun _ M P => P [] M
def rCons (ra : RE) (rr : RF) : RF := fun σ M P => ra σ M fun x M1 => rr σ M1 fun xs M2 => P (x :: xs) M2
section
variable {X : Cx} {e : Expr} {es : List Expr} {re : RE} {rs : RF} {pos : Pos}
theorem sa_nil : SA X [] rNil := ⟨_, pa_nil, fun W M H σ σx P Q I S h q => q W M H [] [] (.refl W) I .nil h⟩
theorem sa_cons (ha : SE X e re) (hr : SA X es rs) (hs : starEach (e :: es) X.env = (false, eval e X.env) :: starEach es X.env := by rfl) : SA X (e :: es) (rCons re rs) := by
  obtain ⟨te, pe, se⟩ := ha
  obtain ⟨tr, pr, sr⟩ := hr
  refine ⟨_, pa_cons pe pr hs, fun W M H σ σx P Q I S h q => ?_⟩
  refine se W M H σ σx _ _ I S h fun W1 M1 H1 v x l1 I1 v1 p1 => ?_
  refine sr W1 M1 H1 σ σx _ _ I1 (S.le l1) p1 fun W2 M2 H2 vs xs l2 I2 v2 p2 => ?_
  exact q W2 M2 H2 (v :: vs) (x :: xs) (l1.trans l2) I2 (.cons (v1.le l2) v2) p2
/-- a tuple: data -/
def rTup (rs : RF) : RE := fun σ M P => rs σ M fun xs M1 => xs.length ≤ sizeLine ∧ ifS (fzL M1 xs) fun q => P (.d (.tuple q.1)) q.2
/-- a tuple that holds cells -/
def rTupC (rs : RF) : RE := fun σ M P => rs σ M fun xs M1 => xs.length ≤ sizeLine ∧ P (.c M1.length) (M1 ++ [.tup xs])
def rLst (rs : RF) : RF := fun σ M P => rs σ M fun xs M1 => xs.length ≤ sizeLine ∧ P xs M1
theorem se_tup {k} (h : SA X es rs) : SE X (.Tuple es k pos) (rTup rs) := by
  obtain ⟨t, p, s⟩ := h
  refine ⟨_, pe_tup p, fun W M H σ σx P Q I S h q => ?_⟩
  refine s W M H σ σx _ _ I S h fun W1 M1 H1 vs xs l1 I1 v1 p1 => ?_
  refine ⟨by rw [v1.length]; exact p1.1, fun p' hp => ?_⟩
  obtain ⟨⟨ds, M2⟩, e, pp⟩ := ifS_of p1.2
  obtain ⟨I4, L4⟩ := I1.loose hp (.tup vs)
  obtain ⟨W5, l5, I5, v5⟩ := adopt_tup I4 L4 v1 e
  exact q W5 M2 _ _ _ (l1.trans l5) I5 v5 pp
theorem se_tupC {k} (h : SA X es rs) : SE X (.Tuple es k pos) (rTupC rs) := by
  obtain ⟨t, p, s⟩ := h
  refine ⟨_, pe_tup p, fun W M H σ σx P Q I S h q => ?_⟩
  refine s W M H σ σx _ _ I S h fun W1 M1 H1 vs xs l1 I1 v1 p1 => ?_
  refine ⟨by rw [v1.length]; exact p1.1, fun p' hp => ?_⟩
  obtain ⟨I4, L4⟩ := I1.loose hp (.tup vs)
  obtain ⟨I2, l2, x2⟩ := I4.adoptCell L4 (o := .tup xs) fun W' l' f' => ⟨f', vs, L4.at_, v1.le l'⟩
  exact q _ _ _ _ _ (l1.trans l2) I2 x2 p1.2
theorem sf_lst (h : SA X es rs) : SF X (.List es pos) (rLst rs) := by
  obtain ⟨t, p, s⟩ := h
  refine ⟨_, pe_lst p, fun W M H σ σx P Q I S h q => ?_⟩
  refine s W M H σ σx _ _ I S h fun W1 M1 H1 vs xs l1 I1 v1 p1 => ?_
  refine ⟨by rw [v1.length]; exact p1.1, fun p' hp => ?_⟩
  obtain ⟨I4, L4⟩ := I1.loose hp (.lst vs)
  exact q W1 M1 _ _ _ _ l1 I4 L4 v1 p1.2
end
end G

set_option Elab.async false
set_option linter.all false
set_option maxRecDepth 100000
set_option maxHeartbeats 4000000
/-! G4: targets, statements, loops, comprehensions over data and store. -/
namespace G
open PySem PySem.Spec PyProof.Rows L2

/-! ### one reading for all contexts of a kind -/
def tOf (K : PySem.W.Frag) (r : RE) : TE := fun σ H Q => ∃ W M σx P, InvS K W M H ∧ Slr K W σ σx ∧ r σx M P ∧ ∀ W' M' H' v x, W.le W' → InvS K W' M' H' → VX K W' v x → P x M' → Q v H'
theorem snd_tOf {K : PySem.W.Frag} {r : RE} : Snd K (tOf K r) r := fun W M H σ σx P Q I S h q => ⟨W, M, σx, P, I, S, h, q⟩
theorem SE.can {X : Cx} {e : Expr} {r : RE} (h : SE X e r) : PE X e (tOf X.K r) := by
  obtain ⟨t, p, s⟩ := h
  exact ⟨fun pins st σ H Q I ⟨W, M, σx, P, J, S, hr, q⟩ => p.run pins st σ H Q I (s W M H σ σx P Q J S hr q)⟩
def ttOf (K : PySem.W.Frag) (r : RT) : TT := fun σ H Q => ∃ W M σx P, InvS K W M H ∧ Slr K W σ σx ∧ r σx M P ∧ ∀ W' M' H' b, W.le W' → InvS K W' M' H' → P b M' → Q b H'
theorem snd_ttOf {K : PySem.W.Frag} {r : RT} : SndT K (ttOf K r) r := fun W M H σ σx P Q I S h q => ⟨W, M, σx, P, I, S, h, q⟩
theorem SC.can {X : Cx} {e : Expr} {r : RT} (h : SC X e r) : PT X e (ttOf X.K r) := by
  obtain ⟨t, p, s⟩ := h
  exact ⟨fun pins st σ H Q I ⟨W, M, σx, P, J, S, hr, q⟩ => p.run pins st σ H Q I (s W M H σ σx P Q J S hr q)⟩

/-! ### targets -/
abbrev RG := Xv → Sl → Sto → (Sl → Sto → Prop) → Prop
def Wp (σ σ' : St) (js : List Nat) : Prop := ∀ vs, (∀ j ∈ js, j ∈ vs) → wipe σ' vs = wipe σ vs
def SndG (K : PySem.W.Frag) (js : List Nat) (t : TG) (g : RG) : Prop := ∀ (W : Wd) (M : Sto) (H : Hp) (σ : St) (σx : Sl) (v : V) (x : Xv) (P : Sl → Sto → Prop) (Q : St → Hp → Prop), InvS K W M H → Slr K W σ σx → VX K W v x → g x σx M P →
  (∀ W' M' H' σ' σx', W.le W' → InvS K W' M' H' → Slr K W' σ' σx' → Wp σ σ' js → P σx' M' → Q σ' H') → t v σ H Q
def SG (X : Cx) (tg : Expr) (js : List Nat) (g : RG) : Prop := ∃ t, PG X tg t ∧ SndG X.K js t g
def tgOf (K : PySem.W.Frag) (js : List Nat) (g : RG) : TG := fun v σ H Q => ∃ W M σx x P, InvS K W M H ∧ Slr K W σ σx ∧ VX K W v x ∧ g x σx M P ∧ ∀ W' M' H' σ' σx', W.le W' → InvS K W' M' H' → Slr K W' σ' σx' → Wp σ σ' js → P σx' M' → Q σ' H'
theorem snd_tgOf {K : PySem.W.Frag} {js : List Nat} {g : RG} : SndG K js (tgOf K js g) g := fun W M H σ σx v x P Q I S h hg q => ⟨W, M, σx, x, P, I, S, h, hg, q⟩
theorem SG.can {X : Cx} {tg : Expr} {js : List Nat} {g : RG} (h : SG X tg js g) : PG X tg (tgOf X.K js g) := by
  obtain ⟨t, p, s⟩ := h
  exact ⟨fun pins st σ H v u Q I r ⟨W, M, σx, x, P, J, S, h1, hr, q⟩ => p.run pins st σ H v u Q I r (s W M H σ σx v x P Q J S h1 hr q)⟩
def rgName (i : Nat) : RG := fun x σ M P => P (σ.set i (some x)) M
theorem wipe_get (σ : St) (vs : List Nat) (j : Nat) : (wipe σ vs)[j]? = if j ∈ vs then (if j < σ.length then some none else none) else σ[j]? := by
  induction vs with
  | nil => simp [wipe]
  | cons v vs ih =>
    unfold wipe
    by_cases e : v = j
    · subst e
      rw [if_pos List.mem_cons_self]
      by_cases hl : v < σ.length
      · rw [if_pos hl, List.getElem?_set_self (by rw [wipe_length]; exact hl)]
      · rw [if_neg hl, List.getElem?_eq_none (by rw [List.length_set, wipe_length]; omega)]
    · rw [List.getElem?_set_ne e, ih]
      have : (j ∈ v :: vs) ↔ j ∈ vs := by
        simp only [List.mem_cons]
        exact ⟨fun h => h.elim (fun h => absurd h.symm e) id, .inr⟩
      by_cases hm : j ∈ vs
      · rw [if_pos hm, if_pos (this.mpr hm)]
      · rw [if_neg hm, if_neg (fun z => hm (this.mp z))]
theorem wp_set (σ : St) (i : Nat) (v : Option V) : Wp σ (σ.set i v) [i] := fun vs h => by
  have hi := h i (List.mem_singleton.mpr rfl)
  apply List.ext_getElem?
  intro j
  rw [wipe_get, wipe_get, List.length_set]
  by_cases hj : j ∈ vs
  · rw [if_pos hj, if_pos hj]
  · rw [if_neg hj, if_neg hj, List.getElem?_set_ne (show i ≠ j from fun e => hj (e ▸ hi))]
theorem Wp.refl (σ : St) (js : List Nat) : Wp σ σ js := fun _ _ => rfl
section
variable {X : Cx} {pos : Pos}
theorem sg_name {i : Nat} {x : Str} (hN : X.N.Nodup) (hi : X.N[i]? = some x := by rfl) (hx : Loc X.env.scope x := by first | exact Or.inl rfl | exact Or.inr rfl) (hf : X.fn x = true ∨ X.env.scope.names.lookup x = some .local := by first | exact .inl rfl | exact .inr rfl | assumption) : SG X (.Name x pos) [i] (rgName i) :=
  ⟨_, pg_name hN hi hx hf, fun W M H σ σx v x P Q I S h hg q => q W M H _ _ (.refl W) I (S.set i h) (wp_set σ i _) hg⟩
abbrev RGs := List Xv → Sl → Sto → (Sl → Sto → Prop) → Prop
def SGs (X : Cx) (ts : List Expr) (js : List Nat) (g : RGs) : Prop := ∃ t, PGs X ts t ∧ ∀ (W : Wd) (M : Sto) (H : Hp) (σ : St) (σx : Sl) (vs : List V) (xs : List Xv) (P : Sl → Sto → Prop) (Q : St → Hp → Prop), InvS X.K W M H → Slr X.K W σ σx → VXs X.K W vs xs → g xs σx M P →
  (∀ W' M' H' σ' σx', W.le W' → InvS X.K W' M' H' → Slr X.K W' σ' σx' → Wp σ σ' js → P σx' M' → Q σ' H') → t vs σ H Q
def rgNil : RGs := fun xs σ M P => match xs with
  | [] => P σ M
  | _ :: _ => False
def rgCons (g : RG) (gs : RGs) : RGs := fun xs σ M P => match xs with
  | [] => False
  | x :: xs => g x σ M fun σ1 M1 => gs xs σ1 M1 P
theorem sgs_nil : SGs X [] [] rgNil := ⟨_, pgs_nil, fun W M H σ σx vs xs P Q I S h hg q => by
  cases h with
  | nil => exact ⟨rfl, q W M H σ σx (.refl W) I S (.refl σ _) hg⟩
  | cons _ _ => exact hg.elim⟩
theorem Wp.trans {σ σ1 σ2 : St} {js ks : List Nat} (a : Wp σ σ1 js) (b : Wp σ1 σ2 ks) : Wp σ σ2 (js ++ ks) := fun vs h =>
  (b vs fun j hj => h j (List.mem_append_right _ hj)).trans (a vs fun j hj => h j (List.mem_append_left _ hj))
theorem sgs_cons {e : Expr} {es : List Expr} {js ks : List Nat} {g : RG} {gs : RGs} (h1 : SG X e js g) (h2 : SGs X es ks gs) (hs : (assignEach (e :: es) X.env).map (·.2) = assign e X.env :: (assignEach es X.env).map (·.2) := by rfl) : SGs X (e :: es) (js ++ ks) (rgCons g gs) := by
  obtain ⟨t, p, s⟩ := h1
  obtain ⟨ts, ps, ss⟩ := h2
  refine ⟨_, pgs_cons p ps hs, fun W M H σ σx vs xs P Q I S h hg q => ?_⟩
  cases h with
  | nil => exact hg.elim
  | cons a r =>
    refine ⟨_, _, rfl, ?_⟩
    refine s W M H σ σx _ _ _ _ I S a hg fun W1 M1 H1 σ1 σx1 l1 I1 S1 w1 p1 => ?_
    exact ss W1 M1 H1 σ1 σx1 _ _ _ _ I1 S1 (VXs.le l1 r) p1 fun W2 M2 H2 σ2 σx2 l2 I2 S2 w2 p2 => q W2 M2 H2 σ2 σx2 (l1.trans l2) I2 S2 (w1.trans w2) p2
def rgTup (n : Nat) (gs : RGs) : RG := fun x σ M P => match hd M x with
  | .tup xs => xs.length = n ∧ gs xs σ M P
  | _ => False
theorem sg_tup {es : List Expr} {k : Nat} {js : List Nat} {gs : RGs} {n : Nat} (hc : X.calm = true) (h : SGs X es js gs) (hn : (assignEach es X.env).length = n := by rfl) (hst : (assignEach es X.env).findIdx? (·.1) = none := by rfl) : SG X (.Tuple es k pos) js (rgTup n gs) := by
  obtain ⟨ts, ps, ss⟩ := h
  refine ⟨_, pg_tup hc ps hn hst, fun W M H σ σx v x P Q I S h hg q => ?_⟩
  unfold rgTup at hg
  split at hg
  · rename_i xs e
    obtain ⟨a, vs, rfl, h1, h2⟩ := tupH I h e
    exact ⟨a, vs, rfl, h1, h2.length.trans hg.1, ss W M H σ σx vs xs P Q I S h2 hg.2 q⟩
  · exact hg.elim
end

/-! ### stores into lists and dicts -/
def putX {κ : Type} [DecidableEq κ] (kvs : List (κ × Xv)) (k : κ) (x : Xv) : List (κ × Xv) :=
  if (kvs.any fun kv => decide (kv.1 = k)) = true then kvs.map (fun kv => if kv.1 = k then (kv.1, x) else kv) else kvs ++ [(k, x)]
theorem KVX.any {κ : Type} [DecidableEq κ] {K : PySem.W.Frag} {W : Wd} (k : κ) : ∀ {vs : List (κ × V)} {xs : List (κ × Xv)}, KVX K W vs xs → (vs.any fun kv => decide (kv.1 = k)) = xs.any fun kv => decide (kv.1 = k)
  | _, _, .nil => rfl
  | _, _, .cons h r => by
    rw [List.any_cons, List.any_cons, h.1, KVX.any k r]
theorem KVX.app {κ : Type} {K : PySem.W.Frag} {W : Wd} : ∀ {vs ws : List (κ × V)} {xs ys : List (κ × Xv)}, KVX K W vs xs → KVX K W ws ys → KVX K W (vs ++ ws) (xs ++ ys)
  | _, _, _, _, .nil, h => h
  | _, _, _, _, .cons h r, q => .cons h (KVX.app r q)
theorem KVX.mapPut {κ : Type} [DecidableEq κ] {K : PySem.W.Frag} {W : Wd} {k : κ} {v : V} {x : Xv} (hv : VX K W v x) : ∀ {vs : List (κ × V)} {xs : List (κ × Xv)}, KVX K W vs xs →
    KVX K W (vs.map fun kv => if kv.1 = k then (kv.1, v) else kv) (xs.map fun kv => if kv.1 = k then (kv.1, x) else kv)
  | _, _, .nil => .nil
  | p :: _, q :: _, .cons h r => by
    refine .cons ?_ (KVX.mapPut hv r)
    show (if p.1 = k then (p.1, v) else p).1 = (if q.1 = k then (q.1, x) else q).1 ∧ VX K W (if p.1 = k then (p.1, v) else p).2 (if q.1 = k then (q.1, x) else q).2
    by_cases e : p.1 = k
    · rw [if_pos e, if_pos (h.1 ▸ e)]; exact ⟨h.1, hv⟩
    · rw [if_neg e, if_neg (fun z => e (h.1.trans z))]; exact h
theorem KVX.put {κ : Type} [DecidableEq κ] {K : PySem.W.Frag} {W : Wd} {k : κ} {v : V} {x : Xv} {vs : List (κ × V)} {xs : List (κ × Xv)} (h : KVX K W vs xs) (hv : VX K W v x) : KVX K W (putK vs k v) (putX xs k x) := by
  unfold putK putX
  rw [KVX.any k h]
  by_cases c : (xs.any fun kv => decide (kv.1 = k)) = true
  · rw [if_pos c, if_pos c]; exact KVX.mapPut hv h
  · rw [if_neg c, if_neg c]; exact KVX.app h (.cons ⟨rfl, hv⟩ .nil)
theorem KVX.length {κ : Type} {K : PySem.W.Frag} {W : Wd} {vs : List (κ × V)} {xs : List (κ × Xv)} (h : KVX K W vs xs) : vs.length = xs.length := Paired.length h
def tupKeys : Xv → Option (List Key)
  | .d (.tuple ds) => ds.mapM keyOf
  | _ => none
/-- o[i] = x -/
def gSet (o i x : Xv) (M : Sto) (P : Sto → Prop) : Prop := match o with
  | .c j => match M[j]? with
    | some (.lst xs) => match hd M i with
      | .sc (.int k) => ifS (ixN xs.length k) fun n => P (M.set j (.lst (xs.set n x)))
      | _ => False
    | some (.dic kvs) => match hd M i with
      | .sc d => ifS (keyOf d) fun k => kvs.length < sizeLine ∧ P (M.set j (.dic (putX kvs k x)))
      | _ => False
    | _ => False
  | _ => False
def rSetD : V → V → V → Hp → (Hp → Prop) → Prop := fun o i v H Q => ∃ a H', o = .ref a ∧ DPut H a i v H' ∧ Q H'
theorem set_dic {X : Cx} (hu : X.A.units + 1 < cLine) : PSet X rSetD := by
  intro pins s σ H o i v ov iv u Q I ro ri rv h
  obtain ⟨a, H', rfl, g, q⟩ := h
  obtain rfl : ov = Value.ref a := ro
  exact d_setItem hu I g ri rv fun s4 I4 => ⟨H', I4, q⟩
theorem PSet.or {X : Cx} {r r' : TSet} (h : PSet X r) (h' : PSet X r') : PSet X (fun o i v H Q => r o i v H Q ∨ r' o i v H Q) := by
  intro pins s σ H o i v ov iv u Q I ro ri rv q
  rcases q with q | q
  · exact h pins s σ H o i v ov iv u Q I ro ri rv q
  · exact h' pins s σ H o i v ov iv u Q I ro ri rv q
def rgSub (ro ri : RE) : RG := fun x σ M P => ro σ M fun o M1 => ri σ M1 fun i M2 => gSet o i x M2 fun M3 => P σ M3
section
variable {X : Cx} {o i : Expr} {ro ri : RE} {pos : Pos}
theorem sg_sub (hu : X.A.units + 1 < cLine) (ho : SE X o ro) (hi : SE X i ri) (ha : ∀ v, assign (.Subscript o i pos) X.env v = (do
      let ov ← holding [v] (eval o X.env)
      let iv ← holding [v, ov] (eval i X.env)
      standAt pos
      holding [v, ov, iv] (setItem ov iv v)
      release [v, ov, iv] []) := by intro _; rfl) : SG X (.Subscript o i pos) [] (rgSub ro ri) := by
  obtain ⟨to, po, so⟩ := ho
  obtain ⟨ti, pi, si⟩ := hi
  refine ⟨_, pg_sub po pi (PSet.or set_list (set_dic hu)) ha, fun W M H σ σx v x P Q I S h hg q => ?_⟩
  refine so W M H σ σx _ _ I S hg fun W1 M1 H1 ov ox l1 I1 v1 p1 => ?_
  refine si W1 M1 H1 σ σx _ _ I1 (S.le l1) p1 fun W2 M2 H2 iv ix l2 I2 v2 p2 => ?_
  have vo := v1.le l2
  have vx := h.le (l1.trans l2)
  have S2 := S.le (l1.trans l2)
  unfold gSet at p2
  split at p2
  · rename_i _ j
    obtain ⟨a, rfl, ha⟩ := vo
    split at p2
    · rename_i xs em
      split at p2
      · rename_i k e
        obtain ⟨n, e2, p⟩ := ifS_of p2
        obtain ⟨f0, vs, h1, h2⟩ := I2.ob j a _ ha em
        refine .inl ⟨a, vs, k, n, rfl, scI I2 v2 e, h1, by rw [h2.length]; exact e2, ?_⟩
        have I3 := I2.write (u := .lst (vs.set n v)) (o := .lst (xs.set n x)) ha f0 ⟨f0, _, upd_same, VXs.set vx n h2⟩
        exact q W2 _ _ σ σx (l1.trans l2) I3 S2 (.refl σ _) p
      · exact p2.elim
    · rename_i kvs em
      split at p2
      · rename_i d e
        obtain ⟨k, e2, hl, p⟩ := ifS_of p2
        obtain ⟨f0, vs, h1, h2⟩ := I2.ob j a _ ha em
        have ed := keyOf_of e2
        subst ed
        have ek : iv = kV k := keyV (F := W2.F) (scAny I2 v2 e)
        subst ek
        refine .inr ⟨a, _, rfl, .k h1 (by rw [h2.length]; exact hl), ?_⟩
        have I3 := I2.write (u := .dK (putK vs k v)) (o := .dic (putX kvs k x)) ha f0 ⟨f0, _, upd_same, KVX.put h2 vx⟩
        exact q W2 _ _ σ σx (l1.trans l2) I3 S2 (.refl σ _) p
      · exact p2.elim
    · exact p2.elim
  · exact p2.elim
end

/-! ### statements -/
def rSeq (a b : RS) : RS := fun σ M P => a σ M fun o M1 => match o with
  | .nx σ1 => b σ1 M1 P
  | o => P o M1
def rNx : RS := fun σ M P => P (.nx σ) M
def rBk : RS := fun σ M P => P (.bk σ) M
def rCt : RS := fun σ M P => P (.ct σ) M
def rDrop (r : RE) : RS := fun σ M P => r σ M fun _ M1 => P (.nx σ) M1
def rRet (r : RE) : RS := fun σ M P => r σ M fun x M1 => P (.rt x) M1
def rRetN : RS := fun _ M P => P (.rt (.d .none)) M
def rIfS (c : RT) (a b : RS) : RS := fun σ M P => c σ M fun k M1 => if k = true then a σ M1 P else b σ M1 P
def rAsg (r : RE) (g : RG) : RS := fun σ M P => r σ M fun x M1 => g x σ M1 fun σ1 M2 => P (.nx σ1) M2
section
variable {X : Cx} {st : Stmt} {rest : List Stmt} {a b : RS} {e : Expr} {re : RE} {pos : Pos}
theorem sss_nil : SSs X [] rNx := ⟨_, pss_nil, fun W M H σ σx P D I S h q => q W M H (.nx σx) (.refl W) I h σ S⟩
theorem Fin.le {K : PySem.W.Frag} {W : Wd} {D : Ends} {H : Hp} {o : Out} {f : St → Hp → Prop} (h : Fin K W D H o) (n : ∀ σ, o ≠ .nx σ) : Fin K W { D with nx := f } H o := by
  cases o with
  | nx σ => exact absurd rfl (n σ)
  | rt x => exact h
  | bk σ => exact h
  | ct σ => exact h
theorem sss_cons (h1 : SS X st a) (h2 : SSs X rest b) : SSs X (st :: rest) (rSeq a b) := by
  obtain ⟨t, p, s⟩ := h1
  obtain ⟨u, pu, su⟩ := h2
  refine ⟨_, pss_cons p pu, fun W M H σ σx P D I S h q => ?_⟩
  refine s W M H σ σx _ { D with nx := u D } I S h fun W1 M1 H1 o l1 I1 p1 => ?_
  cases o with
  | nx σ1 => exact fun σ' S1 => su W1 M1 H1 σ' σ1 P D I1 S1 p1 fun W2 M2 H2 o l2 I2 p2 => q W2 M2 H2 o (l1.trans l2) I2 p2
  | rt x => exact (q W1 M1 H1 (.rt x) l1 I1 p1 : Fin _ _ _ _ _)
  | bk x => exact (q W1 M1 H1 (.bk x) l1 I1 p1 : Fin _ _ _ _ _)
  | ct x => exact (q W1 M1 H1 (.ct x) l1 I1 p1 : Fin _ _ _ _ _)
theorem sss_one (h1 : SS X st a) : SSs X [st] a := let ⟨t, p, s⟩ := h1; ⟨t, pss_one p, s⟩
theorem ss_pass : SS X (.Pass pos) rNx := ⟨_, ps_pass, fun W M H σ σx P D I S h q => q W M H (.nx σx) (.refl W) I h σ S⟩
theorem ss_break : SS X (.Break pos) rBk := ⟨_, ps_break, fun W M H σ σx P D I S h q => q W M H (.bk σx) (.refl W) I h σ S⟩
theorem ss_continue : SS X (.Continue pos) rCt := ⟨_, ps_continue, fun W M H σ σx P D I S h q => q W M H (.ct σx) (.refl W) I h σ S⟩
theorem ss_expr (he : SE X e re) (hs : swapsWith e none pos.line X.env = pure false := by rfl) : SS X (.Expr e pos) (rDrop re) := by
  obtain ⟨t, p, s⟩ := he
  refine ⟨_, ps_expr p hs, fun W M H σ σx P D I S h q => ?_⟩
  exact s W M H σ σx _ _ I S h fun W1 M1 H1 v x l1 I1 v1 p1 => q W1 M1 H1 (.nx σx) l1 I1 p1 σ (S.le l1)
theorem ss_ret (he : SE X e re) : SS X (.Return (some e) pos) (rRet re) := by
  obtain ⟨t, p, s⟩ := he
  refine ⟨_, ps_ret p, fun W M H σ σx P D I S h q => ?_⟩
  exact s W M H σ σx _ _ I S h fun W1 M1 H1 v x l1 I1 v1 p1 => q W1 M1 H1 (.rt x) l1 I1 p1 v v1
theorem ss_retN : SS X (.Return none pos) rRetN := ⟨_, ps_retN, fun W M H σ σx P D I S h q => q W M H (.rt (.d .none)) (.refl W) I h _ (show Dq _ _ _ _ from .non)⟩
theorem ss_if {c : Expr} {p q : List Stmt} {rc : RT} (hc : SC X c rc) (ha : SSs X p a) (hb : SSs X q b) : SS X (.If c p q pos) (rIfS rc a b) := by
  obtain ⟨tc, pc, sc⟩ := hc
  obtain ⟨ta, pa, sa⟩ := ha
  obtain ⟨tb, pb, sb⟩ := hb
  refine ⟨_, ps_if pc pa pb, fun W M H σ σx P D I S h q => ?_⟩
  refine sc W M H σ σx _ _ I S h fun W1 M1 H1 k l1 I1 p1 => ?_
  cases k with
  | true =>
    rw [if_pos rfl] at p1 ⊢
    exact sa W1 M1 H1 σ σx _ _ I1 (S.le l1) p1 fun W2 M2 H2 o l2 I2 p2 => q W2 M2 H2 o (l1.trans l2) I2 p2
  | false =>
    rw [if_neg Bool.false_ne_true] at p1 ⊢
    exact sb W1 M1 H1 σ σx _ _ I1 (S.le l1) p1 fun W2 M2 H2 o l2 I2 p2 => q W2 M2 H2 o (l1.trans l2) I2 p2
theorem ss_asg {tg : Expr} {js : List Nat} {g : RG} (he : SE X e re) (hg : SG X tg js g) (hs : swapsWithSole [tg] e pos.line X.env = pure false := by rfl) (hw : swappedStores [tg] e X.env = pure none := by rfl)
    (h1 : (assignEach [tg] X.env).map (·.2) = [assign tg X.env] := by rfl) : SS X (.Assign [tg] e pos) (rAsg re g) := by
  obtain ⟨t, p, s⟩ := he
  obtain ⟨tg, pg, sg⟩ := hg
  refine ⟨_, ps_asg p pg hs hw h1, fun W M H σ σx P D I S h q => ?_⟩
  refine s W M H σ σx _ _ I S h fun W1 M1 H1 v x l1 I1 v1 p1 => ?_
  exact sg W1 M1 H1 σ σx v x _ _ I1 (S.le l1) v1 p1 fun W2 M2 H2 σ2 σx2 l2 I2 S2 _ p2 => q W2 M2 H2 (.nx σx2) (l1.trans l2) I2 p2 σ2 S2
theorem ss_set {i : Nat} {x : Str} {pos' : Pos} (hN : X.N.Nodup) (he : SE X e re) (hi : X.N[i]? = some x := by rfl) (hx : Loc X.env.scope x := by first | exact Or.inl rfl | exact Or.inr rfl) (hs : swapsWith e (some (.Name x pos')) pos.line X.env = pure false := by rfl) (hf : X.fn x = true ∨ X.env.scope.names.lookup x = some .local := by first | exact .inl rfl | exact .inr rfl | assumption) :
    SS X (.Assign [.Name x pos'] e pos) (rAsg re (rgName i)) := by
  obtain ⟨t, p, s⟩ := he
  refine ⟨_, ps_set hN hi hx p hs hf, fun W M H σ σx P D I S h q => ?_⟩
  refine s W M H σ σx _ _ I S h fun W1 M1 H1 v x l1 I1 v1 p1 => ?_
  exact q W1 M1 H1 (.nx (σx.set i (some x))) l1 I1 p1 _ ((S.le l1).set i v1)
/-- a, b = e1, e2 with plain local names -/
def rPar (i j : Nat) (rs : RF) : RS := fun σ M P => rs σ M fun xs M1 => match xs with
  | [x, y] => P (.nx ((σ.set i (some x)).set j (some y))) M1
  | _ => False
theorem ss_par {i j : Nat} {x y : Str} {a b : Expr} {rs : RF} {px py pt : Pos} {kt k2 pt2} (hc : X.calm = true) (hN : X.N.Nodup) (ha : SA X [a, b] rs) (hi : X.N[i]? = some x := by rfl) (hj : X.N[j]? = some y := by rfl) (hij : i ≠ j := by decide)
    (hx : X.env.scope.names.lookup x = some .local := by rfl) (hy : X.env.scope.names.lookup y = some .local := by rfl)
    (hw : swappedStores [.Tuple [.Name x px, .Name y py] kt pt] (.Tuple [a, b] k2 pt2) X.env = pure (some [x, y]) := by rfl)
    (hs : swapsWithSole [.Tuple [.Name x px, .Name y py] kt pt] (.Tuple [a, b] k2 pt2) pos.line X.env = pure false := by rfl) :
    SS X (.Assign [.Tuple [.Name x px, .Name y py] kt pt] (.Tuple [a, b] k2 pt2) pos) (rPar i j rs) := by
  obtain ⟨t, p, s⟩ := ha
  refine ⟨_, ps_par hc hN hi hj hij hx hy p hw hs, fun W M H σ σx P D I S h q => ?_⟩
  refine s W M H σ σx _ _ I S h fun W1 M1 H1 vs xs l1 I1 v1 p1 => ?_
  split at p1
  · rename_i x y
    cases v1 with
    | cons a1 r1 =>
      cases r1 with
      | cons a2 r2 =>
        cases r2
        exact ⟨_, _, rfl, q W1 M1 H1 (.nx _) l1 I1 p1 _ (((S.le l1).set i a1).set j a2)⟩
  · exact p1.elim
end

/-! ### while -/
def whileW (c : RT) (rb : RS) (P : Out → Sto → Prop) : Nat → Sl → Sto → Prop
  | 0, _, _ => False
  | n + 1, σ, M => c σ M fun k M1 => if k = true then rb σ M1 fun o M2 => match o with
      | .nx σ2 => whileW c rb P n σ2 M2
      | .ct σ2 => whileW c rb P n σ2 M2
      | .bk σ2 => P (.nx σ2) M2
      | .rt x => P (.rt x) M2
    else P (.nx σ) M1
def rWhile (c : RT) (rb : RS) : RS := fun σ M P => ∃ n, whileW c rb P n σ M
section
variable {X : Cx} {c : Expr} {body : List Stmt} {rc : RT} {rb : RS} {pos : Pos}
theorem ss_while (hp : PassesOwn (model X.prog X.w) X.A X.env X.xe) (hc : SC X c rc) (hb : SSs X body rb) : SS X (.While c body [] pos) (rWhile rc rb) := by
  obtain ⟨tc, pc, sc⟩ := hc
  obtain ⟨tb, pb, sb⟩ := hb
  refine ⟨_, ps_while hp pc pb, fun W M H σ σx P D I S h q => ?_⟩
  obtain ⟨n, h⟩ := h
  refine ⟨fun m σ' H' => ∃ W' M' σx', W.le W' ∧ InvS X.K W' M' H' ∧ Slr X.K W' σ' σx' ∧ whileW rc rb P m σx' M', ⟨n, W, M, σx, .refl W, I, S, h⟩, ?_⟩
  rintro m σ' H' ⟨W', M', σx', l', I', S', h'⟩
  cases m with
  | zero => exact h'.elim
  | succ m =>
    refine sc W' M' H' σ' σx' _ _ I' S' h' fun W1 M1 H1 k l1 I1 p1 => ?_
    cases k with
    | false =>
      rw [if_neg Bool.false_ne_true] at p1 ⊢
      exact q W1 M1 H1 (.nx σx') (l'.trans l1) I1 p1 σ' (S'.le l1)
    | true =>
      rw [if_pos rfl] at p1 ⊢
      refine ⟨fun σ2 H2 => ∃ W' M' σx', W.le W' ∧ InvS X.K W' M' H2 ∧ Slr X.K W' σ2 σx' ∧ whileW rc rb P m σx' M', fun σ2 H2 h2 => ⟨m, Nat.lt_succ_self m, h2⟩, ?_⟩
      refine sb W1 M1 H1 σ' σx' _ _ I1 (S'.le l1) p1 fun W2 M2 H2 o l2 I2 p2 => ?_
      cases o with
      | nx σ2 => exact fun σ3 S3 => ⟨W2, M2, σ2, (l'.trans l1).trans l2, I2, S3, p2⟩
      | ct σ2 => exact fun σ3 S3 => ⟨W2, M2, σ2, (l'.trans l1).trans l2, I2, S3, p2⟩
      | bk σ2 => exact (q W2 M2 H2 (.nx σ2) ((l'.trans l1).trans l2) I2 p2 : Fin _ _ _ _ _)
      | rt x => exact (q W2 M2 H2 (.rt x) ((l'.trans l1).trans l2) I2 p2 : Fin _ _ _ _ _)
end

/-! ### what is walked -/
/-- the iterator J yields the items, as long as keep holds of the store -/
def ItX (K : PySem.W.Frag) (W : Wd) (J : It) (items : List Xv) (keep : Sto → Prop) : Prop := ∀ (W2 : Wd) (M2 : Sto) (H2 : Hp) (i : Nat), W.lf W2 → InvS K W2 M2 H2 → keep M2 →
  (items.length ≤ i → J.stop i H2) ∧ ∀ x, items[i]? = some x → J.go i H2 ∧ ∀ v H3, J.yld i H2 v H3 → ∃ W3, W2.le W3 ∧ InvS K W3 M2 H3 ∧ VX K W3 v x
abbrev RI := Sl → Sto → (List Xv → (Sto → Prop) → Sto → Prop) → Prop
def SndI (K : PySem.W.Frag) (wi : TI) (r : RI) : Prop := ∀ (W : Wd) (M : Sto) (H : Hp) (σ : St) (σx : Sl) (P : List Xv → (Sto → Prop) → Sto → Prop) (R : It → Hp → Prop), InvS K W M H → Slr K W σ σx → r σx M P →
  (∀ W' M' H' J items keep, W.le W' → InvS K W' M' H' → ItX K W' J items keep → P items keep M' → R J H') → wi σ H R
def SI (X : Cx) (tg iter : Expr) (r : RI) : Prop := ∃ wi, PI X tg iter wi ∧ SndI X.K wi r
def kp (x : Xv) (M : Sto) (M2 : Sto) : Prop := match x with
  | .d _ => True
  | .c j => M2[j]? = M[j]?
theorem hd_kp {x : Xv} {M M2 : Sto} (h : kp x M M2) : hd M2 x = hd M x := by
  cases x with
  | d d => rfl
  | c j =>
    have h : M2[j]? = M[j]? := h
    simp only [hd, h]
section
variable {K : PySem.W.Frag} {W : Wd} {M : Sto} {H : Hp} {a : Addr} {x : Xv} {xs : List Xv}
theorem itx_list (I : InvS K W M H) (h : VX K W (.ref a) x) (e : hd M x = .lst xs) : ItX K W (Itl K a) xs (kp x M) := by
  intro W2 M2 H2 i l I2 k
  obtain ⟨b, vs, eb, h1, h2⟩ := lstH I2 (h.lf l) ((hd_kp k).trans e)
  cases eb
  refine ⟨fun hi => ⟨vs, h1, by rw [h2.length]; exact hi⟩, fun z hz => ?_⟩
  obtain ⟨v, hv, hx⟩ := h2.get hz
  refine ⟨⟨vs, v, h1, hv⟩, fun w H3 y => ?_⟩
  obtain ⟨e3, f3⟩ := y
  subst e3
  have := f3 vs h1
  rw [hv] at this
  cases this
  exact ⟨W2, .refl W2, I2, hx⟩
theorem itx_tup (I : InvS K W M H) (h : VX K W (.ref a) x) (e : hd M x = .tup xs) : ItX K W (Itt K a) xs (kp x M) := by
  intro W2 M2 H2 i l I2 k
  obtain ⟨b, vs, eb, h1, h2⟩ := tupH I2 (h.lf l) ((hd_kp k).trans e)
  cases eb
  refine ⟨fun hi => ⟨vs, h1, by rw [h2.length]; exact hi⟩, fun z hz => ?_⟩
  obtain ⟨v, hv, hx⟩ := h2.get hz
  refine ⟨⟨vs, v, h1, hv⟩, fun w H3 y => ?_⟩
  obtain ⟨e3, f3⟩ := y
  subst e3
  have := f3 vs h1
  rw [hv] at this
  cases this
  exact ⟨W2, .refl W2, I2, hx⟩
def rangeX (lo : Int) (n : Nat) : List Xv := (List.range n).map fun i : Nat => .d (.int (lo + (i : Int)))
theorem itx_range (W : Wd) (lo : Int) (n : Nat) : ItX K W (Itr lo n) (rangeX lo n) fun _ => True := by
  intro W2 M2 H2 i l I2 _
  refine ⟨fun hi => show n ≤ i by simpa [rangeX] using hi, fun z hz => ?_⟩
  unfold rangeX at hz
  rw [List.getElem?_map] at hz
  by_cases hi : i < n
  · rw [List.getElem?_range hi] at hz
    cases hz
    refine ⟨hi, fun w H3 y => ?_⟩
    obtain ⟨e1, e2⟩ := y
    subst e1 e2
    exact ⟨W2, .refl W2, I2, show Dq _ _ _ _ from .int _⟩
  · rw [List.getElem?_eq_none (by simpa using hi)] at hz; cases hz
end
/-- a list or tuple walked -/
def iSeq (K : PySem.W.Frag) (te : TE) : TI := fun σ H R => te σ H fun x H1 => ∃ a, x = .ref a ∧ (((∃ xs, SqL K H1 a xs) ∧ R (Itl K a) H1) ∨ ((∃ xs, SqT K H1 a xs) ∧ R (Itt K a) H1))
theorem pi_seq {X : Cx} {tg l : Expr} {tl : TE} (hl : PE X l tl) : PI X tg l (iSeq X.K tl) := by
  refine ⟨fun pins s σ H R I h => ?_⟩
  refine thn (hl.run pins s σ H _ I h) fun v s1 ⟨x, H1, I1, r1, q1⟩ => ?_
  obtain ⟨a, e, ⟨⟨xs, hq⟩, q⟩ | ⟨⟨xs, hq⟩, q⟩⟩ := q1
  · subst e
    cases r1
    obtain ⟨its, rv, p, hz⟩ := I1.list hq
    refine wpAny_pyIter_list p.isList ?_
    refine ⟨s1.heap.objs.size, [s1.heap.objs.size], _, _, H1, rfl, I1.kept (t' := s1.toks) fun b o e => Heap.get?_push_of_some _ e, turn_list a _, ⟨_, Heap.get?_push_size _ rfl, rfl, rfl⟩, fun b hb => ?_, q⟩
    have e : b = s1.heap.objs.size := by simpa using hb
    subst e
    exact I1.fpOk (Nat.le_refl _) (I1.hok.fresh (Nat.le_refl _))
  · subst e
    cases r1
    obtain ⟨its, rv, p, hz⟩ := I1.tuple hq
    refine wpAny_pyIter_tuple (show s1.heap.IsTuple a its.toArray from p) ?_
    refine ⟨s1.heap.objs.size, [s1.heap.objs.size], _, _, H1, rfl, I1.kept (t' := s1.toks) fun b o e => Heap.get?_push_of_some _ e, turn_tuple a _, ⟨_, Heap.get?_push_size _ rfl, rfl, rfl⟩, fun b hb => ?_, q⟩
    have e : b = s1.heap.objs.size := by simpa using hb
    subst e
    exact I1.fpOk (Nat.le_refl _) (I1.hok.fresh (Nat.le_refl _))
def riSeq (r : RE) : RI := fun σ M P => r σ M fun x M1 => match hd M1 x with
  | .lst xs => P xs (kp x M1) M1
  | .tup xs => P xs (kp x M1) M1
  | _ => False
theorem si_seq {X : Cx} {tg e : Expr} {r : RE} (h : SE X e r) : SI X tg e (riSeq r) := by
  obtain ⟨t, p, s⟩ := h
  refine ⟨_, pi_seq p, fun W M H σ σx P R I S hr q => ?_⟩
  refine s W M H σ σx _ _ I S hr fun W1 M1 H1 v x l1 I1 v1 p1 => ?_
  split at p1
  · rename_i xs e
    obtain ⟨a, vs, rfl, h1, h2⟩ := lstH I1 v1 e
    exact ⟨a, rfl, .inl ⟨⟨vs, h1⟩, q W1 M1 H1 _ xs _ l1 I1 (itx_list I1 v1 e) p1⟩⟩
  · rename_i xs e
    obtain ⟨a, vs, rfl, h1, h2⟩ := tupH I1 v1 e
    exact ⟨a, rfl, .inr ⟨⟨vs, h1⟩, q W1 M1 H1 _ xs _ l1 I1 (itx_tup I1 v1 e) p1⟩⟩
  · exact p1.elim
def riRng1 (rs : RF) : RI := fun σ M P => rs σ M fun xs M1 => match xs with
  | [x] => match hd M1 x with
    | .sc (.int j) => -(2 ^ 62) ≤ j ∧ j < 2 ^ 62 ∧ P (rangeX 0 j.toNat) (fun _ => True) M1
    | _ => False
  | _ => False
def riRng2 (rs : RF) : RI := fun σ M P => rs σ M fun xs M1 => match xs with
  | [x, y] => match hd M1 x, hd M1 y with
    | .sc (.int i), .sc (.int j) => (-(2 ^ 62) ≤ i ∧ i < 2 ^ 62 ∧ -(2 ^ 62) ≤ j ∧ j < 2 ^ 62) ∧ P (rangeX i (j - i).toNat) (fun _ => True) M1
    | _, _ => False
  | _ => False
section
variable {X : Cx} {tg a b : Expr} {rs : RF} {p pos : Pos}
theorem si_range1 (hm : X.mg "range" = none) (ha : SA X [a] rs) (hg : Gl X "range" := by rfl) (hs : starEach [a] X.env = [(false, eval a X.env)] := by rfl) : SI X tg (.Call (.Name "range" p) [a] [] pos) (riRng1 rs) := by
  obtain ⟨t, pa, s⟩ := ha
  refine ⟨_, pi_range1 hg hm pa hs, fun W M H σ σx P R I S hr q => ?_⟩
  refine s W M H σ σx _ _ I S hr fun W1 M1 H1 vs xs l1 I1 v1 p1 => ?_
  split at p1
  · rename_i x
    split at p1
    · rename_i j e
      cases v1 with
      | cons a1 r1 =>
        cases r1
        refine ⟨j, by rw [scI I1 a1 e], p1.1, p1.2.1, q W1 M1 H1 _ _ _ l1 I1 (itx_range W1 0 j.toNat) p1.2.2⟩
    · exact p1.elim
  · exact p1.elim
theorem si_range2 (hm : X.mg "range" = none) (ha : SA X [a, b] rs) (hg : Gl X "range" := by rfl) (hs : starEach [a, b] X.env = [(false, eval a X.env), (false, eval b X.env)] := by rfl) (hs2 : starEach [b] X.env = [(false, eval b X.env)] := by rfl) :
    SI X tg (.Call (.Name "range" p) [a, b] [] pos) (riRng2 rs) := by
  obtain ⟨t, pa, s⟩ := ha
  refine ⟨_, pi_range2 hg hm pa hs hs2, fun W M H σ σx P R I S hr q => ?_⟩
  refine s W M H σ σx _ _ I S hr fun W1 M1 H1 vs xs l1 I1 v1 p1 => ?_
  split at p1
  · rename_i x y
    split at p1
    · rename_i i j e1 e2
      cases v1 with
      | cons a1 r1 =>
        cases r1 with
        | cons a2 r2 =>
          cases r2
          refine ⟨i, j, by rw [scI I1 a1 e1, scI I1 a2 e2], p1.1, q W1 M1 H1 _ _ _ l1 I1 (itx_range W1 i (j - i).toNat) p1.2⟩
    · exact p1.elim
  · exact p1.elim
end

/-! ### for -/
def loopW (g : RG) (rb : RS) (keep : Sto → Prop) (P : Out → Sto → Prop) : List Xv → Sl → Sto → Prop
  | [], σ, M => keep M ∧ P (.nx σ) M
  | x :: xs, σ, M => keep M ∧ g x σ M fun σ1 M1 => rb σ1 M1 fun o M2 => match o with
      | .nx σ2 => loopW g rb keep P xs σ2 M2
      | .ct σ2 => loopW g rb keep P xs σ2 M2
      | .bk σ2 => P (.nx σ2) M2
      | .rt v => P (.rt v) M2
def rFor (ri : RI) (g : RG) (rb : RS) : RS := fun σ M P => ri σ M fun items keep M1 => loopW g rb keep P items σ M1
section
variable {X : Cx} {tg iter : Expr} {body : List Stmt} {ri : RI} {g : RG} {rb : RS} {js : List Nat} {pos : Pos}
theorem ss_for (hp : PassesOwn (model X.prog X.w) X.A X.env X.xe) (hc : X.calm = true) (hi : SI X tg iter ri) (hg : SG X tg js g) (hb : SSs X body rb) (hs : ∀ x, foldedSetIterable iter X.env x = pure x := by intro _; rfl) :
    SS X (.For tg iter body [] pos) (rFor ri g rb) := by
  obtain ⟨wi, pi, si⟩ := hi
  obtain ⟨tg', pg, sg⟩ := hg
  obtain ⟨tb, pb, sb⟩ := hb
  refine ⟨_, ps_for hp hc pi pg pb hs, fun W M H σ σx P D I S h q => ?_⟩
  refine si W M H σ σx _ _ I S h fun W1 M1 H1 J items keep l1 I1 T p1 => ?_
  refine ⟨fun i m σ' H' => m = items.length - i ∧ ∃ W' M' σx', W1.le W' ∧ InvS X.K W' M' H' ∧ Slr X.K W' σ' σx' ∧ loopW g rb keep P (items.drop i) σx' M', ⟨_, rfl, W1, M1, σx, .refl W1, I1, S.le l1, p1⟩, ?_⟩
  rintro i m σ' H' ⟨rfl, W', M', σx', l', I', S', h'⟩
  by_cases hi : i < items.length
  · rw [List.drop_eq_getElem_cons hi] at h'
    obtain ⟨hk, h'⟩ := h'
    obtain ⟨_, T2⟩ := T W' M' H' i l'.tolf I' hk
    obtain ⟨go, T3⟩ := T2 items[i] (List.getElem?_eq_getElem hi)
    refine .inr ⟨go, fun σ2 H2 => ∃ W' M' σx', W1.le W' ∧ InvS X.K W' M' H2 ∧ Slr X.K W' σ2 σx' ∧ loopW g rb keep P (items.drop (i + 1)) σx' M', fun σ2 H2 h2 => ⟨items.length - (i + 1), by omega, rfl, h2⟩, fun v H3 y => ?_⟩
    obtain ⟨W3, l3, I3, v3⟩ := T3 v H3 y
    refine sg W3 M' H3 σ' σx' v items[i] _ _ I3 (S'.le l3) v3 h' fun W4 M4 H4 σ4 σx4 l4 I4 S4 _ p4 => ?_
    refine sb W4 M4 H4 σ4 σx4 _ _ I4 S4 p4 fun W5 M5 H5 o l5 I5 p5 => ?_
    have lall := (l'.trans l3).trans (l4.trans l5)
    cases o with
    | nx σ2 => exact fun σ3 S3 => ⟨W5, M5, σ2, lall, I5, S3, p5⟩
    | ct σ2 => exact fun σ3 S3 => ⟨W5, M5, σ2, lall, I5, S3, p5⟩
    | bk σ2 => exact (q W5 M5 H5 (.nx σ2) (l1.trans lall) I5 p5 : Fin _ _ _ _ _)
    | rt x => exact (q W5 M5 H5 (.rt x) (l1.trans lall) I5 p5 : Fin _ _ _ _ _)
  · rw [List.drop_of_length_le (by omega)] at h'
    obtain ⟨hk, h'⟩ := h'
    exact .inl ⟨(T W' M' H' i l'.tolf I' hk).1 (by omega), q W' M' H' (.nx σx') (l1.trans l') I' h' σ' S'⟩
end

/-! ### list comprehensions -/
def wipeX (σ : Sl) : List Nat → Sl
  | [] => σ
  | v :: vs => (wipeX σ vs).set v none
theorem wipeX_length (σ : Sl) : ∀ vs : List Nat, (wipeX σ vs).length = σ.length
  | [] => rfl
  | v :: vs => by unfold wipeX; rw [List.length_set, wipeX_length σ vs]
theorem slr_wipe {K : PySem.W.Frag} {W : Wd} {σ : St} {σx : Sl} (h : Slr K W σ σx) : ∀ vs, Slr K W (wipe σ vs) (wipeX σx vs)
  | [] => h
  | v :: vs => by
    obtain ⟨h1, h2⟩ := slr_wipe h vs
    refine ⟨by unfold wipe wipeX; rw [List.length_set, List.length_set, h1], fun i x e => ?_⟩
    unfold wipeX at e
    by_cases q : v = i
    · subst q
      by_cases hi : v < (wipeX σx vs).length
      · rw [List.getElem?_set_self hi] at e; cases e
      · rw [List.getElem?_eq_none (by simpa using hi)] at e; cases e
    · rw [List.getElem?_set_ne q] at e
      obtain ⟨w, e1, e2⟩ := h2 i x e
      exact ⟨w, by unfold wipe; rw [List.getElem?_set_ne q]; exact e1, e2⟩
def lcW (g : RG) (rt : RT) (re : RE) (keep : Sto → Prop) (σw : Sl) (P : List Xv → Sto → Prop) : List Xv → List Xv → Sto → Prop
  | [], acc, M => keep M ∧ P acc M
  | x :: xs, acc, M => keep M ∧ g x σw M fun σ1 M1 => rt σ1 M1 fun b M2 => if b = true then re σ1 M2 fun y M3 => acc.length < sizeLine ∧ lcW g rt re keep σw P xs (acc ++ [y]) M3 else lcW g rt re keep σw P xs acc M2
def rLc (ri : RI) (g : RG) (rt : RT) (re : RE) (vs : List Nat) : RF := fun σ M P => ri σ M fun items keep M1 => lcW g rt re keep (wipeX σ vs) P items [] M1
def rYes : RT := fun _ M P => P true M
/-! guarded objects -/
section
variable {K : PySem.W.Frag} {W : Wd} {M : Sto} {H : Hp} {D : Addr} {u u' : HO}
theorem InvS.guard (I : InvS K W M H) (h : H D = none) : InvS K ⟨W.θ, W.F, upd W.G D u⟩ M (upd H D u) := by
  obtain ⟨f0, g0, t0⟩ := I.fresh h
  have I1 := I.newLoose h u
  refine ⟨I1.len, I1.nd, fun i a o h1 h2 => (I1.ob i a o h1 h2).lf ⟨fun _ _ z => z, SameR.refl _⟩ rfl rfl, I1.sf, fun b o e => ?_, fun a => ?_, fun a ha => ?_, I1.th⟩
  · have e : upd W.G D u b = some o := e
    by_cases q : b = D
    · subst q; rw [upd_same] at e ⊢; exact e
    · rw [upd_ne q] at e; exact I1.sg b o e
  · by_cases q : a = D
    · subst q; exact .inl f0
    · rcases I.fg a with z | z
      · exact .inl z
      · exact .inr (by show upd W.G D u a = none; rw [upd_ne q]; exact z)
  · show upd W.G D u a = none
    rw [upd_ne (show a ≠ D from fun e => t0 (e ▸ ha))]
    exact I.tg a ha
theorem InvS.reguard (I : InvS K W M H) (h : W.G D = some u) : InvS K ⟨W.θ, W.F, upd W.G D u'⟩ M (upd H D u') := by
  have f0 : W.F D = none := by
    rcases I.fg D with z | z
    · exact z
    · rw [h] at z; cases z
  have t0 : D ∉ W.θ := fun z => by rw [I.tg D z] at h; cases h
  have ne : ∀ {i : Nat} {a : Addr}, W.θ[i]? = some a → a ≠ D := fun h1 e => t0 (e ▸ List.mem_of_getElem? h1)
  refine ⟨I.len, I.nd, fun i a o h1 h2 => (I.ob i a o h1 h2).lf ⟨fun _ _ z => z, SameR.refl _⟩ (upd_ne (ne h1)).symm rfl, fun b o e => ?_, fun b o e => ?_, fun a => ?_, fun a ha => ?_, fun a ha => ?_⟩
  · rw [upd_ne (ne_of_none e f0)]; exact I.sf b o e
  · have e : upd W.G D u' b = some o := e
    by_cases q : b = D
    · subst q; rw [upd_same] at e ⊢; exact e
    · rw [upd_ne q] at e ⊢; exact I.sg b o e
  · by_cases q : a = D
    · subst q; exact .inl f0
    · rcases I.fg a with z | z
      · exact .inl z
      · exact .inr (by show upd W.G D u' a = none; rw [upd_ne q]; exact z)
  · show upd W.G D u' a = none
    rw [upd_ne (show a ≠ D from fun e => t0 (e ▸ ha))]
    exact I.tg a ha
  · rw [upd_ne (show a ≠ D from fun e => t0 (e ▸ ha))]; exact I.th a ha
theorem InvS.dropG (I : InvS K W M H) {G0 : Hp} (h : Same G0 W.G) : InvS K ⟨W.θ, W.F, G0⟩ M H := by
  refine ⟨I.len, I.nd, fun i a o h1 h2 => (I.ob i a o h1 h2).lf ⟨fun _ _ z => z, SameR.refl _⟩ rfl rfl, I.sf, h.trans I.sg, fun a => ?_, fun a ha => ?_, I.th⟩
  · rcases I.fg a with z | z
    · exact .inl z
    · exact .inr (h.free z)
  · exact h.free (I.tg a ha)
end
def SLc (X : Cx) (elt : Expr) (ifs : List Expr) (tg : Expr) (scope : Scope) (js : List Nat) (g : RG) (rt : RT) (re : RE) : Prop :=
  ∀ (s : Shared) (H : Hp) (C : Addr) (cl : List (Str × Addr)) (fp : List Addr),
    SG (X.blk s H scope (compEnvC scope cl C X.env) fp) tg js g ∧ (∃ t, PTs (X.blk s H scope (compEnvC scope cl C X.env) fp) ifs t ∧ SndT X.K t rt) ∧ SE (X.blk s H scope (compEnvC scope cl C X.env) fp) elt re
theorem pts_can {X : Cx} {ifs : List Expr} {r : RT} (h : ∃ t, PTs X ifs t ∧ SndT X.K t r) : PTs X ifs (ttOf X.K r) := by
  obtain ⟨t, p, s⟩ := h
  exact ⟨fun pins st σ H Q I ⟨W, M, σx, P, J, S, hr, q⟩ => p.run pins st σ H Q I (s W M H σ σx P Q J S hr q)⟩
theorem sts_nil {X : Cx} : ∃ t, PTs X [] t ∧ SndT X.K t rYes := ⟨_, pts_nil, fun W M H σ σx P Q I S h q => q W M H true (.refl W) I h⟩
theorem sts_one {X : Cx} {c : Expr} {r : RT} (h : SC X c r) : ∃ t, PTs X [c] t ∧ SndT X.K t r := let ⟨t, p, s⟩ := h; ⟨t, pts_one p, s⟩
theorem sndF_lc {K : PySem.W.Frag} {wi : TI} {ri : RI} {js vs : List Nat} {g : RG} {rt : RT} {re : RE} (hi : SndI K wi ri) (hj : ∀ j ∈ js, j ∈ vs) : SndF K (tLc wi (tgOf K js g) (ttOf K rt) (tOf K re) vs) (rLc ri g rt re vs) := by
  intro W M H σ σx P Q I S h q
  refine hi W M H σ σx _ _ I S h fun W1 M1 H1 J items keep l1 I1 T p1 => ?_
  intro D hD
  have S1 := slr_wipe (S.le l1) vs
  have gD : W1.G D = none := (I1.fresh hD).2.1
  refine ⟨fun i m H' => m = items.length - i ∧ ∃ (W' : Wd) (M' : Sto) (acc : List Xv) (va : List V), W1.le W' ∧ InvS K ⟨W'.θ, W'.F, upd W1.G D (.lst va)⟩ M' H' ∧ VXs K W' va acc ∧ lcW g rt re keep (wipeX σx vs) P (items.drop i) acc M',
    ⟨_, rfl, W1, M1, [], [], .refl W1, I1.guard hD, .nil, p1⟩, ?_⟩
  rintro i m H' ⟨rfl, W', M', acc, va, l', I', va', h'⟩
  have W'0 : ∀ u, W1.lf ⟨W'.θ, W'.F, u⟩ := fun u => ⟨l'.th, l'.f⟩
  by_cases hi' : i < items.length
  · rw [List.drop_eq_getElem_cons hi'] at h'
    obtain ⟨hk, h'⟩ := h'
    obtain ⟨_, T2⟩ := T _ M' H' i (W'0 _) I' hk
    obtain ⟨go, T3⟩ := T2 items[i] (List.getElem?_eq_getElem hi')
    refine .inr ⟨go, fun H2 => ∃ (W' : Wd) (M' : Sto) (acc : List Xv) (va : List V), W1.le W' ∧ InvS K ⟨W'.θ, W'.F, upd W1.G D (.lst va)⟩ M' H2 ∧ VXs K W' va acc ∧ lcW g rt re keep (wipeX σx vs) P (items.drop (i + 1)) acc M',
      fun H2 h2 => ⟨items.length - (i + 1), by omega, rfl, h2⟩, fun v H3 y => ?_⟩
    obtain ⟨W3, l3, I3, v3⟩ := T3 v H3 y
    have S3 : Slr K W3 (wipe σ vs) (wipeX σx vs) := (S1.lf (W'0 _)).le l3
    refine ⟨_, M', _, _, _, I3, S3, v3, h', fun W4 M4 H4 σ4 σx4 l4 I4 S4 w4 p4 => ⟨?_, ?_⟩⟩
    · rw [w4 vs hj]
      apply List.ext_getElem?
      intro j
      rw [wipe_get, wipe_get, wipe_length]
      by_cases hm : j ∈ vs
      · rw [if_pos hm, if_pos hm]
      · rw [if_neg hm, if_neg hm]
    refine ⟨_, M4, _, _, I4, S4, p4, fun W5 M5 H5 b l5 I5 p5 => ?_⟩
    have g5 : W5.G = upd W1.G D (.lst va) := by rw [l5.g, l4.g, l3.g]
    have l15 : W1.lf W5 := ((W'0 _).trans l3.tolf).trans (l4.trans l5).tolf
    have va5 : VXs K W5 va acc := VXs.lf (l3.trans (l4.trans l5)).tolf va'
    cases b with
    | false =>
      rw [if_neg Bool.false_ne_true] at p5
      show (if false = true then _ else _)
      rw [if_neg Bool.false_ne_true]
      refine ⟨⟨W5.θ, W5.F, W1.G⟩, M5, acc, va, ⟨⟨l15.th, l15.f⟩, rfl⟩, ?_, va5, p5⟩
      show InvS K ⟨W5.θ, W5.F, upd W1.G D (.lst va)⟩ M5 H5
      rw [← g5]
      exact I5
    | true =>
      rw [if_pos rfl] at p5
      show (if true = true then _ else _)
      rw [if_pos rfl]
      refine ⟨_, M5, _, _, I5, S4.le l5, p5, fun W6 M6 H6 w x l6 I6 v6 p6 => ?_⟩
      have g6 : W6.G = upd W1.G D (.lst va) := by rw [l6.g, g5]
      have gd : W6.G D = some (.lst va) := by rw [g6]; exact upd_same
      have va6 : VXs K W6 va acc := VXs.lf l6.tolf va5
      refine ⟨va, I6.sg D _ gd, by rw [va6.length]; exact p6.1, ?_⟩
      have l16 := l15.trans l6.tolf
      refine ⟨⟨W6.θ, W6.F, W1.G⟩, M6, acc ++ [x], va ++ [w], ⟨⟨l16.th, l16.f⟩, rfl⟩, ?_, va6.append (.cons v6 .nil), p6.2⟩
      have := I6.reguard (u' := .lst (va ++ [w])) gd
      rw [g6, upd_upd] at this
      exact this
  · rw [List.drop_of_length_le (by omega)] at h'
    obtain ⟨hk, h'⟩ := h'
    refine .inl ⟨(T _ M' H' i (W'0 _) I' hk).1 (by omega), ?_⟩
    have I2 := I'.dropG (G0 := W1.G) (same_new gD)
    have hg : (upd W1.G D (.lst va)) D = some (.lst va) := upd_same
    refine q ⟨W'.θ, W'.F, W1.G⟩ M' H' D va acc (l1.trans ⟨⟨l'.th, l'.f⟩, rfl⟩) I2 ⟨I'.sg D _ hg, ?_, gD, fun z => ?_⟩ va' h'
    · rcases I'.fg D with z | z
      · exact z
      · have z : upd W1.G D (.lst va) D = none := z
        rw [upd_same] at z; cases z
    · have := I'.tg D z
      have this : upd W1.G D (.lst va) D = none := this
      rw [upd_same] at this; cases this
section
variable {X : Cx} {elt tg iter : Expr} {ifs : List Expr} {scope : Scope} {own : List (Str × Nat)} {pos : Pos} {ri : RI} {js : List Nat} {g : RG} {rt : RT} {re : RE}
theorem sf_lc (hc : X.calm = true) (hN : X.N.Nodup) (hi : SI X tg iter ri) (ok : BlkOk X.N X.env.scope scope own) (hb : SLc X elt ifs tg scope js g rt re) (hj : (js.all fun j => (own.map (·.2)).contains j) = true := by rfl) (hs : ∀ x, foldedSetIterable iter X.env x = pure x := by intro _; rfl) :
    SF X (.ListComp elt [⟨tg, iter, ifs, 0⟩] scope pos) (rLc ri g rt re (own.map (·.2))) := by
  obtain ⟨wi, pi, si⟩ := hi
  exact ⟨_, pe_lc (te := tOf X.K re) (tt := ttOf X.K rt) (g := tgOf X.K js g) hc hN pi ok (fun s H C cl fp => (hb s H C cl fp).1.can) (fun s H C cl fp => pts_can (hb s H C cl fp).2.1) (fun s H C cl fp => (hb s H C cl fp).2.2.can) hs,
    sndF_lc si fun j hm => by simpa using List.all_eq_true.mp hj j hm⟩
/-- name = [..] on one line -/
theorem ss_setLc {i : Nat} {y : Str} {py : Pos} {spos : Pos} (hc : X.calm = true) (hN : X.N.Nodup) (hi : SI X tg iter ri) (ok : BlkOk X.N X.env.scope scope own) (hb : SLc X elt ifs tg scope js g rt re)
    (hsw : swapsWith (.ListComp elt [⟨tg, iter, ifs, 0⟩] scope pos) (some (.Name y py)) spos.line X.env = pure true) (hy : X.N[i]? = some y := by rfl) (hyl : X.env.scope.names.lookup y = some .local := by rfl)
    (hj : (js.all fun j => (own.map (·.2)).contains j) = true := by rfl) (hs : ∀ x, foldedSetIterable iter X.env x = pure x := by intro _; rfl) :
    SS X (.Assign [.Name y py] (.ListComp elt [⟨tg, iter, ifs, 0⟩] scope pos) spos) (rAsg (rD (rLc ri g rt re (own.map (·.2)))) (rgName i)) := by
  obtain ⟨wi, pi, si⟩ := hi
  refine ⟨_, ps_setLc (te := tOf X.K re) (tt := ttOf X.K rt) (g := tgOf X.K js g) hc hN hy hyl hsw pi ok (fun s H C cl fp => (hb s H C cl fp).1.can) (fun s H C cl fp => pts_can (hb s H C cl fp).2.1) (fun s H C cl fp => (hb s H C cl fp).2.2.can) hs, fun W M H σ σx P D I S h q => ?_⟩
  refine snd_rD (sndF_lc si fun j hm => by simpa using List.all_eq_true.mp hj j hm) W M H σ σx _ _ I S h fun W1 M1 H1 v x l1 I1 v1 p1 => ?_
  exact q W1 M1 H1 (.nx (σx.set i (some x))) l1 I1 p1 _ ((S.le l1).set i v1)
theorem ss_setLcC {i : Nat} {y : Str} {py : Pos} {spos : Pos} (hc : X.calm = true) (hN : X.N.Nodup) (hi : SI X tg iter ri) (ok : BlkOk X.N X.env.scope scope own) (hb : SLc X elt ifs tg scope js g rt re)
    (hsw : swapsWith (.ListComp elt [⟨tg, iter, ifs, 0⟩] scope pos) (some (.Name y py)) spos.line X.env = pure true) (hy : X.N[i]? = some y := by rfl) (hyl : X.env.scope.names.lookup y = some .local := by rfl)
    (hj : (js.all fun j => (own.map (·.2)).contains j) = true := by rfl) (hs : ∀ x, foldedSetIterable iter X.env x = pure x := by intro _; rfl) :
    SS X (.Assign [.Name y py] (.ListComp elt [⟨tg, iter, ifs, 0⟩] scope pos) spos) (rAsg (rCl (rLc ri g rt re (own.map (·.2)))) (rgName i)) := by
  obtain ⟨wi, pi, si⟩ := hi
  refine ⟨_, ps_setLc (te := tOf X.K re) (tt := ttOf X.K rt) (g := tgOf X.K js g) hc hN hy hyl hsw pi ok (fun s H C cl fp => (hb s H C cl fp).1.can) (fun s H C cl fp => pts_can (hb s H C cl fp).2.1) (fun s H C cl fp => (hb s H C cl fp).2.2.can) hs, fun W M H σ σx P D I S h q => ?_⟩
  refine snd_rCl (sndF_lc si fun j hm => by simpa using List.all_eq_true.mp hj j hm) W M H σ σx _ _ I S h fun W1 M1 H1 v x l1 I1 v1 p1 => ?_
  exact q W1 M1 H1 (.nx (σx.set i (some x))) l1 I1 p1 _ ((S.le l1).set i v1)
end
end G

set_option Elab.async false
set_option linter.all false
set_option maxRecDepth 100000
set_option maxHeartbeats 4000000
/-! G5: defs: what a def promises over data and store, its call, its body. The guards of the stack are known to be none. -/
namespace G
open PySem PySem.Spec PyProof.Rows L2

abbrev PF := List Xv → Sto → (Xv → Sto → Prop) → Prop
def spG (K : PySem.W.Frag) (pf : PF) (vs : List V) (H : Hp) (Q : VK) : Prop := ∃ (W : Wd) (M : Sto) (xs : List Xv) (P : Xv → Sto → Prop), InvS K W M H ∧ VXs K W vs xs ∧ pf xs M P ∧
  ∀ W' M' H' v x, W.le W' → InvS K W' M' H' → VX K W' v x → P x M' → Q v H'
/-- a def at f keeps the promise pf -/
structure FnG (P : Program) (w : World) (K : PySem.W.Frag) (mg : Str → Option Value) (base : Heap) (k : Nat) (f : Addr) (fd : FuncData) (ps : List Str) (pf : PF) : Prop where
  len : ∀ xs M R, pf xs M R → xs.length = ps.length
  run : ∀ (A : Around) (outer : List Env) (s : Shared) (H : Hp) (args : Args) (us : List Value) (vs : List V) (Q : VK), Room k A → A.guards = some [] → Env0 P w K mg base A outer s H → BindsTo s fd args (ps.zip us) → Vals vs us → spG K pf vs H Q →
    codeAny (model P w) A (.call (.ref f) args) (CR CX0 outer P w H s Q E0) s
theorem FnG.mono {P : Program} {w : World} {K : PySem.W.Frag} {mg : Str → Option Value} {base : Heap} {j k : Nat} {f : Addr} {fd : FuncData} {ps : List Str} {pf : PF} (F : FnG P w K mg base j f fd ps pf) (h : j ≤ k) : FnG P w K mg base k f fd ps pf :=
  ⟨F.len, fun A outer s H args us vs Q hr => F.run A outer s H args us vs Q (hr.mono h)⟩
/-- a promise that asks more -/
theorem FnG.imp {P : Program} {w : World} {K : PySem.W.Frag} {mg : Str → Option Value} {base : Heap} {k : Nat} {f : Addr} {fd : FuncData} {ps : List Str} {pf pf' : PF} (F : FnG P w K mg base k f fd ps pf) (h : ∀ xs M R, pf' xs M R → pf xs M R) : FnG P w K mg base k f fd ps pf' :=
  ⟨fun xs M R q => F.len xs M R (h xs M R q), fun A outer s H args us vs Q hr hg he hb hv ⟨W, M, xs, R, I, v, p, q⟩ => F.run A outer s H args us vs Q hr hg he hb hv ⟨W, M, xs, R, I, v, h xs M R p, q⟩⟩

/-- what follows from what is promised -/
theorem FnG.up {P : Program} {w : World} {K : PySem.W.Frag} {mg : Str → Option Value} {base : Heap} {k : Nat} {f : Addr} {fd : FuncData} {ps : List Str} {pf : PF} (F : FnG P w K mg base k f fd ps pf) :
    FnG P w K mg base k f fd ps fun xs M R => ∃ R', pf xs M R' ∧ ∀ x M', R' x M' → R x M' :=
  ⟨fun xs M R ⟨R', q, _⟩ => F.len xs M R' q, fun A outer s H args us vs Q hr hg he hb hv ⟨W, M, xs, R, I, v, ⟨R', p, i⟩, q⟩ =>
    F.run A outer s H args us vs Q hr hg he hb hv ⟨W, M, xs, R', I, v, p, fun W' M' H' v' x l I' hv' hp => q W' M' H' v' x l I' hv' (i x M' hp)⟩⟩

/-- the room and the guards of a place in a body -/
structure Rm (k : Nat) (X : Cx) : Prop where
  room : Room k X.A
  gd : X.A.guards = some []
  calm : X.calm = true
theorem Rm.hu {k : Nat} {X : Cx} (r : Rm k X) : X.A.units + 1 < cLine := hu_of r.room
theorem Rm.hu64 {k : Nat} {X : Cx} (r : Rm k X) : X.A.units + 64 < cLine := r.room.units
theorem Rm.hu65 {k : Nat} {X : Cx} (r : Rm k X) : X.A.units + 65 < cLine := by have := r.room.un; omega
theorem Rm.mono {j k : Nat} {X : Cx} (r : Rm k X) (h : j ≤ k) : Rm j X := ⟨r.room.mono h, r.gd, r.calm⟩
theorem Rm.blk {k : Nat} {X : Cx} (r : Rm k X) {s : Shared} {H : Hp} {scope : Scope} {e : Env} {fp : List Addr} : Rm k (X.blk s H scope e fp) := ⟨r.room, r.gd, r.calm⟩

def rCall (pf : PF) (rs : RF) : RE := fun σ M P => rs σ M fun xs M1 => pf xs M1 P
section
variable {X : Cx} {k : Nat} {f : Addr} {fd : FuncData} {ps : List Str} {pf : PF} {x : Str} {p pos : Pos} {e : Expr} {es : List Expr} {rs : RF}
theorem runG {pins : List (Addr × Obj)} {σ : St} {H : Hp} {s : Shared} {Q : VK} {us : List Value} {vs : List V} (F : FnG X.prog X.w X.K X.mg X.base k f fd ps pf) (hr : Rm k X) (hb : L2.Binds X.K fd ps []) (I : Inv X pins σ H s) (r : Vals vs us) (h : spG X.K pf vs H Q) :
    wpAny (model X.prog X.w) X.A (call (.ref f) us) (EP X pins σ Q) X.xe s := by
  obtain ⟨W, M, xs, R, J, hv, hp, hq⟩ := id h
  have hl : (us ++ []).length = ps.length := by rw [List.append_nil, ← r.length, hv.length]; exact F.len xs M R hp
  have bb := hb s us I.kIn hl
  rw [List.append_nil] at bb
  refine wpAny_call (codeAny_mono (F.run X.A X.stack s H ⟨us, []⟩ us vs Q hr.room hr.gd I.env0 bb r h) fun res s' hc => ?_)
  cases res with
  | error e => exact False.elim hc
  | ok fl =>
    cases fl with
    | ret u => exact I.after hc
    | next => exact False.elim hc
    | brk => exact False.elim hc
    | cont => exact False.elim hc
/-- f(e, ..) of a def of the module -/
theorem se_call (F : FnG X.prog X.w X.K X.mg X.base k f fd ps pf) (hr : Rm k X) (hm : X.mg x = some (.ref f)) (hk : PySem.W.keepIn X.K (.ref f) = true) (hb : L2.Binds X.K fd ps []) (ha : SA X (e :: es) rs)
    (hg : Gl X x := by rfl) (hdb : (x == ("__debug__" : Str)) = false := by decide) (he : starEach (e :: es) X.env = (false, eval e X.env) :: starEach es X.env := by rfl) (hpl : (backTo pos (starEach es X.env)).any (·.1) = false := by rfl) :
    SE X (.Call (.Name x p) (e :: es) [] pos) (rCall pf rs) := by
  obtain ⟨t, pa, sa⟩ := ha
  refine ⟨fun σ H Q => t σ H fun vs H1 => spG X.K pf vs H1 Q, ⟨fun pins s σ H Q I h => ?_⟩, fun W M H σ σx P Q I S h q => ?_⟩
  · refine wpAny_Call_Name_kw (ld_glob I hg hm ?_ hdb)
    refine PySem.W.callWith_K (h₀ := X.base) I.ok.mod.kin hk (thn (pa.run pos pins s σ H _ I h) fun us s1 ⟨vs, H1, I1, r, qq⟩ => ⟨I1.kIn, ?_⟩) he hpl
    exact runG F hr hb I1 r qq
  · exact sa W M H σ σx _ _ I S h fun W1 M1 H1 vs xs l1 I1 v1 p1 => ⟨W1, M1, xs, P, I1, v1, p1, fun W2 M2 H2 v x l2 I2 v2 p2 => q W2 M2 H2 v x (l1.trans l2) I2 v2 p2⟩
/-- f() -/
theorem se_call0 (F : FnG X.prog X.w X.K X.mg X.base k f fd [] pf) (hr : Rm k X) (hm : X.mg x = some (.ref f)) (hk : PySem.W.keepIn X.K (.ref f) = true) (hb : L2.Binds X.K fd [] [])
    (hg : Gl X x := by rfl) (hdb : (x == ("__debug__" : Str)) = false := by decide) : SE X (.Call (.Name x p) [] [] pos) (rCall pf rNil) := by
  refine ⟨fun σ H Q => spG X.K pf [] H Q, ⟨fun pins s σ H Q I h => ?_⟩, fun W M H σ σx P Q I S h q => ?_⟩
  · refine wpAny_Call_Name_kw (ld_glob I hg hm ?_ hdb)
    exact PySem.W.callWith_K0 I.kIn hk (runG (us := []) F hr hb I .nil h)
  · exact ⟨W, M, [], P, I, .nil, h, q⟩
end

/-! ### a body -/
abbrev cxG (P : Program) (w : World) (K : PySem.W.Frag) (mg : Str → Option Value) (base : Heap) (N : List Str) (qual : Str) (sc : Scope) (f : Addr) (cdv : Value) (A : Around) (outer : List Env) (s : Shared) (H : Hp) : Cx := (cxOf CX0 P w K mg base N qual sc f cdv A outer s H E0).nox
def startX (N : List Str) (xs : List Xv) : Sl := xs.map some ++ List.replicate (N.length - xs.length) none
def oret : Out → Xv
  | .rt x => x
  | _ => .d .none
/-- how a body ends: behind its last statement or by a return -/
def Ends0 (R : Xv → Sto → Prop) : Out → Sto → Prop
  | .nx _, M => R (.d .none) M
  | .rt x, M => R x M
  | _, _ => False
theorem slr_start {K : PySem.W.Frag} {W : Wd} {N : List Str} {vs : List V} {xs : List Xv} (h : VXs K W vs xs) : Slr K W (L2.start N vs) (startX N xs) := by
  refine ⟨by simp [L2.start, startX, h.length], fun i x e => ?_⟩
  unfold startX at e
  unfold L2.start
  by_cases hi : i < xs.length
  · rw [List.getElem?_append_left (by simpa using hi), List.getElem?_map] at e
    cases hx : xs[i]? with
    | none => rw [hx] at e; cases e
    | some y =>
      rw [hx] at e
      cases e
      obtain ⟨v, h1, h2⟩ := h.get hx
      exact ⟨v, by rw [List.getElem?_append_left (by simpa [h.length] using hi), List.getElem?_map, h1]; rfl, h2⟩
  · rw [List.getElem?_append_right (by simpa using hi), List.getElem?_replicate] at e
    split at e <;> cases e
section
variable {P : Program} {w : World} {K : PySem.W.Frag} {mg : Str → Option Value} {base : Heap}
/-- a def, by its body: every store of the caller is the body's -/
theorem FnG.mk_ {x qual : Str} {params : Arguments} {body : List Stmt} {scope : Scope} {f : Addr} {fd : FuncData} {N ps : List Str} {k : Nat} {pf : PF} {rb : RS} (F : FunD K x qual params body scope [] [] f fd) (S : FnScope N ps scope) (len : ∀ xs M R, pf xs M R → xs.length = ps.length)
    (hb : ∀ (cdv : Value) (A : Around) (outer : List Env) (s : Shared) (H : Hp), Rm k (cxG P w K mg base N qual scope f cdv A outer s H) → SSs (cxG P w K mg base N qual scope f cdv A outer s H) body rb)
    (spec : ∀ xs M R, pf xs M R → rb (startX N xs) M (Ends0 R)) : FnG P w K mg base (k + 1) f fd ps pf := by
  obtain ⟨oc, od, dV, kV, doc, pm, an, cdv, ct, osl, rfl, lk, hcd, _, _⟩ := F.ex
  refine ⟨len, fun A outer s H args us vs Q hr hgd e0 hbd r hsp => ?_⟩
  obtain ⟨W, M, xs, R, I, hv, hp, hq⟩ := hsp
  have hl : vs.length = ps.length := hv.length.trans (len xs M R hp)
  have bk : ∀ b o, base.get? b = some o → s.heap.get? b = some o := fun b o e => (e0.bs b o e).1
  have KX : K.In s.heap := e0.mod.kin.keeps bk
  have lim : s.heap.NoLimit := e0.mod.nolimit.keeps bk
  refine codeAny_call_function hr.depth (KX _ _ lk) rfl S.co S.gen rfl (PySem.W.codeRec_of KX hcd) (hbd _ _ _ _ ?_)
  refine wpAny_newFunctionEnv_cells S.kind (fun y hy => ?_) fun env he s1 xx => ?_
  · obtain ⟨n, v⟩ := y
    have hn : n ∈ ps := (List.of_mem_zip hy).1
    exact (S.par n hn).elim .inl fun z => .inr ⟨z, PySem.W.cellsFrom_some _ _ _ (.inl z)⟩
  subst he
  refine ⟨lim.keeps xx.toInCall.keep, codeAny_func ?_⟩
  have rm : Rm k (cxG P w K mg base N qual scope f cdv A outer s H) := ⟨hr.deeper _, hgd, rfl⟩
  obtain ⟨t, pt, sn⟩ := hb cdv A outer s H rm
  have J : Inv (cxOf CX0 P w K mg base N qual scope f cdv A outer s H E0) [] (L2.start N vs) H s1 := inv_start S hr.hd e0 hl r xx
  have ht : t { nx := fun _ H' => Q .non H', rt := Q } (L2.start N vs) H := by
    refine sn W M H (L2.start N vs) (startX N xs) _ _ I (slr_start hv) (spec xs M R hp) fun W1 M1 H1 o l1 I1 p1 => ?_
    cases o with
    | nx σ => exact fun _ _ => hq W1 M1 H1 _ (.d .none) l1 I1 (show Dq _ _ _ _ from .non) p1
    | rt y => exact fun v hv => hq W1 M1 H1 v y l1 I1 hv p1
    | bk _ => exact p1.elim
    | ct _ => exact p1.elim
  have go := (pt.nox).run [] s1 (L2.start N vs) H { nx := fun _ H' => Q .non H', rt := Q } J ht
  have close : ∀ {σ' : St} {H' : Hp} {s' : Shared} {v : V} {u : Value}, Inv (cxOf CX0 P w K mg base N qual scope f cdv A outer s H E0) [] σ' H' s' → RelV v u → Q v H' → CE outer P w H s Q u s' :=
    fun {σ' H' s' v u} Z rv q => ⟨v, H', Z.os, Z.bare, Z.base, Z.hok, rv, q⟩
  refine wpAny_mono go (fun fl s' hs => ?_) fun e s' hs => hs
  cases fl with
  | ret u => obtain ⟨v, σ', H', Z, rv, q⟩ := hs; exact close Z rv q
  | next => obtain ⟨σ', H', Z, q⟩ := hs; exact close (v := V.non) Z rfl q
  | brk => obtain ⟨_, _, _, q⟩ := hs; exact False.elim q
  | cont => obtain ⟨_, _, _, q⟩ := hs; exact False.elim q
end

/-! ### a callee that sees the first k cells alone -/
def belowX (k : Nat) : Xv → Bool
  | .d _ => true
  | .c i => decide (i < k)
def belowO (k : Nat) : Ob → Bool
  | .lst xs => xs.all (belowX k)
  | .tup xs => xs.all (belowX k)
  | .dic kvs => kvs.all fun p => belowX k p.2
  | .dit kvs => kvs.all fun p => belowX k p.2
  | .ins _ fs => fs.all fun p => belowX k p.2
  | .frz _ => true
def belowM (k : Nat) (M : Sto) : Bool := M.all (belowO k)
section
variable {K : PySem.W.Frag} {W W' : Wd} {k : Nat}
theorem VX.below {v : V} {x : Xv} (hf : SameR W.F W'.F) (ht : ∀ i a, i < k → W.θ[i]? = some a → W'.θ[i]? = some a) (b : belowX k x = true) (h : VX K W v x) : VX K W' v x := by
  cases x with
  | d d => exact Dq.same hf h
  | c i =>
    obtain ⟨a, e, q⟩ := h
    exact ⟨a, e, ht i a (of_decide_eq_true b) q⟩
theorem VXs.below (hf : SameR W.F W'.F) (ht : ∀ i a, i < k → W.θ[i]? = some a → W'.θ[i]? = some a) : ∀ {vs : List V} {xs : List Xv}, xs.all (belowX k) = true → Paired (VX K W) vs xs → Paired (VX K W') vs xs
  | _, _, _, .nil => .nil
  | _, x :: xs, b, .cons h r => by
    rw [List.all_cons, Bool.and_eq_true] at b
    exact .cons (h.below hf ht b.1) (VXs.below hf ht b.2 r)
theorem KVX.below {κ : Type} (hf : SameR W.F W'.F) (ht : ∀ i a, i < k → W.θ[i]? = some a → W'.θ[i]? = some a) : ∀ {vs : List (κ × V)} {xs : List (κ × Xv)}, (xs.all fun p => belowX k p.2) = true → KVX K W vs xs → KVX K W' vs xs
  | _, _, _, .nil => .nil
  | _, x :: xs, b, .cons h r => by
    rw [List.all_cons, Bool.and_eq_true] at b
    exact .cons ⟨h.1, h.2.below hf ht b.1⟩ (KVX.below hf ht b.2 r)
theorem OkOb.below {H H' : Hp} {a : Addr} {o : Ob} (hf : SameR W.F W'.F) (ht : ∀ i a, i < k → W.θ[i]? = some a → W'.θ[i]? = some a) (b : belowO k o = true) (s : W.F a = none → H' a = H a) (f : W.F a = none → W'.F a = none) (h : OkOb K W H a o) : OkOb K W' H' a o := by
  cases o with
  | lst xs => obtain ⟨h0, vs, h1, h2⟩ := h; exact ⟨f h0, vs, (s h0).trans h1, VXs.below hf ht b h2⟩
  | tup xs => obtain ⟨h0, vs, h1, h2⟩ := h; exact ⟨f h0, vs, (s h0).trans h1, VXs.below hf ht b h2⟩
  | dic xs => obtain ⟨h0, vs, h1, h2⟩ := h; exact ⟨f h0, vs, (s h0).trans h1, KVX.below hf ht b h2⟩
  | dit xs => obtain ⟨h0, vs, h1, h2⟩ := h; exact ⟨f h0, vs, (s h0).trans h1, KVX.below hf ht b h2⟩
  | ins C fs => obtain ⟨h0, dx, vs, h1, h2⟩ := h; exact ⟨f h0, dx, vs, (s h0).trans h1, KVX.below hf ht b h2⟩
  | frz d => exact Dq.same hf h
end
/-- f over the first k cells; the others stay, and what the callee has made beside is forgotten -/
def pfPre (k : Nat) (f : PF) : PF := fun xs M P => k ≤ M.length ∧ xs.all (belowX k) = true ∧ belowM k (M.take k) = true ∧ f xs (M.take k) fun x Mr => Mr.length = k ∧ belowX k x = true ∧ belowM k Mr = true ∧ P x (Mr ++ M.drop k)
/-- .. as the callee's body is to show it -/
def EndsPre (k : Nat) (R : Xv → Sto → Prop) : Out → Sto → Prop := Ends0 fun x M => k ≤ M.length ∧ R x (M.take k)
open Classical in
theorem spG_pre {K : PySem.W.Frag} {k : Nat} {f f' : PF} (hf : ∀ xs M R, f xs M R → f' xs M fun x M' => k ≤ M'.length ∧ R x (M'.take k)) {vs : List V} {H : Hp} {Q : VK} (h : spG K (pfPre k f) vs H Q) : spG K f' vs H Q := by
  obtain ⟨W, M, xs, P, I, hv, ⟨hk, bx, bM, hp⟩, hq⟩ := h
  -- the callee's world
  have hG : ∀ a, W.F a = none ∨ (if a ∈ W.θ.drop k ∧ W.F a = none then H a else W.G a) = none := fun a => by
    by_cases hF : W.F a = none
    · exact .inl hF
    · rw [if_neg (fun z => hF z.2)]
      exact I.fg a
  have hk' : k ≤ W.θ.length := by rw [I.len]; exact hk
  have tk : ∀ i a, i < k → (W.θ.take k)[i]? = some a → W.θ[i]? = some a := fun i a hi h => by rw [List.getElem?_take_of_lt hi] at h; exact h
  have tk' : ∀ i a, i < k → W.θ[i]? = some a → (W.θ.take k)[i]? = some a := fun i a hi h => by rw [List.getElem?_take_of_lt hi]; exact h
  have disj : ∀ a, a ∈ W.θ.take k → a ∉ W.θ.drop k := fun a h1 h2 => by
    have nd := I.nd
    rw [← List.take_append_drop k W.θ, List.nodup_append] at nd
    exact nd.2.2 a h1 a h2 rfl
  refine ⟨⟨W.θ.take k, W.F, fun a => if a ∈ W.θ.drop k ∧ W.F a = none then H a else W.G a⟩, M.take k, xs, _, ?_, ?_, hf xs (M.take k) _ hp, ?_⟩
  · refine ⟨by simp [I.len], I.nd.sublist (List.take_sublist _ _), fun i a o h1 h2 => ?_, I.sf, fun b o e => ?_, hG, fun a ha => ?_, fun a ha => I.th a (List.mem_of_mem_take ha)⟩
    · have hi : i < k := by
        have := (List.getElem?_eq_some_iff.mp h1).1
        rw [List.length_take] at this
        omega
      have h2' : M[i]? = some o := by rw [List.getElem?_take_of_lt hi] at h2; exact h2
      refine OkOb.below (W := W) (k := k) (SameR.refl _) (fun j b hj hb => tk' j b hj hb) ?_ (fun _ => rfl) id (I.ob i a o (tk i a hi h1) h2')
      have := List.all_eq_true.mp bM o (List.mem_of_getElem? h2)
      exact this
    · have e : (if b ∈ W.θ.drop k ∧ W.F b = none then H b else W.G b) = some o := e
      split at e
      · exact e
      · exact I.sg b o e
    · show (if a ∈ W.θ.drop k ∧ W.F a = none then H a else W.G a) = none
      rw [if_neg (fun z => disj a ha z.1)]
      exact I.tg a (List.mem_of_mem_take ha)
  · exact VXs.below (W := W) (W' := ⟨W.θ.take k, W.F, fun a => if a ∈ W.θ.drop k ∧ W.F a = none then H a else W.G a⟩) (k := k) (SameR.refl _) (fun j b hj hb => tk' j b hj hb) bx hv
  · intro W1 M1 H1 v x l1 I1 v1 ⟨hl1, hl2, bx1, bM1, p1⟩
    have th1 : ∀ i a, i < k → W.θ[i]? = some a → W1.θ[i]? = some a := fun i a hi h => l1.th i a (tk' i a hi h)
    have th2 : ∀ i a, i < k → W1.θ[i]? = some a → W.θ[i]? = some a := fun i a hi h => by
      have hi' : i < W.θ.length := by omega
      have e := th1 i _ hi (List.getElem?_eq_getElem hi')
      rw [h] at e
      cases e
      exact List.getElem?_eq_getElem hi'
    have kept : ∀ a, a ∈ W.θ.drop k → W.F a = none → H1 a = H a ∧ W1.F a = none := fun a ha hF => by
      have hne := I.th a (List.mem_of_mem_drop ha)
      cases hH : H a with
      | none => exact absurd hH hne
      | some o =>
        have g1 : W1.G a = some o := by
          rw [l1.g]
          show (if a ∈ W.θ.drop k ∧ W.F a = none then H a else W.G a) = some o
          rw [if_pos ⟨ha, hF⟩]; exact hH
        refine ⟨I1.sg a o g1, ?_⟩
        rcases I1.fg a with z | z
        · exact z
        · rw [g1] at z; cases z
    have gOld : ∀ b o, W.G b = some o → W1.G b = some o := fun b o e => by
      rw [l1.g]
      show (if b ∈ W.θ.drop k ∧ W.F b = none then H b else W.G b) = some o
      rw [if_neg]
      · exact e
      · intro z
        rw [I.tg b (List.mem_of_mem_drop z.1)] at e; cases e
    have l2 : W.le ⟨W.θ, W1.F, W.G⟩ := ⟨⟨fun _ _ h => h, l1.f⟩, rfl⟩
    refine hq ⟨W.θ, W1.F, W.G⟩ (M1.take k ++ M.drop k) H1 v x l2 ?_ (VX.below (W := W1) (k := k) (SameR.refl _) th2 bx1 v1) p1
    refine ⟨?_, I.nd, fun i a o h1 h2 => ?_, I1.sf, fun b o e => I1.sg b o (gOld b o e), fun a => ?_, I.tg, fun a ha => ?_⟩
    · show W.θ.length = _
      rw [List.length_append, List.length_take, List.length_drop, I.len]
      omega
    · have h1 : W.θ[i]? = some a := h1
      by_cases hi : i < k
      · rw [List.getElem?_append_left (by rw [List.length_take]; omega), List.getElem?_take_of_lt hi] at h2
        refine OkOb.below (W := W1) (k := k) (SameR.refl _) th2 ?_ (fun _ => rfl) id (I1.ob i a o (th1 i a hi h1) h2)
        exact List.all_eq_true.mp bM1 o (List.mem_of_getElem? (by rw [List.getElem?_take_of_lt hi]; exact h2))
      · have hlk : (M1.take k).length = k := by rw [List.length_take]; omega
        rw [List.getElem?_append_right (by omega), hlk, List.getElem?_drop] at h2
        have e : k + (i - k) = i := by omega
        rw [e] at h2
        have ha : a ∈ W.θ.drop k := by
          refine List.mem_of_getElem? (i := i - k) ?_
          rw [List.getElem?_drop, e]; exact h1
        have ok := I.ob i a o h1 h2
        cases o with
        | lst xs => obtain ⟨h0, vs, q1, q2⟩ := ok; obtain ⟨z1, z2⟩ := kept a ha h0; exact ⟨z2, vs, z1.trans q1, VXs.le l2 q2⟩
        | tup xs => obtain ⟨h0, vs, q1, q2⟩ := ok; obtain ⟨z1, z2⟩ := kept a ha h0; exact ⟨z2, vs, z1.trans q1, VXs.le l2 q2⟩
        | dic xs => obtain ⟨h0, vs, q1, q2⟩ := ok; obtain ⟨z1, z2⟩ := kept a ha h0; exact ⟨z2, vs, z1.trans q1, q2.le l2⟩
        | dit xs => obtain ⟨h0, vs, q1, q2⟩ := ok; obtain ⟨z1, z2⟩ := kept a ha h0; exact ⟨z2, vs, z1.trans q1, q2.le l2⟩
        | ins C fs => obtain ⟨h0, dx, vs, q1, q2⟩ := ok; obtain ⟨z1, z2⟩ := kept a ha h0; exact ⟨z2, dx, vs, z1.trans q1, q2.le l2⟩
        | frz d => exact Dq.same l1.f ok
    · show W1.F a = none ∨ W.G a = none
      cases hg : W.G a with
      | none => exact .inr rfl
      | some o =>
        rcases I1.fg a with z | z
        · exact .inl z
        · rw [gOld a o hg] at z; cases z
    · by_cases hF : W.F a = none
      · by_cases hd : a ∈ W.θ.drop k
        · rw [(kept a hd hF).1]; exact I.th a ha
        · obtain ⟨i, hi, e⟩ := List.getElem_of_mem ha
          have hik : i < k := by
            rcases Nat.lt_or_ge i k with z | z
            · exact z
            · exfalso
              apply hd
              refine List.mem_of_getElem? (i := i - k) ?_
              rw [List.getElem?_drop, show k + (i - k) = i by omega]
              exact e ▸ List.getElem?_eq_getElem hi
          exact I1.th a (List.mem_of_getElem? (th1 i a hik (e ▸ List.getElem?_eq_getElem hi)))
      · intro z
        exact l1.f.dom a hF (I1.sf.free z)
section
variable {P : Program} {w : World} {K : PySem.W.Frag} {mg : Str → Option Value} {base : Heap}
theorem FnG.pre {j k : Nat} {f : Addr} {fd : FuncData} {ps : List Str} {pf pf' : PF} (F : FnG P w K mg base j f fd ps pf') (h : ∀ xs M R, pf xs M R → pf' xs M fun x M' => k ≤ M'.length ∧ R x (M'.take k)) : FnG P w K mg base j f fd ps (pfPre k pf) :=
  ⟨fun xs M R q => F.len xs _ _ (h xs _ _ q.2.2.2), fun A outer s H args us vs Q hr hg he hb hv hs => F.run A outer s H args us vs Q hr hg he hb hv (spG_pre h hs)⟩
/-- a def, by its body over the first k cells -/
theorem FnG.mkPre {x qual : Str} {params : Arguments} {body : List Stmt} {scope : Scope} {f : Addr} {fd : FuncData} {N ps : List Str} {j k : Nat} {pf : PF} {rb : RS} (F : FunD K x qual params body scope [] [] f fd) (S : FnScope N ps scope) (len : ∀ xs M R, pf xs M R → xs.length = ps.length)
    (hb : ∀ (cdv : Value) (A : Around) (outer : List Env) (s : Shared) (H : Hp), Rm j (cxG P w K mg base N qual scope f cdv A outer s H) → SSs (cxG P w K mg base N qual scope f cdv A outer s H) body rb)
    (spec : ∀ xs M R, pf xs M R → rb (startX N xs) M (EndsPre k R)) : FnG P w K mg base (j + 1) f fd ps (pfPre k pf) := by
  refine FnG.pre (pf' := fun xs M R => xs.length = ps.length ∧ rb (startX N xs) M (Ends0 R)) (FnG.mk_ F S (fun xs M R h => h.1) hb fun xs M R h => h.2) fun xs M R h => ⟨len xs M R h, spec xs M R h⟩
end
/-! ### defs over data alone -/
abbrev PD := List PyData → (PyData → Prop) → Prop
def pfD (f : PD) : PF := fun xs M P => ∃ ds, xs = dX ds ∧ f ds fun d => P (.d d) M
def EndsD (R : PyData → Prop) : Out → Sto → Prop := Ends0 fun x _ => match x with
  | .d d => R d
  | .c _ => False
theorem belowX_dX (k : Nat) : ∀ ds : List PyData, (dX ds).all (belowX k) = true
  | [] => rfl
  | d :: ds => by
    show (belowX k (.d d) && (dX ds).all (belowX k)) = true
    rw [belowX_dX k ds]; rfl
section
variable {P : Program} {w : World} {K : PySem.W.Frag} {mg : Str → Option Value} {base : Heap}
theorem FnG.mkD {x qual : Str} {params : Arguments} {body : List Stmt} {scope : Scope} {f : Addr} {fd : FuncData} {N ps : List Str} {j : Nat} {pd : PD} {rb : RS} (F : FunD K x qual params body scope [] [] f fd) (S : FnScope N ps scope) (len : ∀ ds R, pd ds R → ds.length = ps.length)
    (hb : ∀ (cdv : Value) (A : Around) (outer : List Env) (s : Shared) (H : Hp), Rm j (cxG P w K mg base N qual scope f cdv A outer s H) → SSs (cxG P w K mg base N qual scope f cdv A outer s H) body rb)
    (spec : ∀ ds R, pd ds R → rb (startX N (dX ds)) [] (EndsD R)) (mono : ∀ ds R R', (∀ d, R d → R' d) → pd ds R → pd ds R') : FnG P w K mg base (j + 1) f fd ps (pfD pd) := by
  have F0 : FnG P w K mg base (j + 1) f fd ps (fun xs M R => M = [] ∧ ∃ ds R', xs = dX ds ∧ pd ds R' ∧ R = fun x _ => match x with | .d d => R' d | .c _ => False) :=
    FnG.mk_ F S (fun xs M R ⟨_, ds, R', e, h, _⟩ => by rw [e, List.length_map]; exact len ds _ h) hb fun xs M R ⟨e0, ds, R', e, h, eR⟩ => by
      subst e0 e eR
      exact spec ds R' h
  refine FnG.imp (pf := pfPre 0 fun xs M R => M = [] ∧ ∃ ds, xs = dX ds ∧ pd ds fun d => R (.d d) []) (F0.up.pre fun xs M R ⟨e0, ds, e, h⟩ => ?_) fun xs M R ⟨ds, e, h⟩ => ?_
  · refine ⟨_, ⟨e0, ds, _, e, h, rfl⟩, fun x M' q => ⟨Nat.zero_le _, ?_⟩⟩
    cases x with
    | d d => exact q
    | c _ => exact q.elim
  · exact ⟨Nat.zero_le _, by rw [e]; exact belowX_dX 0 ds, rfl, rfl, ds, e, mono ds _ _ (fun d hd => ⟨rfl, rfl, rfl, hd⟩) h⟩
end

/-! ### a def of the module: where it stands, what it promises -/
structure DefOk (K : PySem.W.Frag) (mg : Str → Option Value) (x : Str) (ps : List Str) (params : Arguments) (body : List Stmt) (scope : Scope) : Prop where
  ex : ∃ f fd, mg x = some (.ref f) ∧ FunD K x x params body scope [] [] f fd ∧ L2.Binds K fd ps []
structure Cal (P : Program) (w : World) (K : PySem.W.Frag) (mg : Str → Option Value) (base : Heap) (k : Nat) (x : Str) (ps : List Str) (pf : PF) : Prop where
  ex : ∃ f fd, mg x = some (.ref f) ∧ PySem.W.keepIn K (.ref f) = true ∧ L2.Binds K fd ps [] ∧ FnG P w K mg base k f fd ps pf
section
variable {P : Program} {w : World} {K : PySem.W.Frag} {mg : Str → Option Value} {base : Heap} {k : Nat} {x : Str} {ps N : List Str} {pf : PF} {params : Arguments} {body : List Stmt} {scope : Scope} {rb : RS} {j : Nat}
theorem Cal.mono (C : Cal P w K mg base j x ps pf) (h : j ≤ k) : Cal P w K mg base k x ps pf := let ⟨f, fd, a, b, c, d⟩ := C.ex; ⟨f, fd, a, b, c, d.mono h⟩
theorem Cal.imp {pf' : PF} (C : Cal P w K mg base k x ps pf) (h : ∀ xs M R, pf' xs M R → pf xs M R) : Cal P w K mg base k x ps pf' := let ⟨f, fd, a, b, c, d⟩ := C.ex; ⟨f, fd, a, b, c, d.imp h⟩
abbrev BodyOk (P : Program) (w : World) (K : PySem.W.Frag) (mg : Str → Option Value) (base : Heap) (k : Nat) (x : Str) (N : List Str) (body : List Stmt) (scope : Scope) (rb : RS) : Prop :=
  ∀ (f : Addr) (cdv : Value) (A : Around) (outer : List Env) (s : Shared) (H : Hp), Rm k (cxG P w K mg base N x scope f cdv A outer s H) → SSs (cxG P w K mg base N x scope f cdv A outer s H) body rb
theorem Cal.mk_ (D : DefOk K mg x ps params body scope) (S : FnScope N ps scope) (hb : BodyOk P w K mg base k x N body scope rb) (len : ∀ xs M R, pf xs M R → xs.length = ps.length) (spec : ∀ xs M R, pf xs M R → rb (startX N xs) M (Ends0 R)) : Cal P w K mg base (k + 1) x ps pf := by
  obtain ⟨f, fd, a, F, c⟩ := D.ex
  exact ⟨f, fd, a, F.kp, c, FnG.mk_ F S len (fun cdv A outer s H => hb f cdv A outer s H) spec⟩
theorem Cal.mkPre {i : Nat} (D : DefOk K mg x ps params body scope) (S : FnScope N ps scope) (hb : BodyOk P w K mg base k x N body scope rb) (len : ∀ xs M R, pf xs M R → xs.length = ps.length) (spec : ∀ xs M R, pf xs M R → rb (startX N xs) M (EndsPre i R)) : Cal P w K mg base (k + 1) x ps (pfPre i pf) := by
  obtain ⟨f, fd, a, F, c⟩ := D.ex
  exact ⟨f, fd, a, F.kp, c, FnG.mkPre F S len (fun cdv A outer s H => hb f cdv A outer s H) spec⟩
theorem Cal.mkD {pd : PD} (D : DefOk K mg x ps params body scope) (S : FnScope N ps scope) (hb : BodyOk P w K mg base k x N body scope rb) (len : ∀ ds R, pd ds R → ds.length = ps.length) (spec : ∀ ds R, pd ds R → rb (startX N (dX ds)) [] (EndsD R)) (mono : ∀ ds R R', (∀ d, R d → R' d) → pd ds R → pd ds R') : Cal P w K mg base (k + 1) x ps (pfD pd) := by
  obtain ⟨f, fd, a, F, c⟩ := D.ex
  exact ⟨f, fd, a, F.kp, c, FnG.mkD F S len (fun cdv A outer s H => hb f cdv A outer s H) spec mono⟩
end
section
variable {X : Cx} {k : Nat} {ps : List Str} {pf : PF} {x : Str} {p pos : Pos} {e : Expr} {es : List Expr} {rs : RF}
theorem se_cal (C : Cal X.prog X.w X.K X.mg X.base k x ps pf) (hr : Rm k X) (ha : SA X (e :: es) rs)
    (hg : Gl X x := by rfl) (hdb : (x == ("__debug__" : Str)) = false := by decide) (he : starEach (e :: es) X.env = (false, eval e X.env) :: starEach es X.env := by rfl) (hpl : (backTo pos (starEach es X.env)).any (·.1) = false := by rfl) :
    SE X (.Call (.Name x p) (e :: es) [] pos) (rCall pf rs) := by
  obtain ⟨f, fd, a, b, c, F⟩ := C.ex
  exact se_call F hr a b c ha hg hdb he hpl
theorem se_cal0 (C : Cal X.prog X.w X.K X.mg X.base k x [] pf) (hr : Rm k X) (hg : Gl X x := by rfl) (hdb : (x == ("__debug__" : Str)) = false := by decide) : SE X (.Call (.Name x p) [] [] pos) (rCall pf rNil) := by
  obtain ⟨f, fd, a, b, c, F⟩ := C.ex
  exact se_call0 F hr a b c hg hdb
theorem se_gi {i : Int} (h : ∃ t, X.mg x = some (.int i t)) (hg : Gl X x := by rfl) (hd : (x == ("__debug__" : Str)) = false := by decide) : SE X (.Name x p) (rC (.int i)) := by
  obtain ⟨t, h⟩ := h
  exact se_gint hg h hd
end
end G

set_option Elab.async false
set_option linter.all false
set_option maxRecDepth 100000
set_option maxHeartbeats 4000000
/-! G6: the end of a law's row: from the promise of the law's def over data. -/
namespace G
open PySem PySem.Spec PyProof.Rows L2

theorem dq_ints {K : PySem.W.Frag} {F : Hp} : ∀ ns : List Int, DqAll K F (ns.map V.int) (ns.map PyData.int)
  | [] => .nil
  | n :: ns => .cons (.int n) (dq_ints ns)
/-- the promise of a law: True of every script -/
def pfLaw (n : Nat) : PF := fun xs M R => ∃ ns : List Int, xs = [.d (.list (ns.map .int))] ∧ M = [] ∧ ns.length ≤ n ∧ ∀ M', R (.d (.bool true)) M'
section
variable {P : Program} {w : World} {K : PySem.W.Frag} {mg mb : Str → Option Value} {k n : Nat} {fa a : Addr} {x x0 : Str} {t : Shared} {vs : List Value} {ns : List Int}
/-- what is tracked as a law begins: the script, where it is none of the module's own -/
def H_0 (K : PySem.W.Frag) (a : Addr) (ob : Obj) (ns : List Int) : Hp := fun b => if b = a ∧ K.lookup a = none then some (.frz ob (.lst (ns.map V.int))) else none
theorem H0_cases (K : PySem.W.Frag) (a : Addr) (ob : Obj) (ns : List Int) (b : Addr) : H_0 K a ob ns b = none ∨ (b = a ∧ K.lookup a = none ∧ H_0 K a ob ns b = some (.frz ob (.lst (ns.map V.int)))) := by
  unfold H_0
  by_cases h : b = a ∧ K.lookup a = none
  · exact .inr ⟨h.1, h.2, if_pos h⟩
  · exact .inl (if_neg h)
theorem law_G (KX : K.In t.heap) (hns : t.heap.Ns mainGlobals mg) (hb : t.heap.Ns builtinsNs mb) (hbb : ∀ x : Str, x ≠ "__name__" → mb x = bootBuiltins x) (hlim : t.heap.NoLimit) (hg : t.gens = #[])
    (ha : t.heap.get? a = some { cls := .type "list", data := .seq vs.toArray }) (hi : IntsAre vs ns) (hn : ns.length ≤ n) (hl : n ≤ sizeLine) (hr : Room k callerA)
    (hsm : ∃ m, t.heap.Ns sysModules m) (F : ∀ base : Heap, K.In base → base.Ns mainGlobals mg → (∃ m, base.Ns sysModules m) → Cal P w K mg base k x [x0] (pfLaw n)) (hmg : mg x = some (.ref fa)) :
    codeAny (model P w) callerA (.call (.ref fa) ⟨[.ref a], []⟩) (fun r s' => r = .ok (.ret (.bool true)) ∧ OldK t.heap s'.heap ∧ s'.os = t.os ∧ AllBare s'.gens) t := by
  generalize hH : H_0 K a { cls := .type "list", data := .seq vs.toArray } ns = H
  have rv := vals_ints hi
  have hc : ∀ b, H b = none ∨ (b = a ∧ K.lookup a = none ∧ H b = some (.frz { cls := .type "list", data := .seq vs.toArray } (.lst (ns.map V.int)))) := fun b => hH ▸ H0_cases K a _ ns b
  have lz : (ns.map V.int).length ≤ sizeLine := by rw [List.length_map]; omega
  have ok : HOk P w H t.heap := fun b o e => by
    rcases hc b with z | ⟨z1, _, z⟩
    · rw [z] at e; cases e
    · rw [z] at e; cases e
      subst z1
      exact ⟨ha, lz, vs, _, rv, ha⟩
  -- an object of the written part, a namespace: they are not tracked
  have keepO : ∀ {b : Addr} {o : Obj}, t.heap.get? b = some o → (b = a → False) → (hidT t.heap H).get? b = some o := fun {b o} e ne => hidT_get e ((hc b).elim id fun z => (ne z.1).elim)
  have keepN : ∀ {b : Addr} {m : Str → Option Value}, t.heap.Ns b m → (hidT t.heap H).Ns b m := fun {b m} ⟨o, es, ep, e, d, r⟩ => ⟨o, es, ep, keepO e (fun z => by
    subst z; rw [ha] at e; cases e; cases d), d, r⟩
  have keepK : K.In (hidT t.heap H) := fun b o e => by
    have e2 := KX b o e
    rcases hc b with z | ⟨z1, z2, _⟩
    · exact hidT_get e2 z
    · subst z1; rw [z2] at e; cases e
  have md : Mod K mg (hidT t.heap H) := ⟨keepK, keepN hns, ⟨mb, keepN hb, hbb⟩, let ⟨mc, h1, h2⟩ := hlim; ⟨mc, keepN h1, h2⟩⟩
  have nof : ∀ b, b ∉ frs ([] : List Env) := fun b z => by simp [frs] at z
  have e0 : Env0 P w K mg (hidT t.heap H) callerA [] t H := ⟨rfl, md, fun b o e => of_hidT e, Nat.le_of_eq (hidT_size _ _), trivial, fun b z => (nof b z).elim, ok, .of_eq hg⟩
  have sq : SqL K H a (ns.map V.int) := by
    cases hk : K.lookup a with
    | none => exact .inl (.inr ⟨{ cls := .type "list", data := .seq vs.toArray }, by rw [← hH]; exact if_pos ⟨rfl, hk⟩⟩)
    | some o =>
      have e := KX a o hk
      rw [ha] at e
      cases e
      have := hi.length
      exact .inr ⟨_, vs.toArray, _, hk, rfl, rfl, rfl, by rw [List.size_toArray]; omega, by simpa using rv⟩
  have inv : InvS K ⟨[], H, fun _ => none⟩ [] H := ⟨rfl, List.nodup_nil, fun i a o h1 _ => by simp at h1, fun _ _ e => e, fun _ _ e => (by cases e), fun _ => .inr rfl, fun _ h => by simp at h, fun _ h => by simp at h⟩
  have hsys : ∃ m, (hidT t.heap H).Ns sysModules m := let ⟨m, hm⟩ := hsm; ⟨m, keepN hm⟩
  obtain ⟨f, fd, z1, _, hbind, FF⟩ := (F _ keepK (keepN hns) hsys).ex
  obtain rfl : f = fa := by rw [hmg] at z1; cases z1; rfl
  have hbd : BindsTo t fd ⟨[.ref a], []⟩ ([x0].zip [.ref a]) := hbind t [.ref a] KX rfl
  refine codeAny_mono (FF.run callerA [] t H ⟨[.ref a], []⟩ [.ref a] [.ref a] (fun v _ => v = .bl true) hr rfl e0 hbd (.cons rfl .nil)
    ⟨⟨[], H, fun _ => none⟩, [], [.d (.list (ns.map .int))], fun x _ => x = .d (.bool true), inv, .cons (show Dq _ _ _ _ from .lst sq (dq_ints ns)) .nil, ⟨ns, rfl, rfl, hn, fun _ => rfl⟩, fun W' M' H' v x _ _ hv hx => by subst hx; exact boV hv⟩) fun r s' h => ?_
  cases r with
  | error e => exact False.elim h
  | ok fl =>
    cases fl with
    | next => exact False.elim h
    | brk => exact False.elim h
    | cont => exact False.elim h
    | ret u =>
      obtain ⟨v, H', os, bare, un, ok', r', q⟩ := h
      have q : v = .bl true := q
      subst q
      obtain rfl : u = Value.bool true := r'
      refine ⟨rfl, OldK.of_keep fun b o e => ?_, os, bare⟩
      rcases hc b with z | ⟨z1, _, z⟩
      · exact un.keep b o e z (nof b) (by simp)
      · obtain ⟨e1, _⟩ := ok b _ z
        obtain ⟨e2, _⟩ := ok' b _ (un.frzs b _ _ z)
        rw [e] at e1; cases e1
        exact e2
end
/-- the goal that the head leaves, from the law's promise over data -/
theorem walk_G {l : PySem.W.OpenLaw} {n k : Nat} {q : Program} {loose : List Str} {XP : (Str → Option Value) → Heap → Prop} {YP : World → Heap → Prop} {d : DefRec} {x : Str}
    (hn : l.most = some n) (hn2 : n ≤ sizeLine) (hdf : d.params.defaults = []) (hr : Room k callerA) (hq : importsNone q = true)
    (F : ∀ (w : World) (mg : Str → Option Value) (fa : Addr) (h : Heap), YP w h → h.Ns mainGlobals mg → mg d.name = some (.ref fa) →
      ∃ (K : PySem.W.Frag), K.In h ∧ ∀ base : Heap, K.In base → base.Ns mainGlobals mg → (∃ m, base.Ns sysModules m) → Cal l.prog w K mg base k d.name [x] (pfLaw n)) :
    PySem.W.WalkO q loose XP YP l.row.toRowW d [] (fun f vs => PySem.call f vs) := by
  refine Att.attach_call hn hdf fun w _ t mg mb fa _ _ _ _ a vs ns gr Y _ _ _ hmg hobj hints hlen hgens => ?_
  obtain ⟨K, KX, hF⟩ := F w mg fa _ Y gr.T.g hmg
  obtain ⟨m, hm, _⟩ := (gr.T.seer hq).mods
  exact law_G KX gr.T.g gr.T.b gr.T.builtins gr.T.nolimit hgens hobj hints hlen hn2 hr ⟨m, hm⟩ hF hmg
end G

set_option Elab.async false
set_option linter.all false
set_option maxRecDepth 100000
set_option maxHeartbeats 4000000
/-! G7: built-ins over data and store. -/
namespace G
open PySem PySem.Spec PyProof.Rows L2

/-! ### data as the kit's Reads -/
section
variable {X : Cx} {pins : List (Addr × Obj)} {σ : St} {H F : Hp} {s : Shared}
theorem Inv.list_ne (I : Inv X pins σ H s) (hB : ∃ m, X.base.Ns sysModules m) {a : Addr} {xs : List V} (h : SqL X.K H a xs) : a ≠ sysModules := by
  rintro rfl
  obtain ⟨m, ob, es, ep, e, hd, _⟩ := hB
  rcases h with h | ⟨o, its, n, h, _, _, hq, _⟩
  · have hn : H sysModules = none := (I.bs _ _ e).2
    rcases h with h | ⟨o, h⟩
    · rw [hn] at h; cases h
    · rw [hn] at h; cases h
  · have e2 := I.mod.kin _ _ h
    rw [e] at e2
    cases e2
    rw [hd] at hq; cases hq
theorem kreads {P : Program} {w : World} {h : Heap} : ∀ {kvs : List (Key × V)} {vs : List (Key × Value)} {es : List DictEntry}, KV kvs vs → Pairs (mixKind P w) es vs → ReadsAll h (es.map (·.key)) (kvs.map fun p => kD p.1) [] ∧ Vals (kvs.map (·.2)) (es.map (·.val))
  | _, _, _, .nil, .nil => ⟨.nil, .nil⟩
  | p :: _, _, _, .cons a r, .cons (e := e) b c t => by
    obtain ⟨h1, h2⟩ := kreads (h := h) r t
    refine ⟨?_, ?_⟩
    · rw [List.map_cons, List.map_cons]
      refine ReadsAll.cons (as := []) (bs := []) ?_ h1
      rw [← a.1] at b
      rcases keyIs_shape b with ⟨i, t, e1, e2⟩ | ⟨x, t, e1, e2⟩
      · rw [e1, e2]; exact .int i t
      · rw [e1, e2]; exact .str x t
    · rw [List.map_cons, List.map_cons]
      exact .cons (c ▸ a.2) h2
mutual
theorem Dq.reads (I : Inv X pins σ H s) (hB : ∃ m, X.base.Ns sysModules m) (sf : SameR F H) : ∀ (d : PyData) (v : V) (u : Value), Dq X.K F v d → RelV v u → ∃ as, Reads s.heap u d as ∧ sysModules ∉ as
  | .none, _, _, h, r => by
    cases h
    cases r
    exact ⟨_, Reads.none, by simp⟩
  | .bool b, _, _, h, r => by
    cases h
    cases r
    exact ⟨_, Reads.bool b, by simp⟩
  | .int i, _, _, h, r => by
    cases h
    obtain ⟨t, rfl⟩ := r
    exact ⟨_, Reads.int i t, by simp⟩
  | .str x, _, _, h, r => by
    cases h
    obtain ⟨t, rfl⟩ := r
    exact ⟨_, Reads.str x t, by simp⟩
  | .list ds, _, _, h, r => by
    cases h with
    | lst hs ha =>
      cases r
      have hne := Inv.list_ne I hB (sf.sqL hs)
      obtain ⟨its, rv, ⟨o, n, ho, hc, _, hd⟩, _⟩ := I.list (sf.sqL hs)
      obtain ⟨as, hr, hn⟩ := DqAll.reads I hB sf ds _ its ha rv
      exact ⟨_, Reads.list ho hc hd hr, by simp only [List.mem_cons, not_or]; exact ⟨fun z => hne z.symm, hn⟩⟩
  | .tuple ds, _, _, h, r => by
    cases h with
    | tup hs ha =>
      cases r
      obtain ⟨its, rv, ⟨o, ho, hc, n, hd⟩, _⟩ := I.tuple (sf.sqT hs)
      obtain ⟨as, hr, hn⟩ := DqAll.reads I hB sf ds _ its ha rv
      exact ⟨_, Reads.tuple ho hc hd hr, hn⟩
  | .dict ps, v, u, h, r => by
    generalize hd : PyData.dict ps = d at h
    cases h with
    | dic h1 h2 =>
      rename_i a kvs ds
      cases r
      obtain ⟨_, ne, vs, rk, o, es, ep, ho, ex, hdt, _, pr, _⟩ := dk_rd I.hok (sf.rd _ _ trivial h1)
      obtain ⟨k1, k2⟩ := kreads (h := s.heap) rk pr
      have hl : kvs.length = ds.length := by have := DqAll.length h2; rwa [List.length_map] at this
      have hd : ps = (kvs.map fun p => kD p.1).zip ds := by injection hd
      have em : ps.map (·.2) = ds := by
        rw [hd, List.map_snd_zip]
        rw [List.length_map]; omega
      have ek : ps.map (·.1) = kvs.map fun p => kD p.1 := by
        rw [hd, List.map_fst_zip]
        rw [List.length_map]; omega
      obtain ⟨bs, hr, hn⟩ := DqKv.reads I hB sf ps _ _ (em.symm ▸ h2) k2
      rw [← hd]
      refine ⟨_, Reads.dict ho ex.1 hdt (ek.symm ▸ k1) hr, ?_⟩
      simp only [List.cons_append, List.nil_append, List.mem_cons, not_or]
      exact ⟨fun z => by rw [← z] at ne; simp at ne, hn⟩
    | _ => cases hd
theorem DqKv.reads (I : Inv X pins σ H s) (hB : ∃ m, X.base.Ns sysModules m) (sf : SameR F H) : ∀ (ps : List (PyData × PyData)) (vs : List V) (us : List Value), DqAll X.K F vs (ps.map (·.2)) → Vals vs us → ∃ as, ReadsAll s.heap us (ps.map (·.2)) as ∧ sysModules ∉ as
  | [], _, _, h, r => by
    cases h
    cases r
    exact ⟨_, ReadsAll.nil, by simp⟩
  | (_, d) :: ds, _, _, h, r => by
    cases h with
    | cons h1 h2 =>
      cases r with
      | cons r1 r2 =>
        obtain ⟨as, q1, n1⟩ := Dq.reads I hB sf d _ _ h1 r1
        obtain ⟨bs, q2, n2⟩ := DqKv.reads I hB sf ds _ _ h2 r2
        exact ⟨_, ReadsAll.cons q1 q2, fun z => (List.mem_append.mp z).elim n1 n2⟩
theorem DqAll.reads (I : Inv X pins σ H s) (hB : ∃ m, X.base.Ns sysModules m) (sf : SameR F H) : ∀ (ds : List PyData) (vs : List V) (us : List Value), DqAll X.K F vs ds → Vals vs us → ∃ as, ReadsAll s.heap us ds as ∧ sysModules ∉ as
  | [], _, _, h, r => by
    cases h
    cases r
    exact ⟨_, ReadsAll.nil, by simp⟩
  | d :: ds, _, _, h, r => by
    cases h with
    | cons h1 h2 =>
      cases r with
      | cons r1 r2 =>
        obtain ⟨as, q1, n1⟩ := Dq.reads I hB sf d _ _ h1 r1
        obtain ⟨bs, q2, n2⟩ := DqAll.reads I hB sf ds _ _ h2 r2
        exact ⟨_, ReadsAll.cons q1 q2, fun z => (List.mem_append.mp z).elim n1 n2⟩
end
end

/-! ### calls of built-ins -/
abbrev GL := List Xv → Sto → (Xv → Sto → Prop) → Prop
def BX (X : Cx) (f : Value) (g : GL) : Prop := ∃ r, CallR X f r ∧ ∀ (W : Wd) (M : Sto) (H : Hp) (vs : List V) (xs : List Xv) (P : Xv → Sto → Prop) (Q : VK), InvS X.K W M H → VXs X.K W vs xs → g xs M P →
  (∀ W' M' H' v x, W.le W' → InvS X.K W' M' H' → VX X.K W' v x → P x M' → Q v H') → r vs H Q
abbrev GLF := List Xv → Sto → (List Xv → Sto → Prop) → Prop
def BXF (X : Cx) (f : Value) (g : GLF) : Prop := ∃ r, CallR X f r ∧ ∀ (W : Wd) (M : Sto) (H : Hp) (vs : List V) (xs : List Xv) (P : List Xv → Sto → Prop) (Q : VK), InvS X.K W M H → VXs X.K W vs xs → g xs M P →
  (∀ W' M' H' a vs xs, W.le W' → InvS X.K W' M' H' → Loose W' H' a (.lst vs) → VXs X.K W' vs xs → P xs M' → Q (.ref a) H') → r vs H Q
def rApp (g : GL) (rs : RF) : RE := fun σ M P => rs σ M fun xs M1 => g xs M1 P
def rAppF (g : GLF) (rs : RF) : RF := fun σ M P => rs σ M fun xs M1 => g xs M1 P
section
variable {X : Cx} {x : Str} {p pos : Pos} {e : Expr} {es : List Expr} {rs : RF} {id T : String} {g : GL} {gf : GLF}
theorem se_bi (hc : BX X (.builtin id) g) (hg : Gl X x) (hm : X.mg x = none) (hv : bootBuiltins x = some (.builtin id)) (ha : SA X (e :: es) rs) (hn : x ≠ "__name__" := by decide) (hdb : (x == ("__debug__" : Str)) = false := by decide)
    (he : starEach (e :: es) X.env = (false, eval e X.env) :: starEach es X.env := by rfl) (hpl : (backTo pos (starEach es X.env)).any (·.1) = false := by rfl) : SE X (.Call (.Name x p) (e :: es) [] pos) (rApp g rs) := by
  obtain ⟨r, h1, h2⟩ := hc
  obtain ⟨ta, pa, sa⟩ := ha
  refine ⟨_, pe_callB h1 hg hm hv pa hn hdb he hpl, fun W M H σ σx P Q I S hr q => ?_⟩
  refine sa W M H σ σx _ _ I S hr fun W1 M1 H1 vs xs l1 I1 v1 p1 => ?_
  exact h2 W1 M1 H1 vs xs P Q I1 v1 p1 fun W2 M2 H2 v x l2 I2 v2 p2 => q W2 M2 H2 v x (l1.trans l2) I2 v2 p2
theorem se_ty (hc : BX X (.type T) g) (hg : Gl X x) (hm : X.mg x = none) (hv : bootBuiltins x = some (.type T)) (ha : SA X (e :: es) rs) (hn : x ≠ "__name__" := by decide) (hdb : (x == ("__debug__" : Str)) = false := by decide)
    (he : starEach (e :: es) X.env = (false, eval e X.env) :: starEach es X.env := by rfl) (hpl : (backTo pos (starEach es X.env)).any (·.1) = false := by rfl) : SE X (.Call (.Name x p) (e :: es) [] pos) (rApp g rs) := by
  obtain ⟨r, h1, h2⟩ := hc
  obtain ⟨ta, pa, sa⟩ := ha
  refine ⟨_, pe_callTy h1 hg hm hv pa hn hdb he hpl, fun W M H σ σx P Q I S hr q => ?_⟩
  refine sa W M H σ σx _ _ I S hr fun W1 M1 H1 vs xs l1 I1 v1 p1 => ?_
  exact h2 W1 M1 H1 vs xs P Q I1 v1 p1 fun W2 M2 H2 v x l2 I2 v2 p2 => q W2 M2 H2 v x (l1.trans l2) I2 v2 p2
theorem sf_bi (hc : BXF X (.builtin id) gf) (hg : Gl X x) (hm : X.mg x = none) (hv : bootBuiltins x = some (.builtin id)) (ha : SA X (e :: es) rs) (hn : x ≠ "__name__" := by decide) (hdb : (x == ("__debug__" : Str)) = false := by decide)
    (he : starEach (e :: es) X.env = (false, eval e X.env) :: starEach es X.env := by rfl) (hpl : (backTo pos (starEach es X.env)).any (·.1) = false := by rfl) : SF X (.Call (.Name x p) (e :: es) [] pos) (rAppF gf rs) := by
  obtain ⟨r, h1, h2⟩ := hc
  obtain ⟨ta, pa, sa⟩ := ha
  refine ⟨_, pe_callB h1 hg hm hv pa hn hdb he hpl, fun W M H σ σx P Q I S hr q => ?_⟩
  refine sa W M H σ σx _ _ I S hr fun W1 M1 H1 vs xs l1 I1 v1 p1 => ?_
  exact h2 W1 M1 H1 vs xs P Q I1 v1 p1 fun W2 M2 H2 a vs xs l2 I2 L2 v2 p2 => q W2 M2 H2 a vs xs (l1.trans l2) I2 L2 v2 p2
theorem sf_ty (hc : BXF X (.type T) gf) (hg : Gl X x) (hm : X.mg x = none) (hv : bootBuiltins x = some (.type T)) (ha : SA X (e :: es) rs) (hn : x ≠ "__name__" := by decide) (hdb : (x == ("__debug__" : Str)) = false := by decide)
    (he : starEach (e :: es) X.env = (false, eval e X.env) :: starEach es X.env := by rfl) (hpl : (backTo pos (starEach es X.env)).any (·.1) = false := by rfl) : SF X (.Call (.Name x p) (e :: es) [] pos) (rAppF gf rs) := by
  obtain ⟨r, h1, h2⟩ := hc
  obtain ⟨ta, pa, sa⟩ := ha
  refine ⟨_, pe_callTy h1 hg hm hv pa hn hdb he hpl, fun W M H σ σx P Q I S hr q => ?_⟩
  refine sa W M H σ σx _ _ I S hr fun W1 M1 H1 vs xs l1 I1 v1 p1 => ?_
  exact h2 W1 M1 H1 vs xs P Q I1 v1 p1 fun W2 M2 H2 a vs xs l2 I2 L2 v2 p2 => q W2 M2 H2 a vs xs (l1.trans l2) I2 L2 v2 p2
end
theorem CallR.or {X : Cx} {f : Value} {r r' : List V → Hp → VK → Prop} (h : CallR X f r) (h' : CallR X f r') : CallR X f (fun xs H Q => r xs H Q ∨ r' xs H Q) := by
  intro pins s σ H xs us Q I rv q
  rcases q with q | q
  · exact h pins s σ H xs us Q I rv q
  · exact h' pins s σ H xs us Q I rv q
theorem vxs1 {K : PySem.W.Frag} {W : Wd} {vs : List V} {x : Xv} (h : VXs K W vs [x]) : ∃ v, vs = [v] ∧ VX K W v x := by
  cases h with
  | cons a r => cases r; exact ⟨_, rfl, a⟩
theorem vxs2 {K : PySem.W.Frag} {W : Wd} {vs : List V} {x y : Xv} (h : VXs K W vs [x, y]) : ∃ v u, vs = [v, u] ∧ VX K W v x ∧ VX K W u y := by
  cases h with
  | cons a r =>
    cases r with
    | cons b r => cases r; exact ⟨_, _, rfl, a, b⟩
/-! ### len -/
def gLen : GL := fun xs M P => match xs with
  | [x] => match hd M x with
    | .lst ys => P (.d (.int ys.length)) M
    | .tup ys => P (.d (.int ys.length)) M
    | .sc (.str s) => s.length ≤ sizeLine ∧ P (.d (.int s.length)) M
    | .dic kvs => P (.d (.int kvs.length)) M
    | _ => False
  | _ => False
theorem call_lenR {X : Cx} : CallR X (.builtin "len") (fun xs H Q => ∃ a kvs, xs = [V.ref a] ∧ Rd H a (.dK kvs) ∧ Q (.int kvs.length) H) := by
  intro pins s σ H xs us Q I r h
  obtain ⟨a, kvs, rfl, ha, q⟩ := h
  obtain ⟨u, rfl, ru⟩ := vals1 r
  cases ru
  exact d_len I ha fun t s' I' => ⟨.int kvs.length, H, I', ⟨t, rfl⟩, q⟩
theorem bx_len {X : Cx} : BX X (.builtin "len") gLen := by
  refine ⟨_, CallR.or call_len call_lenR, fun W M H vs xs P Q I hv hg q => ?_⟩
  unfold gLen at hg
  split at hg
  · rename_i x
    obtain ⟨v, rfl, v1⟩ := vxs1 hv
    split at hg
    · rename_i ys e
      obtain ⟨a, us, rfl, h1, h2⟩ := lstH I v1 e
      exact .inl ⟨_, ys.length, rfl, .inl ⟨us, h1, h2.length.symm⟩, q W M H _ (.d (.int ys.length)) (.refl W) I (show Dq _ _ _ _ from .int _) hg⟩
    · rename_i ys e
      obtain ⟨a, us, rfl, h1, h2⟩ := tupH I v1 e
      exact .inl ⟨_, ys.length, rfl, .inr ⟨us, h1, h2.length.symm⟩, q W M H _ (.d (.int ys.length)) (.refl W) I (show Dq _ _ _ _ from .int _) hg⟩
    · rename_i s e
      have := scS I v1 e
      subst this
      exact .inl ⟨_, s.length, rfl, ⟨hg.1, rfl⟩, q W M H _ (.d (.int s.length)) (.refl W) I (show Dq _ _ _ _ from .int _) hg.2⟩
    · rename_i kvs e
      have ok := hd_ok I v1
      rw [e] at ok
      obtain ⟨a, rfl, us, h1, h2⟩ := ok
      refine .inr ⟨a, us, rfl, h1, ?_⟩
      rw [Paired.length h2]
      exact q W M H _ (.d (.int kvs.length)) (.refl W) I (show Dq _ _ _ _ from .int _) hg
    · exact hg.elim
  · exact hg.elim
/-! ### ints -/
def gInt1 (C : Int → Prop) (f : Int → PyData) : GL := fun xs M P => match xs with
  | [x] => match hd M x with
    | .sc (.int i) => C i ∧ P (.d (f i)) M
    | _ => False
  | _ => False
abbrev gAbs : GL := gInt1 (fun _ => True) fun i => .int (if i < 0 then -i else i)
abbrev gStr : GL := gInt1 (fun i => i.natAbs.log2 < 1920) fun i => .str (toString i)
theorem bx_abs {X : Cx} : BX X (.builtin "abs") gAbs := by
  refine ⟨_, call_abs, fun W M H vs xs P Q I hv hg q => ?_⟩
  unfold gAbs gInt1 at hg
  split at hg
  · obtain ⟨v, rfl, v1⟩ := vxs1 hv
    split at hg
    · rename_i i e
      have := scI I v1 e
      subst this
      exact ⟨i, rfl, q W M H _ (.d (.int _)) (.refl W) I (show Dq _ _ _ _ from .int _) hg.2⟩
    · exact hg.elim
  · exact hg.elim
theorem bx_str {X : Cx} : BX X (.type "str") gStr := by
  refine ⟨_, call_str_int, fun W M H vs xs P Q I hv hg q => ?_⟩
  unfold gStr gInt1 at hg
  split at hg
  · obtain ⟨v, rfl, v1⟩ := vxs1 hv
    split at hg
    · rename_i i e
      have := scI I v1 e
      subst this
      exact ⟨i, rfl, hg.1, q W M H _ (.d (.str _)) (.refl W) I (show Dq _ _ _ _ from .str _) hg.2⟩
    · exact hg.elim
  · exact hg.elim
def gInt : GL := fun xs M P => match xs with
  | [x] => match hd M x with
    | .sc (.int i) => P (.d (.int i)) M
    | .sc (.bool b) => P (.d (.int (if b then 1 else 0))) M
    | _ => False
  | _ => False
theorem bx_int {X : Cx} : BX X (.type "int") gInt := by
  refine ⟨_, call_int1, fun W M H vs xs P Q I hv hg q => ?_⟩
  unfold gInt at hg
  split at hg
  · obtain ⟨v, rfl, v1⟩ := vxs1 hv
    split at hg
    · rename_i i e
      have := scI I v1 e
      subst this
      exact .inl ⟨i, rfl, q W M H _ (.d (.int _)) (.refl W) I (show Dq _ _ _ _ from .int _) hg⟩
    · rename_i i e
      have := hd_ok I v1
      rw [e] at this
      have : _ = V.bl i := this
      subst this
      exact .inr ⟨i, rfl, q W M H _ (.d (.int _)) (.refl W) I (show Dq _ _ _ _ from .int _) hg⟩
    · exact hg.elim
  · exact hg.elim
def gInt2 (f : Int → Int → Int) : GL := fun xs M P => match xs with
  | [x, y] => match hd M x, hd M y with
    | .sc (.int i), .sc (.int j) => P (.d (.int (f i j))) M
    | _, _ => False
  | _ => False
/-! ### lists of ints -/
def intsX : List Xv → Option (List Int)
  | [] => some []
  | .d (.int i) :: xs => (intsX xs).map (i :: ·)
  | _ :: _ => none
theorem intsX_of : ∀ {xs : List Xv} {ns : List Int}, intsX xs = some ns → xs = ns.map fun i => .d (.int i)
  | [], _, h => by cases h; rfl
  | .d (.int i) :: xs, ns, h => by
    unfold intsX at h
    cases e : intsX xs with
    | none => rw [e] at h; cases h
    | some m => rw [e] at h; cases h; rw [intsX_of e]; rfl
  | .c _ :: _, _, h => by cases h
  | .d .none :: _, _, h => by cases h
  | .d (.bool _) :: _, _, h => by cases h
  | .d (.str _) :: _, _, h => by cases h
  | .d (.list _) :: _, _, h => by cases h
  | .d (.tuple _) :: _, _, h => by cases h
  | .d (.dict _) :: _, _, h => by cases h
theorem intsX_map (ns : List Int) : intsX (ns.map fun i => .d (.int i)) = some ns := by
  induction ns with
  | nil => rfl
  | cons n ns ih => show (intsX (ns.map fun i => .d (.int i))).map (n :: ·) = _; rw [ih]; rfl
theorem VXs.ints {K : PySem.W.Frag} {W : Wd} : ∀ {ns : List Int} {vs : List V}, VXs K W vs (ns.map fun i => .d (.int i)) → vs = ns.map V.int
  | [], _, h => by cases h; rfl
  | n :: ns, _, h => by
    cases h with
    | cons a r =>
      have a : Dq K W.F _ (.int n) := a
      cases a
      rw [VXs.ints r]; rfl
theorem ints_X {K : PySem.W.Frag} {W : Wd} : ∀ ns : List Int, VXs K W (ns.map V.int) (ns.map fun i => .d (.int i))
  | [] => .nil
  | n :: ns => .cons (show Dq K W.F _ _ from .int n) (ints_X ns)
def gMM (two : Int → Int → Int) (one : List Int → Int) : GL := fun xs M P => match xs with
  | [x, y] => match hd M x, hd M y with
    | .sc (.int i), .sc (.int j) => P (.d (.int (two i j))) M
    | _, _ => False
  | [x] => match hd M x with
    | .lst ys => ifS (intsX ys) fun ns => 0 < ns.length ∧ P (.d (.int (one ns))) M
    | _ => False
  | _ => False
def maxL (ns : List Int) : Int := ns.tail.foldl max (ns.headD 0)
def minL (ns : List Int) : Int := ns.tail.foldl min (ns.headD 0)
theorem fold_max (ns : List Int) : ∀ a : Int, (ns.foldl max a = a ∨ ns.foldl max a ∈ ns) ∧ a ≤ ns.foldl max a ∧ ∀ y ∈ ns, y ≤ ns.foldl max a := by
  induction ns with
  | nil => intro a; simp
  | cons n ns ih =>
    intro a
    obtain ⟨h1, h2, h3⟩ := ih (max a n)
    rw [List.foldl_cons]
    refine ⟨?_, by omega, fun y hy => ?_⟩
    · rcases h1 with h1 | h1
      · rw [h1]
        by_cases e : a ≤ n
        · rw [Int.max_eq_right e]; exact .inr (by simp)
        · rw [Int.max_eq_left (by omega)]; exact .inl rfl
      · exact .inr (List.mem_cons_of_mem _ h1)
    · rcases List.mem_cons.mp hy with e | e
      · subst e; omega
      · exact h3 y e
theorem fold_min (ns : List Int) : ∀ a : Int, (ns.foldl min a = a ∨ ns.foldl min a ∈ ns) ∧ ns.foldl min a ≤ a ∧ ∀ y ∈ ns, ns.foldl min a ≤ y := by
  induction ns with
  | nil => intro a; simp
  | cons n ns ih =>
    intro a
    obtain ⟨h1, h2, h3⟩ := ih (min a n)
    rw [List.foldl_cons]
    refine ⟨?_, by omega, fun y hy => ?_⟩
    · rcases h1 with h1 | h1
      · rw [h1]
        by_cases e : a ≤ n
        · rw [Int.min_eq_left e]; exact .inl rfl
        · rw [Int.min_eq_right (by omega)]; exact .inr (by simp)
      · exact .inr (List.mem_cons_of_mem _ h1)
    · rcases List.mem_cons.mp hy with e | e
      · subst e; omega
      · exact h3 y e
theorem maxL_spec {ns : List Int} (h : 0 < ns.length) : maxL ns ∈ ns ∧ ∀ y ∈ ns, y ≤ maxL ns := by
  cases ns with
  | nil => simp at h
  | cons n ns =>
    obtain ⟨h1, h2, h3⟩ := fold_max ns n
    refine ⟨?_, fun y hy => ?_⟩
    · rcases h1 with h1 | h1
      · show ns.foldl max n ∈ _; rw [h1]; simp
      · exact List.mem_cons_of_mem _ h1
    · rcases List.mem_cons.mp hy with e | e
      · subst e; exact h2
      · exact h3 y e
theorem minL_spec {ns : List Int} (h : 0 < ns.length) : minL ns ∈ ns ∧ ∀ y ∈ ns, minL ns ≤ y := by
  cases ns with
  | nil => simp at h
  | cons n ns =>
    obtain ⟨h1, h2, h3⟩ := fold_min ns n
    refine ⟨?_, fun y hy => ?_⟩
    · rcases h1 with h1 | h1
      · show ns.foldl min n ∈ _; rw [h1]; simp
      · exact List.mem_cons_of_mem _ h1
    · rcases List.mem_cons.mp hy with e | e
      · subst e; exact h2
      · exact h3 y e
abbrev gMax : GL := gMM (fun i j => max i j) maxL
abbrev gMin : GL := gMM (fun i j => min i j) minL
theorem bx_max {X : Cx} (hc : X.calm = true) : BX X (.builtin "max") gMax := by
  refine ⟨_, CallR.or (call_max2 hc) (cr_max hc), fun W M H vs xs P Q I hv hg q => ?_⟩
  unfold gMax gMM at hg
  split at hg
  · obtain ⟨v, u, rfl, v1, v2⟩ := vxs2 hv
    split at hg
    · rename_i i j e1 e2
      have := scI I v1 e1
      have := scI I v2 e2
      subst_vars
      refine .inl ⟨i, j, rfl, ?_⟩
      rw [show (if j > i then j else i) = max i j by omega]
      exact q W M H _ (.d (.int _)) (.refl W) I (show Dq _ _ _ _ from .int _) hg
    · exact hg.elim
  · obtain ⟨v, rfl, v1⟩ := vxs1 hv
    split at hg
    · rename_i ys e
      obtain ⟨a, us, rfl, h1, h2⟩ := lstH I v1 e
      obtain ⟨ns, e2, h3, p⟩ := ifS_of hg
      have := intsX_of e2
      subst this
      have := h2.ints
      subst this
      refine .inr ⟨a, ns, rfl, h1, h3, fun m hm hy => ?_⟩
      obtain ⟨s1, s2⟩ := maxL_spec h3
      have : m = maxL ns := Int.le_antisymm (s2 m hm) (hy _ s1)
      subst this
      exact q W M H _ (.d (.int _)) (.refl W) I (show Dq _ _ _ _ from .int _) p
    · exact hg.elim
  · exact hg.elim
theorem bx_min {X : Cx} (hc : X.calm = true) : BX X (.builtin "min") gMin := by
  refine ⟨_, CallR.or (call_min2 hc) (cr_min hc), fun W M H vs xs P Q I hv hg q => ?_⟩
  unfold gMin gMM at hg
  split at hg
  · obtain ⟨v, u, rfl, v1, v2⟩ := vxs2 hv
    split at hg
    · rename_i i j e1 e2
      have := scI I v1 e1
      have := scI I v2 e2
      subst_vars
      refine .inl ⟨i, j, rfl, ?_⟩
      rw [show (if j < i then j else i) = min i j by omega]
      exact q W M H _ (.d (.int _)) (.refl W) I (show Dq _ _ _ _ from .int _) hg
    · exact hg.elim
  · obtain ⟨v, rfl, v1⟩ := vxs1 hv
    split at hg
    · rename_i ys e
      obtain ⟨a, us, rfl, h1, h2⟩ := lstH I v1 e
      obtain ⟨ns, e2, h3, p⟩ := ifS_of hg
      have := intsX_of e2
      subst this
      have := h2.ints
      subst this
      refine .inr ⟨a, ns, rfl, h1, h3, fun m hm hy => ?_⟩
      obtain ⟨s1, s2⟩ := minL_spec h3
      have : m = minL ns := Int.le_antisymm (hy _ s1) (s2 m hm)
      subst this
      exact q W M H _ (.d (.int _)) (.refl W) I (show Dq _ _ _ _ from .int _) p
    · exact hg.elim
  · exact hg.elim
def gSum : GL := fun xs M P => match xs with
  | [x] => match hd M x with
    | .lst ys => ifS (intsX ys) fun ns => P (.d (.int ns.sum)) M
    | _ => False
  | _ => False
theorem bx_sum {X : Cx} (hc : X.calm = true) : BX X (.builtin "sum") gSum := by
  refine ⟨_, cr_sum hc, fun W M H vs xs P Q I hv hg q => ?_⟩
  unfold gSum at hg
  split at hg
  · obtain ⟨v, rfl, v1⟩ := vxs1 hv
    split at hg
    · rename_i ys e
      obtain ⟨a, us, rfl, h1, h2⟩ := lstH I v1 e
      obtain ⟨ns, e2, p⟩ := ifS_of hg
      have := intsX_of e2
      subst this
      have := h2.ints
      subst this
      exact ⟨a, ns, rfl, h1, q W M H _ (.d (.int _)) (.refl W) I (show Dq _ _ _ _ from .int _) p⟩
    · exact hg.elim
  · exact hg.elim

/-! ### repr -/
def gRepr : GL := fun xs M P => match xs with
  | [x] => ifS (pk M x) fun d => (match d with | .list _ | .tuple _ | .dict _ => True | _ => False) ∧ d.showable = true ∧ d.depth ≤ 60 ∧ d.shown.length ≤ sizeLine ∧ P (.d (.str d.shown)) M
  | _ => False
def rRepr (K : PySem.W.Frag) : List V → Hp → VK → Prop := fun xs H Q => ∃ (F : Hp) (a : Addr) (d : PyData), xs = [.ref a] ∧ SameR F H ∧ Dq K F (.ref a) d ∧ d.showable = true ∧ d.depth ≤ 60 ∧ d.shown.length ≤ sizeLine ∧ Q (.str d.shown) H
theorem call_reprG {X : Cx} {k : Nat} (hr : Rm k X) (hB : ∃ m, X.base.Ns sysModules m) : CallR X (.builtin "repr") (rRepr X.K) := by
  intro pins s σ H xs us Q I r h
  obtain ⟨F, a, d, rfl, sf, hd, h1, h2, h3, q⟩ := h
  obtain ⟨u, rfl, ru⟩ := vals1 r
  cases ru
  obtain ⟨as, rd, hn⟩ := Dq.reads I hB sf d _ _ hd rfl
  have := hr.hu64
  exact repr_of_reads' rd h1 (fun _ => hn) hr.gd (by omega) (fun _ _ e => e) (fun h' u tk k => ⟨.str d.shown, H, I.kept k, ⟨u, rfl⟩, q⟩) h3
theorem bx_repr {X : Cx} {k : Nat} (hr : Rm k X) (hB : ∃ m, X.base.Ns sysModules m) : BX X (.builtin "repr") gRepr := by
  refine ⟨_, call_reprG hr hB, fun W M H vs xs P Q I hv hg q => ?_⟩
  unfold gRepr at hg
  split at hg
  · obtain ⟨v, rfl, v1⟩ := vxs1 hv
    obtain ⟨d, e, h0, h1, h2, h3, p⟩ := ifS_of hg
    have hd := pkN_ok I 6 _ v d v1 e
    have : ∃ a, v = .ref a := by
      cases hd <;> first | exact ⟨_, rfl⟩ | exact h0.elim
    obtain ⟨a, rfl⟩ := this
    exact ⟨H, a, d, rfl, SameR.refl _, hd, h1, h2, h3, q W M H _ (.d (.str d.shown)) (.refl W) I (show Dq _ _ _ _ from .str _) p⟩
  · exact hg.elim

/-! ### isinstance(x, T) -/
def tyH : Hd → Option String
  | .sc .none => some "NoneType"
  | .sc (.bool _) => some "bool"
  | .sc (.int _) => some "int"
  | .sc (.str _) => some "str"
  | .lst _ => some "list"
  | .tup _ => some "tuple"
  | .dic _ => some "dict"
  | _ => none
/-- the answers, by names of types -/
def isiT (t c : String) : Option Bool :=
  if t = c then some true
  else if (t = "bool" ∨ t = "int" ∨ t = "str" ∨ t = "list" ∨ t = "tuple" ∨ t = "dict") ∧ (c = "bool" ∨ c = "str" ∨ c = "list" ∨ c = "tuple" ∨ c = "dict") then some false
  else if t = "bool" ∧ c = "int" then some true
  else if (t = "str" ∨ t = "list" ∨ t = "tuple" ∨ t = "dict") ∧ c = "int" then some false
  else if t = "NoneType" ∧ (c = "bool" ∨ c = "int" ∨ c = "str" ∨ c = "list" ∨ c = "tuple" ∨ c = "dict") then some false
  else none
theorem isiT_ok (K : PySem.W.Frag) {t c : String} {b : Bool} (h : isiT t c = some b) : PySem.W.kitOne K (.type t) (.type c) = some b := by
  unfold isiT at h
  split at h
  · rename_i e; subst e; cases h; simp [PySem.W.kitOne]
  · split at h
    · rename_i e
      cases h
      rcases e with ⟨e1 | e1 | e1 | e1 | e1 | e1, e2 | e2 | e2 | e2 | e2⟩ <;> subst e1 <;> subst e2 <;> first | (exfalso; contradiction) | rfl | decide
    · split at h
      · rename_i e
        cases h
        obtain ⟨e1, e2⟩ := e
        subst e1 e2
        rfl
      · split at h
        · rename_i e
          cases h
          rcases e with ⟨e1 | e1 | e1 | e1, e2⟩ <;> subst e1 <;> subst e2 <;> rfl
        · split at h
          · rename_i e
            cases h
            rcases e with ⟨e1, e2 | e2 | e2 | e2 | e2 | e2⟩ <;> subst e1 <;> subst e2 <;> rfl
          · cases h
end G

set_option Elab.async false
set_option linter.all false
set_option maxRecDepth 100000
set_option maxHeartbeats 4000000
/-! G8: isinstance, in, list methods. -/
namespace G
open PySem PySem.Spec PyProof.Rows L2

def rIsiX (c : String) (ra : RE) : RE := fun σ M P => ra σ M fun x M1 => ifS (tyH (hd M1 x)) fun t => ifS (isiT t c) fun b => P (.d (.bool b)) M1
theorem tyx {K : PySem.W.Frag} {W : Wd} {M : Sto} {H : Hp} {v : V} {x : Xv} {t : String} (I : InvS K W M H) (h : VX K W v x) (e : tyH (hd M x) = some t) : TyX K H v (.type t) := by
  have ok := hd_ok I h
  generalize hd M x = hx at ok e
  cases hx with
  | sc d =>
    have ok : scV d v := ok
    cases d <;> first | (cases e; done) | (cases e; have ok := ok; simp only [scV] at ok; subst ok; exact .base (by constructor)) | skip
  | lst xs =>
    cases e
    obtain ⟨a, vs, rfl, h1, _⟩ := ok
    rcases h1 with h1 | ⟨o, its, n, h1, h2, _⟩
    · rcases h1 with h1 | ⟨o, h1⟩
      · exact .base (.lst h1)
      · exact .base (.frz h1)
    · exact .kList h1 h2
  | tup xs =>
    cases e
    obtain ⟨a, vs, rfl, h1, _⟩ := ok
    rcases h1 with h1 | ⟨o, its, n, h1, h2, _⟩
    · rcases h1 with h1 | ⟨o, h1⟩
      · exact .base (.tup h1)
      · exact .fTuple h1
    · exact .kTuple h1 h2
  | dic kvs =>
    cases e
    obtain ⟨a, rfl, vs, h1, _⟩ := ok
    rcases h1 with h1 | ⟨o, h1⟩
    · exact .base (.dK h1)
    · exact .fDict h1
  | dit kvs => cases e
  | no => cases e
section
variable {X : Cx} {a : Expr} {ra : RE} {x c : Str} {cn : String} {p p2 pos : Pos}
theorem se_isi (hg : Gl X "isinstance") (hm : X.mg "isinstance" = none) (hg2 : Gl X c) (hm2 : X.mg c = none) (hv : bootBuiltins c = some (.type cn)) (ha : SE X a ra) (hn : c ≠ "__name__" := by decide) (hdb : (c == ("__debug__" : Str)) = false := by decide)
    (he : starEach [a, .Name c p2] X.env = (false, eval a X.env) :: starEach [.Name c p2] X.env := by rfl) (he2 : starEach [.Name c p2] X.env = (false, eval (.Name c p2) X.env) :: starEach [] X.env := by rfl)
    (hpl : (backTo pos (starEach [.Name c p2] X.env)).any (·.1) = false := by rfl) : SE X (.Call (.Name "isinstance" p) [a, .Name c p2] [] pos) (rIsiX cn ra) := by
  obtain ⟨ta, pa, sa⟩ := ha
  refine ⟨_, pe_callB call_isi hg hm PyProof.Rows.boot_isinstance (pa_cons pa (pa_cons (pe_bltn (v := .ty cn) hg2 hm2 hv rfl hn hdb) pa_nil he2) he) (by decide) (by decide) he hpl, fun W M H σ σx P Q I S hr q => ?_⟩
  refine sa W M H σ σx _ _ I S hr fun W1 M1 H1 v x l1 I1 v1 p1 => ?_
  obtain ⟨t, e1, p1⟩ := ifS_of p1
  obtain ⟨b, e2, p1⟩ := ifS_of p1
  exact ⟨v, .ty cn, .type t, .type cn, b, rfl, .ty cn, tyx I1 v1 e1, isiT_ok X.K e2, q W1 M1 H1 _ (.d (.bool b)) l1 I1 (show Dq _ _ _ _ from .bl _) p1⟩
end

/-! ### in -/
def rInL (K : PySem.W.Frag) (neg : Bool) : R2 := fun x y H Q => ∃ d ds, Dp K H x d ∧ (Dp K H y (.list ds) ∨ Dp K H y (.tuple ds)) ∧ SeqAt.shaped d = true ∧ PyData.canLayAll0 ds = true ∧ Q (.bl (xor neg (ds.any fun z => PyData.eqv z d))) H
theorem op_inL {X : Cx} (hu : X.A.units + 65 < cLine) : OpR X (compareOp .In) (rInL X.K false) := by
  intro pins s σ H x y v u Q I rx ry h
  obtain ⟨d, ds, hd, he, sd, se, q⟩ := h
  obtain ⟨as, r1⟩ := Dp.reads I d x v hd rx
  rw [Bool.false_xor] at q
  rcases he with he | he
  · obtain ⟨bs, r2⟩ := Dp.reads I (.list ds) y u he ry
    exact SeqAt.in_list_reads r2 r1 se (SeqAt.canLay_of_shaped sd) (room_in_shaped sd hu) ⟨.bl _, H, I, rfl, q⟩
  · obtain ⟨bs, r2⟩ := Dp.reads I (.tuple ds) y u he ry
    exact SeqAt.in_tuple_reads r2 r1 se (SeqAt.canLay_of_shaped sd) (room_in_shaped sd hu) ⟨.bl _, H, I, rfl, q⟩
theorem op_notInL {X : Cx} (hu : X.A.units + 65 < cLine) : OpR X (compareOp .NotIn) (rInL X.K true) := by
  intro pins s σ H x y v u Q I rx ry h
  obtain ⟨d, ds, hd, he, sd, se, q⟩ := h
  obtain ⟨as, r1⟩ := Dp.reads I d x v hd rx
  rw [Bool.true_xor] at q
  rcases he with he | he
  · obtain ⟨bs, r2⟩ := Dp.reads I (.list ds) y u he ry
    exact SeqAt.notIn_list_reads r2 r1 se (SeqAt.canLay_of_shaped sd) (room_in_shaped sd hu) ⟨.bl _, H, I, rfl, q⟩
  · obtain ⟨bs, r2⟩ := Dp.reads I (.tuple ds) y u he ry
    exact SeqAt.notIn_tuple_reads r2 r1 se (SeqAt.canLay_of_shaped sd) (room_in_shaped sd hu) ⟨.bl _, H, I, rfl, q⟩
def rInDi (neg : Bool) : R2 := fun x y H Q => ∃ a o, y = .ref a ∧ DGet H a x o ∧ Q (.bl (xor neg o.isSome)) H
theorem op_inDi {X : Cx} (hu : X.A.units + 1 < cLine) : OpR X (compareOp .In) (rInDi false) := by
  intro pins s σ H x y v u Q I rx ry h
  obtain ⟨a, o, rfl, g, q⟩ := h
  obtain rfl : u = Value.ref a := ry
  rw [Bool.false_xor] at q
  exact d_in hu I g rx fun s' I' => ⟨.bl o.isSome, H, I', rfl, q⟩
theorem op_notInDi {X : Cx} (hu : X.A.units + 1 < cLine) : OpR X (compareOp .NotIn) (rInDi true) := by
  intro pins s σ H x y v u Q I rx ry h
  obtain ⟨a, o, rfl, g, q⟩ := h
  obtain rfl : u = Value.ref a := ry
  rw [Bool.true_xor] at q
  exact d_notIn hu I g rx fun s' I' => ⟨.bl (!o.isSome), H, I', rfl, q⟩
def seqOf : PyData → Option (List PyData)
  | .list ds => some ds
  | .tuple ds => some ds
  | _ => none
def gIn (neg : Bool) : G2 := fun x y M P => match hd M y with
  | .dic kvs => match hd M x with
    | .sc d => ifS (keyOf d) fun _ => P (.d (.bool (xor neg (dget kvs d).isSome))) M
    | _ => False
  | .sc (.str b) => match hd M x with
    | .sc (.str a) => P (.d (.bool (xor neg (!(Builtin.Str.occurrences b a 0 b.length 1).isEmpty)))) M
    | _ => False
  | _ => ifS (pk M x) fun d => ifS (pk M y) fun e => ifS (seqOf e) fun ds => SeqAt.shaped d = true ∧ PyData.canLayAll0 ds = true ∧ P (.d (.bool (xor neg (ds.any fun z => PyData.eqv z d)))) M
theorem canLay_seq {ds : List PyData} (h : PyData.canLayAll0 ds = true) : (PyData.list ds).canLay0 = true ∧ (PyData.tuple ds).canLay0 = true := by
  constructor <;> simpa [PyData.canLay0] using h
theorem opx_in {X : Cx} {f : Value → Value → Sem Value} {neg : Bool} (h1 : OpR X f (rInL X.K neg)) (h2 : OpR X f (rInDi neg)) (h3 : OpR X f (fun x y H Q => ∃ i j, x = .str i ∧ y = .str j ∧ Q (.bl (xor neg (!(Builtin.Str.occurrences j i 0 j.length 1).isEmpty))) H)) :
    OpX X f (gIn neg) := by
  refine .of1 (h1.or (h2.or h3)) fun W M H v u x y P Q I v1 v2 p q => ?_
  unfold gIn at p
  split at p
  · rename_i kvs e
    split at p
    · rename_i d e2
      obtain ⟨k, ek, p⟩ := ifS_of p
      obtain ⟨a, rfl, _, h⟩ := dGet_ok I v2 e (scAny I v1 e2) ek
      rcases h with ⟨z1, z2⟩ | ⟨w, z, z1, z2, _⟩
      · rw [z1] at p
        exact .inr (.inl ⟨a, none, rfl, z2, q W M H _ (.d (.bool _)) (.refl W) I (show Dq _ _ _ _ from .bl _) p⟩)
      · rw [z1] at p
        exact .inr (.inl ⟨a, some w, rfl, z2, q W M H _ (.d (.bool _)) (.refl W) I (show Dq _ _ _ _ from .bl _) p⟩)
    · exact p.elim
  · rename_i b e
    split at p
    · rename_i a e2
      exact .inr (.inr ⟨a, b, scS I v1 e2, scS I v2 e, q W M H _ (.d (.bool _)) (.refl W) I (show Dq _ _ _ _ from .bl _) p⟩)
    · exact p.elim
  · obtain ⟨d, e1, p⟩ := ifS_of p
    obtain ⟨e, e2, p⟩ := ifS_of p
    obtain ⟨ds, e3, sd, se, p⟩ := ifS_of p
    have d1 := pkN_ok I 6 x v d v1 e1
    have d2 := pkN_ok I 6 y u e v2 e2
    refine .inl ⟨d, ds, d1.dp sd, ?_, sd, se, q W M H _ (.d (.bool _)) (.refl W) I (show Dq _ _ _ _ from .bl _) p⟩
    unfold seqOf at e3
    split at e3
    · cases e3; exact .inl (d2.toDp (canLay_seq se).1)
    · cases e3; exact .inr (d2.toDp (canLay_seq se).2)
    · cases e3
theorem ox_in {X : Cx} (hu : X.A.units + 65 < cLine) : OpX X (compareOp .In) (gIn false) :=
  opx_in (op_inL hu) (op_inDi (by omega)) (by simpa only [Bool.false_xor] using op_in_str)
theorem ox_notin {X : Cx} (hu : X.A.units + 65 < cLine) : OpX X (compareOp .NotIn) (gIn true) :=
  opx_in (op_notInL hu) (op_notInDi (by omega)) (by simpa only [Bool.true_xor] using L2.op_notin_str)

/-! ### methods of lists -/
def gApd (o y : Xv) (M : Sto) (P : Xv → Sto → Prop) : Prop := match o with
  | .c j => match M[j]? with
    | some (.lst xs) => xs.length < sizeLine ∧ P (.d .none) (M.set j (.lst (xs ++ [y])))
    | _ => False
  | _ => False
def isLst (M : Sto) (o : Xv) : Prop := match hd M o with
  | .lst _ => True
  | _ => False
theorem isLst_ok {K : PySem.W.Frag} {W : Wd} {M : Sto} {H : Hp} {v : V} {x : Xv} (I : InvS K W M H) (h : VX K W v x) (e : isLst M x) : tyV K "list" v H := by
  unfold isLst at e
  split at e
  · rename_i xs e1
    obtain ⟨a, vs, rfl, h1, _⟩ := lstH I h e1
    exact .inl ⟨rfl, vs, h1⟩
  · exact e.elim
def rApd (ro re : RE) : RE := fun σ M P => ro σ M fun o M1 => isLst M1 o ∧ re σ M1 fun y M2 => gApd o y M2 P
def rExt (ro : RE) (re : RF) : RE := fun σ M P => ro σ M fun o M1 => isLst M1 o ∧ re σ M1 fun ys M2 => match o with
  | .c j => match M2[j]? with
    | some (.lst xs) => xs.length + ys.length ≤ sizeLine ∧ P (.d .none) (M2.set j (.lst (xs ++ ys)))
    | _ => False
  | _ => False
def rPopL (ro : RE) : RE := fun σ M P => ro σ M fun o M1 => match o with
  | .c j => match M1[j]? with
    | some (.lst xs) => ifS xs[xs.length - 1]? fun y => P y (M1.set j (.lst xs.dropLast))
    | _ => False
  | _ => False
theorem VXs.dropLast {K : PySem.W.Frag} {W : Wd} : ∀ {vs : List V} {xs : List Xv}, VXs K W vs xs → VXs K W vs.dropLast xs.dropLast
  | _, _, .nil => .nil
  | _, _, .cons _ .nil => .nil
  | _ :: _ :: _, _ :: _ :: _, .cons h (.cons a r) => .cons h (VXs.dropLast (.cons a r))
section
variable {X : Cx} {o e : Expr} {ro re : RE} {rf : RF} {apos cpos : Pos}
theorem se_append (ho : SE X o ro) (he : SE X e re) (hbase : attributeBase o "append" X.env (eval o X.env) = eval o X.env := by rfl)
    (hfew : ((backTo cpos (starEach (e :: []) X.env)).all (fun x => !x.1) && (backToKw cpos (keywordEach [] X.env)).all (fun x => x.1.isSome)
      && decide ((e :: ([] : List Expr)).length + ([] : List Keyword).length + (if ([] : List Keyword).isEmpty then 0 else 1) < 30)) = true := by rfl)
    (hline : (apos.endLine == cpos.line) = true := by rfl) (hs : starEach (e :: []) X.env = (false, eval e X.env) :: starEach [] X.env := by rfl) (hplain : (backTo cpos (starEach [] X.env)).any (·.1) = false := by rfl) :
    SE X (.Call (.Attribute o "append" apos) [e] [] cpos) (rApd ro re) := by
  obtain ⟨to, po, so⟩ := ho
  obtain ⟨te, pe, se⟩ := he
  refine ⟨_, pe_bm PySem.F.plainAttrs_list PySem.F.slot_list_append PySem.F.type_list_append mt_append po (pa_cons pe pa_nil hs) hbase hfew hline hs hplain, fun W M H σ σx P Q I S hr q => ?_⟩
  refine so W M H σ σx _ _ I S hr fun W1 M1 H1 v x l1 I1 v1 p1 => ⟨isLst_ok I1 v1 p1.1, ?_⟩
  refine se W1 M1 H1 σ σx _ _ I1 (S.le l1) p1.2 fun W2 M2 H2 u y l2 I2 v2 p2 => ?_
  unfold gApd at p2
  split at p2
  · rename_i j
    have v1' := v1.le l2
    obtain ⟨a, rfl, ha⟩ := v1'
    split at p2
    · rename_i xs em
      obtain ⟨f0, vs, h1, h2⟩ := I2.ob j a _ ha em
      refine ⟨a, vs, u, rfl, rfl, h1, by rw [h2.length]; exact p2.1, ?_⟩
      have I3 := I2.write (u := .lst (vs ++ [u])) (o := .lst (xs ++ [y])) ha f0 ⟨f0, _, upd_same, h2.append (.cons v2 .nil)⟩
      exact q W2 _ _ _ (.d .none) (l1.trans l2) I3 (show Dq _ _ _ _ from .non) p2.2
    · exact p2.elim
  · exact p2.elim
theorem se_extend (ho : SE X o ro) (he : SF X e rf) (hbase : attributeBase o "extend" X.env (eval o X.env) = eval o X.env := by rfl)
    (hfew : ((backTo cpos (starEach (e :: []) X.env)).all (fun x => !x.1) && (backToKw cpos (keywordEach [] X.env)).all (fun x => x.1.isSome)
      && decide ((e :: ([] : List Expr)).length + ([] : List Keyword).length + (if ([] : List Keyword).isEmpty then 0 else 1) < 30)) = true := by rfl)
    (hline : (apos.endLine == cpos.line) = true := by rfl) (hs : starEach (e :: []) X.env = (false, eval e X.env) :: starEach [] X.env := by rfl) (hplain : (backTo cpos (starEach [] X.env)).any (·.1) = false := by rfl) :
    SE X (.Call (.Attribute o "extend" apos) [e] [] cpos) (rExt ro rf) := by
  obtain ⟨to, po, so⟩ := ho
  obtain ⟨te, pe, se⟩ := he
  refine ⟨_, pe_bm PySem.F.plainAttrs_list PySem.F.slot_list_extend PySem.F.type_list_extend mt_extend po (pa_cons pe pa_nil hs) hbase hfew hline hs hplain, fun W M H σ σx P Q I S hr q => ?_⟩
  refine so W M H σ σx _ _ I S hr fun W1 M1 H1 v x l1 I1 v1 p1 => ⟨isLst_ok I1 v1 p1.1, ?_⟩
  refine se W1 M1 H1 σ σx _ _ I1 (S.le l1) p1.2 fun W2 M2 H2 b us ys l2 I2 L2 v2 p2 => ?_
  split at p2
  · rename_i j
    have v1' := v1.le l2
    obtain ⟨a, rfl, ha⟩ := v1'
    split at p2
    · rename_i xs em
      obtain ⟨f0, vs, h1, h2⟩ := I2.ob j a _ ha em
      refine ⟨a, b, vs, us, rfl, rfl, h1, L2.at_, by rw [h2.length, v2.length]; exact p2.1, ?_⟩
      have I3 := I2.write (u := .lst (vs ++ us)) (o := .lst (xs ++ ys)) ha f0 ⟨f0, _, upd_same, h2.append v2⟩
      exact q W2 _ _ _ (.d .none) (l1.trans l2) I3 (show Dq _ _ _ _ from .non) p2.2
    · exact p2.elim
  · exact p2.elim
theorem se_pop (ho : SE X o ro) (hbase : attributeBase o "pop" X.env (eval o X.env) = eval o X.env := by rfl) (hline : (apos.endLine == cpos.line) = true := by rfl) :
    SE X (.Call (.Attribute o "pop" apos) [] [] cpos) (rPopL ro) := by
  obtain ⟨to, po, so⟩ := ho
  refine ⟨_, pe_bm0 PySem.F.plainAttrs_list PySem.F.slot_list_pop PySem.F.type_list_pop mt_pop po hbase hline, fun W M H σ σx P Q I S hr q => ?_⟩
  refine so W M H σ σx _ _ I S hr fun W1 M1 H1 v x l1 I1 v1 p1 => ?_
  split at p1
  · rename_i j
    obtain ⟨a, rfl, ha⟩ := v1
    split at p1
    · rename_i xs em
      obtain ⟨f0, vs, h1, h2⟩ := I1.ob j a _ ha em
      obtain ⟨y, e, p⟩ := ifS_of p1
      obtain ⟨v, e2, v2⟩ := h2.get e
      refine ⟨.inl ⟨rfl, vs, .of h1⟩, a, vs, v, rfl, rfl, h1, by rw [h2.length]; exact e2, ?_⟩
      have I3 := I1.write (u := .lst vs.dropLast) (o := .lst xs.dropLast) ha f0 ⟨f0, _, upd_same, h2.dropLast⟩
      exact q W1 _ _ _ y l1 I3 v2 p
    · exact p1.elim
  · exact p1.elim
end
end G

set_option Elab.async false
set_option linter.all false
set_option maxRecDepth 100000
set_option maxHeartbeats 4000000
/-! G9: sorted, sets of ints and texts as they are made on the way. -/
namespace G
open PySem PySem.Spec PyProof.Rows L2
open PySem.W (EachIs)

abbrev dLe : PyData → PyData → Bool := PySem.W.dataLe false id
abbrev sortD (ds : List PyData) : List PyData := ds.mergeSort dLe
def RDq (K : PySem.W.Frag) (F : Hp) (u : Value) (d : PyData) : Prop := ∃ v, RelV v u ∧ Dq K F v d
section
variable {K : PySem.W.Frag} {F : Hp}
theorem each_of : ∀ {vs : List V} {us : List Value} {ds : List PyData}, Vals vs us → DqAll K F vs ds → EachIs (RDq K F) us ds
  | _, _, _, .nil, .nil => .nil
  | _, _, _, .cons a r, .cons b t => .cons ⟨_, a, b⟩ (each_of r t)
theorem each_to : ∀ {us : List Value} {ds : List PyData}, EachIs (RDq K F) us ds → ∃ vs, Vals vs us ∧ DqAll K F vs ds
  | _, _, .nil => ⟨[], .nil, .nil⟩
  | _, _, .cons ⟨v, h1, h2⟩ t => let ⟨vs, a, b⟩ := each_to t; ⟨v :: vs, .cons h1 a, .cons h2 b⟩
end
/-- what may be sorted -/
structure Srt (ds : List PyData) : Prop where
  al : PySem.W.AllAlike ds
  so : PySem.W.Sortable ds
  dp : ∀ d ∈ ds, d.depth ≤ 60
  ln : ds.length ≤ sizeLine
section
variable {X : Cx} {pins : List (Addr × Obj)} {σ : St} {H F : Hp} {s : Shared}
mutual
theorem Dq.reads0 (I : Inv X pins σ H s) (sf : SameR F H) : ∀ (d : PyData) (v : V) (u : Value), PySem.W.alike d d = true → Dq X.K F v d → RelV v u → ∃ as, Reads s.heap u d as
  | .none, _, _, _, h, r => by
    cases h
    cases r
    exact ⟨_, Reads.none⟩
  | .bool b, _, _, _, h, r => by
    cases h
    cases r
    exact ⟨_, Reads.bool b⟩
  | .int i, _, _, _, h, r => by
    cases h
    obtain ⟨t, rfl⟩ := r
    exact ⟨_, Reads.int i t⟩
  | .str x, _, _, _, h, r => by
    cases h
    obtain ⟨t, rfl⟩ := r
    exact ⟨_, Reads.str x t⟩
  | .list ds, _, _, al, h, r => by
    cases h with
    | lst hs ha =>
      cases r
      obtain ⟨its, rv, ⟨o, n, ho, hc, _, hd⟩, _⟩ := I.list (sf.sqL hs)
      obtain ⟨as, hr⟩ := DqAll.reads0 I sf ds _ its (by simpa [PySem.W.alike] using al) ha rv
      exact ⟨_, Reads.list ho hc hd hr⟩
  | .tuple ds, _, _, al, h, r => by
    cases h with
    | tup hs ha =>
      cases r
      obtain ⟨its, rv, ⟨o, ho, hc, n, hd⟩, _⟩ := I.tuple (sf.sqT hs)
      obtain ⟨as, hr⟩ := DqAll.reads0 I sf ds _ its (by simpa [PySem.W.alike] using al) ha rv
      exact ⟨_, Reads.tuple ho hc hd hr⟩
  | .dict _, _, _, al, _, _ => by simp [PySem.W.alike] at al
theorem DqAll.reads0 (I : Inv X pins σ H s) (sf : SameR F H) : ∀ (ds : List PyData) (vs : List V) (us : List Value), PySem.W.alikeAll ds ds = true → DqAll X.K F vs ds → Vals vs us → ∃ as, ReadsAll s.heap us ds as
  | [], _, _, _, h, r => by
    cases h
    cases r
    exact ⟨_, ReadsAll.nil⟩
  | d :: ds, _, _, al, h, r => by
    have al : PySem.W.alike d d = true ∧ PySem.W.alikeAll ds ds = true := by simpa [PySem.W.alikeAll] using al
    cases h with
    | cons h1 h2 =>
      cases r with
      | cons r1 r2 =>
        obtain ⟨as, q1⟩ := Dq.reads0 I sf d _ _ al.1 h1 r1
        obtain ⟨bs, q2⟩ := DqAll.reads0 I sf ds _ _ al.2 h2 r2
        exact ⟨_, ReadsAll.cons q1 q2⟩
end
theorem each_reads (I : Inv X pins σ H s) (sf : SameR F H) {us : List Value} {ds : List PyData} (h : ∀ d ∈ ds, PySem.W.alike d d = true) (e : EachIs (RDq X.K F) us ds) : EachIs (fun v b => ∃ as, Reads s.heap v (id b) as) us ds := by
  induction e with
  | nil => exact .nil
  | @cons a b as bs h1 t ih =>
    obtain ⟨v, h1, h2⟩ := h1
    exact .cons (Dq.reads0 I sf b v _ (h _ List.mem_cons_self) h2 h1) (ih fun d hd => h d (List.mem_cons_of_mem _ hd))
end
def rSortG (K : PySem.W.Frag) : List V → Hp → VK → Prop := fun xs H Q => ∃ (F : Hp) (a : Addr) (vs : List V) (ds : List PyData), xs = [.ref a] ∧ SqL K H a vs ∧ SameR F H ∧ DqAll K F vs ds ∧ Srt ds ∧
  ∀ p out, H p = none → DqAll K F out (sortD ds) → Q (.ref p) (upd H p (.lst out))
theorem call_sortG {X : Cx} {k : Nat} (hr : Rm k X) : CallR X (.builtin "sorted") (rSortG X.K) := by
  intro pins s σ H xs us Q I r h
  obtain ⟨F, a, vs, ds, rfl, hs, sf, hd, st, q⟩ := h
  obtain ⟨u, rfl, ru⟩ := vals1 r
  cases ru
  obtain ⟨its, rv, hl, _⟩ := I.list hs
  have e1 := each_of rv hd
  have hu := hr.hu64
  refine PySem.W.sorted_data (enc := id) (R := RDq X.K F) hl.isList e1 (each_reads I sf (fun d hd => st.al d hd d hd) e1) (by rw [List.map_id]; exact st.al) (by rw [List.map_id]; exact st.so) st.ln (fun d hd => by have := st.dp d hd; show X.A.units + 2 + d.depth < cLine; omega) fun out h1 h2 => ?_
  obtain ⟨os, r1, r2⟩ := each_to h2
  obtain ⟨ep, he'⟩ := PyProof.Rows.sortedAll_at s.heap its out.toArray
  have hlen : os.length ≤ sizeLine := by rw [r1.length, h1]; exact st.ln
  exact ⟨.ref _, upd H (s.heap.objs.size + 1) (.lst os), I.laid (t' := s.toks) (fun _ _ => PyProof.Rows.sortedAll_old) (Nat.le_succ _) ⟨hlen, out, ep, r1, he'⟩, rfl, q _ os (I.hok.fresh (Nat.le_succ _)) r2⟩
def datX : List Xv → Option (List PyData)
  | [] => some []
  | .d d :: xs => (datX xs).map (d :: ·)
  | .c _ :: _ => none
theorem datX_of : ∀ {xs : List Xv} {ds : List PyData}, datX xs = some ds → xs = dX ds
  | [], _, h => by cases h; rfl
  | .d d :: xs, ds, h => by
    unfold datX at h
    cases e : datX xs with
    | none => rw [e] at h; cases h
    | some m => rw [e] at h; cases h; rw [datX_of e]; rfl
  | .c _ :: _, _, h => by cases h
theorem datX_dX (ds : List PyData) : datX (dX ds) = some ds := by
  induction ds with
  | nil => rfl
  | cons n ns ih => show (datX (dX ns)).map (n :: ·) = _; rw [ih]; rfl
def gSort : GLF := fun xs M P => match xs with
  | [x] => match hd M x with
    | .lst ys => ifS (datX ys) fun ds => Srt ds ∧ P (dX (sortD ds)) M
    | _ => False
  | _ => False
theorem bxf_sorted {X : Cx} {k : Nat} (hr : Rm k X) : BXF X (.builtin "sorted") gSort := by
  refine ⟨_, call_sortG hr, fun W M H vs xs P Q I hv hg q => ?_⟩
  unfold gSort at hg
  split at hg
  · obtain ⟨v, rfl, v1⟩ := vxs1 hv
    split at hg
    · rename_i ys e
      obtain ⟨a, us, rfl, h1, h2⟩ := lstH I v1 e
      obtain ⟨ds, e2, st, p⟩ := ifS_of hg
      have := datX_of e2
      subst this
      refine ⟨W.F, a, us, ds, rfl, h1, SameR.of I.sf, VXs.toD h2, st, fun p' out hp ho => ?_⟩
      obtain ⟨I2, L2⟩ := I.loose hp (.lst out)
      exact q W M _ p' out _ (.refl W) I2 L2 (VXs.ofD ho) p
    · exact hg.elim
  · exact hg.elim
/-- list(x), tuple(x) -/
def gList : GLF := fun xs M P => match xs with
  | [x] => match hd M x with
    | .lst ys => P ys M
    | .tup ys => P ys M
    | _ => False
  | _ => False
theorem bxf_list {X : Cx} : BXF X (.type "list") gList := by
  refine ⟨_, call_list_of, fun W M H vs xs P Q I hv hg q => ?_⟩
  unfold gList at hg
  split at hg
  · obtain ⟨v, rfl, v1⟩ := vxs1 hv
    split at hg
    · rename_i ys e
      obtain ⟨a, us, rfl, h1, h2⟩ := lstH I v1 e
      refine ⟨a, us, rfl, .inl h1, fun p' hp => ?_⟩
      obtain ⟨I2, L2⟩ := I.loose hp (.lst us)
      exact q W M _ p' us _ (.refl W) I2 L2 h2 hg
    · rename_i ys e
      obtain ⟨a, us, rfl, h1, h2⟩ := tupH I v1 e
      refine ⟨a, us, rfl, .inr h1, fun p' hp => ?_⟩
      obtain ⟨I2, L2⟩ := I.loose hp (.lst us)
      exact q W M _ p' us _ (.refl W) I2 L2 h2 hg
    · exact hg.elim
  · exact hg.elim
end G

set_option Elab.async false
set_option linter.all false
set_option maxRecDepth 100000
set_option maxHeartbeats 8000000
/-! G10: sorted(set(xs)) of ints and texts, any length below the scan's bound. -/
namespace G
open PySem PySem.Spec PyProof.Rows L2
open PySem.W (EachIs)

def keyM (e : Int × Value) : Key := match e.2 with
  | .int i _ => .inl i
  | .str x _ => .inr x
  | _ => .inl 0
theorem keyM_of {e : Int × Value} {k : Key} (h : keyIs k e.2 = true) : keyM e = k := by
  rcases keyIs_shape h with ⟨i, t, e1, e2⟩ | ⟨x, t, e1, e2⟩
  · unfold keyM; rw [e2, e1]
  · unfold keyM; rw [e2, e1]
/-- the set of the keys ks, as it lies -/
def SetM (P : Program) (w : World) (h : Heap) (a : Addr) (ks : List Key) : Prop :=
  ∃ o es ep t, h.get? a = some o ∧ o.ExactSet ∧ o.data = .set es ep t ∧ ElemsOf (mixKind P w) es.toList ∧ (es.toList.map keyM).Perm ks ∧ ks.Nodup ∧
    es.size < scanBound ∧ t.fits es.size = true ∧ Ris t.place.toList ∧ (w.params.followText "set-order" = true ∨ t.led = true)
section
variable {P : Program} {w : World} {h h' : Heap} {a : Addr} {ks : List Key}
theorem SetM.at (R : SetM P w h a ks) (k : ∀ o, h.get? a = some o → h'.get? a = some o) : SetM P w h' a ks := by
  obtain ⟨o, es, ep, t, ho, r⟩ := R
  exact ⟨o, es, ep, t, k o ho, r⟩
theorem elem_is {es : List (Int × Value)} (g : ElemsOf (mixKind P w) es) {e : Int × Value} (he : e ∈ es) (k : Key) : (mixKind P w).is k e.2 = true ↔ keyM e = k := by
  obtain ⟨⟨k0, h1, _⟩, _⟩ := g e he
  have h1 : keyIs k0 e.2 = true := h1
  constructor
  · intro z; exact keyM_of z
  · intro z
    rw [keyM_of h1] at z
    subst z; exact h1
end
def addK (ks : List Key) (k : Key) : List Key := if (ks.any fun j => decide (j = k)) = true then ks else k :: ks
theorem any_key {ks : List Key} {k : Key} : (ks.any fun j => decide (j = k)) = true ↔ k ∈ ks := by
  rw [List.any_eq_true]
  exact ⟨fun ⟨x, h1, h2⟩ => of_decide_eq_true h2 ▸ h1, fun h => ⟨k, h, decide_eq_true rfl⟩⟩
theorem addK_len (ks : List Key) (k : Key) : (addK ks k).length ≤ ks.length + 1 := by
  unfold addK; split <;> simp
theorem addK_mem {ks : List Key} {k j : Key} : j ∈ addK ks k ↔ j ∈ ks ∨ j = k := by
  unfold addK
  split
  · rename_i h
    have := any_key.mp h
    exact ⟨.inl, fun z => z.elim id fun e => e ▸ this⟩
  · rw [List.mem_cons]; exact Or.comm
theorem addK_all : ∀ {ns ks : List Key} {j : Key}, j ∈ ns.foldl addK ks ↔ j ∈ ks ∨ j ∈ ns
  | [], ks, j => by simp
  | n :: ns, ks, j => by
    rw [List.foldl_cons, addK_all, addK_mem, List.mem_cons]
    exact or_assoc
section
variable {P : Program} {w : World} {A : Around} {E : Value → Shared → Prop} {s : Shared} {a : Addr} {ks : List Key}
theorem setM_tail {g : Bool → Sem Unit} (hg : ∀ (b : Bool) (s₁ : Shared) (Q' : Unit → Shared → Prop), Q' () s₁ → wpAny (model P w) A (g b) Q' E s₁)
    {o : Obj} {es : Array (Int × Value)} {ep : Nat} {t : SetTable} (ho : s.heap.get? a = some o) (hex : o.ExactSet) (hd : o.data = .set es ep t)
    {es1 : Array (Int × Value)} {t2 : SetTable} {ks1 : List Key} (g1 : ElemsOf (mixKind P w) es1.toList) (p1 : (es1.toList.map keyM).Perm ks1) (nd1 : ks1.Nodup)
    (hb1 : es1.size < scanBound) (hf2 : t2.fits es1.size = true) (hr : Ris t2.place.toList) (hl : w.params.followText "set-order" = true ∨ t2.led = true) {wasDummy : Bool} {R : Option Bool → Shared → Prop}
    (hR : ∀ h', Heap.SameBut a s.heap h' → SetM P w h' a ks1 → R (some true) { s with heap := h' }) :
    wpAny (model P w) A (do
        storeSet a es1 t2
        if (!wasDummy && t2.tooFull) = true then do
            g (relayAll t2 es1 (SetTable.grown es1.size)).2.2
            storeSet a (relayAll t2 es1 (SetTable.grown es1.size)).1 (relayAll t2 es1 (SetTable.grown es1.size)).2.1
            pure (some true)
          else pure (some true)) R E s := by
  refine wpAny_bind (wpAny_storeSet_of ho hd ?_ (fits_of_scanBound hb1))
  have sb1 := Heap.SameBut.update s.heap a (Obj.putSet es1 t2)
  have ho1 := L2.store_at (es' := es1) (t' := t2) ho hd
  split
  · have z1 := relayAll_perm t2 es1 (SetTable.grown es1.size)
    have z2 := relayAll_fits t2 es1 (SetTable.grown es1.size)
    have z3 := relayAll_ris t2 es1 (SetTable.grown es1.size)
    have z4 := relayAll_led t2 es1 (SetTable.grown es1.size)
    generalize relayAll t2 es1 (SetTable.grown es1.size) = Z at z1 z2 z3 z4 ⊢
    obtain ⟨es2, t3, gave⟩ := Z
    dsimp only at z1 z2 z3 z4 ⊢
    have hb2 : es2.size < scanBound := by
      have : es2.size = es1.size := by rw [← Array.length_toList, z1.length_eq, Array.length_toList]
      omega
    refine wpAny_bind (hg _ _ _ ?_)
    refine wpAny_bind (wpAny_storeSet_of ho1 rfl ?_ (fits_of_scanBound hb2))
    refine wpAny_pure (hR _ (sb1.trans (Heap.SameBut.update _ a _)) ?_)
    exact ⟨_, es2, _, t3, L2.store_at (es' := es2) (t' := t3) ho1 rfl, hex, rfl, fun e he => g1 e (z1.mem_iff.mp he), (z1.map keyM).trans p1, nd1, hb2, z2, z3, hl.imp id fun z => by rw [z4]; exact z⟩
  · exact wpAny_pure (hR _ sb1 ⟨_, es1, _, t2, ho1, hex, rfl, g1, p1, nd1, hb1, hf2, hr, hl⟩)

theorem setM_hashed {k : Key} {u : Value} {Q : Bool → Shared → Prop} (hk : keyIs k u = true) (R : SetM P w s.heap a ks) (room : ks.length + 1 < scanBound)
    (hQ : ∀ h' b, Heap.SameBut a s.heap h' → SetM P w h' a (addK ks k) → Q b { s with heap := h' }) :
    wpAny (model P w) A (setAddHashed a u ((mixKind P w).hash k)) Q E s := by
  obtain ⟨o, es, ep, t, ho, hex, hd, g, pm0, nd, hb, hf, hr, hl⟩ := R
  have hsc : u.scannable = true := by
    rcases keyIs_shape hk with ⟨i, t, e1, e2⟩ | ⟨x, t, e1, e2⟩ <;> rw [e2] <;> rfl
  unfold setAddHashed setAddHashedIn
  refine wpAny_holding (wpAny_bind (wpAny_setState_of ho hd hf ?_))
  dsimp only
  rw [byScan_of hsc hb g]
  simp only [↓reduceIte]
  unfold setAddByScan
  refine wpAny_bind ?_
  refine wpAny_bind (wpAny_rule ?_)
  refine wpAny_bind (wpAny_setScan_of (knd := mixKind P w) hk ho hd hf g ?_)
  cases hfi : List.findIdx? (fun e => (mixKind P w).is k e.2) es.toList with
  | some j =>
    dsimp only
    obtain ⟨hj, pj, _⟩ := List.findIdx?_eq_some_iff_getElem.mp hfi
    have hm : k ∈ ks := pm0.mem_iff.mp (List.mem_map.mpr ⟨es.toList[j], List.getElem_mem hj, (elem_is g (List.getElem_mem hj) k).mp pj⟩)
    refine wpAny_pure (wpAny_pure ?_)
    have q := hQ s.heap false (Heap.SameBut.refl a s.heap) (by rw [show addK ks k = ks from if_pos (any_key.mpr hm)]; exact ⟨o, es, ep, t, ho, hex, hd, g, pm0, nd, hb, hf, hr, hl⟩)
    exact q
  | none =>
    dsimp only
    have hnk : k ∉ ks := fun z => by
      obtain ⟨e, he, q⟩ := List.mem_map.mp (pm0.mem_iff.mpr z)
      have c := List.findIdx?_eq_none_iff.mp hfi e he
      rw [(elem_is g he k).mpr q] at c
      cases c
    have hgw : ∀ (b : Bool) {s₁ : Shared} {Q' : Unit → Shared → Prop}, Q' () s₁ → wpAny (model P w) A (match b with | true => rule "set.scan.the-table-gave-way" | false => pure ()) Q' E s₁ :=
      fun b s₁ Q' q => by cases b <;> first | exact wpAny_pure q | exact wpAny_rule q
    have pm := layNew_perm t es ((mixKind P w).hash k) u
    have hf1 := layNew_fits t es ((mixKind P w).hash k) u
    have hr1 := layNew_ris t es ((mixKind P w).hash k) u hr
    have hl1 := layNew_led t es ((mixKind P w).hash k) u
    generalize layNew t es ((mixKind P w).hash k) u = Z at pm hf1 hr1 hl1 ⊢
    obtain ⟨es1, t1, wasDummy, gave⟩ := Z
    dsimp only at pm hf1 hr1 hl1 ⊢
    rw [Array.toList_push] at pm
    have pc : es1.toList.Perm (((mixKind P w).hash k, u) :: es.toList) := pm.trans (List.perm_append_singleton _ _)
    have pk : (es1.toList.map keyM).Perm (k :: ks) := by
      refine (pc.map keyM).trans ?_
      rw [List.map_cons, keyM_of (e := ((mixKind P w).hash k, u)) hk]
      exact pm0.cons k
    have g1 : ElemsOf (mixKind P w) es1.toList := fun e he => by
      rcases List.mem_cons.mp (pc.mem_iff.mp he) with z | z
      · rw [z]; exact ⟨⟨k, hk, rfl⟩, hsc⟩
      · exact g e z
    have nd1 : (k :: ks).Nodup := List.nodup_cons.mpr ⟨hnk, nd⟩
    have hb1 : es1.size < scanBound := by
      have e1 := pk.length_eq
      rw [List.length_map, Array.length_toList, List.length_cons] at e1
      omega
    have hled : w.params.followText "set-order" = true ∨ t1.led = true := hl.imp id fun z => by rw [hl1]; exact z
    have fin : ∀ h', Heap.SameBut a s.heap h' → SetM P w h' a (k :: ks) → Q true { s with heap := h' } := fun h' sb r => hQ h' true sb (by rw [show addK ks k = k :: ks from if_neg (fun z => hnk (any_key.mp z))]; exact r)
    refine wpAny_bind (hgw _ ?_)
    split
    · refine wpAny_bind ?_
      rw [hashByValue_scannable 8 hsc]
      refine wpAny_pure ?_
      refine setM_tail ?_ ho hex hd g1 pk nd1 hb1 ?_ ?_ ?_ ?_
      · intro b s₁ Q' q; cases b <;> first | exact wpAny_pure q | exact wpAny_rule q
      · first | (split <;> first | exact hf1 | exact SetTable.fits_plain_off hf1) | exact hf1
      · first | (split <;> exact hr1) | exact hr1
      · first | (split <;> exact hled) | exact hled
      · intro h' sb r; dsimp only; exact wpAny_pure (fin h' sb r)
    · refine wpAny_bind (wpAny_pure ?_)
      simp only [↓reduceIte]
      refine setM_tail ?_ ho hex hd g1 pk nd1 hb1 hf1 hr1 hled ?_
      · intro b s₁ Q' q; cases b <;> first | exact wpAny_pure q | exact wpAny_rule q
      · intro h' sb r; dsimp only; exact wpAny_pure (fin h' sb r)
theorem setM_new {h : Heap} (ho : h.get? a = some { cls := .type "set", dict := none, data := .set #[] 0 (.fresh 0 0 (!w.params.followText "set-order")) }) : SetM P w h a [] :=
  ⟨_, #[], 0, _, ho, ⟨rfl, rfl, rfl⟩, rfl, (fun e he => by simp at he), by simp, List.nodup_nil, (by decide), (by rfl), List.Pairwise.nil, by
    show _ ∨ (!w.params.followText "set-order") = true
    cases w.params.followText "set-order"
    · exact .inr rfl
    · exact .inl rfl⟩
theorem setM_loop {I : Addr} {fp wr : List Addr} {G : Array GenState → Array GenState → Prop} {n : Nat} {Pv : Nat → Value → Prop} {St : Nat → Shared → Prop} {R : Result → Shared → Prop}
    (W : WalksS P w A.in1 I fp wr G n Pv St) (S : Addr) (hSf : S ∉ fp) (ns : List Key) (hn : n = ns.length) (hb : ns.length + 1 < scanBound) (hval : ∀ i v, Pv i v → ∃ k, ns[i]? = some k ∧ keyIs k v = true) :
    ∀ (k i : Nat) (s : Shared), n - i = k → i ≤ n → St i s → SetM P w s.heap S ((ns.take i).foldl addK []) → ((ns.take i).foldl addK []).length ≤ i →
      (∀ s', Moved (S :: wr) G s s' → SetM P w s'.heap S (ns.foldl addK []) → R (.ok (.ret .none)) s') →
      codeAny (model P w) A (.builtin "set.update.loop" ⟨[.ref S, .ref I], []⟩) R s := by
  have hSw : S ∉ wr := fun h => hSf (W.sub _ h)
  have hsub : ∀ b ∈ wr, b ∈ S :: wr := fun b hb => List.mem_cons_of_mem _ hb
  intro k
  induction k with
  | zero =>
    intro i s hk' hi hst hS hle hR
    have hin : i = n := by omega
    subst hin
    refine codeAny_builtin F.entry_set_update_loop ?_
    rw [Around.under_plainId F.plain_set_update_loop _]
    show wpAny _ A.in1 (pyNext (.ref I) >>= _) _ _ s
    refine wpAny_bind (W.done s _ _ hst fun s' hm => ?_)
    show wpAny _ A.in1 (ret Value.none) _ _ s'
    rw [List.take_of_length_le (by omega)] at hS
    exact wpAny_pure (hR s' (hm.mono hsub) (hS.at fun o e => hm.heap S o hSw e))
  | succ k ih =>
    intro i s hk' hi hst hS hle hR
    have hlt : i < n := by omega
    refine codeAny_builtin F.entry_set_update_loop ?_
    rw [Around.under_plainId F.plain_set_update_loop _]
    show wpAny _ A.in1 (pyNext (.ref I) >>= _) _ _ s
    refine wpAny_bind (W.item i s _ _ hlt hst fun v s' hP hst' hm => ?_)
    obtain ⟨z, hz, kz⟩ := hval i v hP
    have hS' := hS.at (h' := s'.heap) fun o e => hm.heap S o hSw e
    show wpAny _ A.in1 (holding [v] (setAdd S v) >>= _) _ _ s'
    refine wpAny_bind (wpAny_holding ?_)
    unfold setAdd
    refine wpAny_holding ?_
    refine wpAny_bind ((mixKind P w).pyHash (k := z) kz ?_)
    refine setM_hashed (s := { s' with toks := s'.toks + 1 }) kz hS' (by omega) fun h' b hsb hS2 => ?_
    have e3 : (ns.take (i + 1)).foldl addK [] = addK ((ns.take i).foldl addK []) z := by
      rw [List.take_add_one, hz, List.foldl_append]; rfl
    have hl3 : ((ns.take (i + 1)).foldl addK []).length ≤ i + 1 := by
      rw [e3]; have := addK_len ((ns.take i).foldl addK []) z; omega
    have hS3 : SetM P w h' S ((ns.take (i + 1)).foldl addK []) := by rw [e3]; exact hS2
    refine wpAny_pure ⟨plainId_quiet F.plain_set_update_loop _, ih (i + 1) _ (by omega) hlt (W.frame _ s' _ _ hst' (Nat.le_succ _) fun b hb o e => ?_) hS3 hl3 fun s'' hm'' hS'' => ?_⟩
    · rw [hsb.2 b (fun h : b = S => hSf (by rw [← h]; exact hb))]; exact e
    · refine hR s'' (Moved.trans W.gtrans ((hm.mono hsub).then_heap (Nat.le_succ _) fun b o hb e => ?_) hm'') hS''
      rw [hsb.2 b (fun h : b = S => hb (by rw [h]; exact List.mem_cons_self))]; exact e

def setObj (w : World) : Obj := { cls := .type "set", dict := none, data := .set #[] 0 (.fresh 0 0 (!w.params.followText "set-order")) }
set_option maxHeartbeats 6400000 in
theorem call_setM {l : Addr} {items : Array Value} (ns : List Key) {Q : Value → Shared → Prop} (hh : A.handled = none) (hl : s.heap.IsList l items) (hisz : items.size = ns.length) (hval : ∀ (i : Nat) (v : Value), items[i]? = some v → ∃ k, ns[i]? = some k ∧ keyIs k v = true) (hb : ns.length + 1 < scanBound)
    (h : ∀ (h' : Heap) (tk : Nat), SetM P w h' s.heap.objs.size (ns.foldl addK []) → (∀ b o, s.heap.get? b = some o → h'.get? b = some o) → Q (.ref s.heap.objs.size) { s with heap := h', toks := tk }) :
    wpAny (model P w) A (call (.type "set") [.ref l]) Q E s := by
  obtain ⟨c, tl, hmro⟩ := F.called_set.mro
  have hmade := F.called_set.made
  have hsub := F.called_set.sub
  refine wpAny_call (codeAny_of_tree ?_)
  show wpAny _ _ (callAny (.type "set") _) _ _ _
  refine wpAny_pure ⟨Code.quiet_builtin _ (by decide +kernel), codeAny_builtin F.entry_type_call ?_⟩
  rw [Around.under_plain (weight_type_call_type "set" [.ref l] []) rfl]
  have h1 := F.called_set.notType
  have h2 := F.called_set.canCreate
  have hct := F.typeCall_set_1 (.ref l)
  repeat (any_goals (first | assumption | wp_step))
  refine codeAny_mono (L2.code_set_led1 (.ref l) (E := E) (Q₁ := fun obj s₁ => obj = .ref s.heap.objs.size ∧ s₁ = { s with heap := s.heap.push (setObj w) }) ⟨rfl, rfl⟩) fun r s₁ hr => ?_
  cases r with
  | error e => exact hr
  | ok fl =>
    cases fl with
    | ret obj =>
      obtain ⟨rfl, rfl⟩ := hr
      have hS : (s.heap.push (setObj w)).get? s.heap.objs.size = some (setObj w) := Heap.get?_push_size _ rfl
      have hT : Shared.TypeIs { s with heap := s.heap.push (setObj w) } (.ref s.heap.objs.size) "set" := ⟨_, hS, rfl⟩
      have hli := F.called_set.init.lookup
      have hbi := F.called_set.init.bind (.ref s.heap.objs.size)
      repeat (any_goals (first | assumption | wp_step))
      refine codeAny_mono (codeAny_call_builtin (R := wants (fun r s₂ => r = .none ∧ ∃ h' tk, s₂ = { s with heap := h', toks := tk } ∧ SetM P w h' s.heap.objs.size (ns.foldl addK []) ∧
          (∀ b o, s.heap.get? b = some o → h'.get? b = some o)) E) F.called_set.init.plain F.entry_set_init (check_set_init_1 hT ?_)) fun r₂ s₂ hr₂ => ?_
      · obtain ⟨ol, hol, hcl, nl, hdl⟩ := hl
        obtain ⟨ocls, odict, odata, oslots⟩ := ol
        simp only at hcl hdl
        subst hcl; subst hdl
        have hol' : (s.heap.push (setObj w)).get? l = some { cls := .type "list", dict := odict, data := .seq items nl, slots := oslots } := Heap.get?_push_of_some _ hol
        have hsls := F.sub_list_set
        have hslf := F.sub_list_frozenset
        have hne : (Value.type "list" == Value.type "dict") = false := by decide
        have hl1 : (s.heap.push (setObj w)).IsList l items := ⟨_, hol', rfl, nl, rfl⟩
        unfold Builtin.«set.__init__» noKeywords Builtin.Frozenset.updateFrom
        generalize hPI : pyIter = PI
        wp_walk
        subst hPI
        refine wpAny_pyIter_list hl1 ?_
        refine wpAny_bind (wpAny_runValue ?_)
        have hlS : l < s.heap.objs.size := Heap.lt_size hol
        have hh3 : A.in1.in1.in1.handled = none := by simp [hh]
        have hneI : l ≠ (s.heap.push (setObj w)).objs.size := by
          rw [Heap.size_push]; exact Nat.ne_of_lt (Nat.lt_succ_of_lt hlS)
        have hSf : s.heap.objs.size ∉ [(s.heap.push (setObj w)).objs.size, l] := by
          rw [Heap.size_push]; simp only [List.mem_cons, List.mem_singleton, List.not_mem_nil, or_false, not_or]
          exact ⟨Nat.ne_of_lt (Nat.lt_succ_self _), Nat.ne_of_gt hlS⟩
        refine setM_loop ((Walks.list hh3 _ l hneI items).toS) s.heap.objs.size
          hSf ns hisz hb hval (items.size - 0) 0 _ (by omega) (Nat.zero_le _)
          ⟨⟨_, Heap.get?_push_size _ rfl, rfl, rfl⟩, (hl1.push _)⟩ ?hS0 (Nat.le_refl _) ?hR
        case hS0 =>
          exact setM_new (Heap.get?_push_of_some _ hS)
        case hR =>
          intro s' hm hS'
          obtain ⟨h', g2, d', tk', os'⟩ := s'
          have eg : g2 = s.gens := hm.gens
          have ed : d' = s.drawn := hm.drawn
          have eo : os' = s.os := hm.os
          subst eg; subst ed; subst eo
          show wpAny _ _ _ _ _ _
          refine wpAny_pure ?_
          show wpAny _ _ (ret Value.none) _ _ _
          refine wpAny_pure ⟨rfl, h', tk', rfl, hS', fun b o e => ?_⟩
          have hb0 : b < s.heap.objs.size := Heap.lt_size e
          have hb1 : b ≠ s.heap.objs.size := Nat.ne_of_lt hb0
          have hb2 : b ≠ (s.heap.push (setObj w)).objs.size := by
            rw [Heap.size_push]; exact Nat.ne_of_lt (Nat.lt_succ_of_lt hb0)
          exact hm.heap b o (by simp only [List.mem_cons, List.mem_singleton, List.not_mem_nil, or_false, not_or]; exact ⟨hb1, hb2⟩) (Heap.get?_push_of_some _ (Heap.get?_push_of_some _ e))
      · cases r₂ with
        | error e => exact hr₂
        | ok fl₂ =>
          cases fl₂ with
          | ret r =>
            obtain ⟨rfl, h', tk, rfl, hS', hk'⟩ := hr₂
            repeat (any_goals (first | assumption | wp_step))
            exact h _ _ hS' hk'
          | _ => exact hr₂.elim
    | _ => exact hr.elim
end
end G

set_option Elab.async false
set_option linter.all false
set_option maxRecDepth 100000
set_option maxHeartbeats 8000000
/-! G11: one sorted list for all orders; sorted(set(xs)). -/
namespace G
open PySem PySem.Spec PyProof.Rows L2
open PySem.W (EachIs)

mutual
theorem toks_inj : ∀ (x y : PyData) (l m : List (Int ⊕ List Nat)), PySem.W.alike x y = true → PySem.W.keyToks x ++ l = PySem.W.keyToks y ++ m → x = y ∧ l = m
  | .none, y, l, m, h, e => by
    cases y <;> first | (simp [PySem.W.alike] at h; done) | skip
    simpa [PySem.W.keyToks] using e
  | .bool a, y, l, m, h, e => by
    cases y <;> first | (simp [PySem.W.alike] at h; done) | skip
    rename_i b
    simp only [PySem.W.keyToks, List.cons_append, List.nil_append, List.cons.injEq] at e
    refine ⟨?_, e.2⟩
    have := Sum.inl.inj e.1
    cases a <;> cases b <;> simp_all
  | .int a, y, l, m, h, e => by
    cases y <;> first | (simp [PySem.W.alike] at h; done) | skip
    simp only [PySem.W.keyToks, List.cons_append, List.nil_append, List.cons.injEq] at e
    exact ⟨congrArg PyData.int (Sum.inl.inj e.1), e.2⟩
  | .str a, y, l, m, h, e => by
    cases y <;> first | (simp [PySem.W.alike] at h; done) | skip
    simp only [PySem.W.keyToks, List.cons_append, List.nil_append, List.cons.injEq] at e
    exact ⟨congrArg PyData.str (PySem.W.str_of_cps (Sum.inr.inj e.1)), e.2⟩
  | .list xs, y, l, m, h, e => by
    cases y <;> first | (simp [PySem.W.alike] at h; done) | skip
    simp only [PySem.W.keyToks] at e
    obtain ⟨a, b⟩ := toksAll_inj xs _ l m (by simpa [PySem.W.alike] using h) e
    exact ⟨congrArg PyData.list a, b⟩
  | .tuple xs, y, l, m, h, e => by
    cases y <;> first | (simp [PySem.W.alike] at h; done) | skip
    simp only [PySem.W.keyToks] at e
    obtain ⟨a, b⟩ := toksAll_inj xs _ l m (by simpa [PySem.W.alike] using h) e
    exact ⟨congrArg PyData.tuple a, b⟩
  | .dict _, y, l, m, h, e => by cases y <;> simp [PySem.W.alike] at h
theorem toksAll_inj : ∀ (xs ys : List PyData) (l m : List (Int ⊕ List Nat)), PySem.W.alikeAll xs ys = true → PySem.W.keyToksAll xs ++ l = PySem.W.keyToksAll ys ++ m → xs = ys ∧ l = m
  | [], [], l, m, h, e => by
    simp only [PySem.W.keyToksAll, List.cons_append, List.nil_append, List.cons.injEq] at e
    exact ⟨rfl, e.2⟩
  | [], y :: ys, l, m, h, e => by
    simp [PySem.W.keyToksAll] at e
  | x :: xs, [], l, m, h, e => by
    simp [PySem.W.keyToksAll] at e
  | x :: xs, y :: ys, l, m, h, e => by
    have h : PySem.W.alike x y = true ∧ PySem.W.alikeAll xs ys = true := by simpa [PySem.W.alikeAll] using h
    simp only [PySem.W.keyToksAll, List.cons_append, List.cons.injEq, true_and, List.append_assoc] at e
    obtain ⟨a, b⟩ := toks_inj x y _ _ h.1 e
    obtain ⟨c, d⟩ := toksAll_inj xs ys _ _ h.2 b
    exact ⟨by rw [a, c], d⟩
end
theorem dLe_anti {x y : PyData} (h : PySem.W.alike x y = true) (h1 : dLe x y = true) (h2 : dLe y x = true) : x = y := by
  have e : PySem.W.keyToks x = PySem.W.keyToks y := by
    refine (listOrd itemOrd).total _ _ ?_ ?_
    · have : (!(listOrd itemOrd).blt (PySem.W.keyToks x) (PySem.W.keyToks y)) = true := h2
      simpa using this
    · have : (!(listOrd itemOrd).blt (PySem.W.keyToks y) (PySem.W.keyToks x)) = true := h1
      simpa using this
  exact (toks_inj x y [] [] h (by rw [e])).1
theorem dLe_total : PySem.W.TotalLe dLe := PySem.W.sortLe_total _ _ _
theorem sorted_perm : ∀ {l m : List PyData}, l.Pairwise (fun a b => dLe a b = true) → m.Pairwise (fun a b => dLe a b = true) → l.Perm m → PySem.W.AllAlike l → l = m
  | [], m, _, _, p, _ => (List.nil_perm.mp p).symm ▸ rfl
  | x :: l, [], _, _, p, _ => by simp at p
  | x :: l, y :: m, h1, h2, p, al => by
    have hx : x ∈ y :: m := p.mem_iff.mp List.mem_cons_self
    have hy : y ∈ x :: l := p.mem_iff.mpr List.mem_cons_self
    have e : x = y := by
      refine dLe_anti (al x List.mem_cons_self y hy) ?_ ?_
      · rcases List.mem_cons.mp hy with z | z
        · rw [z]; exact dLe_total.refl x
        · exact (List.pairwise_cons.mp h1).1 y z
      · rcases List.mem_cons.mp hx with z | z
        · rw [z]; exact dLe_total.refl y
        · exact (List.pairwise_cons.mp h2).1 x z
    subst e
    rw [sorted_perm (List.pairwise_cons.mp h1).2 (List.pairwise_cons.mp h2).2 ((List.perm_cons x).mp p) fun a ha b hb => al a (List.mem_cons_of_mem _ ha) b (List.mem_cons_of_mem _ hb)]
theorem sortD_perm {l m : List PyData} (p : l.Perm m) (al : PySem.W.AllAlike l) : sortD l = sortD m :=
  sorted_perm (PySem.W.sort_pairwise dLe_total l) (PySem.W.sort_pairwise dLe_total m) ((List.mergeSort_perm l dLe).trans (p.trans (List.mergeSort_perm m dLe).symm)) fun a ha b hb => al a ((List.mergeSort_perm l dLe).mem_iff.mp ha) b ((List.mergeSort_perm l dLe).mem_iff.mp hb)

/-! ### sorted(set) -/
section
variable {P : Program} {w : World} {A : Around} {E : Value → Shared → Prop} {s : Shared} {a : Addr} {ks : List Key}
def RKd (u : Value) (d : PyData) : Prop := ∃ k, keyIs k u = true ∧ d = kD k
theorem kd_reads {h : Heap} {u : Value} {d : PyData} (r : RKd u d) : Reads h u d [] := by
  obtain ⟨k, h1, rfl⟩ := r
  rcases keyIs_shape h1 with ⟨i, t, e1, e2⟩ | ⟨x, t, e1, e2⟩
  · rw [e1, e2]; exact .int i t
  · rw [e1, e2]; exact .str x t
theorem kd_each : ∀ {es : List (Int × Value)}, ElemsOf (mixKind P w) es → EachIs RKd (es.map (·.2)) ((es.map keyM).map kD)
  | [], _ => .nil
  | e :: es, g => by
    obtain ⟨⟨k, h1, _⟩, _⟩ := g e List.mem_cons_self
    exact .cons ⟨k, h1, by rw [keyM_of h1]⟩ (kd_each fun x hx => g x (List.mem_cons_of_mem _ hx))
theorem each_perm {R : Value → PyData → Prop} {vs us : List Value} (p : vs.Perm us) : ∀ {ds : List PyData}, EachIs R us ds → ∃ es, EachIs R vs es ∧ es.Perm ds := by
  induction p with
  | nil => intro ds h; exact ⟨ds, h, .refl _⟩
  | cons x p ih =>
    intro ds h
    cases h with
    | cons a r =>
      obtain ⟨es, h1, h2⟩ := ih r
      exact ⟨_ :: es, .cons a h1, h2.cons _⟩
  | swap x y l =>
    intro ds h
    cases h with
    | cons a r =>
      cases r with
      | cons b r => exact ⟨_, .cons b (.cons a r), .swap _ _ _⟩
  | trans p q ih1 ih2 =>
    intro ds h
    obtain ⟨es, h1, h2⟩ := ih2 h
    obtain ⟨fs, h3, h4⟩ := ih1 h1
    exact ⟨fs, h3, h4.trans h2⟩
theorem sorted_setM {Q : Value → Shared → Prop} (R : SetM P w s.heap a ks) (hh : A.handled = none) (hu : A.units + 64 < cLine) (al : PySem.W.AllAlike (ks.map kD))
    (hQ : ∀ s' p (out : List Value) (c : Nat), (∀ b o, s.heap.get? b = some o → s'.heap.get? b = some o) → s'.gens = s.gens → s'.os = s.os → s.heap.objs.size ≤ p →
      s'.heap.get? p = some (seqObj "list" out.toArray c) → EachIs RKd out (sortD (ks.map kD)) → Q (.ref p) s') :
    wpAny (model P w) A (call (.builtin "sorted") [.ref a]) Q E s := by
  obtain ⟨o, es, ep, t, ho, hex, hd, g, pk, nd, hb, hf, hr, hl⟩ := R
  refine Calls.call_function_entry kind_sorted plain_sorted entry_sorted (args_sorted1 _) ?_
  unfold Builtin.«sorted»
  refine wpAny_bind (m := checkCount "sorted" 1 1 _) (wpAny_pure ?_)
  refine wpAny_bind (L2.collect_set (A := A.in1) hh ⟨o, ho, hex.1, hd⟩ hf hb hr hl fun s1 vs k1 hz g1 o1 pm => ?_)
  obtain ⟨ds, hds, pds⟩ := each_perm pm (kd_each g)
  have pds2 : ds.Perm (ks.map kD) := pds.trans (pk.map kD)
  have al2 : PySem.W.AllAlike ds := fun x hx y hy => al x (pds2.mem_iff.mp hx) y (pds2.mem_iff.mp hy)
  have hn : vs.length ≤ sizeLine := by
    rw [pm.length_eq, List.length_map, Array.length_toList]; exact fits_of_scanBound hb
  have hn2 : ds.length ≤ sizeLine := by
    have : vs.length = ds.length := PySem.W.EachIs.length hds
    omega
  have dep : ∀ d ∈ ds, ∃ k, d = kD k := fun d hd => by
    obtain ⟨k, _, e⟩ := List.mem_map.mp (pds2.mem_iff.mp hd)
    exact ⟨k, e.symm⟩
  refine wpAny_bind (wpAny_newList ?_ hn)
  have hoL : (s1.heap.push (seqObj "list" vs.toArray 0)).get? s1.heap.objs.size = some (seqObj "list" vs.toArray 0) := Heap.get?_push_size _ rfl
  have er : EachIs (fun v b => ∃ as, Reads (s1.heap.push (seqObj "list" vs.toArray 0)) v (id b) as ∧ s1.heap.objs.size ∉ as) vs ds := hds.mono fun u d r => ⟨[], kd_reads r, by simp⟩
  refine wpAny_bind (wpAny_holding (PySem.W.list_sort_data (enc := id) (R := RKd) (s := { s1 with heap := s1.heap.push (seqObj "list" vs.toArray 0) }) hoL hds er (by rw [List.map_id]; exact al2) (by
      rw [List.map_id]
      refine .inr fun d hd => ?_
      obtain ⟨k, rfl⟩ := dep d hd
      cases k <;> exact ⟨nofun, fun _ => nofun⟩) hn2 (fun d hd => by
      obtain ⟨k, rfl⟩ := dep d hd
      have : (kD k).depth ≤ 1 := by cases k <;> simp [kD, PyData.depth]
      show A.in1.units + 1 + (kD k).depth < cLine
      have e : A.in1.units = A.units + 1 := rfl
      omega) fun out h1 h2 => ?_))
  obtain ⟨c, hc⟩ := sortedHeap_at (vs := vs) (out := out.toArray) hoL
  refine wpAny_pure ⟨_, rfl, hQ _ s1.heap.objs.size out c (fun b u e => ?_) g1 o1 hz hc (by rw [← sortD_perm pds2 al2]; exact h2)⟩
  have q := k1 b u e
  have hlt := Heap.lt_size q
  show (sortedHeap (s1.heap.push (seqObj "list" vs.toArray 0)) s1.heap.objs.size vs out.toArray).get? b = some u
  rw [sortedHeap_old (Nat.ne_of_lt hlt) (by rw [size_push']; exact Nat.lt_succ_of_lt hlt)]
  exact Heap.get?_push_of_some _ q
end
end G

set_option Elab.async false
set_option linter.all false
set_option maxRecDepth 100000
set_option maxHeartbeats 8000000
/-! G12: sorted(set(xs)) as a reading. -/
namespace G
open PySem PySem.Spec PyProof.Rows L2
open PySem.W (EachIs)
def uniqK (ks : List Key) : List PyData := (ks.foldl addK []).map kD
def rSetK (X : Cx) : List V → Hp → VK → Prop := fun xs H Q => ∃ (a : Addr) (ks : List Key), xs = [.ref a] ∧ SqL X.K H a (ks.map kV) ∧ ks.length + 1 < scanBound ∧
  ∀ p, H p = none → Q (.ref p) (upd H p (.ext fun h => SetM X.prog X.w h p (ks.foldl addK [])))
def rSortSet (X : Cx) : List V → Hp → VK → Prop := fun xs H Q => ∃ (a : Addr) (ks : List Key), xs = [.ref a] ∧ H a = some (.ext fun h => SetM X.prog X.w h a ks) ∧ PySem.W.AllAlike (ks.map kD) ∧
  ∀ p out, H p = none → (∀ F, DqAll X.K F out (sortD (ks.map kD))) → Q (.ref p) (upd H p (.lst out))
theorem keyIs_kV {k : Key} {u : Value} (r : RelV (kV k) u) : keyIs k u = true := by
  cases k with
  | inl i => obtain ⟨t, e⟩ := (show ∃ t, u = Value.int i t from r); subst e; exact keyIs_int i t
  | inr x => obtain ⟨t, e⟩ := (show ∃ t, u = Value.str x t from r); subst e; exact keyIs_str x t
theorem vals_key : ∀ {ks : List Key} {us : List Value}, Vals (ks.map kV) us → us.length = ks.length ∧ ∀ (i : Nat) v, us[i]? = some v → ∃ k, ks[i]? = some k ∧ keyIs k v = true
  | [], _, h => by cases h; exact ⟨rfl, fun i v h => by simp at h⟩
  | k :: ks, _, h => by
    rw [List.map_cons] at h
    cases h with
    | cons a r =>
      obtain ⟨h1, h2⟩ := vals_key r
      refine ⟨by simp [h1], fun i v h => ?_⟩
      cases i with
      | zero =>
        have h := Option.some.inj (show some _ = some v from h)
        exact ⟨k, rfl, h ▸ keyIs_kV a⟩
      | succ i => exact h2 i v (by simpa using h)
section
variable {X : Cx} {k : Nat}
theorem call_setK (hr : Rm k X) : CallR X (.type "set") (rSetK X) := by
  intro pins s σ H xs us Q I r h
  obtain ⟨a, ks, rfl, hs, hb, q⟩ := h
  obtain ⟨u, rfl, ru⟩ := vals1 r
  cases ru
  obtain ⟨its, rv, hl, _⟩ := I.list hs
  obtain ⟨h1, h2⟩ := vals_key rv
  refine call_setM ks (I.ok.hd hr.calm) hl.isList (by rw [List.size_toArray]; exact h1) (fun i v hv => h2 i v (by simpa using hv)) hb fun h' tk R k' => ?_
  refine ⟨.ref _, upd H s.heap.objs.size (.ext fun h => SetM X.prog X.w h s.heap.objs.size (ks.foldl addK [])), I.laid (t' := tk) k' (Nat.le_refl _) ?_, rfl, q _ (I.hok.fresh (Nat.le_refl _))⟩
  have ⟨o, _, _, _, ho, _⟩ := R
  exact ⟨R, ⟨o, ho⟩, fun h1 h2 p k => SetM.at p k⟩
theorem rkd_dq {K : PySem.W.Frag} : ∀ {us : List Value} {ds : List PyData}, EachIs RKd us ds → ∃ vs, Vals vs us ∧ ∀ F, DqAll K F vs ds
  | _, _, .nil => ⟨[], .nil, fun _ => .nil⟩
  | _, _, .cons ⟨k, h1, h2⟩ t => by
    obtain ⟨vs, a, b⟩ := rkd_dq (K := K) t
    subst h2
    rcases keyIs_shape h1 with ⟨i, t, e1, e2⟩ | ⟨x, t, e1, e2⟩
    · subst e1 e2; exact ⟨.int i :: vs, .cons ⟨t, rfl⟩ a, fun F => .cons (.int i) (b F)⟩
    · subst e1 e2; exact ⟨.str x :: vs, .cons ⟨t, rfl⟩ a, fun F => .cons (.str x) (b F)⟩
theorem call_sortSet (hr : Rm k X) : CallR X (.builtin "sorted") (rSortSet X) := by
  intro pins s σ H xs us Q I r h
  obtain ⟨a, ks, rfl, ha, al, q⟩ := h
  obtain ⟨u, rfl, ru⟩ := vals1 r
  cases ru
  have R : SetM X.prog X.w s.heap a ks := (I.hok a _ ha).1
  refine sorted_setM R (I.ok.hd hr.calm) hr.hu64 al fun s' p out c k' g o hp hg he => ?_
  obtain ⟨vs, rv, hd⟩ := rkd_dq (K := X.K) he
  have hn : H p = none := I.hok.fresh hp
  have hlen : vs.length ≤ sizeLine := by
    have e1 : vs.length = (sortD (ks.map kD)).length := DqAll.length (hd fun _ => none)
    rw [e1, List.length_mergeSort, List.length_map]
    obtain ⟨_, es, _, _, _, _, _, _, pk, _, hb, _⟩ := R
    have := fits_of_scanBound hb
    rw [← pk.length_eq, List.length_map, Array.length_toList]; exact this
  have J : Inv X pins σ (upd H p (.lst vs)) { s with heap := s'.heap, gens := s'.gens, drawn := s'.drawn, toks := s'.toks } :=
    I.call (ch := []) (Un.laid k' hp hn) (I.hok.laid k' hp ⟨hlen, out, c, rv, hg⟩) (by rw [g]; exact I.bare) (fun _ z => nomatch z)
  have e : s' = { s with heap := s'.heap, gens := s'.gens, drawn := s'.drawn, toks := s'.toks } := by
    cases s'
    cases s
    cases o
    rfl
  rw [e]
  exact ⟨.ref p, _, J, rfl, q p vs hn hd⟩
end
def keysX : List Xv → Option (List Key)
  | [] => some []
  | .d d :: xs => (keyOf d).bind fun k => (keysX xs).map (k :: ·)
  | .c _ :: _ => none
theorem keysX_ok {K : PySem.W.Frag} {W : Wd} : ∀ {xs : List Xv} {ks : List Key} {vs : List V}, keysX xs = some ks → VXs K W vs xs → vs = ks.map kV
  | [], _, _, h, v => by cases h; cases v; rfl
  | .d d :: xs, ks, _, h, v => by
    cases v with
    | cons a r =>
      unfold keysX at h
      cases e : keyOf d with
      | none => rw [e] at h; cases h
      | some k =>
        rw [e] at h
        cases e2 : keysX xs with
        | none => rw [e2] at h; cases h
        | some m =>
          rw [e2] at h; cases h
          have ed := keyOf_of e
          subst ed
          rw [keyV (F := W.F) a, keysX_ok e2 r]; rfl
  | .c _ :: _, _, _, h, v => by cases h
def rSSet (ra : RE) : RF := fun σ M P => ra σ M fun x M1 => match hd M1 x with
  | .lst ys => ifS (keysX ys) fun ks => ks.length + 1 < scanBound ∧ PySem.W.AllAlike (ks.map kD) ∧ P (dX (sortD (uniqK ks))) M1
  | _ => False
theorem uniqK_mem {ks : List Key} {d : PyData} : d ∈ uniqK ks ↔ d ∈ ks.map kD := by
  unfold uniqK
  simp only [List.mem_map]
  constructor
  · rintro ⟨k, h1, h2⟩; exact ⟨k, by simpa using addK_all.mp h1, h2⟩
  · rintro ⟨k, h1, h2⟩; exact ⟨k, addK_all.mpr (.inr h1), h2⟩
section
variable {X : Cx} {k : Nat} {a : Expr} {ra : RE} {p p2 pos pos2 : Pos}
theorem sf_sset (hr : Rm k X) (hg : Gl X "sorted") (hm : X.mg "sorted" = none) (hg2 : Gl X "set") (hm2 : X.mg "set" = none) (ha : SE X a ra)
    (he2 : starEach (a :: []) X.env = (false, eval a X.env) :: starEach [] X.env := by rfl) (hpl2 : (backTo pos2 (starEach [] X.env)).any (·.1) = false := by rfl)
    (he : starEach (.Call (.Name "set" p2) [a] [] pos2 :: []) X.env = (false, eval (.Call (.Name "set" p2) [a] [] pos2) X.env) :: starEach [] X.env := by rfl) (hpl : (backTo pos (starEach [] X.env)).any (·.1) = false := by rfl) :
    SF X (.Call (.Name "sorted" p) [.Call (.Name "set" p2) [a] [] pos2] [] pos) (rSSet ra) := by
  obtain ⟨ta, pa, sa⟩ := ha
  refine ⟨_, pe_callB (call_sortSet hr) hg hm boot_sorted (pa_cons (pe_callTy (call_setK hr) hg2 hm2 boot_set (pa_cons pa pa_nil he2) (by decide) (by decide) he2 hpl2) pa_nil he) (by decide) (by decide) he hpl, fun W M H σ σx P Q I S hr q => ?_⟩
  refine sa W M H σ σx _ _ I S hr fun W1 M1 H1 v x l1 I1 v1 p1 => ?_
  split at p1
  · rename_i ys e
    obtain ⟨a, us, rfl, h1, h2⟩ := lstH I1 v1 e
    obtain ⟨ks, e2, hb, al, p⟩ := ifS_of p1
    have := keysX_ok e2 h2
    subst this
    refine ⟨a, ks, rfl, h1, hb, fun p1 hp1 => ⟨p1, _, rfl, upd_same, fun x hx y hy => al x (uniqK_mem.mp hx) y (uniqK_mem.mp hy), fun p3 out hp3 hd => ?_⟩⟩
    have I2 := I1.newLoose hp1 (.ext fun h => SetM X.prog X.w h p1 (ks.foldl addK []))
    obtain ⟨I3, L3⟩ := I2.loose hp3 (.lst out)
    exact q W1 M1 _ p3 out _ l1 I3 L3 (VXs.ofD (hd _)) p
  · exact p1.elim
end
end G

set_option Elab.async false
set_option linter.all false
set_option maxRecDepth 100000
set_option maxHeartbeats 8000000
/-! G13: dict displays of 18 to 32 pairs: seventeen straight in, the others by a second dict. -/
namespace G
open PySem PySem.Spec PyProof.Rows L2

abbrev Itm := Sem Value × Sem Value
theorem gatherG (main : Option Addr) (tl : List (Option (Sem Value) × Sem Value)) (f : (Option (Sem Value) × Sem Value) → (Option Addr × List Itm) → Sem (ForInStep (Option Addr × List Itm)))
    (hf : ∀ (p : Itm) (run : List Itm), run.length + 1 < 17 → f (some p.1, p.2) (main, run) = pure (.yield (main, run ++ [p]))) :
    ∀ (items run : List Itm), run.length + items.length < 17 → forIn ((items.map fun p => (some p.1, p.2)) ++ tl) (main, run) f = forIn tl (main, run ++ items) f
  | [], run, _ => by simp
  | p :: rest, run, h => by
    rw [List.map_cons, List.cons_append, List.forIn_cons, hf p run (by simp at h; omega), pure_bind]
    have := gatherG main tl f hf rest (run ++ [p]) (by simp at h ⊢; omega)
    simpa using this
theorem display2 (a b : List Itm) (p : Itm) (ha : a.length = 16) (h0 : b ≠ []) (hb : b.length < 17) :
    dictDisplay ((a ++ p :: b).map fun p => (some p.1, p.2)) = (do
      let d ← subDict (a ++ [p])
      let sub ← holding [.ref d] (subDict b)
      (holding [.ref d, .ref sub] (mergeMapping d (.ref sub) false)).onRaise fun x => do let _ ← holding [.ref d, x] (runValue (.builtin "proto.let_go" {}))
      pure (.ref d)) := by
  unfold dictDisplay
  dsimp only
  rw [List.map_append, gatherG none _ _ (fun p run h => by
    have hne : ((run ++ [(p.1, p.2)]).length == 17) = false := by simp; omega
    simp only [hne, Bool.false_eq_true, if_false]) a [] (by simp; omega)]
  rw [List.map_cons, List.forIn_cons]
  have h17 : (([] ++ a ++ [(p.1, p.2)]).length == 17) = true := by simp [ha]
  simp only [h17, if_true]
  have he : ([] ++ a ++ [(p.1, p.2)]).isEmpty = false := by simp
  simp only [he, Bool.false_eq_true, if_false, bind_assoc, pure_bind]
  congr 1
  funext d
  have hl := List.append_nil (b.map fun p : Itm => (some p.1, p.2))
  rw [← hl, gatherG (some d) [] _ (fun p run h => by
    have hne : ((run ++ [(p.1, p.2)]).length == 17) = false := by simp; omega
    simp only [hne, Bool.false_eq_true, if_false]) b [] (by simp; omega)]
  have hb2 : b.isEmpty = false := by simpa using h0
  simp only [List.forIn_nil, pure_bind, List.nil_append, hb2, Bool.false_eq_true, if_false, bind_assoc]
section
variable {prog : Program} {w : World} {K : Type} [DecidableEq K] {knd : KeyKind prog w K} {A : Around} {E : Value → Shared → Prop} {s : Shared}
theorem dictPut_pairs {d : Addr} {kvs : List (K × Value)} {k : K} {key v : Value} {Q : Unit → Shared → Prop} (hkey : knd.is k key = true) (hm : s.heap.DictOf knd d kvs)
    (hQ : ∀ h', h'.DictOf knd d (stored kvs k v) → Heap.SameBut d s.heap h' → Q () { s with heap := h' })
    (hsz : kvs.length ≤ sizeLine) :
    wpAny (model prog w) A (dictPut d (knd.hash k) key v) Q E s := by
  obtain ⟨o, es, ep, ho, hc, hd, hk, hp, hn⟩ := hm
  have hes : es.size ≤ sizeLine := by
    have e1 := hp.length
    have e2 : es.toList.length = es.size := by simp
    omega
  unfold dictPut
  refine wpAny_bind (wpAny_dictFind_of hkey ho hd hk ?_)
  have hidx : (es.findIdx? fun e => knd.is k e.key) = kvs.findIdx? fun kv => decide (kv.1 = k) := by
    rw [← hp.findIdx k]; obtain ⟨l⟩ := es; simp
  cases hi : es.findIdx? fun e => knd.is k e.key with
  | some i =>
    refine wpAny_updateDict ho hd (hQ _ ⟨_, _, ep, Heap.get?_update_self _ ho (Obj.isFreed_of_dict (Obj.data_mapDict hd _)), hc.mapDict _, Obj.data_mapDict hd _, hk.modify _ _, ?_, ?_⟩ (Heap.SameBut.update ..))
    · rw [stored, if_pos (any_of_findIdx_some (hidx ▸ hi))]
      have hl : (es.toList.findIdx? fun e => knd.is k e.key) = some i := by rw [← hi]; obtain ⟨l⟩ := es; simp
      have := hp.modify hn hl v
      obtain ⟨l⟩ := es
      simpa using this
    · rw [stored, if_pos (any_of_findIdx_some (hidx ▸ hi)), keys_map_store]; exact hn
  | none =>
    have hnot : k ∉ kvs.map (·.1) := not_mem_of_findIdx_none (hidx ▸ hi)
    have hany : ¬ (kvs.any fun kv => decide (kv.1 = k)) = true := by
      rw [List.any_eq_true]; rintro ⟨kv, hkv, he⟩
      exact hnot (List.mem_map.mpr ⟨kv, hkv, of_decide_eq_true he⟩)
    refine wpAny_updateDictKeys (hz := hes) ho hd (hQ _ ⟨_, _, ep + 1, Heap.get?_update_self _ ho (Obj.isFreed_of_dict (Obj.data_mapDictKeys hd _)),
      hc.mapDictKeys _, Obj.data_mapDictKeys hd _, hk.push hkey _, ?_, ?_⟩ (Heap.SameBut.update ..))
    · rw [stored, if_neg hany]
      have := hp.append hkey (knd.hash k) v
      obtain ⟨l⟩ := es
      simpa using this
    · rw [stored, if_neg hany, List.map_append, List.nodup_append]
      refine ⟨hn, by simp, ?_⟩
      intro a ha b hb
      simp only [List.map_cons, List.map_nil, List.mem_singleton] at hb
      subst hb
      exact fun e => hnot (e ▸ ha)

theorem forIn_inv {α : Type} (f : α → PUnit → Sem (ForInStep PUnit)) (J : List α → Shared → Prop) (hf : ∀ (x : α) (rest : List α) (s : Shared), J (x :: rest) s → wpAny (model prog w) A (f x PUnit.unit) (fun r s' => r = .yield PUnit.unit ∧ J rest s') E s) :
    ∀ (l : List α) (s : Shared) (Q : PUnit → Shared → Prop), J l s → (∀ s', J [] s' → Q PUnit.unit s') → wpAny (model prog w) A (forIn l PUnit.unit f) Q E s
  | [], s, Q, h, q => by
    rw [List.forIn_nil]
    exact wpAny_pure (q s h)
  | x :: l, s, Q, h, q => by
    rw [List.forIn_cons]
    refine wpAny_bind (wpAny_mono (hf x l s h) (fun r s' h' => ?_) fun _ _ e => e)
    obtain ⟨rfl, h'⟩ := h'
    exact forIn_inv f J hf l s' Q h' q
theorem merged_snoc (acc kvs : List (K × Value)) (p : K × Value) : merged acc (kvs ++ [p]) = stored (merged acc kvs) p.1 p.2 := by
  simp [merged]
theorem merged_len : ∀ (kvs acc : List (K × Value)), (merged acc kvs).length ≤ acc.length + kvs.length
  | [], acc => by simp [merged]
  | p :: kvs, acc => by
    have h1 := merged_len kvs (stored acc p.1 p.2)
    have h2 := stored_length_le acc p.1 p.2
    have e : merged acc (p :: kvs) = merged (stored acc p.1 p.2) kvs := rfl
    rw [e, List.length_cons]; omega
theorem Pairs.at {es : List DictEntry} {kvs : List (K × Value)} (h : Pairs knd es kvs) : ∀ {i : Nat} {e : DictEntry}, es[i]? = some e → ∃ p, kvs[i]? = some p ∧ knd.is p.1 e.key = true ∧ e.val = p.2 := by
  induction h with
  | nil => intro i e h; simp at h
  | @cons e kv es kvs h1 h2 _ ih =>
    intro i e' h
    cases i with
    | zero =>
      have h := Option.some.inj (show some _ = some e' from h)
      subst h
      exact ⟨kv, rfl, h1, h2⟩
    | succ i => exact ih (i := i) (by simpa using h)
theorem merge_pairs {d a : Addr} {acc kvs : List (K × Value)} {Q : Unit → Shared → Prop} (hd : s.heap.DictOf knd d acc) (ha : s.heap.DictOf knd a kvs) (hne : a ≠ d) (hsys : (a == sysModules) = false) (h0 : acc ≠ []) (hsz : acc.length + kvs.length ≤ sizeLine)
    (hQ : ∀ h', h'.DictOf knd d (merged acc kvs) → Heap.SameBut d s.heap h' → Q () { s with heap := h' }) :
    wpAny (model prog w) A (mergeMapping d (.ref a) false) Q E s := by
  obtain ⟨od, esd, epd, hod, hcd, hdd, hkd, hpd, hnd⟩ := id hd
  obtain ⟨o, es, ep, ho, hc, hdt, hk, hp, hn⟩ := id ha
  have hT : s.TypeIs (.ref a) "dict" := ⟨o, ho, hc.1⟩
  unfold mergeMapping
  refine wpAny_bind (wpAny_isInstance (b := true) hT isSubtype_dict_dict ?_)
  rw [if_pos rfl]
  refine wpAny_bind (wpAny_specialOf hT F.slot_dict_iter.lookup ?_)
  refine wpAny_bind (wpAny_pure ?_)
  simp only [beq_self_eq_true]
  show wpAny _ _ (ite ((a == sysModules) = true) _ _) _ _ _
  rw [if_neg (by rw [hsys]; exact Bool.false_ne_true)]
  refine wpAny_bind (wpAny_dictEntries hod hdd ?_)
  have hed : esd.isEmpty = false := by
    cases h : esd.isEmpty with
    | false => rfl
    | true =>
      have h1 : esd = #[] := Array.isEmpty_iff.mp h
      have h2 := hpd.length
      rw [h1] at h2
      exact absurd (List.length_eq_zero_iff.mp (by simpa using h2.symm)) h0
  simp only [hed, Bool.false_eq_true, if_false]
  refine wpAny_bind (wpAny_dictEntries ho hdt ?_)
  refine wpAny_bind (wpAny_dictEpoch ho hdt ?_)
  have hlen : es.size = kvs.length := by have := hp.length; simpa using this
  refine wpAny_bind ?_
  refine forIn_inv _ (fun rest s' => ∃ h' i, s' = { s with heap := h' } ∧ rest = List.range' i (es.size - i) ∧ i ≤ es.size ∧ h'.DictOf knd d (merged acc (kvs.take i)) ∧ h'.get? a = some o ∧ Heap.SameBut d s.heap h') ?_ _ _ _ ⟨s.heap, 0, rfl, by simp [List.range_eq_range'], Nat.zero_le _, by simpa [merged] using hd, ho, Heap.SameBut.refl _ _⟩ ?_
  · rintro x rest s' ⟨h', i, rfl, hr, hi, hd', ho', hs'⟩
    have hlt : i < es.size := by
      rcases Nat.lt_or_ge i es.size with h | h
      · exact h
      · rw [Nat.sub_eq_zero_of_le h] at hr; simp at hr
    obtain ⟨rfl, hrest⟩ : x = i ∧ rest = List.range' (i + 1) (es.size - (i + 1)) := by
      have e : es.size - i = (es.size - (i + 1)) + 1 := by omega
      rw [e, List.range'_succ] at hr
      injection hr with h1 h2
      exact ⟨h1, h2⟩
    refine wpAny_bind (wpAny_dictEntries ho' hdt ?_)
    rw [Array.getElem?_eq_getElem hlt]
    obtain ⟨⟨k, v⟩, hkv, hkey, hval⟩ := Pairs.at hp (i := x) (e := es[x]) (by simp [hlt])
    obtain ⟨k', hkey', hhash⟩ := hk es[x] (Array.getElem_mem hlt)
    obtain rfl : k' = k := knd.inj _ _ _ hkey' hkey
    have hval : es[x].val = v := hval
    simp only [Bool.false_eq_true, if_false]
    show wpAny _ _ (holding [es[x].key, es[x].val] (dictPut d es[x].hash es[x].key es[x].val) >>= _) _ _ _
    rw [hhash, hval]
    have hmx : (merged acc (kvs.take x)).length ≤ sizeLine := by
      have e1 := merged_len (kvs.take x) acc
      have e2 : (kvs.take x).length ≤ kvs.length := by rw [List.length_take]; omega
      omega
    refine wpAny_bind (wpAny_holding (dictPut_pairs hkey hd' (fun h'' hd'' hs'' => ?_) hmx))
    have ho'' : h''.get? a = some o := (hs''.2 a hne).trans ho'
    refine wpAny_bind (wpAny_dictEpoch ho'' hdt ?_)
    rw [if_neg (by simp)]
    exact wpAny_pure ⟨rfl, h'', x + 1, rfl, hrest, hlt, by rw [merged_take_succ acc kvs x (k', v) hkv]; exact hd'', ho'', hs'.trans hs''⟩
  · rintro s' ⟨h', i, rfl, hr, hi, hd', ho', hs'⟩
    have hin : i = es.size := by
      rcases Nat.lt_or_ge i es.size with h | h
      · have e : es.size - i = (es.size - (i + 1)) + 1 := by omega
        rw [e, List.range'_succ] at hr; exact nomatch hr
      · exact Nat.le_antisymm hi h
    refine wpAny_pure (hQ h' ?_ hs')
    rw [hin, hlen, List.take_length] at hd'; exact hd'
end
end G

set_option Elab.async false
set_option linter.all false
set_option maxRecDepth 100000
set_option maxHeartbeats 8000000
/-! G14: dict displays. -/
namespace G
open PySem PySem.Spec PyProof.Rows L2

/-! ### the pairs that go straight in -/
def tLong (p : Addr) : List (TE × TE) → St → Hp → (Hp → Prop) → Prop
  | [], _, H, Q => Q H
  | (tk, tv) :: r, σ, H, Q => tk σ H fun x H1 => tv σ H1 fun y H2 => ∃ acc k, H2 p = some (.dK acc) ∧ x = kV k ∧ acc.length < sizeLine ∧ tLong p r σ (upd H2 p (.dK (putK acc k y))) Q
def longStep (d : Addr) (x : Itm) (_ : PUnit) : Sem (ForInStep PUnit) := do
  let kv ← x.1
  let vv ← holding [kv] x.2
  holding [kv, vv] (dictSet d kv vv)
  pure (.yield PUnit.unit)
theorem subDict_long {pairs : List Itm} (h : 15 < pairs.length) : subDict pairs = (do
    let d ← alloc { cls := .type "dict", data := .dict #[] }
    holding [.ref d] (do rule "dict.display.long"; let _ ← forIn pairs PUnit.unit (longStep d); pure ())
    pure d) := by
  unfold subDict
  congr 1
  funext d
  simp only [show ¬ pairs.length ≤ 15 by omega, if_false]
  rfl
structure PLs (X : Cx) (pos : Pos) (keys : List (Option Expr)) (values : List Expr) (trs : List (TE × TE)) : Prop where
  run : ∀ (pins : List (Addr × Obj)) (s : Shared) (σ : St) (H : Hp) (p : Addr) (Q : Hp → Prop), Inv X pins σ H s → tLong p trs σ H Q →
    wpAny (model X.prog X.w) X.A (forIn (pairTrees keys values X.env pos) PUnit.unit (longStep p)) (fun _ s' => ∃ H', Inv X pins σ H' s' ∧ Q H') X.xe s
theorem pls_nil {X : Cx} {pos : Pos} : PLs X pos [] [] [] := ⟨fun pins s σ H p Q I h => by
  show wpAny _ _ (forIn [] _ _) _ _ _
  rw [List.forIn_nil]
  exact wpAny_pure ⟨H, I, h⟩⟩
theorem pls_cons {X : Cx} {pos : Pos} {k v : Expr} {ks : List (Option Expr)} {vs : List Expr} {tk tv : TE} {trs : List (TE × TE)} (hk : PE X k tk) (hv : PE X v tv) (hr : PLs X pos ks vs trs) :
    PLs X pos (some k :: ks) (v :: vs) ((tk, tv) :: trs) := ⟨fun pins s σ H p Q I h => by
  show wpAny _ _ (forIn ((eval k X.env, do let x ← eval v X.env; standAt pos; pure x) :: pairTrees ks vs X.env pos) _ _) _ _ _
  rw [List.forIn_cons]
  refine wpAny_bind ?_
  unfold longStep
  refine wpAny_bind (thn (hk.run pins s σ H _ I h) fun u s1 ⟨x, H1, I1, rx, q1⟩ => ?_)
  refine wpAny_bind (wpAny_holding (wpAny_bind (thn (hv.run pins s1 σ H1 _ I1 q1) fun w2 s2 ⟨y, H2, I2, ry, acc, kk, e, ek, hl, q2⟩ => ?_)))
  refine wpAny_bind (wpAny_standAt (wpAny_pure ?_))
  subst ek
  obtain ⟨z, hd, vs0, rel, dd⟩ := dk_of I2.hok e
  have hz : vs0.length ≤ sizeLine := by rw [← rel.length]; exact z
  have hl2 : (putK acc kk y).length ≤ sizeLine := by have := length_putK acc kk y; omega
  refine wpAny_bind (wpAny_holding (wpAny_dictSet_pairs (hsz := hz) (kV_is rx) dd fun h' dd' hs => ?_))
  have he : ∃ q, h'.get? p = some q := let ⟨q, _, _, hq, _⟩ := dd'; ⟨q, hq⟩
  have I3 := d_write (t' := s2.toks + 1) I2 (ob := .dK (putK acc kk y)) (by rw [e]; exact True.intro) hs he (dk_new hl2 hd (rel.put kk ry) dd')
  refine wpAny_pure ?_
  exact hr.run pins _ σ _ p Q I3 q2⟩
def tDisp2 (t1 t2 : List (TE × TE)) : TE := fun σ H Q => ∀ p, H p = none → tLong p t1 σ (upd H p (.dK [])) fun H1 => ∀ p2, H1 p2 = none → tPairs t2 σ (upd H1 p2 (.dK [])) fun ps H2 =>
  ∃ (acc kvs : List (Key × V)), H2 p = some (.dK acc) ∧ acc ≠ [] ∧ H2 p2 = some (.dK []) ∧ ps = kvs.map (fun kv => (kV kv.1, kv.2)) ∧ kvs.length ≤ 15 ∧ acc.length + kvs.length ≤ sizeLine ∧
    Q (.ref p) (upd (upd H2 p2 (.dK (mergeK [] kvs))) p (.dK (mergeK acc (mergeK [] kvs))))
theorem pe_disp2 {X : Cx} {pos : Pos} {keys k1 k2 : List (Option Expr)} {values v1 v2 : List Expr} {t1 t2 : List (TE × TE)} (h1 : PLs X pos k1 v1 t1) (h2 : PPs X pos k2 v2 t2) (hall : keys.all (·.isSome) = true) (hl : keys.length = values.length)
    (hs : pairTrees keys values X.env pos = pairTrees k1 v1 X.env pos ++ pairTrees k2 v2 X.env pos) (n1 : (pairTrees k1 v1 X.env pos).length = 17) (n2 : (pairTrees k2 v2 X.env pos).length ≤ 15) (n3 : pairTrees k2 v2 X.env pos ≠ []) :
    PE X (.Dict keys values pos) (tDisp2 t1 t2) := by
  refine ⟨fun pins s σ H Q I q => ?_⟩
  rw [arm_eval_Dict, zip_pairTrees keys values X.env pos hall hl, hs]
  generalize hA : pairTrees k1 v1 X.env pos = a at n1
  generalize hB : pairTrees k2 v2 X.env pos = b at n2 n3
  obtain ⟨a', pp, rfl⟩ : ∃ a' pp, a = a' ++ [pp] := ⟨a.dropLast, a.getLast (by intro z; rw [z] at n1; simp at n1), (List.dropLast_concat_getLast _).symm⟩
  have ha' : a'.length = 16 := by simpa using n1
  rw [List.append_assoc, List.singleton_append, display2 a' b pp ha' n3 (by omega)]
  refine wpAny_bind (wpAny_standAt ?_)
  rw [subDict_long (by simp; omega)]
  have hn := I.hok.fresh (Nat.le_refl s.heap.objs.size)
  have I1 := I.laid (a := s.heap.objs.size) (o := .dK []) (h' := s.heap.push { cls := .type "dict", data := .dict #[] }) (t' := s.toks) (fun _ _ q => Heap.get?_push_of_some _ q) (Nat.le_refl _) (dk_empty s.heap I.big)
  refine wpAny_bind (wpAny_bind (wpAny_alloc (wpAny_bind (wpAny_holding (wpAny_bind (wpAny_rule (wpAny_bind ?_)))))))
  have r1 := h1.run pins _ σ _ s.heap.objs.size _ I1 (q _ hn)
  rw [hA] at r1
  refine thn r1 fun _ s1 ⟨H1, J1, q1⟩ => wpAny_pure (wpAny_pure ?_)
  refine wpAny_bind (wpAny_holding ?_)
  have hn2 := J1.hok.fresh (Nat.le_refl s1.heap.objs.size)
  have J2 := J1.laid (a := s1.heap.objs.size) (o := .dK []) (h' := s1.heap.push { cls := .type "dict", data := .dict #[] }) (t' := s1.toks) (fun _ _ q => Heap.get?_push_of_some _ q) (Nat.le_refl _) (dk_empty s1.heap J1.big)
  have r2 := h2.run pins _ σ _ _ J2 (q1 _ hn2)
  rw [hB] at r2
  refine wpAny_subDict (knd := mixKind X.prog X.w) n2 (thn r2 fun ws s2 ⟨ps, H2, J3, rel, acc, kvs, e1, ne, e2, ep, lk, lz, q2⟩ => ?_)
  subst ep
  obtain ⟨rs, c, rk⟩ := carries_of (P := X.prog) (w := X.w) rel
  obtain ⟨z, hd, vs0, r0, dd⟩ := dk_of J3.hok e2
  cases r0
  refine ⟨rs, c, dd, fun h' dd' hs => ?_⟩
  have hz : (mergeK [] kvs).length ≤ sizeLine := by
    have h1 := length_mergeK kvs []
    rw [List.length_nil] at h1
    rw [sizeLine_eq]; omega
  have he : ∃ q, h'.get? s1.heap.objs.size = some q := let ⟨q, _, _, hq, _⟩ := dd'; ⟨q, hq⟩
  have J4 := d_write (t' := s2.toks + ws.length) J3 (by rw [e2]; exact True.intro) hs he (dk_new hz hd (rk.merge .nil) dd')
  have hne : s1.heap.objs.size ≠ s.heap.objs.size := fun z => by
    rw [z] at hn2
    rw [z] at e2
    rw [e2] at e1
    cases e1
    exact ne rfl
  have e1' : upd H2 s1.heap.objs.size (.dK (mergeK [] kvs)) s.heap.objs.size = some (.dK acc) := by rw [upd_ne hne.symm]; exact e1
  obtain ⟨z3, hd3, vs3, r3, dd3⟩ := dk_of J4.hok e1'
  refine wpAny_bind (wpAny_onRaise (wpAny_holding ?_))
  have lm : (mergeK [] kvs).length ≤ kvs.length := by have := length_mergeK kvs []; simpa using this
  have lr : (merged [] rs).length = (mergeK [] kvs).length := ((rk.merge .nil).length).symm
  refine merge_pairs (knd := mixKind X.prog X.w) dd3 dd' hne hd ?_ ?_ fun h'' dd'' hs'' => ?_
  · intro z
    subst z
    cases r3
    exact ne rfl
  · rw [lr, ← r3.length]; omega
  have he2 : ∃ q, h''.get? s.heap.objs.size = some q := let ⟨q, _, _, hq, _⟩ := dd''; ⟨q, hq⟩
  have l2 : (mergeK acc (mergeK [] kvs)).length ≤ sizeLine := by have := length_mergeK (mergeK [] kvs) acc; omega
  have J5 := d_write (t' := s2.toks + ws.length) J4 (by rw [e1']; exact True.intro) hs'' he2 (dk_new l2 hd3 ((rk.merge .nil).merge r3) dd'')
  exact wpAny_pure ⟨.ref _, _, J5, rfl, q2⟩
end G

set_option Elab.async false
set_option linter.all false
set_option maxRecDepth 100000
set_option maxHeartbeats 8000000
/-! G15: dict displays as readings. -/
namespace G
open PySem PySem.Spec PyProof.Rows L2

abbrev RPs := Sl → Sto → (List (Key × Xv) → Sto → Prop) → Prop
def keyX : Xv → Option Key
  | .d d => keyOf d
  | .c _ => none
def rpNil : RPs := fun _ M P => P [] M
def rpCons (rk rv : RE) (rr : RPs) : RPs := fun σ M P => rk σ M fun x M1 => rv σ M1 fun y M2 => ifS (keyX x) fun k => rr σ M2 fun kvs M3 => P ((k, y) :: kvs) M3
def mergeX (acc kvs : List (Key × Xv)) : List (Key × Xv) := kvs.foldl (fun a kv => putX a kv.1 kv.2) acc
def SndP (K : PySem.W.Frag) (trs : List (TE × TE)) (rp : RPs) : Prop := ∀ (W : Wd) (M : Sto) (H : Hp) (σ : St) (σx : Sl) (P : List (Key × Xv) → Sto → Prop) (Q : List (V × V) → Hp → Prop), InvS K W M H → Slr K W σ σx → rp σx M P →
  (∀ W' M' H' vs kvs, W.le W' → InvS K W' M' H' → KVX K W' vs kvs → P kvs M' → Q (vs.map fun kv => (kV kv.1, kv.2)) H') → tPairs trs σ H Q
def SndL (K : PySem.W.Frag) (trs : List (TE × TE)) (rp : RPs) : Prop := ∀ (W : Wd) (M : Sto) (H : Hp) (σ : St) (σx : Sl) (D : Addr) (va : List (Key × V)) (acc : List (Key × Xv)) (P : List (Key × Xv) → Sto → Prop) (Q : Hp → Prop), W.G D = some (.dK va) → InvS K W M H → Slr K W σ σx →
  KVX K W va acc → va.length + trs.length ≤ sizeLine → rp σx M (fun kvs M' => P (mergeX acc kvs) M') →
  (∀ W' M' H' va' acc', W.lf W' → (∃ u, W'.G = upd W.G D u) → W'.G D = some (.dK va') → InvS K W' M' H' → KVX K W' va' acc' → va'.length ≤ va.length + trs.length → P acc' M' → Q H') → tLong D trs σ H Q
def SPs (X : Cx) (pos : Pos) (keys : List (Option Expr)) (values : List Expr) (rp : RPs) : Prop := ∃ trs, trs.length = keys.length ∧ PPs X pos keys values trs ∧ PLs X pos keys values trs ∧ SndP X.K trs rp ∧ SndL X.K trs rp
theorem keyX_ok {K : PySem.W.Frag} {W : Wd} {v : V} {x : Xv} {k : Key} (h : VX K W v x) (e : keyX x = some k) : v = kV k := by
  cases x with
  | d d =>
    have ed := keyOf_of (show keyOf d = some k from e)
    subst ed
    exact keyV (F := W.F) h
  | c i => cases e
theorem upd_self {H : Hp} {a : Addr} {o : HO} (h : H a = some o) : upd H a o = H := by
  funext b
  unfold upd
  split
  · rename_i e; rw [e, h]
  · rfl
section
variable {X : Cx} {pos : Pos}
theorem sps_nil : SPs X pos [] [] rpNil := ⟨[], rfl, pps_nil, pls_nil, fun W M H σ σx P Q I S h q => q W M H [] [] (.refl W) I .nil h, fun W M H σ σx D va acc P Q g I S kx hl h q => q W M H va acc (.refl W) ⟨.dK va, (upd_self g).symm⟩ g I kx (Nat.le_add_right _ _) h⟩
theorem sps_cons {k v : Expr} {ks : List (Option Expr)} {vs : List Expr} {rk rv : RE} {rr : RPs} (hk : SE X k rk) (hv : SE X v rv) (hr : SPs X pos ks vs rr) : SPs X pos (some k :: ks) (v :: vs) (rpCons rk rv rr) := by
  obtain ⟨tk, pk, sk⟩ := hk
  obtain ⟨tv, pv, sv⟩ := hv
  obtain ⟨trs, ln, p1, p2, s1, s2⟩ := hr
  refine ⟨(tk, tv) :: trs, by simp [ln], pps_cons pk pv p1, pls_cons pk pv p2, fun W M H σ σx P Q I S h q => ?_, fun W M H σ σx D va acc P Q g I S kx hl h q => ?_⟩
  · refine sk W M H σ σx _ _ I S h fun W1 M1 H1 x xx l1 I1 v1 h1 => ?_
    refine sv W1 M1 H1 σ σx _ _ I1 (S.le l1) h1 fun W2 M2 H2 y yx l2 I2 v2 h2 => ?_
    obtain ⟨kk, e, h2⟩ := ifS_of h2
    refine s1 W2 M2 H2 σ σx _ _ I2 (S.le (l1.trans l2)) h2 fun W3 M3 H3 us kvs l3 I3 v3 h3 => ?_
    have := keyX_ok v1 e
    subst this
    exact q W3 M3 H3 ((kk, y) :: us) ((kk, yx) :: kvs) (l1.trans (l2.trans l3)) I3 (.cons ⟨rfl, v2.le l3⟩ v3) h3
  · rw [List.length_cons] at hl
    refine sk W M H σ σx _ _ I S h fun W1 M1 H1 x xx l1 I1 v1 h1 => ?_
    refine sv W1 M1 H1 σ σx _ _ I1 (S.le l1) h1 fun W2 M2 H2 y yx l2 I2 v2 h2 => ?_
    obtain ⟨kk, e, h2⟩ := ifS_of h2
    have l12 := l1.trans l2
    have g2 : W2.G D = some (.dK va) := by rw [l12.g]; exact g
    refine ⟨va, kk, I2.sg _ _ g2, keyX_ok v1 e, by omega, ?_⟩
    have I3 := I2.reguard (u' := .dK (putK va kk y)) g2
    have l3 : W2.lf ⟨W2.θ, W2.F, upd W2.G D (.dK (putK va kk y))⟩ := ⟨fun _ _ z => z, SameR.refl _⟩
    have kx3 : KVX X.K W2 (putK va kk y) (putX acc kk yx) := KVX.put (kx.le l12) v2
    refine s2 _ M2 _ σ σx D (putK va kk y) (putX acc kk yx) P Q upd_same I3 ((S.le l12).lf l3) (kx3.lf l3) (by have := length_putK va kk y; omega) h2 fun W4 M4 H4 va4 acc4 l4 ⟨u, g4⟩ e4 I4 k4 n4 h4 => ?_
    refine q W4 M4 H4 va4 acc4 (l12.tolf.trans (l3.trans l4)) ⟨u, ?_⟩ e4 I4 k4 (by rw [List.length_cons]; have := length_putK va kk y; omega) h4
    rw [g4]
    show upd (upd W2.G D _) D u = _
    rw [upd_upd, l12.g]
/-- a dict as a cell -/
def rDic (rp : RPs) : RE := fun σ M P => rp σ M fun kvs M1 => kvs.length ≤ 15 ∧ P (.c M1.length) (M1 ++ [.dic (mergeX [] kvs)])
def rDic2 (r1 r2 : RPs) : RE := fun σ M P => r1 σ M fun k1 M1 => mergeX [] k1 ≠ [] ∧ r2 σ M1 fun k2 M2 => k2.length ≤ 15 ∧ P (.c M2.length) (M2 ++ [.dic (mergeX (mergeX [] k1) (mergeX [] k2))])
def rDicE : RE := fun _ M P => P (.c M.length) (M ++ [.dic []])
theorem KVX.merge {K : PySem.W.Frag} {W : Wd} {vs : List (Key × V)} {xs : List (Key × Xv)} (h : KVX K W vs xs) : ∀ {va : List (Key × V)} {acc : List (Key × Xv)}, KVX K W va acc → KVX K W (mergeK va vs) (mergeX acc xs) := by
  unfold KVX at h
  induction h with
  | nil => intro va acc q; exact q
  | @cons p x ps xs h t ih =>
    intro va acc q
    have e : KVX K W (putK va p.1 p.2) (putX acc x.1 x.2) := by rw [← h.1]; exact KVX.put q h.2
    exact ih e
theorem se_dicE : SE X (.Dict [] [] pos) rDicE := by
  refine ⟨_, pe_dnewK, fun W M H σ σx P Q I S h q => fun p hp => ?_⟩
  obtain ⟨I1, L1⟩ := I.loose hp (.dK [])
  obtain ⟨I2, l2, x2⟩ := I1.adoptCell L1 (o := .dic []) fun W' l' f' => ⟨f', [], L1.at_, .nil⟩
  exact q _ _ _ _ _ l2 I2 x2 h
theorem se_dic {keys : List (Option Expr)} {values : List Expr} {rp : RPs} (h : SPs X pos keys values rp) (hall : keys.all (·.isSome) = true := by rfl) (hl : keys.length = values.length := by rfl) (h0 : keys ≠ [] := by nofun) (h15 : keys.length ≤ 15 := by decide) : SE X (.Dict keys values pos) (rDic rp) := by
  obtain ⟨trs, ln, p1, _, s1, _⟩ := h
  refine ⟨_, pe_disp p1 hall hl h0 h15, fun W M H σ σx P Q I S h q => fun p hp => ?_⟩
  have I1 := I.guard (u := .dK []) hp
  have l1 : W.lf ⟨W.θ, W.F, upd W.G p (.dK [])⟩ := ⟨fun _ _ z => z, SameR.refl _⟩
  refine s1 _ M _ σ σx _ _ I1 (S.lf l1) h fun W2 M2 H2 us kvs l2 I2 v2 h2 => ?_
  have g2 : W2.G p = some (.dK []) := by rw [l2.g]; exact upd_same
  have e2 : H2 p = some (.dK []) := I2.sg _ _ g2
  refine ⟨e2, us, rfl, by rw [KVX.length v2]; exact h2.1, ?_⟩
  have I3 := I2.reguard (u' := .dK (mergeK [] us)) g2
  have I4 := I3.dropG (G0 := W.G) (fun b o e => by
    have hne : b ≠ p := fun z => by subst z; rw [(I.fresh hp).2.1] at e; cases e
    show upd W2.G p _ b = some o
    rw [upd_ne hne, l2.g]
    show upd W.G p _ b = some o
    rw [upd_ne hne]; exact e)
  have f2 : W2.F p = none := (I2.fg p).resolve_right (by rw [g2]; nofun)
  have t2 : p ∉ W2.θ := fun z => by rw [I2.tg p z] at g2; cases g2
  have L4 : Loose ⟨W2.θ, W2.F, W.G⟩ (upd H2 p (.dK (mergeK [] us))) p (.dK (mergeK [] us)) := ⟨upd_same, f2, (I.fresh hp).2.1, t2⟩
  have l4 : W.le ⟨W2.θ, W2.F, W.G⟩ := ⟨⟨fun i a z => l2.th i a z, l2.f⟩, rfl⟩
  have kx : KVX X.K ⟨W2.θ, W2.F, W.G⟩ (mergeK [] us) (mergeX [] kvs) := (KVX.merge v2 .nil).lf ⟨fun _ _ z => z, SameR.refl _⟩
  obtain ⟨I5, l5, x5⟩ := I4.adoptCell L4 (o := .dic (mergeX [] kvs)) fun W' l' f' => ⟨f', _, L4.at_, kx.le l'⟩
  exact q _ _ _ _ _ (l4.trans l5) I5 x5 h2.2
theorem pairTrees_len {keys : List (Option Expr)} {values : List Expr} (env : Env) (hall : keys.all (·.isSome) = true) (hl : keys.length = values.length) : (pairTrees keys values env pos).length = keys.length := pairTrees_length keys values env pos hall hl
theorem se_dic2 {keys k1 k2 : List (Option Expr)} {values v1 v2 : List Expr} {r1 r2 : RPs} (h1 : SPs X pos k1 v1 r1) (h2 : SPs X pos k2 v2 r2) (hs : pairTrees keys values X.env pos = pairTrees k1 v1 X.env pos ++ pairTrees k2 v2 X.env pos := by rfl)
    (hall : keys.all (·.isSome) = true := by rfl) (hl : keys.length = values.length := by rfl) (ha1 : k1.all (·.isSome) = true := by rfl) (hl1 : k1.length = v1.length := by rfl) (ha2 : k2.all (·.isSome) = true := by rfl) (hl2 : k2.length = v2.length := by rfl)
    (n1 : k1.length = 17 := by rfl) (n2 : k2.length ≤ 15 := by decide) (n3 : k2 ≠ [] := by nofun) : SE X (.Dict keys values pos) (rDic2 r1 r2) := by
  obtain ⟨t1, ln1, _, p1, _, s1⟩ := h1
  obtain ⟨t2, ln2, p2, _, s2, _⟩ := h2
  have e1 := pairTrees_length k1 v1 X.env pos ha1 hl1
  have e2 := pairTrees_length k2 v2 X.env pos ha2 hl2
  refine ⟨_, pe_disp2 p1 p2 hall hl hs (e1.trans n1) (by omega) (fun z => n3 (List.length_eq_zero_iff.mp (by rw [← e2, z]; rfl))), fun W M H σ σx P Q I S h q => fun p hp => ?_⟩
  have hz := sizeLine_eq
  have I1 := I.guard (u := .dK []) hp
  have l1 : W.lf ⟨W.θ, W.F, upd W.G p (.dK [])⟩ := ⟨fun _ _ z => z, SameR.refl _⟩
  refine s1 _ M _ σ σx p [] [] (fun a M1 => a ≠ [] ∧ r2 σx M1 fun k2 M2 => k2.length ≤ 15 ∧ P (.c M2.length) (M2 ++ [Ob.dic (mergeX a (mergeX [] k2))])) _ upd_same I1 (S.lf l1) .nil (by rw [ln1, n1]; simp; omega) (show rDic2 r1 r2 σx M P from h) fun W2 M2 H2 va acc l2 ⟨u2, g2⟩ gp I2 kx nv h2 => ?_
  intro pp hpp
  have hne : pp ≠ p := fun z => by
    subst z
    rw [I2.sg _ _ gp] at hpp; cases hpp
  have J1 := I2.guard (u := .dK []) hpp
  have m1 : W2.lf ⟨W2.θ, W2.F, upd W2.G pp (.dK [])⟩ := ⟨fun _ _ z => z, SameR.refl _⟩
  have l12 : W.lf ⟨W2.θ, W2.F, upd W2.G pp (.dK [])⟩ := (l1.trans l2).trans m1
  refine s2 _ M2 _ σ σx _ _ J1 (S.lf l12) h2.2 fun W3 M3 H3 us kvs l3 I3 v3 h3 => ?_
  have g3 : W3.G = upd W2.G pp (.dK []) := l3.g
  have gp3 : W3.G p = some (.dK va) := by rw [g3, upd_ne hne.symm]; exact gp
  have gq3 : W3.G pp = some (.dK []) := by rw [g3, upd_same]
  have kl : us.length ≤ 15 := by rw [KVX.length v3]; exact h3.1
  have nv' : va.length ≤ 17 := by have := nv; rw [ln1, n1] at this; simpa using this
  refine ⟨va, us, I3.sg _ _ gp3, fun z => ?_, I3.sg _ _ gq3, rfl, kl, by omega, ?_⟩
  · subst z
    have : acc = [] := by cases kx; rfl
    exact h2.1 this
  have I4 := I3.reguard (u' := .dK (mergeK [] us)) gq3
  have I5 := I4.reguard (D := p) (u := .dK va) (u' := .dK (mergeK va (mergeK [] us))) (by show upd W3.G pp _ p = _; rw [upd_ne hne.symm]; exact gp3)
  have gW : ∀ b o, W.G b = some o → b ≠ p ∧ b ≠ pp := fun b o e => by
    have hb : b ≠ p := fun z => by subst z; rw [(I.fresh hp).2.1] at e; cases e
    refine ⟨hb, fun z => ?_⟩
    have : W2.G b = some o := by
      rw [g2]
      show upd (upd W.G p _) p u2 b = some o
      rw [upd_ne hb, upd_ne hb]; exact e
    have e3 := I2.sg _ _ this
    subst z
    rw [hpp] at e3; cases e3
  have I6 := I5.dropG (G0 := W.G) (fun b o e => by
    obtain ⟨n1, n2⟩ := gW b o e
    show upd (upd W3.G pp _) p _ b = some o
    rw [upd_ne n1, upd_ne n2, g3, upd_ne n2, g2]
    show upd (upd W.G p _) p u2 b = some o
    rw [upd_ne n1, upd_ne n1]; exact e)
  have f3 : W3.F p = none := (I3.fg p).resolve_right (by rw [gp3]; nofun)
  have t3 : p ∉ W3.θ := fun z => by rw [I3.tg p z] at gp3; cases gp3
  have L6 : Loose ⟨W3.θ, W3.F, W.G⟩ (upd (upd H3 pp (.dK (mergeK [] us))) p (.dK (mergeK va (mergeK [] us)))) p (.dK (mergeK va (mergeK [] us))) := ⟨upd_same, f3, (I.fresh hp).2.1, t3⟩
  have lW : W.le ⟨W3.θ, W3.F, W.G⟩ := ⟨⟨fun i a z => l3.th i a (l12.th i a z), l12.f.trans l3.f⟩, rfl⟩
  have kx3 : KVX X.K ⟨W3.θ, W3.F, W.G⟩ (mergeK va (mergeK [] us)) (mergeX acc (mergeX [] kvs)) :=
    (KVX.merge (KVX.merge v3 .nil) ((kx.lf m1).le l3)).lf ⟨fun _ _ z => z, SameR.refl _⟩
  obtain ⟨I7, l7, x7⟩ := I6.adoptCell L6 (o := .dic (mergeX acc (mergeX [] kvs))) fun W' l' f' => ⟨f', _, L6.at_, kx3.le l'⟩
  exact q _ _ _ _ _ (lW.trans l7) I7 x7 h3.2
end
end G

set_option Elab.async false
set_option linter.all false
set_option maxRecDepth 100000
set_option maxHeartbeats 8000000
/-! G16: a block's scope, looked at by a computation. -/
namespace G
open PySem PySem.Spec PyProof.Rows L2
def blkB (N : List Str) (sc scope : Scope) (own : List (Str × Nat)) : Bool :=
  decide (scope.kind = .function) && (scope.names.all fun y => decide (scope.names.lookup y.1 = some y.2)) && (own.all fun p => decide (N[p.2]? = some p.1)) &&
  (scope.names.all fun y => !decide (y.2 = .free) || decide (sc.names.lookup y.1 = some .cell) || decide (sc.names.lookup y.1 = some .free)) &&
  (scope.names.all fun y => !(decide (y.2 = .local) || decide (y.2 = .cell)) || ((own.map (·.1)).any fun z => decide (z = y.1)) || !(N.any fun z => decide (z = y.1)))
theorem blkB_ok {N : List Str} {sc scope : Scope} {own : List (Str × Nat)} (h : blkB N sc scope own = true) : BlkOk N sc scope own := by
  unfold blkB at h
  simp only [Bool.and_eq_true, decide_eq_true_eq, List.all_eq_true, Bool.or_eq_true, Bool.not_eq_true', decide_eq_false_iff_not, Bool.or_eq_false_iff, List.any_eq_true, List.any_eq_false] at h
  obtain ⟨⟨⟨⟨h1, h2⟩, h3⟩, h4⟩, h5⟩ := h
  refine ⟨h1, h2, h3, fun y hy e => ?_, fun y hy e => ?_⟩
  · rcases h4 y hy with (z | z) | z
    · exact absurd e z
    · exact .inl z
    · exact .inr z
  · rcases h5 y hy with (z | ⟨x, hx, z⟩) | z
    · rcases e with e | e
      · exact absurd e z.1
      · exact absurd e z.2
    · exact .inl (z ▸ hx)
    · exact .inr fun hm => z _ hm rfl
/-- a display of 18 to 32 pairs, by its first seventeen and the others -/
theorem se_dic17 {X : Cx} {pos : Pos} {keys : List (Option Expr)} {values : List Expr} {r1 r2 : RPs} (h1 : SPs X pos (keys.take 17) (values.take 17) r1) (h2 : SPs X pos (keys.drop 17) (values.drop 17) r2)
    (hs : pairTrees keys values X.env pos = pairTrees (keys.take 17) (values.take 17) X.env pos ++ pairTrees (keys.drop 17) (values.drop 17) X.env pos := by rfl)
    (hall : keys.all (·.isSome) = true := by rfl) (hl : keys.length = values.length := by rfl) (n : 17 < keys.length := by decide) (n2 : keys.length ≤ 32 := by decide) : SE X (.Dict keys values pos) (rDic2 r1 r2) := by
  refine se_dic2 h1 h2 hs hall hl ?_ ?_ ?_ ?_ ?_ ?_ ?_
  · exact List.all_eq_true.mpr fun x hx => List.all_eq_true.mp hall x (List.mem_of_mem_take hx)
  · rw [List.length_take, List.length_take, hl]
  · exact List.all_eq_true.mpr fun x hx => List.all_eq_true.mp hall x (List.mem_of_mem_drop hx)
  · rw [List.length_drop, List.length_drop, hl]
  · rw [List.length_take]; omega
  · rw [List.length_drop]; omega
  · intro z
    have := congrArg List.length z
    rw [List.length_drop, List.length_nil] at this
    omega
end G

set_option Elab.async false
set_option linter.all false
set_option maxRecDepth 100000
set_option maxHeartbeats 8000000
/-! G17: reckoning with readings over data. -/
namespace G
open PySem PySem.Spec PyProof.Rows L2

theorem ifS_mk {α : Type} {o : Option α} {a : α} {P : α → Prop} (h : o = some a) (p : P a) : ifS o P := by rw [h]; exact p
theorem slot_z (x : Xv) (σ : Sl) : slot (some x :: σ) 0 = some x := rfl
theorem slot_s (a : Option Xv) (σ : Sl) (n : Nat) : slot (a :: σ) (n + 1) = slot σ n := rfl
theorem set_z {α : Type} (a b : α) (l : List α) : (a :: l).set 0 b = b :: l := rfl
theorem set_s {α : Type} (a b : α) (l : List α) (n : Nat) : (a :: l).set (n + 1) b = a :: l.set n b := rfl
theorem at0 {α : Type} (a : α) (l : List α) : atI (a :: l) 0 = some a := L2.atI_nat (j := 0) rfl
theorem at1 {α : Type} (a b : α) (l : List α) : atI (a :: b :: l) 1 = some b := L2.atI_nat (j := 1) rfl
theorem at2 {α : Type} (a b c : α) (l : List α) : atI (a :: b :: c :: l) 2 = some c := L2.atI_nat (j := 2) rfl
theorem at3 {α : Type} (a b c d : α) (l : List α) : atI (a :: b :: c :: d :: l) 3 = some d := L2.atI_nat (j := 3) rfl
theorem at4 {α : Type} (a b c d e : α) (l : List α) : atI (a :: b :: c :: d :: e :: l) 4 = some e := L2.atI_nat (j := 4) rfl
theorem at5 {α : Type} (a b c d e f : α) (l : List α) : atI (a :: b :: c :: d :: e :: f :: l) 5 = some f := L2.atI_nat (j := 5) rfl
theorem at6 {α : Type} (a b c d e f g : α) (l : List α) : atI (a :: b :: c :: d :: e :: f :: g :: l) 6 = some g := L2.atI_nat (j := 6) rfl
/-- a field of a dict -/
def lkD : List (PyData × PyData) → Str → Option PyData
  | [], _ => none
  | p :: r, k => if keyEq p.1 (.str k) then some p.2 else lkD r k
def fldD : PyData → Str → Option PyData
  | .dict kvs, k => lkD kvs k
  | _, _ => none
theorem dget_lk (kvs : List (PyData × PyData)) (k : Str) : dget (kvs.map fun p => (p.1, Xv.d p.2)) (.str k) = (lkD kvs k).map .d := by
  induction kvs with
  | nil => rfl
  | cons p r ih =>
    show (if keyEq p.1 (.str k) then some (Xv.d p.2) else dget (r.map fun p => (p.1, Xv.d p.2)) (.str k)) = (if keyEq p.1 (.str k) then some p.2 else lkD r k).map .d
    split
    · rfl
    · exact ih
theorem gIx_fld {s d : PyData} {k : Str} {M : Sto} {P : Xv → Sto → Prop} (h : fldD s k = some d) : gIx (.d s) (.d (.str k)) M P = P (.d d) M := by
  cases s with
  | dict kvs =>
    have h : lkD kvs k = some d := h
    show ifS (keyOf (.str k)) (fun _ => ifS (dget (kvs.map fun p => (p.1, Xv.d p.2)) (.str k)) fun z => P z M) = _
    rw [dget_lk, h]
    rfl
  | _ => cases h
theorem gIx_tup (ds : List PyData) (i : Int) (M : Sto) (P : Xv → Sto → Prop) : gIx (.d (.tuple ds)) (.d (.int i)) M P = ifS (atI (dX ds) i) fun z => P z M := rfl
theorem gIx_lst (ds : List PyData) (i : Int) (M : Sto) (P : Xv → Sto → Prop) : gIx (.d (.list ds)) (.d (.int i)) M P = ifS (atI (dX ds) i) fun z => P z M := rfl
theorem dX_c (d : PyData) (ds : List PyData) : dX (d :: ds) = .d d :: dX ds := rfl
theorem dX_n : dX [] = [] := rfl
theorem gEq_ii (i j : Int) (M : Sto) (P : Xv → Sto → Prop) : gEq (.d (.int i)) (.d (.int j)) M P = P (.d (.bool (decide (i = j)))) M := by
  show ((_ ∨ _) ∧ _) = _
  rw [show PyData.eqv (.int i) (.int j) = decide (i = j) by simp [PyData.eqv, Bool.beq_eq_decide_eq]]
  simp [scEq]
theorem gNe_ii (i j : Int) (M : Sto) (P : Xv → Sto → Prop) : gNe (.d (.int i)) (.d (.int j)) M P = P (.d (.bool (!decide (i = j)))) M := by
  show ((_ ∨ _) ∧ _) = _
  rw [show PyData.eqv (.int i) (.int j) = decide (i = j) by simp [PyData.eqv, Bool.beq_eq_decide_eq]]
  simp [scEq]
theorem eqv_str (a b : Str) : PyData.eqv (.str a) (.str b) = decide (a = b) := by
  simp only [PyData.eqv]
  by_cases h : a = b
  · subst h; simp
  · rw [decide_eq_false h]; simpa using h
theorem eqv_int (a b : Int) : PyData.eqv (.int a) (.int b) = decide (a = b) := by simp [PyData.eqv, Bool.beq_eq_decide_eq]
theorem gEq_ss (i j : Str) (M : Sto) (P : Xv → Sto → Prop) : gEq (.d (.str i)) (.d (.str j)) M P = P (.d (.bool (decide (i = j)))) M := by
  show ((_ ∨ _) ∧ _) = _
  rw [eqv_str]
  simp [scEq]
theorem gNe_ss (i j : Str) (M : Sto) (P : Xv → Sto → Prop) : gNe (.d (.str i)) (.d (.str j)) M P = P (.d (.bool (!decide (i = j)))) M := by
  show ((_ ∨ _) ∧ _) = _
  rw [eqv_str]
  simp [scEq]
theorem gAdd_ii (i j : Int) (M : Sto) (P : Xv → Sto → Prop) : gAdd (.d (.int i)) (.d (.int j)) M P = P (.d (.int (i + j))) M := rfl
theorem gSub_ii (i j : Int) (M : Sto) (P : Xv → Sto → Prop) : gSub (.d (.int i)) (.d (.int j)) M P = P (.d (.int (i - j))) M := by
  show (True ∧ _) = _
  simp
theorem gLt_ii (i j : Int) (M : Sto) (P : Xv → Sto → Prop) : gLt (.d (.int i)) (.d (.int j)) M P = P (.d (.bool (decide (i < j)))) M := rfl
theorem gLe_ii (i j : Int) (M : Sto) (P : Xv → Sto → Prop) : gLe (.d (.int i)) (.d (.int j)) M P = P (.d (.bool (decide (i ≤ j)))) M := rfl
theorem gGt_ii (i j : Int) (M : Sto) (P : Xv → Sto → Prop) : gGt (.d (.int i)) (.d (.int j)) M P = P (.d (.bool (decide (j < i)))) M := rfl
theorem gGe_ii (i j : Int) (M : Sto) (P : Xv → Sto → Prop) : gGe (.d (.int i)) (.d (.int j)) M P = P (.d (.bool (decide (j ≤ i)))) M := rfl
theorem gMul_l (i j : Int) (M : Sto) (P : Xv → Sto → Prop) (h : -(2 ^ 64) < i ∧ i < 2 ^ 64) : gMul (.d (.int i)) (.d (.int j)) M P = P (.d (.int (i * j))) M := by
  show (CMul i j ∧ _) = _
  have : CMul i j := .inl h
  simp [this]
theorem gMul_r (i j : Int) (M : Sto) (P : Xv → Sto → Prop) (h : -(2 ^ 64) < j ∧ j < 2 ^ 64) : gMul (.d (.int i)) (.d (.int j)) M P = P (.d (.int (i * j))) M := by
  show (CMul i j ∧ _) = _
  have : CMul i j := .inr h
  simp [this]
theorem gMod_ii (i j : Int) (M : Sto) (P : Xv → Sto → Prop) (h : 0 < j) : gMod (.d (.int i)) (.d (.int j)) M P = P (.d (.int (i % j))) M := by
  show (0 < j ∧ _) = _
  simp [h]
theorem gDiv_ii (i j : Int) (M : Sto) (P : Xv → Sto → Prop) (h : 0 < j ∧ j < 1073741824) : gDiv (.d (.int i)) (.d (.int j)) M P = P (.d (.int (i / j))) M := by
  show ((0 < j ∧ j < 1073741824) ∧ _) = _
  simp [h]
theorem gIsN_d (neg : Bool) (x : Xv) (M : Sto) (P : Xv → Sto → Prop) : gIsN neg x (.d .none) M P = P (.d (.bool (if neg then !isN x else isN x))) M := rfl
theorem boX_b (b : Bool) : boX (.d (.bool b)) = some b := rfl
theorem tru_l (M : Sto) (ds : List PyData) : tru M (.d (.list ds)) = some (!ds.isEmpty) := by
  show some (!(dX ds).isEmpty) = _
  cases ds <;> rfl
theorem fzL_dX (M : Sto) (ds : List PyData) : fzL M (dX ds) = some (ds, M) := frzL_d 6 M ds
theorem fzL_n (M : Sto) : fzL M [] = some ([], M) := rfl
theorem fzL_cd (M : Sto) (d : PyData) (xs : List Xv) : fzL M (.d d :: xs) = (fzL M xs).map fun q => (d :: q.1, q.2) := by
  have e : fzL M (.d d :: xs) = (match frzN 6 M (.d d) with
    | some (d, M') => match frzLf (frzN 6) M' xs with
      | some (ds, M'') => some (d :: ds, M'')
      | none => none
    | none => none) := rfl
  have e2 : fzL M xs = frzLf (frzN 6) M xs := rfl
  rw [e, e2, frzN_d]
  dsimp only
  cases frzLf (frzN 6) M xs <;> rfl
theorem fz_d (M : Sto) (d : PyData) : fz M (.d d) = some (d, M) := frzN_d 6 M d
theorem pk_d (M : Sto) (d : PyData) : pk M (.d d) = some d := pkN_d 6 M d
theorem gLen_l (ds : List PyData) (M : Sto) (P : Xv → Sto → Prop) : gLen [.d (.list ds)] M P = P (.d (.int ds.length)) M := by
  show P (.d (.int (dX ds).length)) M = _
  rw [List.length_map]
theorem dX_ints (ns : List Int) : dX (ns.map .int) = ns.map fun i => .d (.int i) := by rw [dX, List.map_map]; rfl
theorem gMin_l (ns : List Int) (M : Sto) (P : Xv → Sto → Prop) (h : 0 < ns.length) : gMin [.d (.list (ns.map .int))] M P = P (.d (.int (minL ns))) M := by
  show ifS (intsX (dX (ns.map .int))) _ = _
  rw [dX_ints, intsX_map]
  show (0 < ns.length ∧ _) = _
  simp [h]
theorem gMax_l (ns : List Int) (M : Sto) (P : Xv → Sto → Prop) (h : 0 < ns.length) : gMax [.d (.list (ns.map .int))] M P = P (.d (.int (maxL ns))) M := by
  show ifS (intsX (dX (ns.map .int))) _ = _
  rw [dX_ints, intsX_map]
  show (0 < ns.length ∧ _) = _
  simp [h]
theorem gMax_ii (i j : Int) (M : Sto) (P : Xv → Sto → Prop) : gMax [.d (.int i), .d (.int j)] M P = P (.d (.int (max i j))) M := rfl
theorem gMin_ii (i j : Int) (M : Sto) (P : Xv → Sto → Prop) : gMin [.d (.int i), .d (.int j)] M P = P (.d (.int (min i j))) M := rfl
theorem gInt_b (b : Bool) (M : Sto) (P : Xv → Sto → Prop) : gInt [.d (.bool b)] M P = P (.d (.int (if b then 1 else 0))) M := rfl
theorem gInt_i (i : Int) (M : Sto) (P : Xv → Sto → Prop) : gInt [.d (.int i)] M P = P (.d (.int i)) M := rfl
theorem gAbs_i (i : Int) (M : Sto) (P : Xv → Sto → Prop) : gAbs [.d (.int i)] M P = P (.d (.int (if i < 0 then -i else i))) M := by
  show (True ∧ _) = _
  simp
theorem last_get {α : Type} (M : List α) (o : α) : (M ++ [o])[M.length]? = some o := by simp
theorem last_set {α : Type} (M : List α) (o o' : α) : (M ++ [o]).set M.length o' = M ++ [o'] := by simp
theorem gApd_last (M : Sto) (xs : List Xv) (y : Xv) (P : Xv → Sto → Prop) : gApd (.c M.length) y (M ++ [.lst xs]) P = (xs.length < sizeLine ∧ P (.d .none) (M ++ [.lst (xs ++ [y])])) := by
  unfold gApd
  simp only [last_get, last_set]
theorem isLst_last (M : Sto) (xs : List Xv) : isLst (M ++ [.lst xs]) (.c M.length) = True := by
  unfold isLst hd
  simp only [last_get]
/-! ### comprehensions over data -/
theorem lcW_map {α : Type} {g : RG} {rt : RT} {re : RE} {keep : Sto → Prop} {σw : Sl} {P : List Xv → Sto → Prop} {M : Sto} (enc : α → PyData) (p : α → Bool) (f : α → PyData) (hk : keep M) :
    ∀ (xs : List α) (acc : List Xv), acc.length + xs.length ≤ sizeLine →
    (∀ a ∈ xs, ∀ (Kt : Xv → Sto → Prop) (Kf : Sto → Prop), (p a = true → Kt (.d (f a)) M) → (p a = false → Kf M) → g (.d (enc a)) σw M fun σ1 M1 => rt σ1 M1 fun b M2 => if b = true then re σ1 M2 Kt else Kf M2) →
    P (acc ++ dX ((xs.filter p).map f)) M → lcW g rt re keep σw P (dX (xs.map enc)) acc M
  | [], acc, _, _, q => by
    rw [List.filter_nil, List.map_nil, dX_n, List.append_nil] at q
    exact ⟨hk, q⟩
  | x :: xs, acc, hl, h, q => by
    rw [List.length_cons] at hl
    refine ⟨hk, ?_⟩
    refine h x List.mem_cons_self (fun y M3 => acc.length < sizeLine ∧ lcW g rt re keep σw P (dX (xs.map enc)) (acc ++ [y]) M3) (fun M2 => lcW g rt re keep σw P (dX (xs.map enc)) acc M2) (fun e => ⟨by omega, ?_⟩) fun e => ?_
    · refine lcW_map enc p f hk xs _ (by simp; omega) (fun a ha => h a (List.mem_cons_of_mem _ ha)) ?_
      rw [List.filter_cons_of_pos e] at q
      simpa using q
    · refine lcW_map enc p f hk xs _ (by omega) (fun a ha => h a (List.mem_cons_of_mem _ ha)) ?_
      rw [List.filter_cons_of_neg (by rw [e]; nofun)] at q
      exact q
/-! ### loops -/
theorem loopW_inv {g : RG} {rb : RS} {keep : Sto → Prop} {P : Out → Sto → Prop} (J : List Xv → Sl → Sto → Prop)
    (hs : ∀ x xs σ M, J (x :: xs) σ M → ∀ C : Sl → Sto → Prop, (∀ σ2 M2, J xs σ2 M2 → C σ2 M2) → keep M ∧ g x σ M fun σ1 M1 => rb σ1 M1 fun o M2 => match o with
      | .nx σ2 => C σ2 M2
      | .ct σ2 => C σ2 M2
      | .bk σ2 => P (.nx σ2) M2
      | .rt v => P (.rt v) M2)
    (he : ∀ σ M, J [] σ M → keep M ∧ P (.nx σ) M) : ∀ (xs : List Xv) (σ : Sl) (M : Sto), J xs σ M → loopW g rb keep P xs σ M
  | [], σ, M, h => he σ M h
  | x :: xs, σ, M, h => hs x xs σ M h (loopW g rb keep P xs) fun σ2 M2 h2 => loopW_inv J hs he xs σ2 M2 h2
theorem while_inv {c : RT} {rb : RS} {P : Out → Sto → Prop} (J : Nat → Sl → Sto → Prop)
    (hs : ∀ n σ M, J n σ M → ∀ C : Sl → Sto → Prop, (∀ m σ2 M2, m < n → J m σ2 M2 → C σ2 M2) → c σ M fun k M1 => if k = true then rb σ M1 fun o M2 => match o with
      | .nx σ2 => C σ2 M2
      | .ct σ2 => C σ2 M2
      | .bk σ2 => P (.nx σ2) M2
      | .rt x => P (.rt x) M2
    else P (.nx σ) M1) (n : Nat) (σ : Sl) (M : Sto) (h : J n σ M) : rWhile c rb σ M P := by
  refine ⟨n + 1, ?_⟩
  have key : ∀ (f m : Nat) (σ : Sl) (M : Sto), m < f → J m σ M → whileW c rb P f σ M := by
    intro f
    induction f with
    | zero => intro m σ M h; omega
    | succ f ih =>
      intro m σ M hm hj
      exact hs m σ M hj (whileW c rb P f) fun m2 σ2 M2 h2 j2 => ih m2 σ2 M2 (by omega) j2
  exact key (n + 1) n σ M (Nat.lt_succ_self n) h
/-! ### a fresh list, as data or as a cell, as the proof likes -/
def rCh (r : RF) : RE := fun σ M P => r σ M fun xs M1 => (ifS (fzL M1 xs) fun q => P (.d (.list q.1)) q.2) ∨ P (.c M1.length) (M1 ++ [.lst xs])
theorem snd_rCh {K : PySem.W.Frag} {t : TE} {r : RF} (h : SndF K t r) : Snd K t (rCh r) := by
  intro W M H σ σx P Q I S hr q
  refine h W M H σ σx _ Q I S hr fun W1 M1 H1 a vs xs l1 I1 L1 v1 p1 => ?_
  rcases p1 with p1 | p1
  · obtain ⟨⟨ds, M2⟩, e, p⟩ := ifS_of p1
    obtain ⟨W3, l3, I3, v3⟩ := adopt_frz I1 L1 v1 e
    exact q W3 M2 H1 _ _ (l1.trans l3) I3 v3 p
  · obtain ⟨I2, l2, x2⟩ := I1.adoptCell L1 (o := .lst xs) fun W' l' f' => ⟨f', vs, L1.at_, v1.le l'⟩
    exact q _ _ H1 _ _ (l1.trans l2) I2 x2 p1
theorem SF.ch {X : Cx} {e : Expr} {r : RF} (h : SF X e r) : SE X e (rCh r) := let ⟨t, p, s⟩ := h; ⟨t, p, snd_rCh s⟩
section
variable {X : Cx} {elt tg iter : Expr} {ifs : List Expr} {scope : Scope} {own : List (Str × Nat)} {pos : Pos} {ri : RI} {js : List Nat} {g : RG} {rt : RT} {re : RE}
theorem ss_setLcH {i : Nat} {y : Str} {py : Pos} {spos : Pos} (hc : X.calm = true) (hN : X.N.Nodup) (hi : SI X tg iter ri) (ok : BlkOk X.N X.env.scope scope own) (hb : SLc X elt ifs tg scope js g rt re)
    (hsw : swapsWith (.ListComp elt [⟨tg, iter, ifs, 0⟩] scope pos) (some (.Name y py)) spos.line X.env = pure true) (hy : X.N[i]? = some y := by rfl) (hyl : X.env.scope.names.lookup y = some .local := by rfl)
    (hj : (js.all fun j => (own.map (·.2)).contains j) = true := by rfl) (hs : ∀ x, foldedSetIterable iter X.env x = pure x := by intro _; rfl) :
    SS X (.Assign [.Name y py] (.ListComp elt [⟨tg, iter, ifs, 0⟩] scope pos) spos) (rAsg (rCh (rLc ri g rt re (own.map (·.2)))) (rgName i)) := by
  obtain ⟨wi, pi, si⟩ := hi
  refine ⟨_, ps_setLc (te := tOf X.K re) (tt := ttOf X.K rt) (g := tgOf X.K js g) hc hN hy hyl hsw pi ok (fun s H C cl fp => (hb s H C cl fp).1.can) (fun s H C cl fp => pts_can (hb s H C cl fp).2.1) (fun s H C cl fp => (hb s H C cl fp).2.2.can) hs, fun W M H σ σx P D I S h q => ?_⟩
  refine snd_rCh (sndF_lc si fun j hm => by simpa using List.all_eq_true.mp hj j hm) W M H σ σx _ _ I S h fun W1 M1 H1 v x l1 I1 v1 p1 => ?_
  exact q W1 M1 H1 (.nx (σx.set i (some x))) l1 I1 p1 _ ((S.le l1).set i v1)
end
/-! ### comprehensions that draw -/
theorem lcW_inv {g : RG} {rt : RT} {re : RE} {keep : Sto → Prop} {σw : Sl} {P : List Xv → Sto → Prop} (J : List Xv → List Xv → Sto → Prop)
    (hs : ∀ x xs acc M, J (x :: xs) acc M → ∀ C : List Xv → Sto → Prop, (∀ acc' M', J xs acc' M' → C acc' M') → keep M ∧ g x σw M fun σ1 M1 => rt σ1 M1 fun b M2 => if b = true then re σ1 M2 fun y M3 => acc.length < sizeLine ∧ C (acc ++ [y]) M3 else C acc M2)
    (he : ∀ acc M, J [] acc M → keep M ∧ P acc M) : ∀ (xs acc : List Xv) (M : Sto), J xs acc M → lcW g rt re keep σw P xs acc M
  | [], acc, M, h => he acc M h
  | x :: xs, acc, M, h => by
    obtain ⟨h1, h2⟩ := hs x xs acc M h (fun acc' M' => lcW g rt re keep σw P xs acc' M') fun acc' M' h' => lcW_inv J hs he xs acc' M' h'
    exact ⟨h1, h2⟩
theorem rangeX_succ (lo : Int) (n : Nat) : rangeX lo (n + 1) = .d (.int lo) :: rangeX (lo + 1) n := by
  unfold rangeX
  rw [List.range_succ_eq_map, List.map_cons, List.map_map]
  congr 1
  · simp
  · refine List.map_congr_left fun i _ => ?_
    show Xv.d (.int (lo + ((i + 1 : Nat) : Int))) = .d (.int (lo + 1 + (i : Int)))
    congr 2; omega
theorem rangeX_zero (lo : Int) : rangeX lo 0 = [] := rfl
/-! ### what repr asks of data -/
structure Rp (w dp : Nat) (d : PyData) : Prop where
  lv : PyData.leavesShort 13 d = true
  wt : d.weight ≤ w
  dt : d.depth ≤ dp
  sh : d.showable = true
structure RpAll (w dp : Nat) (ds : List PyData) : Prop where
  lv : PyData.leavesShortAll 13 ds = true
  wt : PyData.weightAll ds ≤ w
  dt : PyData.depthAll ds ≤ dp
  sh : PyData.showableAll ds = true
structure RpKv (w dp : Nat) (ds : List (PyData × PyData)) : Prop where
  lv : PyData.leavesShortKv 13 ds = true
  wt : PyData.weightKv ds ≤ w
  dt : PyData.depthKv ds ≤ dp
  sh : PyData.showableKv ds = true
theorem Rp.none {dp : Nat} : Rp 0 dp .none := ⟨rfl, Nat.le_refl _, Nat.zero_le _, rfl⟩
theorem Rp.str {dp : Nat} {x : Str} {n : Nat} (h : PyData.strOk x = true) (hn : x.cps.size ≤ n) : Rp n dp (.str x) := by
  refine ⟨?_, hn, Nat.zero_le _, rfl⟩
  unfold PyData.leavesShort
  unfold PyData.strOk at h
  rw [Array.all_eq_true_iff_forall_mem] at h
  exact List.all_eq_true.mpr fun c hc => decide_eq_true (by have := h c (by simpa using hc); simp at this; omega)
theorem RpAll.nil {dp : Nat} : RpAll 0 dp [] := ⟨rfl, Nat.le_refl _, Nat.zero_le _, rfl⟩
theorem RpAll.cons {w1 w2 dp : Nat} {d : PyData} {ds : List PyData} (h : Rp w1 dp d) (t : RpAll w2 dp ds) : RpAll (w1 + 1 + w2) dp (d :: ds) := by
  refine ⟨by simp [PyData.leavesShortAll, h.lv, t.lv], ?_, ?_, by simp [PyData.showableAll, h.sh, t.sh]⟩
  · have := h.wt; have := t.wt; simp only [PyData.weightAll]; omega
  · have := h.dt; have := t.dt; simp only [PyData.depthAll]; omega
theorem RpAll.of {w dp : Nat} : ∀ {ds : List PyData} {n : Nat}, ds.length ≤ n → (∀ d ∈ ds, Rp w dp d) → RpAll (n * (w + 1)) dp ds
  | [], n, _, _ => ⟨rfl, Nat.zero_le _, Nat.zero_le _, rfl⟩
  | d :: ds, 0, h, _ => by simp at h
  | d :: ds, n + 1, h, f => by
    have t := RpAll.of (ds := ds) (n := n) (by simpa using h) fun x hx => f x (List.mem_cons_of_mem _ hx)
    have := RpAll.cons (f d List.mem_cons_self) t
    refine ⟨this.lv, ?_, this.dt, this.sh⟩
    have := this.wt
    rw [Nat.succ_mul]; omega
theorem Rp.tup {w dp : Nat} {ds : List PyData} (h : RpAll w dp ds) : Rp w (dp + 1) (.tuple ds) := ⟨h.lv, h.wt, Nat.succ_le_succ h.dt, h.sh⟩
theorem Rp.lst {w dp : Nat} {ds : List PyData} (h : RpAll w dp ds) : Rp w (dp + 1) (.list ds) := ⟨h.lv, h.wt, Nat.succ_le_succ h.dt, h.sh⟩
theorem Rp.mono {w w' dp dp' : Nat} {d : PyData} (h : Rp w dp d) (a : w ≤ w') (b : dp ≤ dp') : Rp w' dp' d := ⟨h.lv, Nat.le_trans h.wt a, Nat.le_trans h.dt b, h.sh⟩
theorem RpKv.nil {dp : Nat} : RpKv 0 dp [] := ⟨rfl, Nat.le_refl _, Nat.zero_le _, rfl⟩
theorem RpKv.cons {w1 w2 w3 dp : Nat} {k d : PyData} {ds : List (PyData × PyData)} (hk : Rp w1 dp k) (h : Rp w2 dp d) (t : RpKv w3 dp ds) : RpKv (w1 + w2 + 2 + w3) dp ((k, d) :: ds) := by
  refine ⟨by simp [PyData.leavesShortKv, hk.lv, h.lv, t.lv], ?_, ?_, by simp [PyData.showableKv, hk.sh, h.sh, t.sh]⟩
  · have := hk.wt; have := h.wt; have := t.wt; simp only [PyData.weightKv]; omega
  · have := hk.dt; have := h.dt; have := t.dt; simp only [PyData.depthKv]; omega
theorem Rp.dict {w dp : Nat} {ds : List (PyData × PyData)} (h : RpKv w dp ds) : Rp w (dp + 1) (.dict ds) := ⟨h.lv, h.wt, Nat.succ_le_succ h.dt, h.sh⟩
theorem Rp.int {dp : Nat} {i : Int} (h : i.natAbs < 10 ^ 12) : Rp 40 dp (.int i) := by
  have hl : i.natAbs.log2 < 40 := by
    by_cases z : i.natAbs = 0
    · rw [z]; decide
    · exact (Nat.log2_lt z).mpr (Nat.lt_of_lt_of_le h (by decide))
  refine ⟨?_, ?_, Nat.zero_le _, ?_⟩
  · unfold PyData.leavesShort
    refine decide_eq_true ?_
    have := int_text_length_le10 (k := 12) (by decide) h
    show (Str.ofString (toString i)).length ≤ 13
    rw [PySem.ofString_length]
    exact this
  · show (if i == 0 then 0 else i.natAbs.log2 + 1) ≤ 40
    split <;> omega
  · show decide _ = true
    exact decide_eq_true (by omega)
theorem gRepr_d {w dp : Nat} {d : PyData} {M : Sto} {P : Xv → Sto → Prop} (h : Rp w dp d) (hw : w ≤ 2 ^ 20) (hd : dp ≤ 60) (hs : (match d with | .list _ => true | .tuple _ => true | .dict _ => true | _ => false) = true) (p : P (.d (.str d.shown)) M) : gRepr [.d d] M P := by
  unfold gRepr
  simp only [pk_d, ifS_some]
  refine ⟨?_, h.sh, Nat.le_trans h.dt hd, PyData.shown_fits (by decide) (by decide) h.lv (Nat.le_trans h.wt hw), p⟩
  cases d <;> first | trivial | simp at hs
/-! ### freezing -/
theorem fz_lst {M : Sto} {j : Nat} {ds : List PyData} (h : M[j]? = some (.lst (dX ds))) : fz M (.c j) = some (.list ds, M.set j (.frz (.list ds))) := by
  show frzN 6 M (.c j) = _
  unfold frzN
  simp only [h]
  have : frzLf (frzN 5) M (dX ds) = some (ds, M) := frzL_d 5 M ds
  simp only [this, h]
theorem fz_dic {M : Sto} {j : Nat} {ps : List (Key × PyData)} (h : M[j]? = some (.dic (ps.map fun p => (p.1, Xv.d p.2)))) : fz M (.c j) = some (.dict (ps.map fun p => (kD p.1, p.2)), M.set j (.frz (.dict (ps.map fun p => (kD p.1, p.2))))) := by
  show frzN 6 M (.c j) = _
  unfold frzN
  simp only [h]
  have e1 : (ps.map fun p => (p.1, Xv.d p.2)).map (·.2) = dX (ps.map (·.2)) := by rw [dX, List.map_map, List.map_map]; rfl
  have e2 : frzLf (frzN 5) M (dX (ps.map (·.2))) = some (ps.map (·.2), M) := frzL_d 5 M _
  simp only [e1, e2, h]
  have e3 : ((ps.map fun p => (p.1, Xv.d p.2)).map fun p => kD p.1).zip (ps.map (·.2)) = ps.map fun p => (kD p.1, p.2) := by
    rw [List.map_map]
    clear h e1 e2
    induction ps with
    | nil => rfl
    | cons p ps ih => simpa using ih
  simp only [e3]
theorem putX_new {κ : Type} [DecidableEq κ] {acc : List (κ × Xv)} {k : κ} {x : Xv} (h : k ∉ acc.map (·.1)) : putX acc k x = acc ++ [(k, x)] := by
  unfold putX
  rw [if_neg]
  intro z
  obtain ⟨p, hp, e⟩ := List.any_eq_true.mp z
  exact h (List.mem_map.mpr ⟨p, hp, of_decide_eq_true e⟩)
theorem mergeX_nodup : ∀ {kvs acc : List (Key × Xv)}, ((acc ++ kvs).map (·.1)).Nodup → mergeX acc kvs = acc ++ kvs
  | [], acc, _ => by simp [mergeX]
  | p :: kvs, acc, h => by
    have h1 : p.1 ∉ acc.map (·.1) := fun z => by
      rw [List.map_append, List.map_cons, List.nodup_append] at h
      exact h.2.2 _ z _ List.mem_cons_self rfl
    show mergeX (putX acc p.1 p.2) kvs = _
    rw [putX_new h1, mergeX_nodup (by simpa using h)]
    simp
/-! ### statements one by one -/
theorem seq_step {a b : RS} {σ : Sl} {M : Sto} {P : Out → Sto → Prop} (h : a σ M fun o M1 => match o with
  | .nx σ1 => b σ1 M1 P
  | o => P o M1) : rSeq a b σ M P := h
theorem seq_cut {a b : RS} {σ : Sl} {M : Sto} {P : Out → Sto → Prop} (J : Sl → Sto → Prop) (h1 : ∀ C : Out → Sto → Prop, (∀ σ1 M1, J σ1 M1 → C (.nx σ1) M1) → a σ M C) (h2 : ∀ σ1 M1, J σ1 M1 → b σ1 M1 P) : rSeq a b σ M P :=
  h1 _ fun σ1 M1 j => h2 σ1 M1 j
end G

set_option Elab.async false
set_option linter.all false
set_option maxRecDepth 100000
set_option maxHeartbeats 4000000
/-! G18: e[::-1], any, all, pop(i), sorted(dict), min of texts. -/
namespace G
open PySem PySem.Spec PyProof.Rows L2

/-! ### e[::-1], a list -/
def tRev (K : PySem.W.Frag) (te : TE) (tk : TO) : TE := fun σ H Q => te σ H fun x H1 => tk σ H1 fun k H2 => ∃ a xs, k = some (-1) ∧ x = .ref a ∧ SqL K H2 a xs ∧ ∀ p, H2 p = none → Q (.ref p) (upd H2 p (.lst xs.reverse))
section
variable {X : Cx} {e st : Expr} {te : TE} {tk : TO} {pos p2 : Pos}
theorem pe_rev (he : PE X e te) (hk : PO X (some st) tk)
    (hss : ∀ a b, ∃ ops, subscripted (.Slice none none (some st) p2) false (.ref a) (.ref b) = operate ops (getItem (.ref a) (.ref b)) := by exact fun a b => ⟨_, by with_unfolding_all rfl⟩) :
    PE X (.Subscript e (.Slice none none (some st) p2) pos) (tRev X.K te tk) := by
  refine ⟨fun pins s σ H Q I h => ?_⟩
  refine Subscript_ (thn (he.run pins s σ H _ I h) fun v s1 ⟨x, H1, I1, r1, q1⟩ => ?_)
  refine wpAny_Slice ?_
  refine wpAny_pure (wpAny_pure ?_)
  refine thn (hk.run pins s1 σ H1 _ I1 q1) fun vk s3 ⟨k, H3, I3, pk, q3⟩ => ?_
  obtain ⟨a, xs, rfl, rfl, hs, q⟩ := q3
  cases r1
  have I4 : Inv X pins σ H3 { s3 with heap := s3.heap.push { cls := .type "slice", data := .fields #[.none, .none, vk] } } := I3.kept (t' := s3.toks) fun b ob q => Heap.get?_push_of_some _ q
  obtain ⟨its, r, ht, hz⟩ := I4.list hs
  obtain ⟨ops, eo⟩ := hss a s3.heap.objs.size
  show wpAny (model X.prog X.w) X.A (subscriptTail e (.Slice none none (some st) p2) (.ref a) (.ref s3.heap.objs.size)) (EP X pins σ Q) X.xe { s3 with heap := s3.heap.push { cls := .type "slice", data := .fields #[.none, .none, vk] } }
  refine tail_any (ops := ops) ht.isList.typeIs slot_list_getitem.lookup ?_ eo
  refine wpAny_getItem_list_slice ht.isList (Heap.IsSliceOf.new ..) .none .none pk (by decide) ?_ (by rw [List.size_toArray, ← r.length]; exact hz)
  rw [PySem.W.krv_pick]
  refine ⟨.ref _, _, I4.laid (t' := s3.toks) (o := .lst xs.reverse) (fun b ob q => Heap.get?_push_of_some _ q) (Nat.le_refl _) ?_, rfl, q _ (I4.hok.fresh (Nat.le_refl _))⟩
  exact ⟨by rw [List.length_reverse]; exact hz, _, 0, r.reverse, Heap.get?_push_size _ rfl⟩
end
theorem Paired.reverseP {α β : Type} {F : α → β → Prop} : ∀ {l₁ : List α} {l₂ : List β}, Paired F l₁ l₂ → Paired F l₁.reverse l₂.reverse
  | _, _, .nil => .nil
  | a :: l₁, b :: l₂, .cons h t => by
    rw [List.reverse_cons, List.reverse_cons]
    exact Paired.appendP (Paired.reverseP t) (.cons h .nil)
where
  Paired.appendP {α β : Type} {F : α → β → Prop} : ∀ {l₁ m₁ : List α} {l₂ m₂ : List β}, Paired F l₁ l₂ → Paired F m₁ m₂ → Paired F (l₁ ++ m₁) (l₂ ++ m₂)
    | _, _, _, _, .nil, r => r
    | _, _, _, _, .cons h t, r => .cons h (Paired.appendP t r)
def rRevF (re : RE) (rk : Sl → Sto → (Option Int → Sto → Prop) → Prop) : RF := fun σ M P => re σ M fun x M1 => rk σ M1 fun k M2 => k = some (-1) ∧ match hd M2 x with
  | .lst xs => P xs.reverse M2
  | _ => False
section
variable {X : Cx} {e st : Expr} {re : RE} {rk : Sl → Sto → (Option Int → Sto → Prop) → Prop} {pos p2 : Pos}
theorem sf_rev (he : SE X e re) (hk : SO X (some st) rk)
    (hss : ∀ a b, ∃ ops, subscripted (.Slice none none (some st) p2) false (.ref a) (.ref b) = operate ops (getItem (.ref a) (.ref b)) := by exact fun a b => ⟨_, by with_unfolding_all rfl⟩) :
    SF X (.Subscript e (.Slice none none (some st) p2) pos) (rRevF re rk) := by
  obtain ⟨te, pe, se⟩ := he
  obtain ⟨tk, pk, sk⟩ := hk
  refine ⟨_, pe_rev pe pk hss, fun W M H σ σx P Q I S hr q => ?_⟩
  refine se W M H σ σx _ _ I S hr fun W1 M1 H1 v x l1 I1 v1 p1 => ?_
  refine sk W1 M1 H1 σ σx _ _ I1 (S.le l1) p1 fun W3 M3 H3 u l3 I3 p3 => ?_
  have v3 := v1.le l3
  obtain ⟨rfl, p3⟩ := p3
  split at p3
  · rename_i xs e1
    obtain ⟨a, vs, rfl, h1, h2⟩ := lstH I3 v3 e1
    refine ⟨a, vs, rfl, rfl, h1, fun p' hp => ?_⟩
    obtain ⟨I4, L4⟩ := I3.loose hp (.lst vs.reverse)
    exact q W3 M3 _ _ _ _ (l1.trans l3) I4 L4 (Paired.reverseP h2) p3
  · exact p3.elim
end

/-! ### any, all -/
def boolsX : List Xv → Option (List Bool)
  | [] => some []
  | .d (.bool i) :: xs => (boolsX xs).map (i :: ·)
  | _ :: _ => none
theorem boolsX_of : ∀ {xs : List Xv} {ns : List Bool}, boolsX xs = some ns → xs = ns.map fun i => .d (.bool i)
  | [], _, h => by cases h; rfl
  | .d (.bool i) :: xs, ns, h => by
    unfold boolsX at h
    cases e : boolsX xs with
    | none => rw [e] at h; cases h
    | some m => rw [e] at h; cases h; rw [boolsX_of e]; rfl
  | .c _ :: _, _, h => by cases h
  | .d .none :: _, _, h => by cases h
  | .d (.int _) :: _, _, h => by cases h
  | .d (.str _) :: _, _, h => by cases h
  | .d (.list _) :: _, _, h => by cases h
  | .d (.tuple _) :: _, _, h => by cases h
  | .d (.dict _) :: _, _, h => by cases h
theorem boolsX_map (ns : List Bool) : boolsX (ns.map fun i => .d (.bool i)) = some ns := by
  induction ns with
  | nil => rfl
  | cons n ns ih => show (boolsX (ns.map fun i => .d (.bool i))).map (n :: ·) = _; rw [ih]; rfl
theorem VXs.bools {K : PySem.W.Frag} {W : Wd} : ∀ {ns : List Bool} {vs : List V}, VXs K W vs (ns.map fun i => .d (.bool i)) → vs = ns.map V.bl
  | [], _, h => by cases h; rfl
  | n :: ns, _, h => by
    cases h with
    | cons a r =>
      have a : Dq K W.F _ (.bool n) := a
      cases a
      rw [VXs.bools r]; rfl
def gBoo (f : List Bool → Bool) : GL := fun xs M P => match xs with
  | [x] => match hd M x with
    | .lst ys => ifS (boolsX ys) fun bs => P (.d (.bool (f bs))) M
    | _ => False
  | _ => False
abbrev gAny : GL := gBoo fun bs => bs.any id
abbrev gAll : GL := gBoo fun bs => bs.all id
theorem bx_any {X : Cx} (hc : X.calm = true) : BX X (.builtin "any") gAny := by
  refine ⟨_, cr_any hc, fun W M H vs xs P Q I hv hg q => ?_⟩
  unfold gAny gBoo at hg
  split at hg
  · obtain ⟨v, rfl, v1⟩ := vxs1 hv
    split at hg
    · rename_i ys e
      obtain ⟨a, us, rfl, h1, h2⟩ := lstH I v1 e
      obtain ⟨ns, e2, p⟩ := ifS_of hg
      have := boolsX_of e2
      subst this
      have := VXs.bools h2
      subst this
      exact ⟨a, ns, rfl, h1, q W M H _ (.d (.bool _)) (.refl W) I (show Dq _ _ _ _ from .bl _) p⟩
    · exact hg.elim
  · exact hg.elim
theorem bx_all {X : Cx} (hc : X.calm = true) : BX X (.builtin "all") gAll := by
  refine ⟨_, cr_all hc, fun W M H vs xs P Q I hv hg q => ?_⟩
  unfold gAll gBoo at hg
  split at hg
  · obtain ⟨v, rfl, v1⟩ := vxs1 hv
    split at hg
    · rename_i ys e
      obtain ⟨a, us, rfl, h1, h2⟩ := lstH I v1 e
      obtain ⟨ns, e2, p⟩ := ifS_of hg
      have := boolsX_of e2
      subst this
      have := VXs.bools h2
      subst this
      exact ⟨a, ns, rfl, h1, q W M H _ (.d (.bool _)) (.refl W) I (show Dq _ _ _ _ from .bl _) p⟩
    · exact hg.elim
  · exact hg.elim

/-! ### xs.pop(i) -/
def rPopI (ro ri : RE) : RE := fun σ M P => ro σ M fun o M1 => isLst M1 o ∧ ri σ M1 fun i M2 => match o, i with
  | .c j, .d (.int i) => match M2[j]? with
    | some (.lst xs) => -(2 ^ 63) ≤ i ∧ i < 2 ^ 63 ∧ ifS (ixN xs.length i) fun k => ifS xs[k]? fun y => P y (M2.set j (.lst (xs.eraseIdx k)))
    | _ => False
  | _, _ => False
theorem VXs.eraseIdx {K : PySem.W.Frag} {W : Wd} : ∀ {vs : List V} {xs : List Xv} (k : Nat), VXs K W vs xs → VXs K W (vs.eraseIdx k) (xs.eraseIdx k)
  | _, _, _, .nil => .nil
  | _, _, 0, .cons _ t => t
  | _, _, k + 1, .cons h t => .cons h (VXs.eraseIdx k t)
section
variable {X : Cx} {o e : Expr} {ro re : RE} {apos cpos : Pos}
theorem se_popI (ho : SE X o ro) (he : SE X e re) (hbase : attributeBase o "pop" X.env (eval o X.env) = eval o X.env := by rfl)
    (hfew : ((backTo cpos (starEach (e :: []) X.env)).all (fun x => !x.1) && (backToKw cpos (keywordEach [] X.env)).all (fun x => x.1.isSome)
      && decide ((e :: ([] : List Expr)).length + ([] : List Keyword).length + (if ([] : List Keyword).isEmpty then 0 else 1) < 30)) = true := by rfl)
    (hline : (apos.endLine == cpos.line) = true := by rfl) (hs : starEach (e :: []) X.env = (false, eval e X.env) :: starEach [] X.env := by rfl) (hplain : (backTo cpos (starEach [] X.env)).any (·.1) = false := by rfl) :
    SE X (.Call (.Attribute o "pop" apos) [e] [] cpos) (rPopI ro re) := by
  obtain ⟨to, po, so⟩ := ho
  obtain ⟨te, pe, se⟩ := he
  refine ⟨_, pe_bm PySem.F.plainAttrs_list PySem.F.slot_list_pop PySem.F.type_list_pop mt_popAt po (pa_cons pe pa_nil hs) hbase hfew hline hs hplain, fun W M H σ σx P Q I S hr q => ?_⟩
  refine so W M H σ σx _ _ I S hr fun W1 M1 H1 v x l1 I1 v1 p1 => ⟨isLst_ok I1 v1 p1.1, ?_⟩
  refine se W1 M1 H1 σ σx _ _ I1 (S.le l1) p1.2 fun W2 M2 H2 u y l2 I2 v2 p2 => ?_
  split at p2
  · rename_i j i
    have v1' := v1.le l2
    obtain ⟨a, rfl, ha⟩ := v1'
    have v2 : Dq X.K W2.F u (.int i) := v2
    cases v2
    split at p2
    · rename_i xs em
      obtain ⟨f0, vs, h1, h2⟩ := I2.ob j a _ ha em
      obtain ⟨b0, b1, p2⟩ := p2
      obtain ⟨k, ek, p2⟩ := ifS_of p2
      obtain ⟨y, ey, p⟩ := ifS_of p2
      obtain ⟨z, e2, v3⟩ := h2.get ey
      rw [← h2.length] at ek
      refine ⟨a, vs, i, k, z, rfl, rfl, h1, b0, b1, (ixN_seq ek).1, e2, ?_⟩
      have I3 := I2.write (u := .lst (vs.eraseIdx k)) (o := .lst (xs.eraseIdx k)) ha f0 ⟨f0, _, upd_same, VXs.eraseIdx k h2⟩
      exact q W2 _ _ _ y (l1.trans l2) I3 v3 p
    · exact p2.elim
  · exact p2.elim
end

/-! ### sorted(d) of a dict with texts as keys -/
def strKeys {β : Type} : List (PyData × β) → Option (List Str)
  | [] => some []
  | (.str x, _) :: r => (strKeys r).map (x :: ·)
  | _ :: _ => none
theorem strKeys_ok {K : PySem.W.Frag} {W : Wd} : ∀ {vs : List (Key × V)} {kvs : List (PyData × Xv)} {ks : List Str}, Paired (fun p q => kD p.1 = q.1 ∧ VX K W p.2 q.2) vs kvs → strKeys kvs = some ks → vs.map (·.1) = ks.map Sum.inr
  | [], [], ks, _, e => by cases e; rfl
  | (k, v) :: vs, (d, x) :: kvs, ks, .cons h t, e => by
    obtain ⟨h1, _⟩ := h
    have h1 : kD k = d := h1
    subst h1
    cases k with
    | inl i => cases e
    | inr z =>
      have e : (strKeys kvs).map (z :: ·) = some ks := e
      cases e2 : strKeys kvs with
      | none => rw [e2] at e; cases e
      | some m =>
        rw [e2] at e
        cases e
        rw [List.map_cons, List.map_cons, strKeys_ok t e2]
def gSort2 : GLF := fun xs M P => match xs with
  | [x] => match hd M x with
    | .lst ys => ifS (datX ys) fun ds => Srt ds ∧ P (dX (sortD ds)) M
    | .dic kvs => ifS (strKeys kvs) fun ks => ks.length < 64 ∧ ∀ ys : List Str, ys.Perm ks → sortedS ys = true → P (dX (ys.map .str)) M
    | _ => False
  | _ => False
theorem strs_X {K : PySem.W.Frag} {W : Wd} : ∀ ns : List Str, VXs K W (ns.map V.str) (dX (ns.map .str))
  | [] => .nil
  | n :: ns => .cons (show Dq K W.F _ _ from .str n) (strs_X ns)
theorem bxf_sorted2 {X : Cx} {k : Nat} (hr : Rm k X) : BXF X (.builtin "sorted") gSort2 := by
  refine ⟨_, CallR.or (call_sortG hr) (call_sortedD hr.calm), fun W M H vs xs P Q I hv hg q => ?_⟩
  unfold gSort2 at hg
  split at hg
  · obtain ⟨v, rfl, v1⟩ := vxs1 hv
    split at hg
    · rename_i ys e
      obtain ⟨a, us, rfl, h1, h2⟩ := lstH I v1 e
      obtain ⟨ds, e2, st, p⟩ := ifS_of hg
      have := datX_of e2
      subst this
      refine .inl ⟨W.F, a, us, ds, rfl, h1, SameR.of I.sf, VXs.toD h2, st, fun p' out hp ho => ?_⟩
      obtain ⟨I2, L2⟩ := I.loose hp (.lst out)
      exact q W M _ p' out _ (.refl W) I2 L2 (VXs.ofD ho) p
    · rename_i kvs e
      obtain ⟨ks, e2, h64, p⟩ := ifS_of hg
      obtain ⟨a, rfl, us, h1, h2⟩ := dicH I v1 e
      refine .inr ⟨a, us, ks, rfl, h1, strKeys_ok h2 e2, h64, fun ys p' pm so hp => ?_⟩
      obtain ⟨I4, L4⟩ := I.loose hp (.lst (ys.map V.str))
      exact q W M _ _ _ _ (.refl W) I4 L4 (strs_X ys) (p ys pm so)
    · exact hg.elim
  · exact hg.elim

/-! ### min of texts -/
theorem str_alike (a b : Str) : PySem.W.alike (.str a) (.str b) = true := by simp [PySem.W.alike]
theorem strs_alike (ss : List Str) : PySem.W.AlikeAll (ss.map .str) := by
  refine ⟨fun x hx y hy => ?_, fun x hx => ?_⟩
  · obtain ⟨a, _, rfl⟩ := List.mem_map.mp hx
    obtain ⟨b, _, rfl⟩ := List.mem_map.mp hy
    exact str_alike a b
  · obtain ⟨a, _, rfl⟩ := List.mem_map.mp hx
    simp
theorem strs_depth (ss : List Str) : PyData.depthAll (ss.map .str) = 0 := by
  induction ss with
  | nil => rfl
  | cons s ss ih => simp [PyData.depthAll, PyData.depth, ih]
theorem vals_at : ∀ {xs : List V} {us : List Value} {i : Nat} {v : Value}, Vals xs us → us[i]? = some v → ∃ x, xs[i]? = some x ∧ L2.RelV x v
  | _, _, _, _, .nil, h => by simp at h
  | _, _, 0, _, .cons h _, e => by simp at e; subst e; exact ⟨_, rfl, h⟩
  | _, _, i + 1, v, .cons _ r, e => by
    obtain ⟨x, h1, h2⟩ := vals_at (i := i) (v := v) r (by simpa using e)
    exact ⟨x, by simpa using h1, h2⟩
theorem reads_strs {h : Heap} : ∀ {ss : List Str} {us : List Value}, Vals (ss.map V.str) us → ∃ as, ReadsAll h us (ss.map .str) as
  | [], _, r => by cases r; exact ⟨_, .nil⟩
  | s :: ss, _, r => by
    cases r with
    | cons r1 r2 =>
      obtain ⟨t, rfl⟩ := r1
      obtain ⟨as, q⟩ := reads_strs (h := h) r2
      exact ⟨_, .cons (.str s t) q⟩
def rMinS (K : PySem.W.Frag) : List V → Hp → VK → Prop := fun xs H Q => ∃ (a : Addr) (s : Str) (ss : List Str), xs = [.ref a] ∧ SqL K H a ((s :: ss).map V.str) ∧ ∀ y ∈ s :: ss, PySem.W.minD (.str s) (ss.map .str) = .str y → Q (.str y) H
theorem call_minS {X : Cx} {k : Nat} (hr : Rm k X) : CallR X (.builtin "min") (rMinS X.K) := by
  intro pins s σ H xs us Q I r h
  obtain ⟨a, z, ss, rfl, hs, q⟩ := h
  obtain ⟨u, rfl, ru⟩ := vals1 r
  cases ru
  obtain ⟨its, rv, hl, _⟩ := I.list hs
  obtain ⟨as, hrd⟩ := reads_strs (h := s.heap) rv
  have hu := hr.hu64
  refine PySem.W.min_list_data (x := .str z) (xs := ss.map .str) (I.ok.hd hr.calm) hl.isList (by simpa using hrd) (strs_alike (z :: ss)) (by show X.A.units + 1 + PyData.depthAll ((z :: ss).map .str) < cLine; rw [strs_depth]; omega) fun i v h' tk bs hi hb hk => ?_
  have hi : its[i]? = some v := by simpa using hi
  obtain ⟨x, e1, e2⟩ : ∃ x, ((z :: ss).map V.str)[i]? = some x ∧ L2.RelV x v := vals_at rv hi
  obtain ⟨y, hy, rfl⟩ := List.mem_map.mp (List.mem_of_getElem? e1)
  obtain ⟨t, rfl⟩ := e2
  have e3 : PySem.W.minD (.str z) (ss.map .str) = .str y := by
    generalize PySem.W.minD (.str z) (ss.map .str) = d at hb
    cases hb
    rfl
  exact ⟨.str y, H, I.kept hk, ⟨t, rfl⟩, q y hy e3⟩
def strsX : List Xv → Option (List Str)
  | [] => some []
  | .d (.str i) :: xs => (strsX xs).map (i :: ·)
  | _ :: _ => none
theorem strsX_of : ∀ {xs : List Xv} {ns : List Str}, strsX xs = some ns → xs = dX (ns.map .str)
  | [], _, h => by cases h; rfl
  | .d (.str i) :: xs, ns, h => by
    unfold strsX at h
    cases e : strsX xs with
    | none => rw [e] at h; cases h
    | some m => rw [e] at h; cases h; rw [strsX_of e]; rfl
  | .c _ :: _, _, h => by cases h
  | .d .none :: _, _, h => by cases h
  | .d (.int _) :: _, _, h => by cases h
  | .d (.bool _) :: _, _, h => by cases h
  | .d (.list _) :: _, _, h => by cases h
  | .d (.tuple _) :: _, _, h => by cases h
  | .d (.dict _) :: _, _, h => by cases h
theorem strsX_map (ns : List Str) : strsX (dX (ns.map .str)) = some ns := by
  induction ns with
  | nil => rfl
  | cons n ns ih => show (strsX (dX (ns.map .str))).map (n :: ·) = _; rw [ih]; rfl
theorem VXs.strs {K : PySem.W.Frag} {W : Wd} : ∀ {ns : List Str} {vs : List V}, VXs K W vs (dX (ns.map .str)) → vs = ns.map V.str
  | [], _, h => by cases h; rfl
  | n :: ns, _, h => by
    cases h with
    | cons a r =>
      have a : Dq K W.F _ (.str n) := a
      cases a
      rw [VXs.strs r]; rfl
/-- min of a list of texts -/
def gMinS : GL := fun xs M P => match xs with
  | [x] => match hd M x with
    | .lst ys => ifS (strsX ys) fun ss => match ss with
      | s :: t => ∀ y ∈ s :: t, PySem.W.minD (.str s) (t.map .str) = .str y → P (.d (.str y)) M
      | [] => False
    | _ => False
  | _ => False
theorem bx_minS {X : Cx} {k : Nat} (hr : Rm k X) : BX X (.builtin "min") gMinS := by
  refine ⟨_, call_minS hr, fun W M H vs xs P Q I hv hg q => ?_⟩
  unfold gMinS at hg
  split at hg
  · obtain ⟨v, rfl, v1⟩ := vxs1 hv
    split at hg
    · rename_i ys e
      obtain ⟨a, us, rfl, h1, h2⟩ := lstH I v1 e
      obtain ⟨ns, e2, p⟩ := ifS_of hg
      have := strsX_of e2
      subst this
      have := VXs.strs h2
      subst this
      split at p
      · rename_i s t
        exact ⟨a, s, t, rfl, h1, fun y hy e3 => q W M H _ (.d (.str _)) (.refl W) I (show Dq _ _ _ _ from .str _) (p y hy e3)⟩
      · exact p.elim
    · exact hg.elim
  · exact hg.elim

/-! ### texts in order -/
def sLe (a b : Str) : Bool := dLe (.str a) (.str b)
def sortS (l : List Str) : List Str := l.mergeSort sLe
theorem sortD_strs (l : List Str) : sortD (l.map .str) = (sortS l).map .str :=
  (List.map_mergeSort (f := PyData.str) (fun a _ b _ => rfl)).symm
theorem sLe_eq (a b : Str) : sLe a b = !ltCps b.cps.toList a.cps.toList := by
  have : sLe a b = !PySem.W.dataLt (.str b) (.str a) := rfl
  rw [this, PySem.W.dataLt_str, PyProof.Rows.lt_meets]
theorem sLe_trans {a b c : Str} (h1 : sLe a b = true) (h2 : sLe b c = true) : sLe a c = true := dLe_total.trans _ _ _ h1 h2
theorem sLe_anti {a b : Str} (h1 : sLe a b = true) (h2 : sLe b a = true) : a = b := by
  have := dLe_anti (str_alike a b) h1 h2
  cases this; rfl
theorem rising_pw : ∀ (r : List Str) (p : Str), risingS p r = true → (p :: r).Pairwise fun a b => sLe a b = true
  | [], p, _ => by simp
  | x :: r, p, h => by
    have h : (!ltCps x.cps.toList p.cps.toList && risingS x r) = true := h
    rw [Bool.and_eq_true, ← sLe_eq] at h
    have ih := rising_pw r x h.2
    refine List.pairwise_cons.mpr ⟨fun y hy => ?_, ih⟩
    rcases List.mem_cons.mp hy with rfl | hy
    · exact h.1
    · exact sLe_trans h.1 ((List.pairwise_cons.mp ih).1 y hy)
theorem sortedS_pw {l : List Str} (h : sortedS l = true) : l.Pairwise fun a b => sLe a b = true := by
  cases l with
  | nil => simp
  | cons x r => exact rising_pw r x h
theorem strs_all (l : List Str) : PySem.W.AllAlike (l.map .str) := by
  intro a ha b hb
  obtain ⟨x, _, rfl⟩ := List.mem_map.mp ha
  obtain ⟨y, _, rfl⟩ := List.mem_map.mp hb
  exact str_alike x y
theorem sortS_perm (l : List Str) : (sortS l).Perm l := List.mergeSort_perm l sLe
theorem map_str_inj {l m : List Str} (h : l.map PyData.str = m.map .str) : l = m :=
  (List.map_inj_right fun a b e => by cases e; rfl).mp h
theorem sortS_eq {l m : List Str} (p : l.Perm m) : sortS l = sortS m := by
  have := sortD_perm (p.map PyData.str) (strs_all l)
  rw [sortD_strs, sortD_strs] at this
  exact map_str_inj this
theorem sortS_pw (l : List Str) : (sortS l).Pairwise fun a b => sLe a b = true := by
  have h := PySem.W.sort_pairwise dLe_total (l.map .str)
  have e : (l.map PyData.str).mergeSort dLe = (sortS l).map .str := sortD_strs l
  rw [e, List.pairwise_map] at h
  exact h
theorem sortS_of {l m : List Str} (p : l.Perm m) (h : l.Pairwise fun a b => sLe a b = true) : l = sortS m := by
  have h1 : (l.map PyData.str).Pairwise fun a b => dLe a b = true := List.pairwise_map.mpr h
  have h2 : ((sortS m).map PyData.str).Pairwise fun a b => dLe a b = true := List.pairwise_map.mpr (sortS_pw m)
  exact map_str_inj (sorted_perm h1 h2 ((p.trans (sortS_perm m).symm).map _) (strs_all l))
theorem sortedS_eq {l m : List Str} (p : l.Perm m) (h : sortedS l = true) : l = sortS m := sortS_of p (sortedS_pw h)
/-- sorted(d) -/
theorem gSort2_dic {x : Xv} {M : Sto} {kvs : List (PyData × Xv)} {ks : List Str} {P : List Xv → Sto → Prop} (e : hd M x = .dic kvs) (ek : strKeys kvs = some ks) (h64 : ks.length < 64) (h : P (dX ((sortS ks).map .str)) M) : gSort2 [x] M P := by
  show (match hd M x with
    | .lst ys => ifS (datX ys) fun ds => Srt ds ∧ P (dX (sortD ds)) M
    | .dic kvs => ifS (strKeys kvs) fun ks => ks.length < 64 ∧ ∀ ys : List Str, ys.Perm ks → sortedS ys = true → P (dX (ys.map .str)) M
    | _ => False)
  rw [e]
  show ifS (strKeys kvs) _
  rw [ek]
  refine ifS_mk rfl ⟨h64, fun ys p so => ?_⟩
  rw [sortedS_eq p so]
  exact h
/-- sorted of texts -/
theorem srt_strs {ss : List Str} (h : ss.length ≤ sizeLine) : Srt (ss.map .str) := by
  refine ⟨strs_all ss, .inr fun x hx => ?_, fun x hx => ?_, by rw [List.length_map]; exact h⟩
  · obtain ⟨a, _, rfl⟩ := List.mem_map.mp hx
    simp
  · obtain ⟨a, _, rfl⟩ := List.mem_map.mp hx
    exact Nat.zero_le _
theorem gSort2_strs {x : Xv} {M : Sto} {ss : List Str} {P : List Xv → Sto → Prop} (e : hd M x = .lst (dX (ss.map .str))) (h : ss.length ≤ sizeLine) (p : P (dX ((sortS ss).map .str)) M) : gSort2 [x] M P := by
  show (match hd M x with
    | .lst ys => ifS (datX ys) fun ds => Srt ds ∧ P (dX (sortD ds)) M
    | .dic kvs => ifS (strKeys kvs) fun ks => ks.length < 64 ∧ ∀ ys : List Str, ys.Perm ks → sortedS ys = true → P (dX (ys.map .str)) M
    | _ => False)
  rw [e]
  show ifS (datX (dX (ss.map .str))) _
  rw [datX_dX]
  refine ifS_mk rfl ⟨srt_strs h, ?_⟩
  rw [sortD_strs]
  exact p

/-! ### sorted(set(texts)) -/
def addS (l : List Str) (x : Str) : List Str := if x ∈ l then l else x :: l
def uqS (l : List Str) : List Str := l.foldl addS []
/-- the texts of a list, once each, ascending -/
def SU (l : List Str) : List Str := sortS (uqS l)
theorem addS_key (l : List Str) (x : Str) : addK (l.map .inr) (.inr x) = (addS l x).map .inr := by
  unfold addK addS
  by_cases h : x ∈ l
  · rw [if_pos h, if_pos (any_key.mpr (List.mem_map.mpr ⟨x, h, rfl⟩))]
  · rw [if_neg h, if_neg fun z => h ?_]
    · rfl
    · obtain ⟨y, hy, e⟩ := List.mem_map.mp (any_key.mp z)
      cases e; exact hy
theorem foldS_key : ∀ (l a : List Str), (l.map Sum.inr).foldl addK (a.map .inr) = (l.foldl addS a).map .inr
  | [], _ => rfl
  | x :: l, a => by
    rw [List.map_cons, List.foldl_cons, List.foldl_cons, addS_key, foldS_key l]
theorem uniqK_strs (l : List Str) : uniqK (l.map .inr) = (uqS l).map .str := by
  unfold uniqK
  have := foldS_key l []
  rw [List.map_nil] at this
  rw [this, List.map_map]
  rfl
theorem addS_mem {l : List Str} {x y : Str} : y ∈ addS l x ↔ y ∈ l ∨ y = x := by
  unfold addS
  split
  · rename_i h
    exact ⟨.inl, fun q => q.elim id fun e => e ▸ h⟩
  · rw [List.mem_cons]; exact or_comm
theorem foldS_mem : ∀ {l a : List Str} {y : Str}, y ∈ l.foldl addS a ↔ y ∈ a ∨ y ∈ l
  | [], a, y => by simp
  | x :: l, a, y => by
    rw [List.foldl_cons, foldS_mem, addS_mem, List.mem_cons]
    exact or_assoc
theorem foldS_nodup : ∀ {l a : List Str}, a.Nodup → (l.foldl addS a).Nodup
  | [], _, h => h
  | x :: l, a, h => by
    rw [List.foldl_cons]
    refine foldS_nodup ?_
    unfold addS
    split
    · exact h
    · rename_i q; exact List.nodup_cons.mpr ⟨q, h⟩
theorem SU_mem {l : List Str} {y : Str} : y ∈ SU l ↔ y ∈ l := by
  unfold SU
  rw [(sortS_perm _).mem_iff]
  unfold uqS
  rw [foldS_mem]
  simp
theorem SU_nodup (l : List Str) : (SU l).Nodup := (sortS_perm _).nodup_iff.mpr (foldS_nodup List.nodup_nil)
theorem SU_pw (l : List Str) : (SU l).Pairwise fun a b => sLe a b = true := sortS_pw _
theorem SU_len (l : List Str) : (SU l).length ≤ l.length := by
  show (sortS (uqS l)).length ≤ _
  rw [(sortS_perm _).length_eq]
  have key : ∀ (l a : List Str), (l.foldl addS a).length ≤ a.length + l.length := by
    intro l
    induction l with
    | nil => intro a; simp
    | cons x l ih =>
      intro a
      have h := ih (addS a x)
      have : (addS a x).length ≤ a.length + 1 := by unfold addS; split <;> simp
      rw [List.foldl_cons, List.length_cons]; omega
  have h := key l []
  rw [List.length_nil, Nat.zero_add] at h
  exact h
theorem keysX_strs : ∀ l : List Str, keysX (dX (l.map .str)) = some (l.map .inr)
  | [] => rfl
  | x :: l => by
    show (keyOf (.str x)).bind (fun k => (keysX (dX (l.map .str))).map (k :: ·)) = _
    rw [keysX_strs l]; rfl
theorem sset_strs {ss : List Str} {M : Sto} {P : List Xv → Sto → Prop} (hl : ss.length < 4000) (p : P (dX ((SU ss).map .str)) M) : ifS (keysX (dX (ss.map .str))) fun ks => ks.length + 1 < scanBound ∧ PySem.W.AllAlike (ks.map kD) ∧ P (dX (sortD (uniqK ks))) M := by
  rw [keysX_strs]
  refine ifS_mk rfl ⟨?_, ?_, ?_⟩
  · rw [List.length_map]
    have : scanBound = 4096 := rfl
    omega
  · rw [List.map_map]; exact strs_all ss
  · rw [uniqK_strs, sortD_strs]; exact p
end G

set_option Elab.async false
set_option linter.all false
set_option maxRecDepth 100000
set_option maxHeartbeats 8000000
/-! G19: dicts walked, dict(pairs), d.get(k, x), dict comprehensions, isinstance of two types, extend by what is told. -/
namespace G
open PySem PySem.Spec PyProof.Rows L2

/-! ### for k in d: d is data -/
def iDk (te : TE) : TI := fun σ H R => te σ H fun x H1 => ∃ d kvs, x = .ref d ∧ ((∃ o, H1 d = some (.frz o (.dK kvs)) ∧ R (Itk d o kvs) H1) ∨ (H1 d = some (.dK kvs) ∧ ∀ o, R (Itk d o kvs) (upd H1 d (.frz o (.dK kvs)))))
theorem pi_dk {X : Cx} {tg e : Expr} {te : TE} (he : PE X e te) : PI X tg e (iDk te) := by
  refine ⟨fun pins s σ H R I h => ?_⟩
  refine thn (he.run pins s σ H _ I h) fun u s1 ⟨x, H1, I1, rx, d, kvs, ex, q⟩ => ?_
  subst ex
  obtain rfl : u = Value.ref d := rx
  have core : ∀ (o : Obj) (H2 : Hp), Inv X pins σ H2 s1 → H2 d = some (.frz o (.dK kvs)) → R (Itk d o kvs) H2 → wpAny (model X.prog X.w) X.A (pyIter (.ref d)) (PIE X pins σ tg R) X.xe s1 := fun o H2 I2 hd q => by
    obtain ⟨hs, hgd, hx, es, ep, vs, hdt, hsz, kv, hm⟩ := I2.frzK hd
    refine iter_keys hs hgd hx hdt (pi_one (tk := s1.toks) I2 _ (turn_keys _ hdt) ⟨_, Heap.get?_push_size _ rfl, rfl, ?_⟩ q)
    rw [hsz] <;> rfl
  rcases q with ⟨o, hd, q⟩ | ⟨hd, q⟩
  · exact core o H1 I1 hd q
  · obtain ⟨od, I2⟩ := I1.lock hd trivial
    exact core od _ I2 upd_same (q od)
def fzd (M : Sto) : Xv → Option PyData
  | .d d => some d
  | .c i => match M[i]? with
    | some (.frz d) => some d
    | _ => none
theorem fzd_ok {K : PySem.W.Frag} {W : Wd} {M : Sto} {H : Hp} {v : V} {x : Xv} {d : PyData} (I : InvS K W M H) (h : VX K W v x) (e : fzd M x = some d) : Dq K W.F v d := by
  cases x with
  | d d' => cases e; exact h
  | c i =>
    obtain ⟨a, rfl, ha⟩ := h
    have e : (match M[i]? with
      | some (.frz d) => some d
      | _ => none) = some d := e
    split at e
    · rename_i d' em
      cases e
      exact I.ob i a _ ha em
    · cases e
theorem itx_dk {K : PySem.W.Frag} {W : Wd} {a : Addr} {o : Obj} {kvs : List (Key × V)} (h : W.F a = some (.frz o (.dK kvs))) : ItX K W (Itk a o kvs) (dX (kvs.map fun p => kD p.1)) fun _ => True := by
  intro W2 M2 H2 i l I2 _
  have hF := l.f.fz _ _ _ h
  have hH := I2.sf _ _ hF
  refine ⟨fun hi => ⟨hH, by simpa using hi⟩, fun x hx => ?_⟩
  rw [dX, List.map_map, List.getElem?_map] at hx
  cases ek : kvs[i]? with
  | none => rw [ek] at hx; cases hx
  | some p =>
    rw [ek] at hx
    cases hx
    refine ⟨⟨hH, (List.getElem?_eq_some_iff.mp ek).1⟩, fun v H3 y => ?_⟩
    obtain ⟨rfl, k, v', e2, rfl⟩ := y
    rw [ek] at e2
    cases e2
    refine ⟨W2, .refl W2, I2, ?_⟩
    show Dq K W2.F (kV k) (kD k)
    cases k with
    | inl i => exact .int i
    | inr x => exact .str x
theorem InvS.lockF {K : PySem.W.Frag} {W : Wd} {M : Sto} {H : Hp} (I : InvS K W M H) {a : Addr} {u : HO} (h : W.F a = some u) (hp : plainO u) (o : Obj) :
    InvS K ⟨W.θ, upd W.F a (.frz o u), W.G⟩ M (upd H a (.frz o u)) ∧ W.le ⟨W.θ, upd W.F a (.frz o u), W.G⟩ := by
  have l : W.le ⟨W.θ, upd W.F a (.frz o u), W.G⟩ := ⟨⟨fun i a h => h, fun b u' pu r => ?_, fun b hb => ?_, fun b o' u' hb => ?_⟩, rfl⟩
  rotate_left
  · by_cases e : b = a
    · subst e
      have : u' = u := by
        rcases r with r | ⟨o', r⟩
        · rw [h] at r; cases r; rfl
        · rw [h] at r; cases r; exact hp.elim
      subst this
      exact .inr ⟨o, upd_same⟩
    · rcases r with r | ⟨o', r⟩
      · exact .inl (by show upd W.F a _ b = _; rw [upd_ne e]; exact r)
      · exact .inr ⟨o', by show upd W.F a _ b = _; rw [upd_ne e]; exact r⟩
  · show upd W.F a _ b ≠ none
    by_cases e : b = a
    · subst e; rw [upd_same]; simp
    · rw [upd_ne e]; exact hb
  · show upd W.F a _ b = _
    by_cases e : b = a
    · subst e; rw [h] at hb; cases hb; exact hp.elim
    · rw [upd_ne e]; exact hb
  have ga : W.G a = none := (I.fg a).resolve_left (by rw [h]; simp)
  refine ⟨⟨I.len, I.nd, fun i b o' h1 h2 => ?_, fun b x e => ?_, fun b x e => ?_, fun b => ?_, I.tg, fun b hb => ?_⟩, l⟩
  · have ok := I.ob i b o' h1 h2
    by_cases e : b = a
    · subst e
      cases o' with
      | frz d => exact Dq.same l.f ok
      | lst xs => obtain ⟨f0, _⟩ := ok; rw [h] at f0; cases f0
      | tup xs => obtain ⟨f0, _⟩ := ok; rw [h] at f0; cases f0
      | dic xs => obtain ⟨f0, _⟩ := ok; rw [h] at f0; cases f0
      | dit xs => obtain ⟨f0, _⟩ := ok; rw [h] at f0; cases f0
      | ins C xs => obtain ⟨f0, _⟩ := ok; rw [h] at f0; cases f0
    · exact ok.le l (upd_ne e).symm (upd_ne e)
  · have e : upd W.F a (.frz o u) b = some x := e
    by_cases q : b = a
    · subst q; rw [upd_same] at e ⊢; exact e
    · rw [upd_ne q] at e ⊢; exact I.sf b x e
  · have e : W.G b = some x := e
    rw [upd_ne (show b ≠ a from fun z => by subst z; rw [ga] at e; cases e)]
    exact I.sg b x e
  · by_cases q : b = a
    · subst q; exact .inr ga
    · rcases I.fg b with z | z
      · exact .inl (by show upd W.F a _ b = none; rw [upd_ne q]; exact z)
      · exact .inr z
  · by_cases q : b = a
    · subst q; rw [upd_same]; simp
    · rw [upd_ne q]; exact I.th b hb
def riDk (r : RE) : RI := fun σ M P => r σ M fun x M1 => match fzd M1 x with
  | some (.dict ps) => P (dX (ps.map (·.1))) (fun _ => True) M1
  | _ => False
theorem si_dk {X : Cx} {tg e : Expr} {r : RE} (h : SE X e r) : SI X tg e (riDk r) := by
  obtain ⟨t, p, s⟩ := h
  refine ⟨_, pi_dk p, fun W M H σ σx P R I S hr q => ?_⟩
  refine s W M H σ σx _ _ I S hr fun W1 M1 H1 v x l1 I1 v1 p1 => ?_
  split at p1
  · rename_i ps e1
    have dq := fzd_ok I1 v1 e1
    generalize ed : PyData.dict ps = dd at dq
    cases dq with
    | @dic a kvs ds hr ha =>
      cases ed
      have hl : (kvs.map fun p => kD p.1).length = ds.length := by
        have := DqAll.length ha
        rw [List.length_map] at this ⊢
        exact this
      rw [show ((kvs.map fun p => kD p.1).zip ds).map (·.1) = kvs.map fun p => kD p.1 from List.map_fst_zip (by omega)] at p1
      refine ⟨a, kvs, rfl, ?_⟩
      rcases hr with hr | ⟨o, hr⟩
      · refine .inr ⟨I1.sf _ _ hr, fun o => ?_⟩
        obtain ⟨I2, l2⟩ := I1.lockF hr trivial o
        exact q _ M1 _ _ _ _ (l1.trans l2) I2 (itx_dk upd_same) p1
      · exact .inl ⟨o, I1.sf _ _ hr, q W1 M1 H1 _ _ _ l1 I1 (itx_dk hr) p1⟩
    | _ => cases ed
  · exact p1.elim

/-! ### dict(pairs) -/
def pairD : PyData → Option (Key × PyData)
  | .tuple [k, x] => (keyOf k).map fun kk => (kk, x)
  | _ => none
def pairsD : List PyData → Option (List (Key × PyData))
  | [] => some []
  | d :: r => (pairD d).bind fun p => (pairsD r).map (p :: ·)
def xP (kvs : List (Key × PyData)) : List (Key × Xv) := kvs.map fun p => (p.1, .d p.2)
theorem pairD_of {d : PyData} {p : Key × PyData} (h : pairD d = some p) : ∃ k, d = .tuple [k, p.2] ∧ keyOf k = some p.1 := by
  unfold pairD at h
  split at h
  · rename_i k x
    cases e : keyOf k with
    | none => rw [e] at h; cases h
    | some kk => rw [e] at h; cases h; exact ⟨k, rfl, e⟩
  · cases h
theorem pairs_dq {K : PySem.W.Frag} {W : Wd} {M : Sto} {H : Hp} (I : InvS K W M H) : ∀ {ds : List PyData} {us : List V} {kvs : List (Key × PyData)}, DqAll K W.F us ds → pairsD ds = some kvs →
    ∃ (ps : List Addr) (kv : List (Key × V)), us = ps.map V.ref ∧ Paired (fun p q => SqT K H p [kV q.1, q.2]) ps kv ∧ KVX K W kv (xP kvs)
  | [], _, kvs, .nil, e => by cases e; exact ⟨[], [], rfl, .nil, .nil⟩
  | d :: ds, _, kvs, .cons h t, e => by
    have e : (pairD d).bind (fun p => (pairsD ds).map (p :: ·)) = some kvs := e
    cases e1 : pairD d with
    | none => rw [e1] at e; cases e
    | some p =>
      rw [e1] at e
      have e : (pairsD ds).map (p :: ·) = some kvs := e
      cases e2 : pairsD ds with
      | none => rw [e2] at e; cases e
      | some r =>
        rw [e2] at e
        cases e
        obtain ⟨ps, kv, h1, h2, h3⟩ := pairs_dq I t e2
        obtain ⟨k, rfl, ek⟩ := pairD_of e1
        have := keyOf_of ek
        subst this
        cases h with
        | @tup a xs _ hs ha =>
          cases ha with
          | cons q1 q2 =>
            cases q2 with
            | cons q3 q4 =>
              cases q4
              have := keyV q1
              subst this
              exact ⟨a :: ps, (p.1, _) :: kv, by rw [h1]; rfl, .cons ((SameR.of I.sf).sqT hs) h2, .cons ⟨rfl, q3⟩ h3⟩
def gDict : GL := fun xs M P => match xs with
  | [x] => match hd M x with
    | .lst ys => ifS (datX ys) fun ds => ifS (pairsD ds) fun kvs => P (.c M.length) (M ++ [.dic (mergeX [] (xP kvs))])
    | _ => False
  | _ => False
theorem bx_dict {X : Cx} (hc : X.calm = true) : BX X (.type "dict") gDict := by
  refine ⟨_, call_dictP hc, fun W M H vs xs P Q I hv hg q => ?_⟩
  unfold gDict at hg
  split at hg
  · obtain ⟨v, rfl, v1⟩ := vxs1 hv
    split at hg
    · rename_i ys e
      obtain ⟨a, us, rfl, h1, h2⟩ := lstH I v1 e
      obtain ⟨ds, e2, hg⟩ := ifS_of hg
      obtain ⟨kvs, e3, p⟩ := ifS_of hg
      have := datX_of e2
      subst this
      obtain ⟨ps, kv, rfl, h3, h4⟩ := pairs_dq I (VXs.toD h2) e3
      refine ⟨a, ps, kv, rfl, h1, h3, fun p' hp => ?_⟩
      obtain ⟨I1, L1⟩ := I.loose hp (.dK (mergeK [] kv))
      have kx : KVX X.K W (mergeK [] kv) (mergeX [] (xP kvs)) := KVX.merge h4 .nil
      obtain ⟨I2, l2, x2⟩ := I1.adoptCell L1 (o := .dic (mergeX [] (xP kvs))) fun W' l' f' => ⟨f', _, L1.at_, kx.le l'⟩
      exact q _ _ _ _ _ l2 I2 x2 p
    · exact hg.elim
  · exact hg.elim

/-! ### d.get(k, x) -/
def isDic (M : Sto) (x : Xv) : Prop := match hd M x with
  | .dic _ => True
  | _ => False
theorem isDic_ok {K : PySem.W.Frag} {W : Wd} {M : Sto} {H : Hp} {v : V} {x : Xv} (I : InvS K W M H) (h : VX K W v x) (e : isDic M x) : ∃ a, v = .ref a ∧ IsD H a := by
  unfold isDic at e
  split at e
  · rename_i kvs e1
    obtain ⟨a, rfl, vs, h1, _⟩ := dicH I h e1
    exact ⟨a, rfl, .inl ⟨vs, h1⟩⟩
  · exact e.elim
def gGet (o k z : Xv) (M : Sto) (P : Xv → Sto → Prop) : Prop := match hd M o, hd M k with
  | .dic kvs, .sc d => ifS (keyOf d) fun _ => P ((dget kvs d).getD z) M
  | _, _ => False
def rGet2 (ro rk rd : RE) : RE := fun σ M P => ro σ M fun o M1 => isDic M1 o ∧ rk σ M1 fun k M2 => rd σ M2 fun z M3 => gGet o k z M3 P
theorem gGet_s {M : Sto} {o z : Xv} {n : Str} {kvs : List (PyData × Xv)} (e : hd M o = .dic kvs) (P : Xv → Sto → Prop) : gGet o (.d (.str n)) z M P = P ((dget kvs (.str n)).getD z) M := by
  unfold gGet
  rw [e]
  rfl
theorem isDic_of {M : Sto} {o : Xv} {kvs : List (PyData × Xv)} (e : hd M o = .dic kvs) : isDic M o := by
  unfold isDic
  rw [e]
  trivial
section
variable {X : Cx} {o e f : Expr} {ro rk rd : RE} {apos cpos : Pos}
theorem se_get2 (hu : X.A.units + 1 < cLine) (ho : SE X o ro) (he : SE X e rk) (hf : SE X f rd) (m : M2 X o "get" apos e f cpos := by exact ⟨by rfl, by rfl, by rfl, by rfl⟩) : SE X (.Call (.Attribute o "get" apos) [e, f] [] cpos) (rGet2 ro rk rd) := by
  obtain ⟨to, po, so⟩ := ho
  obtain ⟨te, pe, se⟩ := he
  obtain ⟨tf, pf, sf⟩ := hf
  refine ⟨_, pe_dget2 hu po pe pf m, fun W M H σ σx P Q I S hr q => ?_⟩
  refine so W M H σ σx _ _ I S hr fun W1 M1 H1 v x l1 I1 v1 p1 => ?_
  obtain ⟨hd1, p1⟩ := p1
  obtain ⟨a, rfl, hA⟩ := isDic_ok I1 v1 hd1
  refine ⟨a, rfl, hA, ?_⟩
  refine se W1 M1 H1 σ σx _ _ I1 (S.le l1) p1 fun W2 M2 H2 u y l2 I2 v2 p2 => ?_
  refine sf W2 M2 H2 σ σx _ _ I2 (S.le (l1.trans l2)) p2 fun W3 M3 H3 w z l3 I3 v3 p3 => ?_
  unfold gGet at p3
  split at p3
  · rename_i kvs d e1 e2
    obtain ⟨kk, ek, p⟩ := ifS_of p3
    obtain ⟨a', ea, _, h⟩ := dGet_ok I3 (v1.le (l2.trans l3)) e1 (scAny I3 (v2.le l3) e2) ek
    cases ea
    have l123 := l1.trans (l2.trans l3)
    rcases h with ⟨h1, h2⟩ | ⟨w', y', h1, h2, h3⟩
    · rw [h1] at p
      exact ⟨none, h2, q W3 M3 H3 w z l123 I3 v3 p⟩
    · rw [h1] at p
      exact ⟨some w', h2, q W3 M3 H3 w' y' l123 I3 h3 p⟩
  · exact p3.elim
end

/-! ### isinstance(x, (c1, c2)) -/
def isiAny (t : String) : List String → Option Bool
  | [] => some false
  | c :: r => match isiT t c with
    | some true => some true
    | some false => isiAny t r
    | none => none
theorem isiAny_ok (K : PySem.W.Frag) {t : String} : ∀ {cs : List String} {b : Bool}, isiAny t cs = some b → PySem.W.kitAny K (.type t) (cs.map .type) = some b
  | [], b, h => by cases h; rfl
  | c :: r, b, h => by
    have h : (match isiT t c with
      | some true => some true
      | some false => isiAny t r
      | none => none) = some b := h
    show (match PySem.W.kitOne K (.type t) (.type c) with
      | some true => some true
      | some false => PySem.W.kitAny K (.type t) (r.map .type)
      | none => none) = some b
    cases e : isiT t c with
    | none => rw [e] at h; cases h
    | some x =>
      rw [isiT_ok K e]
      rw [e] at h
      cases x with
      | true => exact h
      | false => exact isiAny_ok K h
def rIsi2 (cs : List String) (ra : RE) : RE := fun σ M P => ra σ M fun x M1 => ifS (tyH (hd M1 x)) fun t => ifS (isiAny t cs) fun b => P (.d (.bool b)) M1
section
variable {X : Cx} {a : Expr} {ra : RE} {x c1 c2 : Str} {n1 n2 : String} {p p1 p2 pos tpos : Pos} {tk : Nat}
theorem se_isi2 (hg : Gl X "isinstance") (hm : X.mg "isinstance" = none) (hg1 : Gl X c1) (hm1 : X.mg c1 = none) (hg2 : Gl X c2) (hm2 : X.mg c2 = none) (hv1 : bootBuiltins c1 = some (.type n1)) (hv2 : bootBuiltins c2 = some (.type n2)) (ha : SE X a ra)
    (hn1 : c1 ≠ "__name__" := by decide) (hdb1 : (c1 == ("__debug__" : Str)) = false := by decide) (hn2 : c2 ≠ "__name__" := by decide) (hdb2 : (c2 == ("__debug__" : Str)) = false := by decide)
    (ht : starEach [.Name c1 p1, .Name c2 p2] X.env = (false, eval (.Name c1 p1) X.env) :: starEach [.Name c2 p2] X.env := by rfl) (ht2 : starEach [.Name c2 p2] X.env = (false, eval (.Name c2 p2) X.env) :: starEach [] X.env := by rfl)
    (he : starEach [a, .Tuple [.Name c1 p1, .Name c2 p2] tk tpos] X.env = (false, eval a X.env) :: starEach [.Tuple [.Name c1 p1, .Name c2 p2] tk tpos] X.env := by rfl) (he2 : starEach [.Tuple [.Name c1 p1, .Name c2 p2] tk tpos] X.env = (false, eval (.Tuple [.Name c1 p1, .Name c2 p2] tk tpos) X.env) :: starEach [] X.env := by rfl)
    (hpl : (backTo pos (starEach [.Tuple [.Name c1 p1, .Name c2 p2] tk tpos] X.env)).any (·.1) = false := by rfl) : SE X (.Call (.Name "isinstance" p) [a, .Tuple [.Name c1 p1, .Name c2 p2] tk tpos] [] pos) (rIsi2 [n1, n2] ra) := by
  obtain ⟨ta, pa, sa⟩ := ha
  refine ⟨_, pe_callB call_isiT hg hm PyProof.Rows.boot_isinstance (pa_cons pa (pa_cons (pe_tup (pa_cons (pe_bltn (v := .ty n1) hg1 hm1 hv1 rfl hn1 hdb1) (pa_cons (pe_bltn (v := .ty n2) hg2 hm2 hv2 rfl hn2 hdb2) pa_nil ht2) ht)) pa_nil he2) he) (by decide) (by decide) he hpl, fun W M H σ σx P Q I S hr q => ?_⟩
  refine sa W M H σ σx _ _ I S hr fun W1 M1 H1 v x l1 I1 v1 p1 => ?_
  obtain ⟨t, e1, p1⟩ := ifS_of p1
  obtain ⟨b, e2, p1⟩ := ifS_of p1
  refine ⟨show 2 ≤ sizeLine by rw [sizeLine_eq]; omega, fun T hT => ?_⟩
  obtain ⟨I2, L2⟩ := I1.loose hT (.tup [.ty n1, .ty n2])
  exact ⟨v, T, [.ty n1, .ty n2], .type t, [.type n1, .type n2], b, rfl, upd_same, .cons (.ty _) (.cons (.ty _) .nil), tyx I2 v1 e1, isiAny_ok X.K e2, q W1 M1 _ _ (.d (.bool b)) l1 I2 (show Dq _ _ _ _ from .bl _) p1⟩
end

/-! ### xs.extend(ys), ys told -/
theorem list_extendW (l : Addr) (items : Array Value) (n : Nat) (b : Addr) (items2 : Array Value) (n2 : Nat) (dd2 : Option Addr) (sl2 : Array (Option Value)) (hc0 : ¬(!items.isEmpty && Builtin.List.listTooLong (items.size + items2.size)) = true) (hc1 : items.size ≤ sizeLine) (hs2 : items.size + items2.size ≤ sizeLine + 1) :
    Meets (Builtin.«list.extend» ⟨[.ref l, .ref b], []⟩) (fun _ R s => s.heap.get? l = some { cls := .type "list", dict := none, data := .seq items n, slots := #[] } ∧ s.heap.get? b = some { cls := .type "list", dict := dd2, data := .seq items2 n2, slots := sl2 } ∧ R (.ok (.ret Value.none)) { s with heap := s.heap.update l (Obj.mapSeq fun x => x ++ items2), toks := s.toks }) :=
  .of_wp fun prog w A R s h => by
    obtain ⟨hp, g, d, tk, os⟩ := s
    obtain ⟨hl, hb, h⟩ := h
    have f1 := AutoSeq1.idx_int
    have f2 := AutoSeq1.sub_tuple_tuple
    have f3 := AutoSeq1.sub_list_list
    have f4 := AutoSeq1.sub_tuple_list
    have f5 := AutoSeq1.sub_list_tuple
    have hz' : (items ++ items2).size ≤ sizeLine + 1 := by rw [Array.size_append]; exact hs2
    wp_walk using (wpAny_updateSeq hl rfl (hz := hc1) (_hz' := hz')), wpAny_loadPart' hl, wpAny_loadPart' hb
    exact ⟨_, rfl, h⟩
def rExtQ (K : PySem.W.Frag) : V → List V → Hp → VK → Prop := fun x vs H Q => ∃ l b xs zs, x = .ref l ∧ vs = [.ref b] ∧ H l = some (.lst xs) ∧ SqL K H b zs ∧ xs.length + zs.length ≤ sizeLine ∧ Q .non (upd H l (.lst (xs ++ zs)))
theorem mt_extendQ {X : Cx} : MtM X "list.extend" (rExtQ X.K) := by
  intro pins s σ H x vs v us Q I rx rv h
  obtain ⟨l, b, xs, zs, rfl, rfl, hH, hB, hz, q⟩ := h
  cases rx
  obtain ⟨u, rfl, ru⟩ := rv.one
  cases ru
  obtain ⟨z, its, n, r, hl, e⟩ := I.lstM hH
  obtain ⟨its2, r2, ⟨⟨cls, dd, data, sl⟩, n2, ho, hc, hd, hdat⟩, _⟩ := I.list hB
  simp only at hc hd hdat
  subst hc hd hdat
  have hl2 := r2.length
  have hsz : its.toArray.size + its2.toArray.size ≤ sizeLine := by rw [List.size_toArray, List.size_toArray]; omega
  have hlong : ¬ (!its.toArray.isEmpty && Builtin.List.listTooLong (its.toArray.size + its2.toArray.size)) = true := by
    rw [notLongL hsz, Bool.and_false]
    exact Bool.false_ne_true
  refine call_meets PySem.F.slot_list_extend ⟨_, e, rfl⟩ PySem.F.entry_list_extend (PySem.F.args_list_extend_2 _ _)
    (list_extendW l its.toArray n b its2.toArray n2 none sl hlong (by rw [List.size_toArray]; omega) (by omega)) ⟨e, ho, ?_⟩
  refine ⟨.non, _, I.lset (its' := its ++ its2) hH e (by simp) (r.append r2) ?_, rfl, q⟩
  rw [List.length_append]
  omega
/-- a told list put at the end of a list -/
def rExtV (ro re : RE) : RE := fun σ M P => ro σ M fun o M1 => isLst M1 o ∧ re σ M1 fun y M2 => match o, hd M2 y with
  | .c j, .lst ys => match M2[j]? with
    | some (.lst xs) => xs.length + ys.length ≤ sizeLine ∧ P (.d .none) (M2.set j (.lst (xs ++ ys)))
    | _ => False
  | _, _ => False
section
variable {X : Cx} {o e : Expr} {ro re : RE} {apos cpos : Pos}
theorem se_extendV (ho : SE X o ro) (he : SE X e re) (hbase : attributeBase o "extend" X.env (eval o X.env) = eval o X.env := by rfl)
    (hfew : ((backTo cpos (starEach (e :: []) X.env)).all (fun x => !x.1) && (backToKw cpos (keywordEach [] X.env)).all (fun x => x.1.isSome)
      && decide ((e :: ([] : List Expr)).length + ([] : List Keyword).length + (if ([] : List Keyword).isEmpty then 0 else 1) < 30)) = true := by rfl)
    (hline : (apos.endLine == cpos.line) = true := by rfl) (hs : starEach (e :: []) X.env = (false, eval e X.env) :: starEach [] X.env := by rfl) (hplain : (backTo cpos (starEach [] X.env)).any (·.1) = false := by rfl) :
    SE X (.Call (.Attribute o "extend" apos) [e] [] cpos) (rExtV ro re) := by
  obtain ⟨to, po, so⟩ := ho
  obtain ⟨te, pe, se⟩ := he
  refine ⟨_, pe_bm PySem.F.plainAttrs_list PySem.F.slot_list_extend PySem.F.type_list_extend mt_extendQ po (pa_cons pe pa_nil hs) hbase hfew hline hs hplain, fun W M H σ σx P Q I S hr q => ?_⟩
  refine so W M H σ σx _ _ I S hr fun W1 M1 H1 v x l1 I1 v1 p1 => ⟨isLst_ok I1 v1 p1.1, ?_⟩
  refine se W1 M1 H1 σ σx _ _ I1 (S.le l1) p1.2 fun W2 M2 H2 u y l2 I2 v2 p2 => ?_
  split at p2
  · rename_i j ys e1
    have v1' := v1.le l2
    obtain ⟨a, rfl, ha⟩ := v1'
    obtain ⟨b, us, rfl, hb, hv⟩ := lstH I2 v2 e1
    split at p2
    · rename_i xs em
      obtain ⟨f0, vs, h1, h2⟩ := I2.ob j a _ ha em
      refine ⟨a, b, vs, us, rfl, rfl, h1, hb, by rw [h2.length, hv.length]; exact p2.1, ?_⟩
      have I3 := I2.write (u := .lst (vs ++ us)) (o := .lst (xs ++ ys)) ha f0 ⟨f0, _, upd_same, h2.append hv⟩
      exact q W2 _ _ _ (.d .none) (l1.trans l2) I3 (show Dq _ _ _ _ from .non) p2.2
    · exact p2.elim
  · exact p2.elim
end

/-! ### {k: v for ..} -/
def dcW (g : RG) (rt : RT) (rk rv : RE) (keep : Sto → Prop) (σw : Sl) (P : List (Key × Xv) → Sto → Prop) : List Xv → List (Key × Xv) → Sto → Prop
  | [], acc, M => keep M ∧ P acc M
  | x :: xs, acc, M => keep M ∧ g x σw M fun σ1 M1 => rt σ1 M1 fun b M2 => if b = true then rk σ1 M2 fun y M3 => rv σ1 M3 fun z M4 => acc.length < sizeLine ∧ ifS (keyX y) fun k => dcW g rt rk rv keep σw P xs (putX acc k z) M4 else dcW g rt rk rv keep σw P xs acc M2
def rDc (ri : RI) (g : RG) (rt : RT) (rk rv : RE) (vs : List Nat) : RE := fun σ M P => ri σ M fun items keep M1 => dcW g rt rk rv keep (wipeX σ vs) (fun acc M2 => P (.c M2.length) (M2 ++ [.dic acc])) items [] M1
theorem snd_dc {K : PySem.W.Frag} {wi : TI} {ri : RI} {js vs : List Nat} {g : RG} {rt : RT} {rk rv : RE} (hi : SndI K wi ri) (hj : ∀ j ∈ js, j ∈ vs) : Snd K (tDc wi (tgOf K js g) (ttOf K rt) (tOf K rk) (tOf K rv) vs) (rDc ri g rt rk rv vs) := by
  intro W M H σ σx P Q I S h q
  refine hi W M H σ σx _ _ I S h fun W1 M1 H1 J items keep l1 I1 T p1 => ?_
  intro D hD
  have S1 := slr_wipe (S.le l1) vs
  have gD : W1.G D = none := (I1.fresh hD).2.1
  refine ⟨fun i m H' => m = items.length - i ∧ ∃ (W' : Wd) (M' : Sto) (acc : List (Key × Xv)) (va : List (Key × V)), W1.le W' ∧ InvS K ⟨W'.θ, W'.F, upd W1.G D (.dK va)⟩ M' H' ∧ KVX K W' va acc ∧ dcW g rt rk rv keep (wipeX σx vs) (fun acc M2 => P (.c M2.length) (M2 ++ [.dic acc])) (items.drop i) acc M',
    ⟨_, rfl, W1, M1, [], [], .refl W1, I1.guard hD, .nil, p1⟩, ?_⟩
  rintro i m H' ⟨rfl, W', M', acc, va, l', I', va', h'⟩
  have W'0 : ∀ u, W1.lf ⟨W'.θ, W'.F, u⟩ := fun u => ⟨l'.th, l'.f⟩
  by_cases hi' : i < items.length
  · rw [List.drop_eq_getElem_cons hi'] at h'
    obtain ⟨hk, h'⟩ := h'
    obtain ⟨_, T2⟩ := T _ M' H' i (W'0 _) I' hk
    obtain ⟨go, T3⟩ := T2 items[i] (List.getElem?_eq_getElem hi')
    refine .inr ⟨go, fun H2 => ∃ (W' : Wd) (M' : Sto) (acc : List (Key × Xv)) (va : List (Key × V)), W1.le W' ∧ InvS K ⟨W'.θ, W'.F, upd W1.G D (.dK va)⟩ M' H2 ∧ KVX K W' va acc ∧ dcW g rt rk rv keep (wipeX σx vs) (fun acc M2 => P (.c M2.length) (M2 ++ [.dic acc])) (items.drop (i + 1)) acc M',
      fun H2 h2 => ⟨items.length - (i + 1), by omega, rfl, h2⟩, fun v H3 y => ?_⟩
    obtain ⟨W3, l3, I3, v3⟩ := T3 v H3 y
    have S3 : Slr K W3 (wipe σ vs) (wipeX σx vs) := (S1.lf (W'0 _)).le l3
    refine ⟨_, M', _, _, _, I3, S3, v3, h', fun W4 M4 H4 σ4 σx4 l4 I4 S4 w4 p4 => ⟨?_, ?_⟩⟩
    · rw [w4 vs hj]
      apply List.ext_getElem?
      intro j
      rw [wipe_get, wipe_get, wipe_length]
      by_cases hm : j ∈ vs
      · rw [if_pos hm, if_pos hm]
      · rw [if_neg hm, if_neg hm]
    refine ⟨_, M4, _, _, I4, S4, p4, fun W5 M5 H5 b l5 I5 p5 => ?_⟩
    have g5 : W5.G = upd W1.G D (.dK va) := by rw [l5.g, l4.g, l3.g]
    have l15 : W1.lf W5 := ((W'0 _).trans l3.tolf).trans (l4.trans l5).tolf
    have va5 : KVX K W5 va acc := KVX.lf (l3.trans (l4.trans l5)).tolf va'
    cases b with
    | false =>
      rw [if_neg Bool.false_ne_true] at p5
      show (if false = true then _ else _)
      rw [if_neg Bool.false_ne_true]
      refine ⟨⟨W5.θ, W5.F, W1.G⟩, M5, acc, va, ⟨⟨l15.th, l15.f⟩, rfl⟩, ?_, va5, p5⟩
      show InvS K ⟨W5.θ, W5.F, upd W1.G D (.dK va)⟩ M5 H5
      rw [← g5]
      exact I5
    | true =>
      rw [if_pos rfl] at p5
      show (if true = true then _ else _)
      rw [if_pos rfl]
      refine ⟨_, M5, _, _, I5, S4.le l5, p5, fun W6 M6 H6 w x l6 I6 v6 p6 => ?_⟩
      refine ⟨_, M6, _, _, I6, (S4.le l5).le l6, p6, fun W7 M7 H7 w7 x7 l7 I7 v7 p7 => ?_⟩
      obtain ⟨hz, p7⟩ := p7
      obtain ⟨k, ek, p7⟩ := ifS_of p7
      have := keyX_ok v6 ek
      subst this
      have g7 : W7.G = upd W1.G D (.dK va) := by rw [l7.g, l6.g, g5]
      have gd : W7.G D = some (.dK va) := by rw [g7]; exact upd_same
      have va7 : KVX K W7 va acc := KVX.lf (l6.trans l7).tolf va5
      refine ⟨va, k, rfl, I7.sg D _ gd, by rw [KVX.length va7]; exact hz, ?_⟩
      have l17 := l15.trans (l6.trans l7).tolf
      refine ⟨⟨W7.θ, W7.F, W1.G⟩, M7, putX acc k x7, putK va k w7, ⟨⟨l17.th, l17.f⟩, rfl⟩, ?_, KVX.put va7 v7, p7⟩
      have := I7.reguard (u' := .dK (putK va k w7)) gd
      rw [g7, upd_upd] at this
      exact this
  · rw [List.drop_of_length_le (by omega)] at h'
    obtain ⟨hk, h'⟩ := h'
    refine .inl ⟨(T _ M' H' i (W'0 _) I' hk).1 (by omega), ?_⟩
    have I2 := I'.dropG (G0 := W1.G) (same_new gD)
    have hg : (upd W1.G D (.dK va)) D = some (.dK va) := upd_same
    have fD : W'.F D = none := (I'.fg D).resolve_right fun z => by
      have z : upd W1.G D (.dK va) D = none := z
      rw [upd_same] at z
      cases z
    have tD : D ∉ W'.θ := fun z => by
      have this : upd W1.G D (.dK va) D = none := I'.tg D z
      rw [upd_same] at this
      cases this
    have L2 : Loose ⟨W'.θ, W'.F, W1.G⟩ H' D (.dK va) := ⟨I'.sg D _ hg, fD, gD, tD⟩
    have lW : W.le ⟨W'.θ, W'.F, W1.G⟩ := l1.trans ⟨⟨l'.th, l'.f⟩, rfl⟩
    have kx : KVX K ⟨W'.θ, W'.F, W1.G⟩ va acc := KVX.lf ⟨fun _ _ z => z, SameR.refl _⟩ va'
    obtain ⟨I5, l5, x5⟩ := I2.adoptCell L2 (o := .dic acc) fun W' l' f' => ⟨f', _, L2.at_, kx.le l'⟩
    exact q _ _ _ _ _ (lW.trans l5) I5 x5 h'
/-- key and value of a comprehension's turn -/
def SDc (X : Cx) (kx vx : Expr) (ifs : List Expr) (tg : Expr) (scope : Scope) (js : List Nat) (g : RG) (rt : RT) (rk rv : RE) : Prop :=
  ∀ (s : Shared) (H : Hp) (C : Addr) (cl : List (Str × Addr)) (fp : List Addr),
    SG (X.blk s H scope (compEnvC scope cl C X.env) fp) tg js g ∧ (∃ t, PTs (X.blk s H scope (compEnvC scope cl C X.env) fp) ifs t ∧ SndT X.K t rt) ∧ SE (X.blk s H scope (compEnvC scope cl C X.env) fp) kx rk ∧ SE (X.blk s H scope (compEnvC scope cl C X.env) fp) vx rv
theorem se_dc {X : Cx} {kx vx tg iter : Expr} {ifs : List Expr} {scope : Scope} {own : List (Str × Nat)} {pos : Pos} {ri : RI} {js : List Nat} {g : RG} {rt : RT} {rk rv : RE} (hc : X.calm = true) (hN : X.N.Nodup) (hi : SI X tg iter ri) (ok : BlkOk X.N X.env.scope scope own) (hb : SDc X kx vx ifs tg scope js g rt rk rv)
    (hj : (js.all fun j => (own.map (·.2)).contains j) = true := by rfl) (hs : ∀ x, foldedSetIterable iter X.env x = pure x := by intro _; rfl) :
    SE X (.DictComp kx vx [⟨tg, iter, ifs, 0⟩] scope pos) (rDc ri g rt rk rv (own.map (·.2))) := by
  obtain ⟨wi, pi, si⟩ := hi
  exact ⟨_, pe_dc (tk := tOf X.K rk) (tv := tOf X.K rv) (tt := ttOf X.K rt) (g := tgOf X.K js g) hc hN pi ok (fun s H C cl fp => (hb s H C cl fp).1.can) (fun s H C cl fp => pts_can (hb s H C cl fp).2.1) (fun s H C cl fp => (hb s H C cl fp).2.2.1.can) (fun s H C cl fp => (hb s H C cl fp).2.2.2.can) hs,
    snd_dc si fun j hm => by simpa using List.all_eq_true.mp hj j hm⟩
/-- name = {..} on one line, the name a local -/
theorem ps_setDc {X : Cx} {i : Nat} {y : Str} {py : Pos} {kx vx tg iter : Expr} {ifs : List Expr} {scope : Scope} {own : List (Str × Nat)} {pos spos : Pos} {wi : TI} {g : TG} {tt : TT} {tk tv : TE} (hc : X.calm = true) (hN : X.N.Nodup) (hy : X.N[i]? = some y) (hyl : X.env.scope.names.lookup y = some .local)
    (hsw : swapsWith (.DictComp kx vx [⟨tg, iter, ifs, 0⟩] scope pos) (some (.Name y py)) spos.line X.env = pure true) (hi : PI X tg iter wi) (ok : BlkOk X.N X.env.scope scope own)
    (hg : ∀ (s : Shared) (H : Hp) (C : Addr) (cl : List (Str × Addr)) (fp : List Addr), PG (X.blk s H scope (compEnvC scope cl C X.env) fp) tg g) (ht : ∀ (s : Shared) (H : Hp) (C : Addr) (cl : List (Str × Addr)) (fp : List Addr), PTs (X.blk s H scope (compEnvC scope cl C X.env) fp) ifs tt)
    (hk : ∀ (s : Shared) (H : Hp) (C : Addr) (cl : List (Str × Addr)) (fp : List Addr), PE (X.blk s H scope (compEnvC scope cl C X.env) fp) kx tk)
    (he : ∀ (s : Shared) (H : Hp) (C : Addr) (cl : List (Str × Addr)) (fp : List Addr), PE (X.blk s H scope (compEnvC scope cl C X.env) fp) vx tv) (hs : ∀ x, foldedSetIterable iter X.env x = pure x := by intro _; rfl) :
    PS X (.Assign [.Name y py] (.DictComp kx vx [⟨tg, iter, ifs, 0⟩] scope pos) spos) (tAsg (tDc wi g tt tk tv (own.map (·.2))) (gName i)) := by
  refine ⟨fun pins s σ H D I h => ?_⟩
  rw [exec_Assign_Name_used _ _ _ _ hsw]
  refine wpAny_bind (wpAny_standAt (wpAny_bind ?_))
  show wpAny _ X.A (do let _ ← comprehension (.DictComp kx vx [⟨tg, iter, ifs, 0⟩] scope pos) scope X.env (firstIterPos [⟨tg, iter, ifs, 0⟩] pos) newDict false (eval iter X.env) (some (assign (.Name y py) X.env))) _ _ s
  have h : tDc wi g tt tk tv (own.map (·.2)) σ H (fun x H1 => gName i x σ H1 D.nx) := h
  refine wpAny_bind (thn (dc_core (Qf := fun _ s' => SP X pins D .next s') hc hN I hi ok hg ht hk he hs h fun L C s' m H' I' q hn f => ?_) fun _ s' hq => wpAny_pure (wpAny_pure hq))
  show wpAny _ _ (assign (.Name y py) X.env (.ref L)) _ _ _
  refine wpAny_assign_Name (store_ok2 (v := V.ref L) I' hN hy (.inl hyl) rfl (fun s2 I2 ⟨a, sb, ha⟩ => ?_) (.inr hyl))
  obtain ⟨f0, f1, f2, f3, f4, f5⟩ := f
  have haC : C ≠ a := by
    rcases ha with z | z
    · rw [z]; exact f1
    · exact fun e => f4 y a z e.symm
  refine ⟨m, hn.sameBut sb haC, fun h3 sb3 => ?_⟩
  exact ⟨_, H', I2.turned (t' := s2.toks) (fun b o hb e => (sb3.2 b hb).trans e) f0 f1 f3 f4 f5, q⟩
theorem snd_fz {K : PySem.W.Frag} {t : TE} {r : RE} (s : Snd K t r) : Snd K t (rFz r) := by
  intro W M H σ σx P Q I S hr q
  refine s W M H σ σx _ _ I S hr fun W1 M1 H1 v x l1 I1 v1 p1 => ?_
  obtain ⟨⟨d, M2⟩, e, p⟩ := ifS_of p1
  obtain ⟨W2, l2, t2, I2, d2⟩ := frzN_ok 6 x W1 M1 M2 v d I1 v1 e
  exact q W2 M2 H1 v (.d d) (l1.trans l2) I2 d2 p
section
variable {X : Cx} {kx vx tg iter : Expr} {ifs : List Expr} {scope : Scope} {own : List (Str × Nat)} {pos : Pos} {ri : RI} {js : List Nat} {g : RG} {rt : RT} {rk rv : RE}
theorem ss_setDcC {i : Nat} {y : Str} {py : Pos} {spos : Pos} (hc : X.calm = true) (hN : X.N.Nodup) (hi : SI X tg iter ri) (ok : BlkOk X.N X.env.scope scope own) (hb : SDc X kx vx ifs tg scope js g rt rk rv)
    (hsw : swapsWith (.DictComp kx vx [⟨tg, iter, ifs, 0⟩] scope pos) (some (.Name y py)) spos.line X.env = pure true) (hy : X.N[i]? = some y := by rfl) (hyl : X.env.scope.names.lookup y = some .local := by rfl)
    (hj : (js.all fun j => (own.map (·.2)).contains j) = true := by rfl) (hs : ∀ x, foldedSetIterable iter X.env x = pure x := by intro _; rfl) :
    SS X (.Assign [.Name y py] (.DictComp kx vx [⟨tg, iter, ifs, 0⟩] scope pos) spos) (rAsg (rDc ri g rt rk rv (own.map (·.2))) (rgName i)) := by
  obtain ⟨wi, pi, si⟩ := hi
  refine ⟨_, ps_setDc (tk := tOf X.K rk) (tv := tOf X.K rv) (tt := ttOf X.K rt) (g := tgOf X.K js g) hc hN hy hyl hsw pi ok (fun s H C cl fp => (hb s H C cl fp).1.can) (fun s H C cl fp => pts_can (hb s H C cl fp).2.1) (fun s H C cl fp => (hb s H C cl fp).2.2.1.can) (fun s H C cl fp => (hb s H C cl fp).2.2.2.can) hs, fun W M H σ σx P D I S h q => ?_⟩
  refine snd_dc si (fun j hm => by simpa using List.all_eq_true.mp hj j hm) W M H σ σx _ _ I S h fun W1 M1 H1 v x l1 I1 v1 p1 => ?_
  exact q W1 M1 H1 (.nx (σx.set i (some x))) l1 I1 p1 _ ((S.le l1).set i v1)
theorem ss_setDc {i : Nat} {y : Str} {py : Pos} {spos : Pos} (hc : X.calm = true) (hN : X.N.Nodup) (hi : SI X tg iter ri) (ok : BlkOk X.N X.env.scope scope own) (hb : SDc X kx vx ifs tg scope js g rt rk rv)
    (hsw : swapsWith (.DictComp kx vx [⟨tg, iter, ifs, 0⟩] scope pos) (some (.Name y py)) spos.line X.env = pure true) (hy : X.N[i]? = some y := by rfl) (hyl : X.env.scope.names.lookup y = some .local := by rfl)
    (hj : (js.all fun j => (own.map (·.2)).contains j) = true := by rfl) (hs : ∀ x, foldedSetIterable iter X.env x = pure x := by intro _; rfl) :
    SS X (.Assign [.Name y py] (.DictComp kx vx [⟨tg, iter, ifs, 0⟩] scope pos) spos) (rAsg (rFz (rDc ri g rt rk rv (own.map (·.2)))) (rgName i)) := by
  obtain ⟨wi, pi, si⟩ := hi
  refine ⟨_, ps_setDc (tk := tOf X.K rk) (tv := tOf X.K rv) (tt := ttOf X.K rt) (g := tgOf X.K js g) hc hN hy hyl hsw pi ok (fun s H C cl fp => (hb s H C cl fp).1.can) (fun s H C cl fp => pts_can (hb s H C cl fp).2.1) (fun s H C cl fp => (hb s H C cl fp).2.2.1.can) (fun s H C cl fp => (hb s H C cl fp).2.2.2.can) hs, fun W M H σ σx P D I S h q => ?_⟩
  refine snd_fz (snd_dc si (fun j hm => by simpa using List.all_eq_true.mp hj j hm)) W M H σ σx _ _ I S h fun W1 M1 H1 v x l1 I1 v1 p1 => ?_
  exact q W1 M1 H1 (.nx (σx.set i (some x))) l1 I1 p1 _ ((S.le l1).set i v1)
end
end G

set_option Elab.async false
set_option linter.all false
set_option maxRecDepth 100000
set_option maxHeartbeats 8000000
/-! G20: more reckoning. -/
namespace G
open PySem PySem.Spec PyProof.Rows L2
theorem small {n : Nat} (h : n ≤ 10000) : n ≤ sizeLine := by rw [sizeLine_eq]; omega
theorem pfD1 (f : PD) (a : PyData) (M : Sto) (P : Xv → Sto → Prop) (h : f [a] fun d => P (.d d) M) : pfD f [.d a] M P := ⟨[a], rfl, h⟩
theorem pfD2 (f : PD) (a b : PyData) (M : Sto) (P : Xv → Sto → Prop) (h : f [a, b] fun d => P (.d d) M) : pfD f [.d a, .d b] M P := ⟨[a, b], rfl, h⟩
theorem pfD3 (f : PD) (a b c : PyData) (M : Sto) (P : Xv → Sto → Prop) (h : f [a, b, c] fun d => P (.d d) M) : pfD f [.d a, .d b, .d c] M P := ⟨[a, b, c], rfl, h⟩
theorem pfD4 (f : PD) (a b c e : PyData) (M : Sto) (P : Xv → Sto → Prop) (h : f [a, b, c, e] fun d => P (.d d) M) : pfD f [.d a, .d b, .d c, .d e] M P := ⟨[a, b, c, e], rfl, h⟩
theorem shaped_str {z : Str} (h : PyData.strOk z = true) : SeqAt.shaped (.str z) = true := by
  unfold SeqAt.shaped
  simp [PyData.canLay0, PyData.depth, h]
theorem canStrs : ∀ {l : List Str}, (∀ z ∈ l, PyData.strOk z = true) → PyData.canLayAll0 (l.map .str) = true
  | [], _ => rfl
  | z :: l, h => by
    show (PyData.canLay0 (.str z) && PyData.canLayAll0 (l.map .str)) = true
    rw [canStrs fun y hy => h y (List.mem_cons_of_mem _ hy)]
    simp [PyData.canLay0, h z List.mem_cons_self]
theorem any_str (z : Str) (l : List Str) : ((l.map PyData.str).any fun y => PyData.eqv y (.str z)) = decide (z ∈ l) := by
  induction l with
  | nil => simp
  | cons a l ih =>
    rw [List.map_cons, List.any_cons, ih, eqv_str]
    by_cases h : a = z
    · subst h; simp
    · have : ¬ z = a := fun e => h e.symm
      simp [h, this]
theorem gIn_strs {z : Str} {l : List Str} {neg : Bool} {M : Sto} {Q : Xv → Sto → Prop} (h1 : PyData.strOk z = true) (h2 : ∀ y ∈ l, PyData.strOk y = true) : gIn neg (.d (.str z)) (.d (.list (l.map .str))) M Q = Q (.d (.bool (xor neg (decide (z ∈ l))))) M := by
  unfold gIn
  show ifS (pk M (.d (.str z))) _ = _
  rw [pk_d, ifS_some, pk_d, ifS_some]
  show ((_ ∧ _ ∧ _) : Prop) = _
  rw [any_str, shaped_str h1, canStrs h2]
  simp
theorem eqvAll_strs : ∀ a b : List Str, PyData.eqvAll (a.map .str) (b.map .str) = decide (a = b)
  | [], [] => rfl
  | [], _ :: _ => rfl
  | _ :: _, [] => rfl
  | x :: a, y :: b => by
    rw [List.map_cons, List.map_cons, PyData.eqvAll, eqvAll_strs a b, eqv_str]
    by_cases h : x = y <;> by_cases q : a = b <;> simp [h, q]
theorem shaped_strs {l : List Str} (h : ∀ z ∈ l, PyData.strOk z = true) : SeqAt.shaped (.list (l.map .str)) = true := by
  unfold SeqAt.shaped
  rw [Bool.and_eq_true]
  refine ⟨canStrs h, decide_eq_true ?_⟩
  simp [PyData.depth, strs_depth]
theorem gNe_same {d : PyData} {M : Sto} {P : Xv → Sto → Prop} (h : SeqAt.shaped d = true) : gNe (.d d) (.d d) M P = P (.d (.bool false)) M := by
  unfold gNe
  rw [pk_d, ifS_some, ifS_some, h, SeqAt.eqv_refl d (SeqAt.canLay_of_shaped h)]
  simp
theorem gEq_same {d : PyData} {M : Sto} {P : Xv → Sto → Prop} (h : SeqAt.shaped d = true) : gEq (.d d) (.d d) M P = P (.d (.bool true)) M := by
  unfold gEq
  rw [pk_d, ifS_some, ifS_some, h, SeqAt.eqv_refl d (SeqAt.canLay_of_shaped h)]
  simp
theorem gAll_bs (bs : List Bool) (M : Sto) (P : Xv → Sto → Prop) : gAll [.d (.list (bs.map .bool))] M P = P (.d (.bool (bs.all id))) M := by
  show ifS (boolsX (dX (bs.map .bool))) _ = _
  rw [show dX (bs.map PyData.bool) = bs.map fun i => .d (.bool i) by rw [dX, List.map_map]; rfl, boolsX_map, ifS_some]
theorem gAny_bs (bs : List Bool) (M : Sto) (P : Xv → Sto → Prop) : gAny [.d (.list (bs.map .bool))] M P = P (.d (.bool (bs.any id))) M := by
  show ifS (boolsX (dX (bs.map .bool))) _ = _
  rw [show dX (bs.map PyData.bool) = bs.map fun i => .d (.bool i) by rw [dX, List.map_map]; rfl, boolsX_map, ifS_some]
/-- any, all of what a comprehension told -/
theorem gAny_f {α : Type} (xs : List α) (f : α → Bool) (M : Sto) (P : Xv → Sto → Prop) : gAny [.d (.list ((xs.filter fun _ => true).map fun x => .bool (f x)))] M P = P (.d (.bool (xs.any f))) M := by
  rw [show (xs.filter fun _ => true) = xs from List.filter_eq_self.mpr fun _ _ => rfl]
  rw [show (xs.map fun x => PyData.bool (f x)) = (xs.map f).map .bool by rw [List.map_map]; rfl, gAny_bs, List.any_map]
  rfl
theorem gAll_f {α : Type} (xs : List α) (f : α → Bool) (M : Sto) (P : Xv → Sto → Prop) : gAll [.d (.list ((xs.filter fun _ => true).map fun x => .bool (f x)))] M P = P (.d (.bool (xs.all f))) M := by
  rw [show (xs.filter fun _ => true) = xs from List.filter_eq_self.mpr fun _ _ => rfl]
  rw [show (xs.map fun x => PyData.bool (f x)) = (xs.map f).map .bool by rw [List.map_map]; rfl, gAll_bs, List.all_map]
  rfl
theorem filt {α : Type} (xs : List α) : (xs.filter fun _ => true) = xs := List.filter_eq_self.mpr fun _ _ => rfl
theorem range_dX (n : Nat) : rangeX 0 n = dX ((List.range n).map fun i : Nat => .int (i : Int)) := by
  unfold rangeX dX
  rw [List.map_map]
  refine List.map_congr_left fun i _ => ?_
  show Xv.d (.int (0 + (i : Int))) = _
  rw [Int.zero_add]; rfl
theorem isi_ll (xs : List Xv) (Q : Bool → Prop) : ifS (tyH (.lst xs)) (fun t => ifS (isiT t "list") Q) = Q true := by
  have : isiT "list" "list" = some true := by unfold isiT; rw [if_pos rfl]
  show ifS (isiT "list" "list") Q = _
  rw [this, ifS_some]
theorem isi_tt (xs : List Xv) (Q : Bool → Prop) : ifS (tyH (.tup xs)) (fun t => ifS (isiT t "tuple") Q) = Q true := by
  have : isiT "tuple" "tuple" = some true := by unfold isiT; rw [if_pos rfl]
  show ifS (isiT "tuple" "tuple") Q = _
  rw [this, ifS_some]
theorem tru_b (M : Sto) (b : Bool) : tru M (.d (.bool b)) = some b := rfl
theorem gAdd_ll (xs ys : List PyData) (M : Sto) (P : Xv → Sto → Prop) : gAdd (.d (.list xs)) (.d (.list ys)) M P = (xs.length + ys.length ≤ sizeLine ∧ P (.d (.list (xs ++ ys))) M) := by
  show ((dX xs).length + (dX ys).length ≤ sizeLine ∧ ifS (fzL M (dX xs ++ dX ys)) fun q => P (.d (.list q.1)) q.2) = _
  rw [show dX xs ++ dX ys = dX (xs ++ ys) from List.map_append.symm, fzL_dX, List.length_map, List.length_map]
  rfl
theorem gAdd_tt (xs ys : List PyData) (M : Sto) (P : Xv → Sto → Prop) : gAdd (.d (.tuple xs)) (.d (.tuple ys)) M P = (xs.length + ys.length ≤ sizeLine ∧ P (.d (.tuple (xs ++ ys))) M) := rfl
theorem gAdd_ss (a b : Str) (M : Sto) (P : Xv → Sto → Prop) : gAdd (.d (.str a)) (.d (.str b)) M P = (a.length + b.length ≤ sizeLine ∧ P (.d (.str (a ++ b))) M) := rfl
theorem at_in {α : Type} {xs : List α} (enc : α → PyData) {v : Int} (h0 : 0 ≤ v) (h1 : v < xs.length) : ∃ a, a ∈ xs ∧ atI (dX (xs.map enc)) v = some (.d (enc a)) := by
  have hl : v.toNat < xs.length := by omega
  refine ⟨xs[v.toNat], List.getElem_mem hl, ?_⟩
  have e : ((v.toNat : Nat) : Int) = v := by omega
  have := L2.atI_nat (xs := dX (xs.map enc)) (j := v.toNat) (v := .d (enc xs[v.toNat])) (by simp [dX, hl])
  rwa [e] at this
theorem set_d {ss : List Str} {P : List PyData → Prop} (hl : ss.length < 4000) (p : P ((SU ss).map .str)) : ifS (keysX (dX (ss.map .str))) fun ks => ks.length + 1 < scanBound ∧ PySem.W.AllAlike (ks.map kD) ∧ P (sortD (uniqK ks)) := by
  rw [keysX_strs]
  refine ifS_mk rfl ⟨?_, ?_, ?_⟩
  · rw [List.length_map]
    have : scanBound = 4096 := rfl
    omega
  · rw [List.map_map]; exact strs_all ss
  · rw [uniqK_strs, sortD_strs]; exact p
theorem putX_len {κ : Type} [DecidableEq κ] (acc : List (κ × Xv)) (k : κ) (x : Xv) : (putX acc k x).length ≤ acc.length + 1 := by
  unfold putX
  split <;> simp
/-- a dict comprehension over data, all kept -/
theorem dcW_map {α : Type} {g : RG} {rt : RT} {rk rv : RE} {keep : Sto → Prop} {σw : Sl} {P : List (Key × Xv) → Sto → Prop} {M : Sto} (enc : α → PyData) (kf : α → Key) (vf : α → PyData) (hk : keep M) :
    ∀ (xs : List α) (acc : List (Key × Xv)), acc.length + xs.length ≤ sizeLine →
    (∀ a ∈ xs, ∀ (Kt : Xv → Xv → Sto → Prop) (Kf : Sto → Prop), Kt (.d (kD (kf a))) (.d (vf a)) M → g (.d (enc a)) σw M fun σ1 M1 => rt σ1 M1 fun b M2 => if b = true then rk σ1 M2 fun y M3 => rv σ1 M3 fun z M4 => Kt y z M4 else Kf M2) →
    P (mergeX acc (xs.map fun a => (kf a, .d (vf a)))) M → dcW g rt rk rv keep σw P (dX (xs.map enc)) acc M
  | [], acc, _, _, q => ⟨hk, q⟩
  | x :: xs, acc, hl, h, q => by
    rw [List.length_cons] at hl
    refine ⟨hk, ?_⟩
    refine h x List.mem_cons_self (fun y z M4 => acc.length < sizeLine ∧ ifS (keyX y) fun k => dcW g rt rk rv keep σw P (dX (xs.map enc)) (putX acc k z) M4) (fun M2 => dcW g rt rk rv keep σw P (dX (xs.map enc)) acc M2) ⟨by omega, ?_⟩
    have ek : keyX (.d (kD (kf x))) = some (kf x) := by
      show keyOf (kD (kf x)) = _
      cases kf x <;> rfl
    rw [ek]
    refine ifS_mk rfl ?_
    refine dcW_map enc kf vf hk xs _ ?_ (fun a ha => h a (List.mem_cons_of_mem _ ha)) q
    have := putX_len acc (kf x) (.d (vf x))
    omega
theorem len_le : ∀ {l m : List Str}, l.Nodup → (∀ y ∈ l, y ∈ m) → l.length ≤ m.length
  | [], _, _, _ => Nat.zero_le _
  | a :: l, m, n, h => by
    obtain ⟨n1, n2⟩ := List.nodup_cons.mp n
    have ha := h a List.mem_cons_self
    have := len_le (l := l) (m := m.erase a) n2 fun y hy => by
      have e : y ≠ a := fun e => n1 (e ▸ hy)
      exact (List.mem_erase_of_ne e).mpr (h y (List.mem_cons_of_mem _ hy))
    rw [List.length_erase_of_mem ha] at this
    have : 0 < m.length := List.length_pos_of_mem ha
    rw [List.length_cons]; omega
theorem Cal.none {P : Program} {w : World} {K : PySem.W.Frag} {mg : Str → Option Value} {base : Heap} {x : Str} {ps : List Str} {params : Arguments} {body : List Stmt} {scope : Scope} (D : DefOk K mg x ps params body scope) : Cal P w K mg base 0 x ps fun _ _ _ => False := by
  obtain ⟨f, fd, a, F, c⟩ := D.ex
  exact ⟨f, fd, a, F.kp, c, fun _ _ _ q => q.elim, fun A outer s H args us vs Q hr hg he hb hv ⟨W, M, xs, R, I, v, p, q⟩ => p.elim⟩
end G

set_option Elab.async false
set_option linter.all false
set_option maxRecDepth 100000
set_option maxHeartbeats 8000000
/-! G21: enumerate. -/
namespace G
open PySem PySem.Spec PyProof.Rows L2
def enD (ds : List PyData) : List PyData := (List.range ds.length).map fun i : Nat => .tuple [.int (i : Int), ds.getD i .none]
theorem itx_enum {K : PySem.W.Frag} {W : Wd} {M : Sto} {H : Hp} {a : Addr} {x : Xv} {ds : List PyData} (I : InvS K W M H) (h : VX K W (.ref a) x) (e : hd M x = .lst (dX ds)) : ItX K W (Ite K a) (dX (enD ds)) (kp x M) := by
  intro W2 M2 H2 i l I2 k
  obtain ⟨b, vs, eb, h1, h2⟩ := lstH I2 (h.lf l) ((hd_kp k).trans e)
  cases eb
  have hl : vs.length = ds.length := by rw [h2.length, List.length_map]
  refine ⟨fun hi => ⟨vs, h1, by simpa [enD, hl] using hi⟩, fun z hz => ?_⟩
  by_cases hi : i < ds.length
  · have ez : z = .d (.tuple [.int (i : Int), ds[i]]) := by
      have : (dX (enD ds))[i]? = some (.d (.tuple [.int (i : Int), ds[i]])) := by simp [dX, enD, hi, List.getD]
      rw [this] at hz
      exact (Option.some.inj hz).symm
    subst ez
    have dq := VXs.toD h2
    obtain ⟨v, hv, dv⟩ := DqAll.get dq (List.getElem?_eq_getElem hi)
    refine ⟨⟨vs, v, h1, hv⟩, fun w H3 y => ?_⟩
    obtain ⟨T, x', rfl, hT, rfl, f3⟩ := y
    have e3 := f3 vs h1
    rw [hv] at e3
    cases e3
    obtain ⟨I3, l3⟩ := I2.newData hT (.tup [.int (i : Nat), v])
    exact ⟨_, l3, I3, show Dq K _ _ _ from .tup (.inl (.inl upd_same)) (.cons (.int _) (.cons (dv.same l3.f) .nil))⟩
  · have : (dX (enD ds))[i]? = none := List.getElem?_eq_none (by simpa [dX, enD] using hi)
    rw [this] at hz
    cases hz
def riEnum (rs : RF) : RI := fun σ M P => rs σ M fun xs M1 => match xs with
  | [x] => match hd M1 x with
    | .lst ys => ifS (datX ys) fun ds => P (dX (enD ds)) (kp x M1) M1
    | _ => False
  | _ => False
theorem si_enum {X : Cx} {e : Expr} {rs : RF} {p pos tpos : Pos} {elts : List Expr} {kk : Nat} (hm : X.mg "enumerate" = none) (ha : SA X [e] rs) (hg : Gl X "enumerate" := by rfl) (hs : starEach [e] X.env = [(false, eval e X.env)] := by rfl) :
    SI X (.Tuple elts kk tpos) (.Call (.Name "enumerate" p) [e] [] pos) (riEnum rs) := by
  obtain ⟨t, pa, s⟩ := ha
  refine ⟨_, pi_enum hg hm pa hs, fun W M H σ σx P R I S hr q => ?_⟩
  refine s W M H σ σx _ _ I S hr fun W1 M1 H1 vs xs l1 I1 v1 p1 => ?_
  split at p1
  · rename_i x
    cases v1 with
    | cons a1 r1 =>
      cases r1
      split at p1
      · rename_i ys e1
        obtain ⟨ds, e2, p⟩ := ifS_of p1
        have := datX_of e2
        subst this
        obtain ⟨a, vs, rfl, h1, h2⟩ := lstH I1 a1 e1
        exact ⟨a, vs, rfl, h1, q W1 M1 H1 _ _ _ l1 I1 (itx_enum I1 a1 e1) p⟩
      · exact p1.elim
  · exact p1.elim
end G

set_option Elab.async false
set_option linter.all false
set_option maxRecDepth 100000
set_option maxHeartbeats 8000000
/-! The walks of the defs, printed by gen.py. -/
namespace K11
open PySem PySem.Spec PyProof.Rows L2 G
def top (i : Nat) : Stmt := PySem.Challenge.pw_claimshold_k11_coverage.main.body.getD i (.Pass ⟨0, 0, 0, 0⟩)
structure Fx (K : PySem.W.Frag) (mg : Str → Option Value) (base : Heap) : Prop where
  m_all : mg "all" = none
  m_any : mg "any" = none
  m_dict : mg "dict" = none
  m_enumerate : mg "enumerate" = none
  m_int : mg "int" = none
  m_isinstance : mg "isinstance" = none
  m_len : mg "len" = none
  m_list : mg "list" = none
  m_max : mg "max" = none
  m_min : mg "min" = none
  m_range : mg "range" = none
  m_repr : mg "repr" = none
  m_set : mg "set" = none
  m_sorted : mg "sorted" = none
  m_tuple : mg "tuple" = none
  sysB : ∃ m, base.Ns sysModules m
variable {P : Program} {w : World} {K : PySem.W.Frag} {mg : Str → Option Value} {base : Heap} {k : Nat}
abbrev s_is_kind : Stmt := top 1
abbrev N_is_kind : List Str := ["state", "kind", "wide", "parents"]
theorem sc_is_kind : FnScope N_is_kind ["state", "kind", "wide"] (defScope s_is_kind) := ⟨rfl, rfl, rfl, by decide +kernel, rfl, by decide +kernel, by decide +kernel⟩
def b_is_kind : RS := rSeq (rAsg (rFz (rApp gDict (rCons (rBin gIx (rVar 0) (rC (.str "kinds"))) (rNil)))) (rgName 3)) (rSeq (rWhile (rAnd (rTb (rBin (gIsN true) (rVar 1) (rC .none))) (rTb (rBin gNe (rVar 1) (rVar 2)))) (rAsg (rGet2 (rVar 3) (rVar 1) (rC .none)) (rgName 1))) (rRet (rBin (gIsN true) (rVar 1) (rC .none))))
theorem sd_is_kind (Z : Fx K mg base) : BodyOk P w K mg base k "is_kind" N_is_kind (defBody s_is_kind) (defScope s_is_kind) (b_is_kind) := by
  intro f cdv A outer s H hr
  have nd : (N_is_kind).Nodup := sc_is_kind.nd
  exact sss_cons (ss_set (i := 3) nd (SE.fz (se_ty (bx_dict hr.calm) rfl Z.m_dict (by decide +kernel) (sa_cons (ixx hr.hu (se_var 0) (se_str)) (sa_nil))))) (sss_cons (ss_while PassesOwn.never (SW.sc (sw_and (sc_cmp ox_isnot (se_var 1) (se_non)) (sw_and1 (sc_cmp (ox_ne hr.hu64) (se_var 1) (se_var 2))))) (sss_one (ss_set (i := 1) nd (se_get2 hr.hu (se_var 3) (se_var 1) (se_non))))) (sss_one (ss_ret (se_cmp ox_isnot (se_var 1) (se_non)))))
abbrev s_parts : Stmt := top 2
abbrev N_parts : List Str := ["wish", "kind", "row"]
theorem sc_parts : FnScope N_parts ["wish"] (defScope s_parts) := ⟨rfl, rfl, rfl, by decide +kernel, rfl, by decide +kernel, by decide +kernel⟩
def b_parts : RS := rRet (rBin gAdd (rD (rLc (riSeq (rBin gIx (rVar 0) (rC (.int 0)))) (rgName 1) (rYes) (rTup (rCons (rC (.str "kind")) (rCons (rVar 1) (rNil)))) [1])) (rD (rLc (riSeq (rBin gIx (rVar 0) (rC (.int 1)))) (rgName 2) (rYes) (rBin gAdd (rTup (rCons (rC (.str "range")) (rNil))) (rVar 2)) [2])))
theorem sd_parts (Z : Fx K mg base) : BodyOk P w K mg base k "parts" N_parts (defBody s_parts) (defScope s_parts) (b_parts) := by
  intro f cdv A outer s H hr
  have nd : (N_parts).Nodup := sc_parts.nd
  exact sss_one (ss_ret (se_bin ox_add (SF.data (sf_lc (own := [("kind", 1)]) hr.calm nd (si_seq (ixx hr.hu (se_var 0) (se_int))) (blkB_ok (by kernel_rfl)) (fun s H C cl fp => ⟨sg_name (i := 1) nd, sts_nil, se_tup (sa_cons (se_str) (sa_cons (se_var 1) (sa_nil)))⟩))) (SF.data (sf_lc (own := [("row", 2)]) hr.calm nd (si_seq (ixx hr.hu (se_var 0) (se_int))) (blkB_ok (by kernel_rfl)) (fun s H C cl fp => ⟨sg_name (i := 2) nd, sts_nil, se_bin ox_add (se_tup (sa_cons (se_str) (sa_nil))) (se_var 2)⟩)))))
abbrev s_meets_part : Stmt := top 3
abbrev N_meets_part : List Str := ["state", "thing", "part", "kind", "word", "name", "low", "high", "quantity", "least", "greatest"]
theorem sc_meets_part : FnScope N_meets_part ["state", "thing", "part"] (defScope s_meets_part) := ⟨rfl, rfl, rfl, by decide +kernel, rfl, by decide +kernel, by decide +kernel⟩
def b_meets_part (pf_is_kind : PF) : RS := rSeq (rIfS (rTb (rBin gEq (rBin gIx (rVar 2) (rC (.int 0))) (rC (.str "kind")))) (rRet (rApp gAny (rCons (rD (rLc (riSeq (rBin gIx (rVar 1) (rC (.int 0)))) (rgName 3) (rYes) (rCall pf_is_kind (rCons (rVar 0) (rCons (rVar 3) (rCons (rBin gIx (rVar 2) (rC (.int 1))) (rNil))))) [3])) (rNil)))) (rNx)) (rSeq (rAsg (rVar 2) (rgTup 4 (rgCons (rgName 4) (rgCons (rgName 5) (rgCons (rgName 6) (rgCons (rgName 7) (rgNil))))))) (rSeq (rFor (riSeq (rBin gIx (rVar 1) (rC (.int 1)))) (rgTup 3 (rgCons (rgName 8) (rgCons (rgName 9) (rgCons (rgName 10) (rgNil))))) (rIfS (rAnd (rTb (rBin gEq (rVar 8) (rVar 5))) (rTb (rBin gLe (rApp gMax (rCons (rVar 9) (rCons (rVar 6) (rNil)))) (rApp gMin (rCons (rVar 10) (rCons (rVar 7) (rNil))))))) (rRet (rC (.bool true))) (rNx))) (rRet (rC (.bool false)))))
theorem sd_meets_part (Z : Fx K mg base) {pf_is_kind : PF} (C_is_kind : Cal P w K mg base k "is_kind" ["state", "kind", "wide"] pf_is_kind) : BodyOk P w K mg base k "meets_part" N_meets_part (defBody s_meets_part) (defScope s_meets_part) (b_meets_part pf_is_kind) := by
  intro f cdv A outer s H hr
  have nd : (N_meets_part).Nodup := sc_meets_part.nd
  exact sss_cons (ss_if (sc_cmp (ox_eq hr.hu64) (ixx hr.hu (se_var 2) (se_int)) (se_str)) (sss_one (ss_ret (se_bi (bx_any hr.calm) rfl Z.m_any (by decide +kernel) (sa_cons (SF.data (sf_lc (own := [("kind", 3)]) hr.calm nd (si_seq (ixx hr.hu (se_var 1) (se_int))) (blkB_ok (by kernel_rfl)) (fun s H C cl fp => ⟨sg_name (i := 3) nd, sts_nil, se_cal C_is_kind hr.blk (sa_cons (se_var 0) (sa_cons (se_var 3) (sa_cons (ixx hr.blk.hu (se_var 2) (se_int)) (sa_nil))))⟩))) (sa_nil))))) (sss_nil)) (sss_cons (ss_asg (se_var 2) (sg_tup (n := 4) hr.calm (sgs_cons (sg_name (i := 4) nd) (sgs_cons (sg_name (i := 5) nd) (sgs_cons (sg_name (i := 6) nd) (sgs_cons (sg_name (i := 7) nd) (sgs_nil))))))) (sss_cons (ss_for PassesOwn.never hr.calm (si_seq (ixx hr.hu (se_var 1) (se_int))) (sg_tup (n := 3) hr.calm (sgs_cons (sg_name (i := 8) nd) (sgs_cons (sg_name (i := 9) nd) (sgs_cons (sg_name (i := 10) nd) (sgs_nil))))) (sss_one (ss_if (SW.sc (sw_and (sc_cmp (ox_eq hr.hu64) (se_var 8) (se_var 5)) (sw_and1 (sc_cmp ox_le (se_bi (bx_max hr.calm) rfl Z.m_max (by decide +kernel) (sa_cons (se_var 9) (sa_cons (se_var 6) (sa_nil)))) (se_bi (bx_min hr.calm) rfl Z.m_min (by decide +kernel) (sa_cons (se_var 10) (sa_cons (se_var 7) (sa_nil)))))))) (sss_one (ss_ret (se_bl))) (sss_nil)))) (sss_one (ss_ret (se_bl)))))
abbrev s_covers_part : Stmt := top 4
abbrev N_covers_part : List Str := ["state", "part", "other"]
theorem sc_covers_part : FnScope N_covers_part ["state", "part", "other"] (defScope s_covers_part) := ⟨rfl, rfl, rfl, by decide +kernel, rfl, by decide +kernel, by decide +kernel⟩
def b_covers_part (pf_is_kind : PF) : RS := rSeq (rIfS (rTb (rBin gNe (rBin gIx (rVar 1) (rC (.int 0))) (rBin gIx (rVar 2) (rC (.int 0))))) (rRet (rC (.bool false))) (rNx)) (rSeq (rIfS (rTb (rBin gEq (rBin gIx (rVar 1) (rC (.int 0))) (rC (.str "kind")))) (rRet (rCall pf_is_kind (rCons (rVar 0) (rCons (rBin gIx (rVar 2) (rC (.int 1))) (rCons (rBin gIx (rVar 1) (rC (.int 1))) (rNil)))))) (rNx)) (rRet (rAndV (rBin gEq (rBin gIx (rVar 1) (rC (.int 1))) (rBin gIx (rVar 2) (rC (.int 1)))) (rAndV (rBin gLe (rBin gIx (rVar 1) (rC (.int 2))) (rBin gIx (rVar 2) (rC (.int 2)))) (rBin gLe (rBin gIx (rVar 2) (rC (.int 3))) (rBin gIx (rVar 1) (rC (.int 3))))))))
theorem sd_covers_part (Z : Fx K mg base) {pf_is_kind : PF} (C_is_kind : Cal P w K mg base k "is_kind" ["state", "kind", "wide"] pf_is_kind) : BodyOk P w K mg base k "covers_part" N_covers_part (defBody s_covers_part) (defScope s_covers_part) (b_covers_part pf_is_kind) := by
  intro f cdv A outer s H hr
  have nd : (N_covers_part).Nodup := sc_covers_part.nd
  exact sss_cons (ss_if (sc_cmp (ox_ne hr.hu64) (ixx hr.hu (se_var 1) (se_int)) (ixx hr.hu (se_var 2) (se_int))) (sss_one (ss_ret (se_bl))) (sss_nil)) (sss_cons (ss_if (sc_cmp (ox_eq hr.hu64) (ixx hr.hu (se_var 1) (se_int)) (se_str)) (sss_one (ss_ret (se_cal C_is_kind hr (sa_cons (se_var 0) (sa_cons (ixx hr.hu (se_var 2) (se_int)) (sa_cons (ixx hr.hu (se_var 1) (se_int)) (sa_nil))))))) (sss_nil)) (sss_one (ss_ret (se_and (se_cmp (ox_eq hr.hu64) (ixx hr.hu (se_var 1) (se_int)) (ixx hr.hu (se_var 2) (se_int))) (se_and (se_cmp ox_le (ixx hr.hu (se_var 1) (se_int)) (ixx hr.hu (se_var 2) (se_int))) (se_one (se_cmp ox_le (ixx hr.hu (se_var 2) (se_int)) (ixx hr.hu (se_var 1) (se_int)))))))))
abbrev s_meets : Stmt := top 5
abbrev N_meets : List Str := ["state", "thing", "wish", "part"]
theorem sc_meets : FnScope N_meets ["state", "thing", "wish"] (defScope s_meets) := ⟨rfl, rfl, rfl, by decide +kernel, rfl, by decide +kernel, by decide +kernel⟩
def b_meets (pf_parts : PF) (pf_meets_part : PF) : RS := rRet (rApp gAll (rCons (rD (rLc (riSeq (rCall pf_parts (rCons (rVar 2) (rNil)))) (rgName 3) (rYes) (rCall pf_meets_part (rCons (rVar 0) (rCons (rVar 1) (rCons (rVar 3) (rNil))))) [3])) (rNil)))
theorem sd_meets (Z : Fx K mg base) {pf_parts : PF} (C_parts : Cal P w K mg base k "parts" ["wish"] pf_parts) {pf_meets_part : PF} (C_meets_part : Cal P w K mg base k "meets_part" ["state", "thing", "part"] pf_meets_part) : BodyOk P w K mg base k "meets" N_meets (defBody s_meets) (defScope s_meets) (b_meets pf_parts pf_meets_part) := by
  intro f cdv A outer s H hr
  have nd : (N_meets).Nodup := sc_meets.nd
  exact sss_one (ss_ret (se_bi (bx_all hr.calm) rfl Z.m_all (by decide +kernel) (sa_cons (SF.data (sf_lc (own := [("part", 3)]) hr.calm nd (si_seq (se_cal C_parts hr (sa_cons (se_var 2) (sa_nil)))) (blkB_ok (by kernel_rfl)) (fun s H C cl fp => ⟨sg_name (i := 3) nd, sts_nil, se_cal C_meets_part hr.blk (sa_cons (se_var 0) (sa_cons (se_var 1) (sa_cons (se_var 3) (sa_nil))))⟩))) (sa_nil))))
abbrev s_outside : Stmt := top 6
abbrev N_outside : List Str := ["wish", "part", "values", "name", "low", "high", "value"]
theorem sc_outside : FnScope N_outside ["wish", "part"] (defScope s_outside) := ⟨rfl, rfl, rfl, by decide +kernel, rfl, by decide +kernel, by decide +kernel⟩
def b_outside : RS := rSeq (rAsg (rCl (rLst (rNil))) (rgName 2)) (rSeq (rFor (riSeq (rBin gIx (rVar 0) (rC (.int 1)))) (rgTup 3 (rgCons (rgName 3) (rgCons (rgName 4) (rgCons (rgName 5) (rgNil))))) (rSeq (rAsg (rVar 4) (rgName 6)) (rSeq (rIfS (rAnd (rTb (rBin gEq (rBin gIx (rVar 1) (rC (.int 0))) (rC (.str "range")))) (rAnd (rTb (rBin gEq (rBin gIx (rVar 1) (rC (.int 1))) (rVar 3))) (rTb (rBin gLe (rBin gIx (rVar 1) (rC (.int 2))) (rVar 4))))) (rAsg (rVar 5) (rgName 6)) (rNx)) (rDrop (rApd (rVar 2) (rTup (rCons (rVar 3) (rCons (rVar 6) (rCons (rVar 6) (rNil)))))))))) (rRet (rTup (rCons (rD (rAppF gList (rCons (rBin gIx (rVar 0) (rC (.int 0))) (rNil)))) (rCons (rVar 2) (rNil))))))
theorem sd_outside (Z : Fx K mg base) : BodyOk P w K mg base k "outside" N_outside (defBody s_outside) (defScope s_outside) (b_outside) := by
  intro f cdv A outer s H hr
  have nd : (N_outside).Nodup := sc_outside.nd
  exact sss_cons (ss_set (i := 2) nd (SF.cell (sf_lst (sa_nil)))) (sss_cons (ss_for PassesOwn.never hr.calm (si_seq (ixx hr.hu (se_var 0) (se_int))) (sg_tup (n := 3) hr.calm (sgs_cons (sg_name (i := 3) nd) (sgs_cons (sg_name (i := 4) nd) (sgs_cons (sg_name (i := 5) nd) (sgs_nil))))) (sss_cons (ss_set (i := 6) nd (se_var 4)) (sss_cons (ss_if (SW.sc (sw_and (sc_cmp (ox_eq hr.hu64) (ixx hr.hu (se_var 1) (se_int)) (se_str)) (sw_and (sc_cmp (ox_eq hr.hu64) (ixx hr.hu (se_var 1) (se_int)) (se_var 3)) (sw_and1 (sc_cmp ox_le (ixx hr.hu (se_var 1) (se_int)) (se_var 4)))))) (sss_one (ss_set (i := 6) nd (se_var 5))) (sss_nil)) (sss_one (ss_expr (se_append (se_var 2) (se_tup (sa_cons (se_var 3) (sa_cons (se_var 6) (sa_cons (se_var 6) (sa_nil))))))))))) (sss_one (ss_ret (se_tup (sa_cons (SF.data (sf_ty bxf_list rfl Z.m_list (by decide +kernel) (sa_cons (ixx hr.hu (se_var 0) (se_int)) (sa_nil)))) (sa_cons (se_var 2) (sa_nil)))))))
abbrev s_covers : Stmt := top 7
abbrev N_covers : List Str := ["state", "one", "other", "places", "rows", "part", "fitting", "at", "row"]
theorem sc_covers : FnScope N_covers ["state", "one", "other"] (defScope s_covers) := ⟨rfl, rfl, rfl, by decide +kernel, rfl, by decide +kernel, by decide +kernel⟩
def b_covers (pf_parts : PF) (pf_covers_part : PF) (pf_outside : PF) : RS := rSeq (rAsg (rCl (rLst (rNil))) (rgName 3)) (rSeq (rAsg (rCall pf_parts (rCons (rVar 2) (rNil))) (rgName 4)) (rSeq (rFor (riSeq (rCall pf_parts (rCons (rVar 1) (rNil)))) (rgName 5) (rSeq (rAsg (rD (rLc (riEnum (rCons (rVar 4) (rNil))) (rgTup 2 (rgCons (rgName 7) (rgCons (rgName 8) (rgNil)))) (rTr (rCall pf_covers_part (rCons (rVar 0) (rCons (rVar 5) (rCons (rVar 8) (rNil)))))) (rVar 7) [7, 8])) (rgName 6)) (rSeq (rIfS (rTb (rBin gEq (rApp gLen (rCons (rVar 6) (rNil))) (rC (.int 0)))) (rRet (rTup (rCons (rC (.str "not")) (rCons (rCall pf_outside (rCons (rVar 2) (rCons (rVar 5) (rNil)))) (rNil))))) (rNx)) (rDrop (rApd (rVar 3) (rBin gIx (rVar 6) (rC (.int 0)))))))) (rRet (rTup (rCons (rC (.str "covers")) (rCons (rVar 3) (rNil)))))))
theorem sd_covers (Z : Fx K mg base) {pf_parts : PF} (C_parts : Cal P w K mg base k "parts" ["wish"] pf_parts) {pf_covers_part : PF} (C_covers_part : Cal P w K mg base k "covers_part" ["state", "part", "other"] pf_covers_part) {pf_outside : PF} (C_outside : Cal P w K mg base k "outside" ["wish", "part"] pf_outside) : BodyOk P w K mg base k "covers" N_covers (defBody s_covers) (defScope s_covers) (b_covers pf_parts pf_covers_part pf_outside) := by
  intro f cdv A outer s H hr
  have nd : (N_covers).Nodup := sc_covers.nd
  exact sss_cons (ss_set (i := 3) nd (SF.cell (sf_lst (sa_nil)))) (sss_cons (ss_set (i := 4) nd (se_cal C_parts hr (sa_cons (se_var 2) (sa_nil)))) (sss_cons (ss_for PassesOwn.never hr.calm (si_seq (se_cal C_parts hr (sa_cons (se_var 1) (sa_nil)))) (sg_name (i := 5) nd) (sss_cons (ss_setLc (i := 6) (own := [("at", 7), ("row", 8)]) hr.calm nd (si_enum Z.m_enumerate (sa_cons (se_var 4) (sa_nil))) (blkB_ok (by kernel_rfl)) (fun s H C cl fp => ⟨sg_tup (n := 2) hr.blk.calm (sgs_cons (sg_name (i := 7) nd) (sgs_cons (sg_name (i := 8) nd) (sgs_nil))), sts_one (sc_val (se_cal C_covers_part hr.blk (sa_cons (se_var 0) (sa_cons (se_var 5) (sa_cons (se_var 8) (sa_nil)))))), se_var 7⟩) (by rfl)) (sss_cons (ss_if (sc_cmp (ox_eq hr.hu64) (se_bi bx_len rfl Z.m_len (by decide +kernel) (sa_cons (se_var 6) (sa_nil))) (se_int)) (sss_one (ss_ret (se_tup (sa_cons (se_str) (sa_cons (se_cal C_outside hr (sa_cons (se_var 2) (sa_cons (se_var 5) (sa_nil)))) (sa_nil)))))) (sss_nil)) (sss_one (ss_expr (se_append (se_var 3) (ixx hr.hu (se_var 6) (se_int)))))))) (sss_one (ss_ret (se_tup (sa_cons (se_str) (sa_cons (se_var 3) (sa_nil))))))))
abbrev s_cover_fault : Stmt := top 8
abbrev N_cover_fault : List Str := ["state", "one", "other", "told", "rows", "wished", "at", "place"]
theorem sc_cover_fault : FnScope N_cover_fault ["state", "one", "other", "told"] (defScope s_cover_fault) := ⟨rfl, rfl, rfl, by decide +kernel, rfl, by decide +kernel, by decide +kernel⟩
def b_cover_fault (pf_meets : PF) (pf_parts : PF) (pf_covers_part : PF) : RS := rSeq (rIfS (rTb (rBin gEq (rBin gIx (rVar 3) (rC (.int 0))) (rC (.str "not")))) (rSeq (rIfS (rNot (rTr (rCall pf_meets (rCons (rVar 0) (rCons (rBin gIx (rVar 3) (rC (.int 1))) (rCons (rVar 2) (rNil))))))) (rRet (rTup (rCons (rC (.str "other")) (rNil)))) (rNx)) (rRet (rIf (rTr (rCall pf_meets (rCons (rVar 0) (rCons (rBin gIx (rVar 3) (rC (.int 1))) (rCons (rVar 1) (rNil)))))) (rTup (rCons (rC (.str "one")) (rNil))) (rC .none)))) (rNx)) (rSeq (rAsg (rCall pf_parts (rCons (rVar 2) (rNil))) (rgName 4)) (rSeq (rAsg (rCall pf_parts (rCons (rVar 1) (rNil))) (rgName 5)) (rSeq (rIfS (rTb (rBin gNe (rApp gLen (rCons (rBin gIx (rVar 3) (rC (.int 1))) (rNil))) (rApp gLen (rCons (rVar 5) (rNil))))) (rRet (rTup (rCons (rC (.str "length")) (rNil)))) (rNx)) (rSeq (rFor (riEnum (rCons (rBin gIx (rVar 3) (rC (.int 1))) (rNil))) (rgTup 2 (rgCons (rgName 6) (rgCons (rgName 7) (rgNil)))) (rIfS (rOr (rTb (rBin gLt (rVar 7) (rC (.int 0)))) (rOr (rTb (rBin gGe (rVar 7) (rApp gLen (rCons (rVar 4) (rNil))))) (rNot (rTr (rCall pf_covers_part (rCons (rVar 0) (rCons (rBin gIx (rVar 5) (rVar 6)) (rCons (rBin gIx (rVar 4) (rVar 7)) (rNil))))))))) (rRet (rTup (rCons (rC (.str "part")) (rCons (rVar 6) (rNil))))) (rNx))) (rRet (rC .none))))))
theorem sd_cover_fault (Z : Fx K mg base) {pf_meets : PF} (C_meets : Cal P w K mg base k "meets" ["state", "thing", "wish"] pf_meets) {pf_parts : PF} (C_parts : Cal P w K mg base k "parts" ["wish"] pf_parts) {pf_covers_part : PF} (C_covers_part : Cal P w K mg base k "covers_part" ["state", "part", "other"] pf_covers_part) : BodyOk P w K mg base k "cover_fault" N_cover_fault (defBody s_cover_fault) (defScope s_cover_fault) (b_cover_fault pf_meets pf_parts pf_covers_part) := by
  intro f cdv A outer s H hr
  have nd : (N_cover_fault).Nodup := sc_cover_fault.nd
  exact sss_cons (ss_if (sc_cmp (ox_eq hr.hu64) (ixx hr.hu (se_var 3) (se_int)) (se_str)) (sss_cons (ss_if (sc_not (sc_val (se_cal C_meets hr (sa_cons (se_var 0) (sa_cons (ixx hr.hu (se_var 3) (se_int)) (sa_cons (se_var 2) (sa_nil))))))) (sss_one (ss_ret (se_tup (sa_cons (se_str) (sa_nil))))) (sss_nil)) (sss_one (ss_ret (se_ifExp (sc_val (se_cal C_meets hr (sa_cons (se_var 0) (sa_cons (ixx hr.hu (se_var 3) (se_int)) (sa_cons (se_var 1) (sa_nil)))))) (se_tup (sa_cons (se_str) (sa_nil))) (se_non))))) (sss_nil)) (sss_cons (ss_set (i := 4) nd (se_cal C_parts hr (sa_cons (se_var 2) (sa_nil)))) (sss_cons (ss_set (i := 5) nd (se_cal C_parts hr (sa_cons (se_var 1) (sa_nil)))) (sss_cons (ss_if (sc_cmp (ox_ne hr.hu64) (se_bi bx_len rfl Z.m_len (by decide +kernel) (sa_cons (ixx hr.hu (se_var 3) (se_int)) (sa_nil))) (se_bi bx_len rfl Z.m_len (by decide +kernel) (sa_cons (se_var 5) (sa_nil)))) (sss_one (ss_ret (se_tup (sa_cons (se_str) (sa_nil))))) (sss_nil)) (sss_cons (ss_for PassesOwn.never hr.calm (si_enum Z.m_enumerate (sa_cons (ixx hr.hu (se_var 3) (se_int)) (sa_nil))) (sg_tup (n := 2) hr.calm (sgs_cons (sg_name (i := 6) nd) (sgs_cons (sg_name (i := 7) nd) (sgs_nil)))) (sss_one (ss_if (SW.sc (sw_or (sc_cmp ox_lt (se_var 7) (se_int)) (sw_or (sc_cmp ox_ge (se_var 7) (se_bi bx_len rfl Z.m_len (by decide +kernel) (sa_cons (se_var 4) (sa_nil)))) (sw_or1 (sc_not (sc_val (se_cal C_covers_part hr (sa_cons (se_var 0) (sa_cons (ixx hr.hu (se_var 5) (se_var 6)) (sa_cons (ixx hr.hu (se_var 4) (se_var 7)) (sa_nil))))))))))) (sss_one (ss_ret (se_tup (sa_cons (se_str) (sa_cons (se_var 6) (sa_nil)))))) (sss_nil)))) (sss_one (ss_ret (se_non)))))))
abbrev s__law_draws : Stmt := top 10
abbrev N__law_draws : List Str := ["script"]
theorem sc__law_draws : FnScope N__law_draws ["script"] (defScope s__law_draws) := ⟨rfl, rfl, rfl, by decide +kernel, rfl, by decide +kernel, by decide +kernel⟩
def b__law_draws : RS := rRet (rCl (rLst (rCons (rD (rAppF gList (rCons (rVar 0) (rNil)))) (rCons (rC (.int 0)) (rCons (rC (.int 0)) (rCons (rC (.int 1)) (rNil)))))))
theorem sd__law_draws (Z : Fx K mg base) : BodyOk P w K mg base k "_law_draws" N__law_draws (defBody s__law_draws) (defScope s__law_draws) (b__law_draws) := by
  intro f cdv A outer s H hr
  have nd : (N__law_draws).Nodup := sc__law_draws.nd
  exact sss_one (ss_ret (SF.cell (sf_lst (sa_cons (SF.data (sf_ty bxf_list rfl Z.m_list (by decide +kernel) (sa_cons (se_var 0) (sa_nil)))) (sa_cons (se_int) (sa_cons (se_int) (sa_cons (se_int) (sa_nil))))))))
abbrev s__law_draw : Stmt := top 11
abbrev N__law_draw : List Str := ["draws", "limit", "cell", "value"]
theorem sc__law_draw : FnScope N__law_draw ["draws", "limit"] (defScope s__law_draw) := ⟨rfl, rfl, rfl, by decide +kernel, rfl, by decide +kernel, by decide +kernel⟩
def b__law_draw : RS := rSeq (rIfS (rAnd (rTb (rBin gEq (rBin gIx (rVar 0) (rC (.int 2))) (rC (.int 0)))) (rTb (rBin gLt (rBin gIx (rVar 0) (rC (.int 1))) (rApp gLen (rCons (rBin gIx (rVar 0) (rC (.int 0))) (rNil)))))) (rSeq (rAsg (rBin gIx (rBin gIx (rVar 0) (rC (.int 0))) (rBin gIx (rVar 0) (rC (.int 1)))) (rgName 2)) (rSeq (rAsg (rBin gAdd (rBin gIx (rVar 0) (rC (.int 1))) (rC (.int 1))) (rgSub (rVar 0) (rC (.int 1)))) (rSeq (rIfS (rTb (rBin gGe (rVar 2) (rBin gPow (rC (.int 10)) (rC (.int 18))))) (rAsg (rVar 2) (rgSub (rVar 0) (rC (.int 2)))) (rNx)) (rAsg (rBin gMod (rApp gInt (rCons (rBin gAdd (rBin gAdd (rBin gMul (rBin gIx (rVar 0) (rC (.int 3))) (rC (.int 48271))) (rVar 2)) (rC (.int 13))) (rNil))) (rC (.int 2147483647))) (rgSub (rVar 0) (rC (.int 3))))))) (rNx)) (rSeq (rIfS (rTb (rBin gGt (rBin gIx (rVar 0) (rC (.int 2))) (rC (.int 0)))) (rSeq (rAsg (rBin gMod (rApp gInt (rCons (rBin gIx (rVar 0) (rC (.int 2))) (rNil))) (rVar 1)) (rgName 3)) (rSeq (rAsg (rBin gDiv (rBin gIx (rVar 0) (rC (.int 2))) (rVar 1)) (rgSub (rVar 0) (rC (.int 2)))) (rRet (rVar 3)))) (rNx)) (rSeq (rAsg (rBin gMod (rApp gInt (rCons (rBin gAdd (rBin gMul (rBin gIx (rVar 0) (rC (.int 3))) (rC (.int 69621))) (rC (.int 7))) (rNil))) (rC (.int 2147483629))) (rgSub (rVar 0) (rC (.int 3)))) (rRet (rBin gMod (rApp gInt (rCons (rBin gDiv (rBin gIx (rVar 0) (rC (.int 3))) (rC (.int 11))) (rNil))) (rVar 1)))))
theorem sd__law_draw (Z : Fx K mg base) : BodyOk P w K mg base k "_law_draw" N__law_draw (defBody s__law_draw) (defScope s__law_draw) (b__law_draw) := by
  intro f cdv A outer s H hr
  have nd : (N__law_draw).Nodup := sc__law_draw.nd
  exact sss_cons (ss_if (SW.sc (sw_and (sc_cmp (ox_eq hr.hu64) (ixx hr.hu (se_var 0) (se_int)) (se_int)) (sw_and1 (sc_cmp ox_lt (ixx hr.hu (se_var 0) (se_int)) (se_bi bx_len rfl Z.m_len (by decide +kernel) (sa_cons (ixx hr.hu (se_var 0) (se_int)) (sa_nil))))))) (sss_cons (ss_set (i := 2) nd (ixx hr.hu (ixx hr.hu (se_var 0) (se_int)) (ixx hr.hu (se_var 0) (se_int)))) (sss_cons (ss_asg (se_bin ox_add (ixx hr.hu (se_var 0) (se_int)) (se_int)) (sg_sub hr.hu (se_var 0) (se_int))) (sss_cons (ss_if (sc_cmp ox_ge (se_var 2) (se_bin ox_pow (se_int) (se_int))) (sss_one (ss_asg (se_var 2) (sg_sub hr.hu (se_var 0) (se_int)))) (sss_nil)) (sss_one (ss_asg (se_bin ox_mod (se_ty bx_int rfl Z.m_int (by decide +kernel) (sa_cons (se_bin ox_add (se_bin ox_add (se_bin ox_mul (ixx hr.hu (se_var 0) (se_int)) (se_int)) (se_var 2)) (se_int)) (sa_nil))) (se_int)) (sg_sub hr.hu (se_var 0) (se_int))))))) (sss_nil)) (sss_cons (ss_if (sc_cmp ox_gt (ixx hr.hu (se_var 0) (se_int)) (se_int)) (sss_cons (ss_set (i := 3) nd (se_bin ox_mod (se_ty bx_int rfl Z.m_int (by decide +kernel) (sa_cons (ixx hr.hu (se_var 0) (se_int)) (sa_nil))) (se_var 1))) (sss_cons (ss_asg (se_bin ox_div (ixx hr.hu (se_var 0) (se_int)) (se_var 1)) (sg_sub hr.hu (se_var 0) (se_int))) (sss_one (ss_ret (se_var 3))))) (sss_nil)) (sss_cons (ss_asg (se_bin ox_mod (se_ty bx_int rfl Z.m_int (by decide +kernel) (sa_cons (se_bin ox_add (se_bin ox_mul (ixx hr.hu (se_var 0) (se_int)) (se_int)) (se_int)) (sa_nil))) (se_int)) (sg_sub hr.hu (se_var 0) (se_int))) (sss_one (ss_ret (se_bin ox_mod (se_ty bx_int rfl Z.m_int (by decide +kernel) (sa_cons (se_bin ox_div (ixx hr.hu (se_var 0) (se_int)) (se_int)) (sa_nil))) (se_var 1))))))
abbrev s__law_forest : Stmt := top 12
abbrev N__law_forest : List Str := ["draws", "rows", "name", "state", "key"]
theorem sc__law_forest : FnScope N__law_forest ["draws"] (defScope s__law_forest) := ⟨rfl, rfl, rfl, by decide +kernel, rfl, by decide +kernel, by decide +kernel⟩
def b__law_forest (pf__law_draw : PF) : RS := rSeq (rAsg (rCl (rLst (rNil))) (rgName 1)) (rSeq (rFor (riSeq (rSl (rD (rLst (rCons (rC (.str "a")) (rCons (rC (.str "b")) (rCons (rC (.str "c")) (rCons (rC (.str "d")) (rCons (rC (.str "e")) (rCons (rC (.str "f")) (rCons (rC (.str "g")) (rNil)))))))))) rNoP (rPart (rBin gAdd (rC (.int 1)) (rCall pf__law_draw (rCons (rVar 0) (rCons (rC (.int 7)) (rNil)))))))) (rgName 2) (rDrop (rApd (rVar 1) (rTup (rCons (rVar 2) (rCons (rIf (rOr (rTb (rBin gEq (rApp gLen (rCons (rVar 1) (rNil))) (rC (.int 0)))) (rTb (rBin gEq (rCall pf__law_draw (rCons (rVar 0) (rCons (rC (.int 4)) (rNil)))) (rC (.int 0))))) (rC .none) (rBin gIx (rBin gIx (rVar 1) (rCall pf__law_draw (rCons (rVar 0) (rCons (rApp gLen (rCons (rVar 1) (rNil))) (rNil))))) (rC (.int 0)))) (rNil))))))) (rSeq (rAsg (rDic (rpCons (rC (.str "kinds")) (rFz (rVar 1)) (rpCons (rC (.str "quantities")) (rD (rLst (rCons (rC (.str "u")) (rCons (rC (.str "v")) (rCons (rC (.str "w")) (rNil)))))) (rpNil)))) (rgName 3)) (rSeq (rFor (riSeq (rD (rLst (rCons (rC (.str "closed")) (rCons (rC (.str "lands")) (rCons (rC (.str "documents")) (rCons (rC (.str "applications")) (rCons (rC (.str "priors")) (rCons (rC (.str "cites")) (rCons (rC (.str "fields")) (rCons (rC (.str "versions")) (rCons (rC (.str "fees")) (rCons (rC (.str "transfers")) (rCons (rC (.str "registered")) (rNil))))))))))))))) (rgName 4) (rAsg (rD (rLst (rNil))) (rgSub (rVar 3) (rVar 4)))) (rSeq (rFor (riSeq (rD (rLst (rCons (rC (.str "licences")) (rCons (rC (.str "products")) (rCons (rC (.str "drops")) (rCons (rC (.str "oppositions")) (rCons (rC (.str "bends")) (rCons (rC (.str "rates")) (rCons (rC (.str "sales")) (rNil))))))))))) (rgName 4) (rAsg (rD (rLst (rNil))) (rgSub (rVar 3) (rVar 4)))) (rRet (rFz (rVar 3)))))))
theorem sd__law_forest (Z : Fx K mg base) {pf__law_draw : PF} (C__law_draw : Cal P w K mg base k "_law_draw" ["draws", "limit"] pf__law_draw) : BodyOk P w K mg base k "_law_forest" N__law_forest (defBody s__law_forest) (defScope s__law_forest) (b__law_forest pf__law_draw) := by
  intro f cdv A outer s H hr
  have nd : (N__law_forest).Nodup := sc__law_forest.nd
  exact sss_cons (ss_set (i := 1) nd (SF.cell (sf_lst (sa_nil)))) (sss_cons (ss_for PassesOwn.never hr.calm (si_seq (se_slice (SF.data (sf_lst (sa_cons (se_str) (sa_cons (se_str) (sa_cons (se_str) (sa_cons (se_str) (sa_cons (se_str) (sa_cons (se_str) (sa_cons (se_str) (sa_nil)))))))))) so_none (so_some (se_bin ox_add (se_int) (se_cal C__law_draw hr (sa_cons (se_var 0) (sa_cons (se_int) (sa_nil)))))))) (sg_name (i := 2) nd) (sss_one (ss_expr (se_append (se_var 1) (se_tup (sa_cons (se_var 2) (sa_cons (se_ifExp (SW.sc (sw_or (sc_cmp (ox_eq hr.hu64) (se_bi bx_len rfl Z.m_len (by decide +kernel) (sa_cons (se_var 1) (sa_nil))) (se_int)) (sw_or1 (sc_cmp (ox_eq hr.hu64) (se_cal C__law_draw hr (sa_cons (se_var 0) (sa_cons (se_int) (sa_nil)))) (se_int))))) (se_non) (ixx hr.hu (ixx hr.hu (se_var 1) (se_cal C__law_draw hr (sa_cons (se_var 0) (sa_cons (se_bi bx_len rfl Z.m_len (by decide +kernel) (sa_cons (se_var 1) (sa_nil))) (sa_nil))))) (se_int))) (sa_nil)))))))) (sss_cons (ss_set (i := 3) nd (se_dic (sps_cons (se_str) (SE.fz (se_var 1)) (sps_cons (se_str) (SF.data (sf_lst (sa_cons (se_str) (sa_cons (se_str) (sa_cons (se_str) (sa_nil)))))) (sps_nil))))) (sss_cons (ss_for PassesOwn.never hr.calm (si_seq (SF.data (sf_lst (sa_cons (se_str) (sa_cons (se_str) (sa_cons (se_str) (sa_cons (se_str) (sa_cons (se_str) (sa_cons (se_str) (sa_cons (se_str) (sa_cons (se_str) (sa_cons (se_str) (sa_cons (se_str) (sa_cons (se_str) (sa_nil))))))))))))))) (sg_name (i := 4) nd) (sss_one (ss_asg (SF.data (sf_lst (sa_nil))) (sg_sub hr.hu (se_var 3) (se_var 4))))) (sss_cons (ss_for PassesOwn.never hr.calm (si_seq (SF.data (sf_lst (sa_cons (se_str) (sa_cons (se_str) (sa_cons (se_str) (sa_cons (se_str) (sa_cons (se_str) (sa_cons (se_str) (sa_cons (se_str) (sa_nil))))))))))) (sg_name (i := 4) nd) (sss_one (ss_asg (SF.data (sf_lst (sa_nil))) (sg_sub hr.hu (se_var 3) (se_var 4))))) (sss_one (ss_ret (SE.fz (se_var 3))))))))
abbrev s__law_up : Stmt := top 13
abbrev N__law_up : List Str := ["state", "name", "parents", "found"]
theorem sc__law_up : FnScope N__law_up ["state", "name"] (defScope s__law_up) := ⟨rfl, rfl, rfl, by decide +kernel, rfl, by decide +kernel, by decide +kernel⟩
def b__law_up : RS := rSeq (rAsg (rFz (rApp gDict (rCons (rBin gIx (rVar 0) (rC (.str "kinds"))) (rNil)))) (rgName 2)) (rSeq (rAsg (rCl (rLst (rNil))) (rgName 3)) (rSeq (rWhile (rTb (rBin (gIsN true) (rVar 1) (rC .none))) (rSeq (rDrop (rApd (rVar 3) (rVar 1))) (rAsg (rBin gIx (rVar 2) (rVar 1)) (rgName 1)))) (rRet (rFz (rVar 3)))))
theorem sd__law_up (Z : Fx K mg base) : BodyOk P w K mg base k "_law_up" N__law_up (defBody s__law_up) (defScope s__law_up) (b__law_up) := by
  intro f cdv A outer s H hr
  have nd : (N__law_up).Nodup := sc__law_up.nd
  exact sss_cons (ss_set (i := 2) nd (SE.fz (se_ty (bx_dict hr.calm) rfl Z.m_dict (by decide +kernel) (sa_cons (ixx hr.hu (se_var 0) (se_str)) (sa_nil))))) (sss_cons (ss_set (i := 3) nd (SF.cell (sf_lst (sa_nil)))) (sss_cons (ss_while PassesOwn.never (sc_cmp ox_isnot (se_var 1) (se_non)) (sss_cons (ss_expr (se_append (se_var 3) (se_var 1))) (sss_one (ss_set (i := 1) nd (ixx hr.hu (se_var 2) (se_var 1)))))) (sss_one (ss_ret (SE.fz (se_var 3))))))
abbrev s__law_kinds : Stmt := top 14
abbrev N__law_kinds : List Str := ["draws", "state", "k"]
theorem sc__law_kinds : FnScope N__law_kinds ["draws", "state"] (defScope s__law_kinds) := ⟨rfl, rfl, rfl, by decide +kernel, rfl, by decide +kernel, by decide +kernel⟩
def b__law_kinds (pf__law_draw : PF) : RS := rRet (rD (rSSet (rD (rLc (riRng1 (rCons (rCall pf__law_draw (rCons (rVar 0) (rCons (rC (.int 5)) (rNil)))) (rNil))) (rgName 2) (rYes) (rBin gIx (rBin gIx (rBin gIx (rVar 1) (rC (.str "kinds"))) (rCall pf__law_draw (rCons (rVar 0) (rCons (rApp gLen (rCons (rBin gIx (rVar 1) (rC (.str "kinds"))) (rNil))) (rNil))))) (rC (.int 0))) [2]))))
theorem sd__law_kinds (Z : Fx K mg base) {pf__law_draw : PF} (C__law_draw : Cal P w K mg base k "_law_draw" ["draws", "limit"] pf__law_draw) : BodyOk P w K mg base k "_law_kinds" N__law_kinds (defBody s__law_kinds) (defScope s__law_kinds) (b__law_kinds pf__law_draw) := by
  intro f cdv A outer s H hr
  have nd : (N__law_kinds).Nodup := sc__law_kinds.nd
  exact sss_one (ss_ret (SF.data (sf_sset hr rfl Z.m_sorted rfl Z.m_set (SF.data (sf_lc (own := [("k", 2)]) hr.calm nd (si_range1 Z.m_range (sa_cons (se_cal C__law_draw hr (sa_cons (se_var 0) (sa_cons (se_int) (sa_nil)))) (sa_nil))) (blkB_ok (by kernel_rfl)) (fun s H C cl fp => ⟨sg_name (i := 2) nd, sts_nil, ixx hr.blk.hu (ixx hr.blk.hu (ixx hr.blk.hu (se_var 1) (se_str)) (se_cal C__law_draw hr.blk (sa_cons (se_var 0) (sa_cons (se_bi bx_len rfl Z.m_len (by decide +kernel) (sa_cons (ixx hr.blk.hu (se_var 1) (se_str)) (sa_nil))) (sa_nil))))) (se_int)⟩))))))
abbrev s__law_ranges : Stmt := top 15
abbrev N__law_ranges : List Str := ["draws", "found", "name", "low"]
theorem sc__law_ranges : FnScope N__law_ranges ["draws"] (defScope s__law_ranges) := ⟨rfl, rfl, rfl, by decide +kernel, rfl, by decide +kernel, by decide +kernel⟩
def b__law_ranges (pf__law_draw : PF) : RS := rSeq (rAsg (rCl (rLst (rNil))) (rgName 1)) (rSeq (rFor (riSeq (rD (rLst (rCons (rC (.str "u")) (rCons (rC (.str "v")) (rCons (rC (.str "w")) (rNil))))))) (rgName 2) (rIfS (rTb (rBin gEq (rCall pf__law_draw (rCons (rVar 0) (rCons (rC (.int 2)) (rNil)))) (rC (.int 0)))) (rSeq (rAsg (rCall pf__law_draw (rCons (rVar 0) (rCons (rC (.int 9)) (rNil)))) (rgName 3)) (rDrop (rApd (rVar 1) (rTup (rCons (rVar 2) (rCons (rVar 3) (rCons (rBin gAdd (rVar 3) (rBin gIx (rD (rLst (rCons (rC (.int 0)) (rCons (rCall pf__law_draw (rCons (rVar 0) (rCons (rC (.int 6)) (rNil)))) (rNil))))) (rCall pf__law_draw (rCons (rVar 0) (rCons (rC (.int 2)) (rNil)))))) (rNil)))))))) (rNx))) (rRet (rFz (rVar 1))))
theorem sd__law_ranges (Z : Fx K mg base) {pf__law_draw : PF} (C__law_draw : Cal P w K mg base k "_law_draw" ["draws", "limit"] pf__law_draw) : BodyOk P w K mg base k "_law_ranges" N__law_ranges (defBody s__law_ranges) (defScope s__law_ranges) (b__law_ranges pf__law_draw) := by
  intro f cdv A outer s H hr
  have nd : (N__law_ranges).Nodup := sc__law_ranges.nd
  exact sss_cons (ss_set (i := 1) nd (SF.cell (sf_lst (sa_nil)))) (sss_cons (ss_for PassesOwn.never hr.calm (si_seq (SF.data (sf_lst (sa_cons (se_str) (sa_cons (se_str) (sa_cons (se_str) (sa_nil))))))) (sg_name (i := 2) nd) (sss_one (ss_if (sc_cmp (ox_eq hr.hu64) (se_cal C__law_draw hr (sa_cons (se_var 0) (sa_cons (se_int) (sa_nil)))) (se_int)) (sss_cons (ss_set (i := 3) nd (se_cal C__law_draw hr (sa_cons (se_var 0) (sa_cons (se_int) (sa_nil))))) (sss_one (ss_expr (se_append (se_var 1) (se_tup (sa_cons (se_var 2) (sa_cons (se_var 3) (sa_cons (se_bin ox_add (se_var 3) (ixx hr.hu (SF.data (sf_lst (sa_cons (se_int) (sa_cons (se_cal C__law_draw hr (sa_cons (se_var 0) (sa_cons (se_int) (sa_nil)))) (sa_nil))))) (se_cal C__law_draw hr (sa_cons (se_var 0) (sa_cons (se_int) (sa_nil)))))) (sa_nil))))))))) (sss_nil)))) (sss_one (ss_ret (SE.fz (se_var 1)))))
abbrev s__law_part_met : Stmt := top 16
abbrev N__law_part_met : List Str := ["state", "thing", "part", "name", "low", "high"]
theorem sc__law_part_met : FnScope N__law_part_met ["state", "thing", "part"] (defScope s__law_part_met) := ⟨rfl, rfl, rfl, by decide +kernel, rfl, by decide +kernel, by decide +kernel⟩
def b__law_part_met (pf__law_up : PF) : RS := rSeq (rIfS (rTb (rBin gEq (rBin gIx (rVar 2) (rC (.int 0))) (rC (.str "kind")))) (rRet (rApp gAny (rCons (rD (rLc (riSeq (rBin gIx (rVar 1) (rC (.int 0)))) (rgName 3) (rYes) (rBin (gIn false) (rBin gIx (rVar 2) (rC (.int 1))) (rCall pf__law_up (rCons (rVar 0) (rCons (rVar 3) (rNil))))) [3])) (rNil)))) (rNx)) (rSeq (rFor (riSeq (rBin gIx (rVar 1) (rC (.int 1)))) (rgTup 3 (rgCons (rgName 3) (rgCons (rgName 4) (rgCons (rgName 5) (rgNil))))) (rIfS (rTb (rBin gEq (rVar 3) (rBin gIx (rVar 2) (rC (.int 1))))) (rRet (rBin gLe (rApp gMax (rCons (rVar 4) (rCons (rBin gIx (rVar 2) (rC (.int 2))) (rNil)))) (rApp gMin (rCons (rVar 5) (rCons (rBin gIx (rVar 2) (rC (.int 3))) (rNil)))))) (rNx))) (rRet (rC (.bool false))))
theorem sd__law_part_met (Z : Fx K mg base) {pf__law_up : PF} (C__law_up : Cal P w K mg base k "_law_up" ["state", "name"] pf__law_up) : BodyOk P w K mg base k "_law_part_met" N__law_part_met (defBody s__law_part_met) (defScope s__law_part_met) (b__law_part_met pf__law_up) := by
  intro f cdv A outer s H hr
  have nd : (N__law_part_met).Nodup := sc__law_part_met.nd
  exact sss_cons (ss_if (sc_cmp (ox_eq hr.hu64) (ixx hr.hu (se_var 2) (se_int)) (se_str)) (sss_one (ss_ret (se_bi (bx_any hr.calm) rfl Z.m_any (by decide +kernel) (sa_cons (SF.data (sf_lc (own := [("name", 3)]) hr.calm nd (si_seq (ixx hr.hu (se_var 1) (se_int))) (blkB_ok (by kernel_rfl)) (fun s H C cl fp => ⟨sg_name (i := 3) nd, sts_nil, se_cmp (ox_in hr.blk.hu65) (ixx hr.blk.hu (se_var 2) (se_int)) (se_cal C__law_up hr.blk (sa_cons (se_var 0) (sa_cons (se_var 3) (sa_nil))))⟩))) (sa_nil))))) (sss_nil)) (sss_cons (ss_for PassesOwn.never hr.calm (si_seq (ixx hr.hu (se_var 1) (se_int))) (sg_tup (n := 3) hr.calm (sgs_cons (sg_name (i := 3) nd) (sgs_cons (sg_name (i := 4) nd) (sgs_cons (sg_name (i := 5) nd) (sgs_nil))))) (sss_one (ss_if (sc_cmp (ox_eq hr.hu64) (se_var 3) (ixx hr.hu (se_var 2) (se_int))) (sss_one (ss_ret (se_cmp ox_le (se_bi (bx_max hr.calm) rfl Z.m_max (by decide +kernel) (sa_cons (se_var 4) (sa_cons (ixx hr.hu (se_var 2) (se_int)) (sa_nil)))) (se_bi (bx_min hr.calm) rfl Z.m_min (by decide +kernel) (sa_cons (se_var 5) (sa_cons (ixx hr.hu (se_var 2) (se_int)) (sa_nil))))))) (sss_nil)))) (sss_one (ss_ret (se_bl))))
abbrev s__law_parts : Stmt := top 17
abbrev N__law_parts : List Str := ["wish", "name", "low", "high"]
theorem sc__law_parts : FnScope N__law_parts ["wish"] (defScope s__law_parts) := ⟨rfl, rfl, rfl, by decide +kernel, rfl, by decide +kernel, by decide +kernel⟩
def b__law_parts : RS := rRet (rBin gAdd (rD (rLc (riSeq (rBin gIx (rVar 0) (rC (.int 0)))) (rgName 1) (rYes) (rTup (rCons (rC (.str "kind")) (rCons (rVar 1) (rNil)))) [1])) (rD (rLc (riSeq (rBin gIx (rVar 0) (rC (.int 1)))) (rgTup 3 (rgCons (rgName 1) (rgCons (rgName 2) (rgCons (rgName 3) (rgNil))))) (rYes) (rTup (rCons (rC (.str "range")) (rCons (rVar 1) (rCons (rVar 2) (rCons (rVar 3) (rNil)))))) [1, 2, 3])))
theorem sd__law_parts (Z : Fx K mg base) : BodyOk P w K mg base k "_law_parts" N__law_parts (defBody s__law_parts) (defScope s__law_parts) (b__law_parts) := by
  intro f cdv A outer s H hr
  have nd : (N__law_parts).Nodup := sc__law_parts.nd
  exact sss_one (ss_ret (se_bin ox_add (SF.data (sf_lc (own := [("name", 1)]) hr.calm nd (si_seq (ixx hr.hu (se_var 0) (se_int))) (blkB_ok (by kernel_rfl)) (fun s H C cl fp => ⟨sg_name (i := 1) nd, sts_nil, se_tup (sa_cons (se_str) (sa_cons (se_var 1) (sa_nil)))⟩))) (SF.data (sf_lc (own := [("name", 1), ("low", 2), ("high", 3)]) hr.calm nd (si_seq (ixx hr.hu (se_var 0) (se_int))) (blkB_ok (by kernel_rfl)) (fun s H C cl fp => ⟨sg_tup (n := 3) hr.blk.calm (sgs_cons (sg_name (i := 1) nd) (sgs_cons (sg_name (i := 2) nd) (sgs_cons (sg_name (i := 3) nd) (sgs_nil)))), sts_nil, se_tup (sa_cons (se_str) (sa_cons (se_var 1) (sa_cons (se_var 2) (sa_cons (se_var 3) (sa_nil)))))⟩)))))
abbrev s__law_covered : Stmt := top 18
abbrev N__law_covered : List Str := ["state", "part", "other"]
theorem sc__law_covered : FnScope N__law_covered ["state", "part", "other"] (defScope s__law_covered) := ⟨rfl, rfl, rfl, by decide +kernel, rfl, by decide +kernel, by decide +kernel⟩
def b__law_covered (pf__law_up : PF) : RS := rSeq (rIfS (rTb (rBin gEq (rBin gIx (rVar 1) (rC (.int 0))) (rC (.str "kind")))) (rRet (rAndV (rBin gEq (rBin gIx (rVar 2) (rC (.int 0))) (rC (.str "kind"))) (rBin (gIn false) (rBin gIx (rVar 1) (rC (.int 1))) (rCall pf__law_up (rCons (rVar 0) (rCons (rBin gIx (rVar 2) (rC (.int 1))) (rNil))))))) (rNx)) (rRet (rAndV (rBin gEq (rBin gIx (rVar 2) (rC (.int 0))) (rC (.str "range"))) (rAndV (rBin gEq (rBin gIx (rVar 1) (rC (.int 1))) (rBin gIx (rVar 2) (rC (.int 1)))) (rAndV (rBin gLe (rBin gIx (rVar 1) (rC (.int 2))) (rBin gIx (rVar 2) (rC (.int 2)))) (rBin gLe (rBin gIx (rVar 2) (rC (.int 3))) (rBin gIx (rVar 1) (rC (.int 3))))))))
theorem sd__law_covered (Z : Fx K mg base) {pf__law_up : PF} (C__law_up : Cal P w K mg base k "_law_up" ["state", "name"] pf__law_up) : BodyOk P w K mg base k "_law_covered" N__law_covered (defBody s__law_covered) (defScope s__law_covered) (b__law_covered pf__law_up) := by
  intro f cdv A outer s H hr
  have nd : (N__law_covered).Nodup := sc__law_covered.nd
  exact sss_cons (ss_if (sc_cmp (ox_eq hr.hu64) (ixx hr.hu (se_var 1) (se_int)) (se_str)) (sss_one (ss_ret (se_and (se_cmp (ox_eq hr.hu64) (ixx hr.hu (se_var 2) (se_int)) (se_str)) (se_one (se_cmp (ox_in hr.hu65) (ixx hr.hu (se_var 1) (se_int)) (se_cal C__law_up hr (sa_cons (se_var 0) (sa_cons (ixx hr.hu (se_var 2) (se_int)) (sa_nil))))))))) (sss_nil)) (sss_one (ss_ret (se_and (se_cmp (ox_eq hr.hu64) (ixx hr.hu (se_var 2) (se_int)) (se_str)) (se_and (se_cmp (ox_eq hr.hu64) (ixx hr.hu (se_var 1) (se_int)) (ixx hr.hu (se_var 2) (se_int))) (se_and (se_cmp ox_le (ixx hr.hu (se_var 1) (se_int)) (ixx hr.hu (se_var 2) (se_int))) (se_one (se_cmp ox_le (ixx hr.hu (se_var 2) (se_int)) (ixx hr.hu (se_var 1) (se_int)))))))))
abbrev s__law_near : Stmt := top 19
abbrev N__law_near : List Str := ["draws", "state", "wish", "kinds", "name", "up", "ranges", "low", "high", "row"]
theorem sc__law_near : FnScope N__law_near ["draws", "state", "wish"] (defScope s__law_near) := ⟨rfl, rfl, rfl, by decide +kernel, rfl, by decide +kernel, by decide +kernel⟩
def b__law_near (pf__law_up : PF) (pf__law_draw : PF) : RS := rSeq (rAsg (rD (rLst (rNil))) (rgName 3)) (rSeq (rFor (riSeq (rBin gIx (rVar 2) (rC (.int 0)))) (rgName 4) (rSeq (rAsg (rCall pf__law_up (rCons (rVar 1) (rCons (rVar 4) (rNil)))) (rgName 5)) (rAsg (rBin gAdd (rVar 3) (rIf (rTb (rBin gGt (rCall pf__law_draw (rCons (rVar 0) (rCons (rC (.int 4)) (rNil)))) (rC (.int 0)))) (rD (rLst (rCons (rBin gIx (rVar 5) (rCall pf__law_draw (rCons (rVar 0) (rCons (rApp gLen (rCons (rVar 5) (rNil))) (rNil))))) (rNil)))) (rD (rLst (rNil))))) (rgName 3)))) (rSeq (rAsg (rCl (rLst (rNil))) (rgName 6)) (rSeq (rFor (riSeq (rBin gIx (rVar 2) (rC (.int 1)))) (rgTup 3 (rgCons (rgName 4) (rgCons (rgName 7) (rgCons (rgName 8) (rgNil))))) (rIfS (rTb (rBin gGt (rCall pf__law_draw (rCons (rVar 0) (rCons (rC (.int 4)) (rNil)))) (rC (.int 0)))) (rDrop (rApd (rVar 6) (rTup (rCons (rVar 4) (rCons (rApp gMax (rCons (rC (.int 0)) (rCons (rBin gAdd (rBin gSub (rVar 7) (rCall pf__law_draw (rCons (rVar 0) (rCons (rC (.int 3)) (rNil))))) (rApp gInt (rCons (rBin gEq (rCall pf__law_draw (rCons (rVar 0) (rCons (rC (.int 6)) (rNil)))) (rC (.int 0))) (rNil)))) (rNil)))) (rCons (rBin gAdd (rVar 8) (rCall pf__law_draw (rCons (rVar 0) (rCons (rC (.int 3)) (rNil))))) (rNil))))))) (rNx))) (rRet (rTup (rCons (rD (rSSet (rVar 3))) (rCons (rD (rLc (riSeq (rVar 6)) (rgName 9) (rTb (rBin gLe (rBin gIx (rVar 9) (rC (.int 1))) (rBin gIx (rVar 9) (rC (.int 2))))) (rVar 9) [9])) (rNil))))))))
theorem sd__law_near (Z : Fx K mg base) {pf__law_up : PF} (C__law_up : Cal P w K mg base k "_law_up" ["state", "name"] pf__law_up) {pf__law_draw : PF} (C__law_draw : Cal P w K mg base k "_law_draw" ["draws", "limit"] pf__law_draw) : BodyOk P w K mg base k "_law_near" N__law_near (defBody s__law_near) (defScope s__law_near) (b__law_near pf__law_up pf__law_draw) := by
  intro f cdv A outer s H hr
  have nd : (N__law_near).Nodup := sc__law_near.nd
  exact sss_cons (ss_set (i := 3) nd (SF.data (sf_lst (sa_nil)))) (sss_cons (ss_for PassesOwn.never hr.calm (si_seq (ixx hr.hu (se_var 2) (se_int))) (sg_name (i := 4) nd) (sss_cons (ss_set (i := 5) nd (se_cal C__law_up hr (sa_cons (se_var 1) (sa_cons (se_var 4) (sa_nil))))) (sss_one (ss_set (i := 3) nd (se_bin ox_add (se_var 3) (se_ifExp (sc_cmp ox_gt (se_cal C__law_draw hr (sa_cons (se_var 0) (sa_cons (se_int) (sa_nil)))) (se_int)) (SF.data (sf_lst (sa_cons (ixx hr.hu (se_var 5) (se_cal C__law_draw hr (sa_cons (se_var 0) (sa_cons (se_bi bx_len rfl Z.m_len (by decide +kernel) (sa_cons (se_var 5) (sa_nil))) (sa_nil))))) (sa_nil)))) (SF.data (sf_lst (sa_nil))))))))) (sss_cons (ss_set (i := 6) nd (SF.cell (sf_lst (sa_nil)))) (sss_cons (ss_for PassesOwn.never hr.calm (si_seq (ixx hr.hu (se_var 2) (se_int))) (sg_tup (n := 3) hr.calm (sgs_cons (sg_name (i := 4) nd) (sgs_cons (sg_name (i := 7) nd) (sgs_cons (sg_name (i := 8) nd) (sgs_nil))))) (sss_one (ss_if (sc_cmp ox_gt (se_cal C__law_draw hr (sa_cons (se_var 0) (sa_cons (se_int) (sa_nil)))) (se_int)) (sss_one (ss_expr (se_append (se_var 6) (se_tup (sa_cons (se_var 4) (sa_cons (se_bi (bx_max hr.calm) rfl Z.m_max (by decide +kernel) (sa_cons (se_int) (sa_cons (se_bin ox_add (se_bin ox_sub (se_var 7) (se_cal C__law_draw hr (sa_cons (se_var 0) (sa_cons (se_int) (sa_nil))))) (se_ty bx_int rfl Z.m_int (by decide +kernel) (sa_cons (se_cmp (ox_eq hr.hu64) (se_cal C__law_draw hr (sa_cons (se_var 0) (sa_cons (se_int) (sa_nil)))) (se_int)) (sa_nil)))) (sa_nil)))) (sa_cons (se_bin ox_add (se_var 8) (se_cal C__law_draw hr (sa_cons (se_var 0) (sa_cons (se_int) (sa_nil))))) (sa_nil)))))))) (sss_nil)))) (sss_one (ss_ret (se_tup (sa_cons (SF.data (sf_sset hr rfl Z.m_sorted rfl Z.m_set (se_var 3))) (sa_cons (SF.data (sf_lc (own := [("row", 9)]) hr.calm nd (si_seq (se_var 6)) (blkB_ok (by kernel_rfl)) (fun s H C cl fp => ⟨sg_name (i := 9) nd, sts_one (sc_cmp ox_le (ixx hr.blk.hu (se_var 9) (se_int)) (ixx hr.blk.hu (se_var 9) (se_int))), se_var 9⟩))) (sa_nil)))))))))
abbrev s__law_met : Stmt := top 20
abbrev N__law_met : List Str := ["state", "thing", "wish", "part"]
theorem sc__law_met : FnScope N__law_met ["state", "thing", "wish"] (defScope s__law_met) := ⟨rfl, rfl, rfl, by decide +kernel, rfl, by decide +kernel, by decide +kernel⟩
def b__law_met (pf__law_parts : PF) (pf__law_part_met : PF) : RS := rRet (rApp gAll (rCons (rD (rLc (riSeq (rCall pf__law_parts (rCons (rVar 2) (rNil)))) (rgName 3) (rYes) (rCall pf__law_part_met (rCons (rVar 0) (rCons (rVar 1) (rCons (rVar 3) (rNil))))) [3])) (rNil)))
theorem sd__law_met (Z : Fx K mg base) {pf__law_parts : PF} (C__law_parts : Cal P w K mg base k "_law_parts" ["wish"] pf__law_parts) {pf__law_part_met : PF} (C__law_part_met : Cal P w K mg base k "_law_part_met" ["state", "thing", "part"] pf__law_part_met) : BodyOk P w K mg base k "_law_met" N__law_met (defBody s__law_met) (defScope s__law_met) (b__law_met pf__law_parts pf__law_part_met) := by
  intro f cdv A outer s H hr
  have nd : (N__law_met).Nodup := sc__law_met.nd
  exact sss_one (ss_ret (se_bi (bx_all hr.calm) rfl Z.m_all (by decide +kernel) (sa_cons (SF.data (sf_lc (own := [("part", 3)]) hr.calm nd (si_seq (se_cal C__law_parts hr (sa_cons (se_var 2) (sa_nil)))) (blkB_ok (by kernel_rfl)) (fun s H C cl fp => ⟨sg_name (i := 3) nd, sts_nil, se_cal C__law_part_met hr.blk (sa_cons (se_var 0) (sa_cons (se_var 1) (sa_cons (se_var 3) (sa_nil))))⟩))) (sa_nil))))
abbrev s__law_fault : Stmt := top 21
abbrev N__law_fault : List Str := ["state", "one", "other", "told", "rows", "wished", "k"]
theorem sc__law_fault : FnScope N__law_fault ["state", "one", "other", "told"] (defScope s__law_fault) := ⟨rfl, rfl, rfl, by decide +kernel, rfl, by decide +kernel, by decide +kernel⟩
def b__law_fault (pf__law_met : PF) (pf__law_parts : PF) (pf__law_covered : PF) : RS := rSeq (rIfS (rTb (rBin gEq (rBin gIx (rVar 3) (rC (.int 0))) (rC (.str "not")))) (rSeq (rIfS (rNot (rTr (rCall pf__law_met (rCons (rVar 0) (rCons (rBin gIx (rVar 3) (rC (.int 1))) (rCons (rVar 2) (rNil))))))) (rRet (rTup (rCons (rC (.str "other")) (rNil)))) (rNx)) (rRet (rIf (rTr (rCall pf__law_met (rCons (rVar 0) (rCons (rBin gIx (rVar 3) (rC (.int 1))) (rCons (rVar 1) (rNil)))))) (rTup (rCons (rC (.str "one")) (rNil))) (rC .none)))) (rNx)) (rSeq (rAsg (rCall pf__law_parts (rCons (rVar 2) (rNil))) (rgName 4)) (rSeq (rAsg (rCall pf__law_parts (rCons (rVar 1) (rNil))) (rgName 5)) (rSeq (rIfS (rTb (rBin gNe (rApp gLen (rCons (rBin gIx (rVar 3) (rC (.int 1))) (rNil))) (rApp gLen (rCons (rVar 5) (rNil))))) (rRet (rTup (rCons (rC (.str "length")) (rNil)))) (rNx)) (rSeq (rFor (riRng1 (rCons (rApp gLen (rCons (rVar 5) (rNil))) (rNil))) (rgName 6) (rIfS (rOr (rNot (rTb (rChain gLe gLt (rC (.int 0)) (rBin gIx (rBin gIx (rVar 3) (rC (.int 1))) (rVar 6)) (rApp gLen (rCons (rVar 4) (rNil)))))) (rNot (rTr (rCall pf__law_covered (rCons (rVar 0) (rCons (rBin gIx (rVar 5) (rVar 6)) (rCons (rBin gIx (rVar 4) (rBin gIx (rBin gIx (rVar 3) (rC (.int 1))) (rVar 6))) (rNil)))))))) (rRet (rTup (rCons (rC (.str "part")) (rCons (rVar 6) (rNil))))) (rNx))) (rRet (rC .none))))))
theorem sd__law_fault (Z : Fx K mg base) {pf__law_met : PF} (C__law_met : Cal P w K mg base k "_law_met" ["state", "thing", "wish"] pf__law_met) {pf__law_parts : PF} (C__law_parts : Cal P w K mg base k "_law_parts" ["wish"] pf__law_parts) {pf__law_covered : PF} (C__law_covered : Cal P w K mg base k "_law_covered" ["state", "part", "other"] pf__law_covered) : BodyOk P w K mg base k "_law_fault" N__law_fault (defBody s__law_fault) (defScope s__law_fault) (b__law_fault pf__law_met pf__law_parts pf__law_covered) := by
  intro f cdv A outer s H hr
  have nd : (N__law_fault).Nodup := sc__law_fault.nd
  exact sss_cons (ss_if (sc_cmp (ox_eq hr.hu64) (ixx hr.hu (se_var 3) (se_int)) (se_str)) (sss_cons (ss_if (sc_not (sc_val (se_cal C__law_met hr (sa_cons (se_var 0) (sa_cons (ixx hr.hu (se_var 3) (se_int)) (sa_cons (se_var 2) (sa_nil))))))) (sss_one (ss_ret (se_tup (sa_cons (se_str) (sa_nil))))) (sss_nil)) (sss_one (ss_ret (se_ifExp (sc_val (se_cal C__law_met hr (sa_cons (se_var 0) (sa_cons (ixx hr.hu (se_var 3) (se_int)) (sa_cons (se_var 1) (sa_nil)))))) (se_tup (sa_cons (se_str) (sa_nil))) (se_non))))) (sss_nil)) (sss_cons (ss_set (i := 4) nd (se_cal C__law_parts hr (sa_cons (se_var 2) (sa_nil)))) (sss_cons (ss_set (i := 5) nd (se_cal C__law_parts hr (sa_cons (se_var 1) (sa_nil)))) (sss_cons (ss_if (sc_cmp (ox_ne hr.hu64) (se_bi bx_len rfl Z.m_len (by decide +kernel) (sa_cons (ixx hr.hu (se_var 3) (se_int)) (sa_nil))) (se_bi bx_len rfl Z.m_len (by decide +kernel) (sa_cons (se_var 5) (sa_nil)))) (sss_one (ss_ret (se_tup (sa_cons (se_str) (sa_nil))))) (sss_nil)) (sss_cons (ss_for PassesOwn.never hr.calm (si_range1 Z.m_range (sa_cons (se_bi bx_len rfl Z.m_len (by decide +kernel) (sa_cons (se_var 5) (sa_nil))) (sa_nil))) (sg_name (i := 6) nd) (sss_one (ss_if (SW.sc (sw_or (sc_not (sc_chain ox_le ox_lt (se_int) (ixx hr.hu (ixx hr.hu (se_var 3) (se_int)) (se_var 6)) (se_bi bx_len rfl Z.m_len (by decide +kernel) (sa_cons (se_var 4) (sa_nil))))) (sw_or1 (sc_not (sc_val (se_cal C__law_covered hr (sa_cons (se_var 0) (sa_cons (ixx hr.hu (se_var 5) (se_var 6)) (sa_cons (ixx hr.hu (se_var 4) (ixx hr.hu (ixx hr.hu (se_var 3) (se_int)) (se_var 6))) (sa_nil)))))))))) (sss_one (ss_ret (se_tup (sa_cons (se_str) (sa_cons (se_var 6) (sa_nil)))))) (sss_nil)))) (sss_one (ss_ret (se_non)))))))
abbrev s__law_bent : Stmt := top 22
abbrev N__law_bent : List Str := ["draws", "state", "one", "other", "told", "kind", "ranges", "row", "part"]
theorem sc__law_bent : FnScope N__law_bent ["draws", "state", "one", "other", "told"] (defScope s__law_bent) := ⟨rfl, rfl, rfl, by decide +kernel, rfl, by decide +kernel, by decide +kernel⟩
def b__law_bent (pf__law_draw : PF) (pf__law_ranges : PF) (pf__law_kinds : PF) (pf__law_parts : PF) : RS := rSeq (rAsg (rCall pf__law_draw (rCons (rVar 0) (rCons (rC (.int 4)) (rNil)))) (rgName 5)) (rSeq (rIfS (rTb (rBin gEq (rVar 5) (rC (.int 0)))) (rSeq (rAsg (rCall pf__law_ranges (rCons (rVar 0) (rNil))) (rgName 6)) (rSeq (rIfS (rTb (rBin gEq (rCall pf__law_draw (rCons (rVar 0) (rCons (rC (.int 5)) (rNil)))) (rC (.int 0)))) (rAsg (rD (rLc (riSeq (rVar 6)) (rgName 7) (rYes) (rTup (rCons (rBin gIx (rVar 7) (rC (.int 0))) (rCons (rBin gAdd (rBin gIx (rVar 7) (rC (.int 2))) (rC (.int 1))) (rCons (rBin gIx (rVar 7) (rC (.int 1))) (rNil))))) [7])) (rgName 6)) (rNx)) (rRet (rTup (rCons (rC (.str "not")) (rCons (rTup (rCons (rCall pf__law_kinds (rCons (rVar 0) (rCons (rVar 1) (rNil)))) (rCons (rVar 6) (rNil)))) (rNil))))))) (rNx)) (rSeq (rIfS (rTb (rBin gEq (rVar 5) (rC (.int 1)))) (rRet (rTup (rCons (rC (.str "covers")) (rCons (rD (rLc (riSeq (rCall pf__law_parts (rCons (rVar 2) (rNil)))) (rgName 8) (rYes) (rBin gSub (rCall pf__law_draw (rCons (rVar 0) (rCons (rC (.int 5)) (rNil)))) (rC (.int 1))) [8])) (rNil))))) (rNx)) (rSeq (rIfS (rTb (rBin gEq (rBin gIx (rVar 4) (rC (.int 0))) (rC (.str "not")))) (rRet (rTup (rCons (rC (.str "not")) (rCons (rIf (rTb (rBin gEq (rVar 5) (rC (.int 2)))) (rTup (rCons (rSl (rBin gIx (rBin gIx (rVar 4) (rC (.int 1))) (rC (.int 0))) (rPart (rC (.int 1))) rNoP) (rCons (rBin gIx (rBin gIx (rVar 4) (rC (.int 1))) (rC (.int 1))) (rNil)))) (rTup (rCons (rBin gIx (rBin gIx (rVar 4) (rC (.int 1))) (rC (.int 0))) (rCons (rSl (rBin gIx (rBin gIx (rVar 4) (rC (.int 1))) (rC (.int 1))) (rPart (rC (.int 1))) rNoP) (rNil))))) (rNil))))) (rNx)) (rRet (rTup (rCons (rC (.str "covers")) (rCons (rIf (rTb (rBin gEq (rVar 5) (rC (.int 2)))) (rSl (rBin gIx (rVar 4) (rC (.int 1))) (rPart (rC (.int 1))) rNoP) (rBin gAdd (rBin gIx (rVar 4) (rC (.int 1))) (rD (rLst (rCons (rC (.int 0)) (rNil)))))) (rNil))))))))
theorem sd__law_bent (Z : Fx K mg base) {pf__law_draw : PF} (C__law_draw : Cal P w K mg base k "_law_draw" ["draws", "limit"] pf__law_draw) {pf__law_ranges : PF} (C__law_ranges : Cal P w K mg base k "_law_ranges" ["draws"] pf__law_ranges) {pf__law_kinds : PF} (C__law_kinds : Cal P w K mg base k "_law_kinds" ["draws", "state"] pf__law_kinds) {pf__law_parts : PF} (C__law_parts : Cal P w K mg base k "_law_parts" ["wish"] pf__law_parts) : BodyOk P w K mg base k "_law_bent" N__law_bent (defBody s__law_bent) (defScope s__law_bent) (b__law_bent pf__law_draw pf__law_ranges pf__law_kinds pf__law_parts) := by
  intro f cdv A outer s H hr
  have nd : (N__law_bent).Nodup := sc__law_bent.nd
  exact sss_cons (ss_set (i := 5) nd (se_cal C__law_draw hr (sa_cons (se_var 0) (sa_cons (se_int) (sa_nil))))) (sss_cons (ss_if (sc_cmp (ox_eq hr.hu64) (se_var 5) (se_int)) (sss_cons (ss_set (i := 6) nd (se_cal C__law_ranges hr (sa_cons (se_var 0) (sa_nil)))) (sss_cons (ss_if (sc_cmp (ox_eq hr.hu64) (se_cal C__law_draw hr (sa_cons (se_var 0) (sa_cons (se_int) (sa_nil)))) (se_int)) (sss_one (ss_setLc (i := 6) (own := [("row", 7)]) hr.calm nd (si_seq (se_var 6)) (blkB_ok (by kernel_rfl)) (fun s H C cl fp => ⟨sg_name (i := 7) nd, sts_nil, se_tup (sa_cons (ixx hr.blk.hu (se_var 7) (se_int)) (sa_cons (se_bin ox_add (ixx hr.blk.hu (se_var 7) (se_int)) (se_int)) (sa_cons (ixx hr.blk.hu (se_var 7) (se_int)) (sa_nil))))⟩) (by rfl))) (sss_nil)) (sss_one (ss_ret (se_tup (sa_cons (se_str) (sa_cons (se_tup (sa_cons (se_cal C__law_kinds hr (sa_cons (se_var 0) (sa_cons (se_var 1) (sa_nil)))) (sa_cons (se_var 6) (sa_nil)))) (sa_nil)))))))) (sss_nil)) (sss_cons (ss_if (sc_cmp (ox_eq hr.hu64) (se_var 5) (se_int)) (sss_one (ss_ret (se_tup (sa_cons (se_str) (sa_cons (SF.data (sf_lc (own := [("part", 8)]) hr.calm nd (si_seq (se_cal C__law_parts hr (sa_cons (se_var 2) (sa_nil)))) (blkB_ok (by kernel_rfl)) (fun s H C cl fp => ⟨sg_name (i := 8) nd, sts_nil, se_bin ox_sub (se_cal C__law_draw hr.blk (sa_cons (se_var 0) (sa_cons (se_int) (sa_nil)))) (se_int)⟩))) (sa_nil)))))) (sss_nil)) (sss_cons (ss_if (sc_cmp (ox_eq hr.hu64) (ixx hr.hu (se_var 4) (se_int)) (se_str)) (sss_one (ss_ret (se_tup (sa_cons (se_str) (sa_cons (se_ifExp (sc_cmp (ox_eq hr.hu64) (se_var 5) (se_int)) (se_tup (sa_cons (se_slice (ixx hr.hu (ixx hr.hu (se_var 4) (se_int)) (se_int)) (so_some (se_int)) so_none) (sa_cons (ixx hr.hu (ixx hr.hu (se_var 4) (se_int)) (se_int)) (sa_nil)))) (se_tup (sa_cons (ixx hr.hu (ixx hr.hu (se_var 4) (se_int)) (se_int)) (sa_cons (se_slice (ixx hr.hu (ixx hr.hu (se_var 4) (se_int)) (se_int)) (so_some (se_int)) so_none) (sa_nil))))) (sa_nil)))))) (sss_nil)) (sss_one (ss_ret (se_tup (sa_cons (se_str) (sa_cons (se_ifExp (sc_cmp (ox_eq hr.hu64) (se_var 5) (se_int)) (se_slice (ixx hr.hu (se_var 4) (se_int)) (so_some (se_int)) so_none) (se_bin ox_add (ixx hr.hu (se_var 4) (se_int)) (SF.data (sf_lst (sa_cons (se_int) (sa_nil)))))) (sa_nil)))))))))
abbrev s_law : Stmt := top 23
abbrev N_law : List Str := ["script", "draws", "state", "other", "one", "kept", "told", "due", "row", "part", "cases", "k", "start", "case", "fault", "wanted"]
theorem sc_law : FnScope N_law ["script"] (defScope s_law) := ⟨rfl, rfl, rfl, by decide +kernel, rfl, by decide +kernel, by decide +kernel⟩
def b_law (pf__law_draws : PF) (pf__law_forest : PF) (pf__law_ranges : PF) (pf__law_kinds : PF) (pf__law_draw : PF) (pf__law_near : PF) (pf_covers : PF) (pf__law_parts : PF) (pf__law_covered : PF) (pf__law_fault : PF) (pf__law_bent : PF) (pf_cover_fault : PF) : RS := rSeq (rAsg (rCall pf__law_draws (rCons (rVar 0) (rNil))) (rgName 1)) (rSeq (rAsg (rCall pf__law_forest (rCons (rVar 1) (rNil))) (rgName 2)) (rSeq (rAsg (rTup (rCons (rCall pf__law_kinds (rCons (rVar 1) (rCons (rVar 2) (rNil)))) (rCons (rCall pf__law_ranges (rCons (rVar 1) (rNil))) (rNil)))) (rgName 3)) (rSeq (rAsg (rIf (rTb (rBin gGt (rCall pf__law_draw (rCons (rVar 1) (rCons (rC (.int 4)) (rNil)))) (rC (.int 0)))) (rCall pf__law_near (rCons (rVar 1) (rCons (rVar 2) (rCons (rVar 3) (rNil))))) (rTup (rCons (rCall pf__law_kinds (rCons (rVar 1) (rCons (rVar 2) (rNil)))) (rCons (rCall pf__law_ranges (rCons (rVar 1) (rNil))) (rNil))))) (rgName 4)) (rSeq (rAsg (rApp gRepr (rCons (rD (rLst (rCons (rVar 2) (rCons (rVar 4) (rCons (rVar 3) (rNil)))))) (rNil))) (rgName 5)) (rSeq (rAsg (rCall pf_covers (rCons (rVar 2) (rCons (rVar 4) (rCons (rVar 3) (rNil))))) (rgName 6)) (rSeq (rAsg (rApp gAll (rCons (rD (rLc (riSeq (rCall pf__law_parts (rCons (rVar 4) (rNil)))) (rgName 9) (rYes) (rApp gAny (rCons (rD (rLc (riSeq (rCall pf__law_parts (rCons (rVar 3) (rNil)))) (rgName 8) (rYes) (rCall pf__law_covered (rCons (rVar 2) (rCons (rVar 9) (rCons (rVar 8) (rNil))))) [8])) (rNil))) [9])) (rNil))) (rgName 7)) (rSeq (rIfS (rOr (rNot (rTr (rIsiX "tuple" (rVar 6)))) (rOr (rTb (rBin gNe (rApp gLen (rCons (rVar 6) (rNil))) (rC (.int 2)))) (rOr (rTb (rBin gNe (rBin gIx (rVar 6) (rC (.int 0))) (rIf (rTr (rVar 7)) (rC (.str "covers")) (rC (.str "not"))))) (rTb (rBin gNe (rApp gRepr (rCons (rD (rLst (rCons (rVar 2) (rCons (rVar 4) (rCons (rVar 3) (rNil)))))) (rNil))) (rVar 5)))))) (rRet (rC (.bool false))) (rNx)) (rSeq (rIfS (rOr (rAnd (rTr (rVar 7)) (rNot (rTr (rIsiX "list" (rBin gIx (rVar 6) (rC (.int 1))))))) (rTb (rBin (gIsN true) (rCall pf__law_fault (rCons (rVar 2) (rCons (rVar 4) (rCons (rVar 3) (rCons (rVar 6) (rNil)))))) (rC .none)))) (rRet (rC (.bool false))) (rNx)) (rSeq (rAsg (rBin gAdd (rD (rLst (rCons (rVar 6) (rNil)))) (rD (rLc (riRng1 (rCons (rC (.int 4)) (rNil))) (rgName 11) (rYes) (rCall pf__law_bent (rCons (rVar 1) (rCons (rVar 2) (rCons (rVar 4) (rCons (rVar 3) (rCons (rVar 6) (rNil))))))) [11]))) (rgName 10)) (rSeq (rAsg (rCall pf__law_draw (rCons (rVar 1) (rCons (rApp gLen (rCons (rVar 10) (rNil))) (rNil)))) (rgName 12)) (rSeq (rFor (riSeq (rBin gAdd (rSl (rVar 10) (rPart (rVar 12)) rNoP) (rSl (rVar 10) rNoP (rPart (rVar 12))))) (rgName 13) (rSeq (rAsg (rCall pf_cover_fault (rCons (rVar 2) (rCons (rVar 4) (rCons (rVar 3) (rCons (rVar 13) (rNil)))))) (rgName 14)) (rSeq (rAsg (rCall pf__law_fault (rCons (rVar 2) (rCons (rVar 4) (rCons (rVar 3) (rCons (rVar 13) (rNil)))))) (rgName 15)) (rIfS (rOr (rAnd (rTb (rBin (gIsN false) (rVar 15) (rC .none))) (rTb (rBin (gIsN true) (rVar 14) (rC .none)))) (rAnd (rTb (rBin (gIsN true) (rVar 15) (rC .none))) (rNot (rAnd (rTr (rIsiX "tuple" (rVar 14))) (rTb (rBin gEq (rVar 14) (rVar 15))))))) (rRet (rC (.bool false))) (rNx))))) (rRet (rBin gEq (rApp gRepr (rCons (rD (rLst (rCons (rVar 2) (rCons (rVar 4) (rCons (rVar 3) (rNil)))))) (rNil))) (rVar 5))))))))))))))
theorem sd_law (Z : Fx K mg base) {pf__law_draws : PF} (C__law_draws : Cal P w K mg base k "_law_draws" ["script"] pf__law_draws) {pf__law_forest : PF} (C__law_forest : Cal P w K mg base k "_law_forest" ["draws"] pf__law_forest) {pf__law_ranges : PF} (C__law_ranges : Cal P w K mg base k "_law_ranges" ["draws"] pf__law_ranges) {pf__law_kinds : PF} (C__law_kinds : Cal P w K mg base k "_law_kinds" ["draws", "state"] pf__law_kinds) {pf__law_draw : PF} (C__law_draw : Cal P w K mg base k "_law_draw" ["draws", "limit"] pf__law_draw) {pf__law_near : PF} (C__law_near : Cal P w K mg base k "_law_near" ["draws", "state", "wish"] pf__law_near) {pf_covers : PF} (C_covers : Cal P w K mg base k "covers" ["state", "one", "other"] pf_covers) {pf__law_parts : PF} (C__law_parts : Cal P w K mg base k "_law_parts" ["wish"] pf__law_parts) {pf__law_covered : PF} (C__law_covered : Cal P w K mg base k "_law_covered" ["state", "part", "other"] pf__law_covered) {pf__law_fault : PF} (C__law_fault : Cal P w K mg base k "_law_fault" ["state", "one", "other", "told"] pf__law_fault) {pf__law_bent : PF} (C__law_bent : Cal P w K mg base k "_law_bent" ["draws", "state", "one", "other", "told"] pf__law_bent) {pf_cover_fault : PF} (C_cover_fault : Cal P w K mg base k "cover_fault" ["state", "one", "other", "told"] pf_cover_fault) : BodyOk P w K mg base k "law" N_law (defBody s_law) (defScope s_law) (b_law pf__law_draws pf__law_forest pf__law_ranges pf__law_kinds pf__law_draw pf__law_near pf_covers pf__law_parts pf__law_covered pf__law_fault pf__law_bent pf_cover_fault) := by
  intro f cdv A outer s H hr
  have nd : (N_law).Nodup := sc_law.nd
  exact sss_cons (ss_set (i := 1) nd (se_cal C__law_draws hr (sa_cons (se_var 0) (sa_nil)))) (sss_cons (ss_set (i := 2) nd (se_cal C__law_forest hr (sa_cons (se_var 1) (sa_nil)))) (sss_cons (ss_set (i := 3) nd (se_tup (sa_cons (se_cal C__law_kinds hr (sa_cons (se_var 1) (sa_cons (se_var 2) (sa_nil)))) (sa_cons (se_cal C__law_ranges hr (sa_cons (se_var 1) (sa_nil))) (sa_nil))))) (sss_cons (ss_set (i := 4) nd (se_ifExp (sc_cmp ox_gt (se_cal C__law_draw hr (sa_cons (se_var 1) (sa_cons (se_int) (sa_nil)))) (se_int)) (se_cal C__law_near hr (sa_cons (se_var 1) (sa_cons (se_var 2) (sa_cons (se_var 3) (sa_nil))))) (se_tup (sa_cons (se_cal C__law_kinds hr (sa_cons (se_var 1) (sa_cons (se_var 2) (sa_nil)))) (sa_cons (se_cal C__law_ranges hr (sa_cons (se_var 1) (sa_nil))) (sa_nil)))))) (sss_cons (ss_set (i := 5) nd (se_bi (bx_repr hr Z.sysB) rfl Z.m_repr (by decide +kernel) (sa_cons (SF.data (sf_lst (sa_cons (se_var 2) (sa_cons (se_var 4) (sa_cons (se_var 3) (sa_nil)))))) (sa_nil)))) (sss_cons (ss_set (i := 6) nd (se_cal C_covers hr (sa_cons (se_var 2) (sa_cons (se_var 4) (sa_cons (se_var 3) (sa_nil)))))) (sss_cons (ss_set (i := 7) nd (se_bi (bx_all hr.calm) rfl Z.m_all (by decide +kernel) (sa_cons (SF.data (sf_lc (own := [("part", 9)]) hr.calm nd (si_seq (se_cal C__law_parts hr (sa_cons (se_var 4) (sa_nil)))) (blkB_ok (by kernel_rfl)) (fun s H C cl fp => ⟨sg_name (i := 9) nd, sts_nil, se_bi (bx_any hr.blk.calm) rfl Z.m_any (by decide +kernel) (sa_cons (SF.data (sf_lc (own := [("row", 8)]) hr.blk.calm nd (si_seq (se_cal C__law_parts hr.blk (sa_cons (se_var 3) (sa_nil)))) (blkB_ok (by kernel_rfl)) (fun s H C cl fp => ⟨sg_name (i := 8) nd, sts_nil, se_cal C__law_covered hr.blk.blk (sa_cons (se_var 2) (sa_cons (se_var 9) (sa_cons (se_var 8) (sa_nil))))⟩))) (sa_nil))⟩))) (sa_nil)))) (sss_cons (ss_if (SW.sc (sw_or (sc_not (sc_val (se_isi rfl Z.m_isinstance rfl Z.m_tuple (by decide +kernel) (se_var 6)))) (sw_or (sc_cmp (ox_ne hr.hu64) (se_bi bx_len rfl Z.m_len (by decide +kernel) (sa_cons (se_var 6) (sa_nil))) (se_int)) (sw_or (sc_cmp (ox_ne hr.hu64) (ixx hr.hu (se_var 6) (se_int)) (se_ifExp (sc_val (se_var 7)) (se_str) (se_str))) (sw_or1 (sc_cmp (ox_ne hr.hu64) (se_bi (bx_repr hr Z.sysB) rfl Z.m_repr (by decide +kernel) (sa_cons (SF.data (sf_lst (sa_cons (se_var 2) (sa_cons (se_var 4) (sa_cons (se_var 3) (sa_nil)))))) (sa_nil))) (se_var 5))))))) (sss_one (ss_ret (se_bl))) (sss_nil)) (sss_cons (ss_if (SW.sc (sw_or (SW.sc (sw_and (sc_val (se_var 7)) (sw_and1 (sc_not (sc_val (se_isi rfl Z.m_isinstance rfl Z.m_list (by decide +kernel) (ixx hr.hu (se_var 6) (se_int)))))))) (sw_or1 (sc_cmp ox_isnot (se_cal C__law_fault hr (sa_cons (se_var 2) (sa_cons (se_var 4) (sa_cons (se_var 3) (sa_cons (se_var 6) (sa_nil)))))) (se_non))))) (sss_one (ss_ret (se_bl))) (sss_nil)) (sss_cons (ss_set (i := 10) nd (se_bin ox_add (SF.data (sf_lst (sa_cons (se_var 6) (sa_nil)))) (SF.data (sf_lc (own := [("k", 11)]) hr.calm nd (si_range1 Z.m_range (sa_cons (se_int) (sa_nil))) (blkB_ok (by kernel_rfl)) (fun s H C cl fp => ⟨sg_name (i := 11) nd, sts_nil, se_cal C__law_bent hr.blk (sa_cons (se_var 1) (sa_cons (se_var 2) (sa_cons (se_var 4) (sa_cons (se_var 3) (sa_cons (se_var 6) (sa_nil))))))⟩))))) (sss_cons (ss_set (i := 12) nd (se_cal C__law_draw hr (sa_cons (se_var 1) (sa_cons (se_bi bx_len rfl Z.m_len (by decide +kernel) (sa_cons (se_var 10) (sa_nil))) (sa_nil))))) (sss_cons (ss_for PassesOwn.never hr.calm (si_seq (se_bin ox_add (se_slice (se_var 10) (so_some (se_var 12)) so_none) (se_slice (se_var 10) so_none (so_some (se_var 12))))) (sg_name (i := 13) nd) (sss_cons (ss_set (i := 14) nd (se_cal C_cover_fault hr (sa_cons (se_var 2) (sa_cons (se_var 4) (sa_cons (se_var 3) (sa_cons (se_var 13) (sa_nil))))))) (sss_cons (ss_set (i := 15) nd (se_cal C__law_fault hr (sa_cons (se_var 2) (sa_cons (se_var 4) (sa_cons (se_var 3) (sa_cons (se_var 13) (sa_nil))))))) (sss_one (ss_if (SW.sc (sw_or (SW.sc (sw_and (sc_cmp ox_is (se_var 15) (se_non)) (sw_and1 (sc_cmp ox_isnot (se_var 14) (se_non))))) (sw_or1 (SW.sc (sw_and (sc_cmp ox_isnot (se_var 15) (se_non)) (sw_and1 (sc_not (SW.sc (sw_and (sc_val (se_isi rfl Z.m_isinstance rfl Z.m_tuple (by decide +kernel) (se_var 14))) (sw_and1 (sc_cmp (ox_eq hr.hu64) (se_var 14) (se_var 15)))))))))))) (sss_one (ss_ret (se_bl))) (sss_nil)))))) (sss_one (ss_ret (se_cmp (ox_eq hr.hu64) (se_bi (bx_repr hr Z.sysB) rfl Z.m_repr (by decide +kernel) (sa_cons (SF.data (sf_lst (sa_cons (se_var 2) (sa_cons (se_var 4) (sa_cons (se_var 3) (sa_nil)))))) (sa_nil))) (se_var 5)))))))))))))))
end K11

set_option Elab.async false
set_option linter.all false
set_option maxRecDepth 100000
set_option maxHeartbeats 8000000
namespace K11
open PySem PySem.Spec PyProof.Rows L2 G
variable {P : Program} {w : World} {K : PySem.W.Frag} {mg : Str → Option Value} {base : Heap} {k : Nat}
/-! ### kinds -/
abbrev Ks := List (Str × Option Str)
def optS : Option Str → PyData
  | none => .none
  | some x => .str x
def ksD (p : Str × Option Str) : PyData := .tuple [.str p.1, optS p.2]
def lkp (ks : Ks) (x : Str) : Option (Option Str) := (ks.find? fun p => decide (p.1 = x)).map (·.2)
structure Gk (ks : Ks) : Prop where
  nd : (ks.map (·.1)).Nodup
  ok : ∀ p ∈ ks, PyData.strOk p.1 = true
  ln : ks.length ≤ 7
  pa : ∀ (i : Nat) x q, ks[i]? = some (x, some q) → ∃ (j : Nat) (o : Option Str), j < i ∧ ks[j]? = some (q, o)
def Rk (ks : Ks) (x : Str) (i : Nat) : Prop := ∃ o, ks[i]? = some (x, o)
theorem lkp_of {ks : Ks} (nd : (ks.map (·.1)).Nodup) {x : Str} {o : Option Str} (h : (x, o) ∈ ks) : lkp ks x = some o := by
  unfold lkp
  induction ks with
  | nil => cases h
  | cons p ks ih =>
    rw [List.map_cons] at nd
    obtain ⟨n1, n2⟩ := List.nodup_cons.mp nd
    rcases List.mem_cons.mp h with e | h
    · subst e; simp
    · have : p.1 ≠ x := fun e => n1 (e ▸ List.mem_map.mpr ⟨_, h, rfl⟩)
      rw [List.find?_cons_of_neg (by simpa using this)]
      exact ih n2 h
def upN (ks : Ks) : Nat → Str → List Str
  | 0, _ => []
  | n + 1, x => x :: match lkp ks x with
    | some (some q) => upN ks n q
    | _ => []
def up (ks : Ks) (x : Str) : List Str := upN ks ks.length x
theorem Rk.mem {ks : Ks} {x : Str} {i : Nat} (h : Rk ks x i) : x ∈ ks.map (·.1) := let ⟨o, h⟩ := h; List.mem_map.mpr ⟨_, List.mem_of_getElem? h, rfl⟩
theorem Rk.lt {ks : Ks} {x : Str} {i : Nat} (h : Rk ks x i) : i < ks.length := let ⟨o, h⟩ := h; (List.getElem?_eq_some_iff.mp h).1
theorem rk_of {ks : Ks} {x : Str} (h : x ∈ ks.map (·.1)) : ∃ i, Rk ks x i := by
  obtain ⟨⟨a, o⟩, hp, rfl⟩ := List.mem_map.mp h
  obtain ⟨i, hi, e⟩ := List.getElem_of_mem hp
  exact ⟨i, o, by rw [List.getElem?_eq_getElem hi, e]⟩
theorem upN_st {ks : Ks} (g : Gk ks) : ∀ (n m i : Nat) (x : Str), Rk ks x i → i < n → i < m → upN ks n x = upN ks m x
  | n + 1, m + 1, i, x, ⟨o, h⟩, h1, h2 => by
    have e := lkp_of g.nd (List.mem_of_getElem? h)
    unfold upN
    rw [e]
    cases o with
    | none => rfl
    | some q =>
      obtain ⟨j, o, hj, hq⟩ := g.pa i x q h
      show x :: upN ks n q = x :: upN ks m q
      rw [upN_st g n m j q ⟨o, hq⟩ (by omega) (by omega)]
/-- one step up -/
theorem up_step {ks : Ks} (g : Gk ks) {x : Str} {i : Nat} (h : Rk ks x i) : (lkp ks x = some none ∧ up ks x = [x]) ∨ ∃ q j, lkp ks x = some (some q) ∧ Rk ks q j ∧ j < i ∧ up ks x = x :: up ks q := by
  have hl := h.lt
  obtain ⟨o, h⟩ := h
  have e := lkp_of g.nd (List.mem_of_getElem? h)
  obtain ⟨n, hn⟩ : ∃ n, ks.length = n + 1 := ⟨ks.length - 1, by omega⟩
  cases o with
  | none =>
    refine .inl ⟨e, ?_⟩
    unfold up
    rw [hn]
    unfold upN
    rw [e]
  | some q =>
    obtain ⟨j, o, hj, hq⟩ := g.pa i x q h
    refine .inr ⟨q, j, e, ⟨o, hq⟩, hj, ?_⟩
    unfold up
    rw [hn]
    show x :: (match lkp ks x with
      | some (some q) => upN ks n q
      | _ => []) = x :: upN ks (n + 1) q
    rw [e]
    show x :: upN ks n q = _
    rw [upN_st g n (n + 1) j q ⟨o, hq⟩ (by omega) (by omega)]
theorem up_ok {ks : Ks} (g : Gk ks) : ∀ (n : Nat) (x : Str) (i : Nat), i < n → Rk ks x i → (∀ z ∈ up ks x, z ∈ ks.map (·.1)) ∧ (up ks x).length ≤ i + 1
  | 0, _, _, h, _ => by omega
  | n + 1, x, i, hi, h => by
    rcases up_step g h with ⟨_, e⟩ | ⟨q, j, _, hq, hj, e⟩
    · rw [e]
      exact ⟨fun z hz => by rw [List.mem_singleton.mp hz]; exact h.mem, by simp⟩
    · obtain ⟨h1, h2⟩ := up_ok g n q j (by omega) hq
      rw [e]
      refine ⟨fun z hz => ?_, by rw [List.length_cons]; omega⟩
      rcases List.mem_cons.mp hz with rfl | hz
      · exact h.mem
      · exact h1 z hz
def kdK (ks : Ks) : List (Key × PyData) := ks.map fun p => (.inr p.1, optS p.2)
def kdD (ks : Ks) : PyData := .dict ((kdK ks).map fun p => (kD p.1, p.2))
structure Is (s : PyData) (ks : Ks) : Prop where
  fk : fldD s "kinds" = some (.list (ks.map ksD))
theorem pairsD_ks : ∀ ks : Ks, pairsD (ks.map ksD) = some (kdK ks)
  | [] => rfl
  | p :: ks => by
    show (pairD (ksD p)).bind (fun q => (pairsD (ks.map ksD)).map (q :: ·)) = _
    rw [pairsD_ks ks]
    rfl
theorem xp_keys (ks : Ks) : (xP (kdK ks)).map (·.1) = (ks.map (·.1)).map (Sum.inr : Str → Key) := by
  unfold xP kdK
  rw [List.map_map, List.map_map, List.map_map]
  rfl
theorem u_dict {ks : Ks} {M : Sto} {P : PyData × Sto → Prop} (g : Gk ks) (h : P (kdD ks, M ++ [.frz (kdD ks)])) : gDict [.d (.list (ks.map ksD))] M fun x M1 => ifS (fz M1 x) P := by
  show ifS (datX (dX (ks.map ksD))) _
  rw [datX_dX]
  refine ifS_mk rfl ?_
  rw [pairsD_ks]
  refine ifS_mk rfl ?_
  have e : mergeX [] (xP (kdK ks)) = xP (kdK ks) := by
    have := mergeX_nodup (kvs := xP (kdK ks)) (acc := []) (by rw [List.nil_append, xp_keys]; exact List.Pairwise.map _ (fun a b h e => h (by cases e; rfl)) g.nd)
    simpa using this
  show ifS (fz (M ++ [.dic (mergeX [] (xP (kdK ks)))]) (.c M.length)) P
  rw [e]
  have fz := fz_dic (M := M ++ [.dic (xP (kdK ks))]) (j := M.length) (ps := kdK ks) (by simp [xP])
  refine ifS_mk fz ?_
  rw [List.set_append_right M.length _ (Nat.le_refl _), Nat.sub_self, List.set_cons_zero]
  exact h
theorem dget_ks (x : Str) : ∀ ks : Ks, dget (((kdK ks).map fun p => (kD p.1, p.2)).map fun p => (p.1, Xv.d p.2)) (.str x) = (lkp ks x).map fun o => .d (optS o)
  | [] => rfl
  | p :: ks => by
    show (if keyEq (.str p.1) (.str x) then some (Xv.d (optS p.2)) else dget (((kdK ks).map fun p => (kD p.1, p.2)).map fun p => (p.1, Xv.d p.2)) (.str x)) = _
    rw [dget_ks x ks]
    unfold lkp
    by_cases h : p.1 = x
    · rw [if_pos (by simp [keyEq, h]), List.find?_cons_of_pos (by simpa using h)]
      rfl
    · rw [if_neg (by simp [keyEq, h]), List.find?_cons_of_neg (by simpa using h)]
theorem hd_kd (ks : Ks) (M : Sto) : hd M (.d (kdD ks)) = .dic (((kdK ks).map fun p => (kD p.1, p.2)).map fun p => (p.1, Xv.d p.2)) := rfl
theorem gIx_ks {ks : Ks} {z : Str} {o : Option Str} (e : lkp ks z = some o) (M : Sto) (P : Xv → Sto → Prop) : gIx (.d (kdD ks)) (.d (.str z)) M P = P (.d (optS o)) M := by
  show ifS (keyOf (.str z)) (fun _ => ifS (dget (((kdK ks).map fun p => (kD p.1, p.2)).map fun p => (p.1, Xv.d p.2)) (.str z)) fun z => P z M) = _
  rw [dget_ks, e]
  rfl
def pd_isk : PD := fun ds R => ∃ s ks x y, ds = [s, .str x, .str y] ∧ Is s ks ∧ Gk ks ∧ x ∈ ks.map (·.1) ∧ R (.bool (decide (y ∈ up ks x)))
theorem isN_opt (o : Option Str) : isN (.d (optS o)) = decide (o = none) := by cases o <;> rfl
theorem ok_is_kind (D : DefOk K mg "is_kind" ["state", "kind", "wide"] (defArgs s_is_kind) (defBody s_is_kind) (defScope s_is_kind)) (Z : Fx K mg base) : Cal P w K mg base 1 "is_kind" ["state", "kind", "wide"] (pfD pd_isk) := by
  refine Cal.mkD (k := 0) D sc_is_kind (sd_is_kind Z) (fun ds R ⟨s, ks, x, y, e, _⟩ => by rw [e]; rfl) (fun ds R h => ?_) fun ds R R' i ⟨s, ks, x, y, e, h1, h2, h3, h4⟩ => ⟨s, ks, x, y, e, h1, h2, h3, i _ h4⟩
  obtain ⟨s, ks, x, y, rfl, I, g, hx, h⟩ := h
  obtain ⟨i0, hi0⟩ := rk_of hx
  unfold b_is_kind
  simp only [startX, rAsg, rgName, rVar, rC, rBin, rD, rCl, rFz, rTb, rTr, rIf, rIfS, rRet, rRetN, rNx, rCons, rNil, rTup, rTupC, rLst, rApp, rAppF, rCall, rPar, rNeg, rNot, rAnd, rOr, rChain, rLc, riSeq, rYes, rDrop, rFor, rApd, rExt, rgTup, rgCons, rgNil, rgSub, rIsiX, riRng1, riRng2, slot_z, slot_s, set_z, set_s, at0, at1, at2, at3, at4, at5, at6, dX_c, dX_n, gIx_tup, gIx_lst, gEq_ii, gEq_ss, gNe_ii, gNe_ss, gAdd_ii, gSub_ii, gLt_ii, gLe_ii, gGt_ii, gGe_ii, gIsN_d, gLen_l, gMax_ii, gMin_ii, gInt_b, gInt_i, gAbs_i, gApd_last, isLst_last, boX_b, tru_l, fzL_dX, fzL_n, fzL_cd, Option.map_some, fz_d, pk_d, ifS_some, hd_int, hd_str, hd_bool, hd_none, hd_list, hd_tuple, wipeX, List.map_cons, List.map_nil, List.length_cons, List.length_nil, List.replicate_succ, List.replicate_zero, List.cons_append, List.nil_append, List.append_nil, decide_eq_true_eq, if_true, if_false, Nat.reduceAdd, Nat.reduceSub, Nat.reduceLeDiff, Nat.zero_add, Nat.sub_zero, N_is_kind]
  refine seq_step ?_
  simp only [startX, rAsg, rgName, rVar, rC, rBin, rD, rCl, rFz, rTb, rTr, rIf, rIfS, rRet, rRetN, rNx, rCons, rNil, rTup, rTupC, rLst, rApp, rAppF, rCall, rPar, rNeg, rNot, rAnd, rOr, rChain, rLc, riSeq, rYes, rDrop, rFor, rApd, rExt, rgTup, rgCons, rgNil, rgSub, rIsiX, riRng1, riRng2, slot_z, slot_s, set_z, set_s, at0, at1, at2, at3, at4, at5, at6, dX_c, dX_n, gIx_tup, gIx_lst, gEq_ii, gEq_ss, gNe_ii, gNe_ss, gAdd_ii, gSub_ii, gLt_ii, gLe_ii, gGt_ii, gGe_ii, gIsN_d, gLen_l, gMax_ii, gMin_ii, gInt_b, gInt_i, gAbs_i, gApd_last, isLst_last, boX_b, tru_l, fzL_dX, fzL_n, fzL_cd, Option.map_some, fz_d, pk_d, ifS_some, hd_int, hd_str, hd_bool, hd_none, hd_list, hd_tuple, wipeX, List.map_cons, List.map_nil, List.length_cons, List.length_nil, List.replicate_succ, List.replicate_zero, List.cons_append, List.nil_append, List.append_nil, decide_eq_true_eq, if_true, if_false, Nat.reduceAdd, Nat.reduceSub, Nat.reduceLeDiff, Nat.zero_add, Nat.sub_zero, gIx_fld I.fk]
  refine u_dict g ?_
  refine seq_step ?_
  refine while_inv (fun n σ M' => ∃ o : Option Str, M' = [.frz (kdD ks)] ∧ ((o = none ∧ n = 0 ∧ y ∉ up ks x) ∨ ∃ z i, o = some z ∧ n = i + 1 ∧ Rk ks z i ∧ (y ∈ up ks x ↔ y ∈ up ks z)) ∧
    σ = [some (.d s), some (.d (optS o)), some (.d (.str y)), some (.d (kdD ks))]) ?_ _ _ _
    ⟨some x, rfl, .inr ⟨x, i0, rfl, rfl, hi0, Iff.rfl⟩, rfl⟩
  rintro n σ M' ⟨o, rfl, ho, rfl⟩ C hC
  simp only [startX, rSeq, rAsg, rgName, rVar, rC, rBin, rD, rCl, rFz, rTb, rTr, rIf, rIfS, rRet, rRetN, rNx, rCons, rNil, rTup, rTupC, rLst, rApp, rAppF, rCall, rPar, rNeg, rNot, rAnd, rOr, rChain, rLc, riSeq, rYes, rDrop, rFor, rApd, rExt, rgTup, rgCons, rgNil, rgSub, rIsiX, riRng1, riRng2, slot_z, slot_s, set_z, set_s, at0, at1, at2, at3, at4, at5, at6, dX_c, dX_n, gIx_tup, gIx_lst, gEq_ii, gEq_ss, gNe_ii, gNe_ss, gAdd_ii, gSub_ii, gLt_ii, gLe_ii, gGt_ii, gGe_ii, gIsN_d, gLen_l, gMax_ii, gMin_ii, gInt_b, gInt_i, gAbs_i, gApd_last, isLst_last, boX_b, tru_l, fzL_dX, fzL_n, fzL_cd, Option.map_some, fz_d, pk_d, ifS_some, hd_int, hd_str, hd_bool, hd_none, hd_list, hd_tuple, wipeX, List.map_cons, List.map_nil, List.length_cons, List.length_nil, List.replicate_succ, List.replicate_zero, List.cons_append, List.nil_append, List.append_nil, decide_eq_true_eq, if_true, if_false, Nat.reduceAdd, Nat.reduceSub, Nat.reduceLeDiff, Nat.zero_add, Nat.sub_zero, isN_opt]
  rcases ho with ⟨rfl, rfl, hn⟩ | ⟨z, i, rfl, rfl, hz, hh⟩
  · simp only [decide_true, Bool.xor_true, Bool.not_true, Bool.false_eq_true, if_false]
    rw [decide_eq_false hn] at h
    exact h
  · simp only [reduceCtorEq, decide_false, Bool.xor_false, if_true, optS]
    simp only [startX, rSeq, rAsg, rgName, rVar, rC, rBin, rD, rCl, rFz, rTb, rTr, rIf, rIfS, rRet, rRetN, rNx, rCons, rNil, rTup, rTupC, rLst, rApp, rAppF, rCall, rPar, rNeg, rNot, rAnd, rOr, rChain, rLc, riSeq, rYes, rDrop, rFor, rApd, rExt, rgTup, rgCons, rgNil, rgSub, rIsiX, riRng1, riRng2, slot_z, slot_s, set_z, set_s, at0, at1, at2, at3, at4, at5, at6, dX_c, dX_n, gIx_tup, gIx_lst, gEq_ii, gEq_ss, gNe_ii, gNe_ss, gAdd_ii, gSub_ii, gLt_ii, gLe_ii, gGt_ii, gGe_ii, gIsN_d, gLen_l, gMax_ii, gMin_ii, gInt_b, gInt_i, gAbs_i, gApd_last, isLst_last, boX_b, tru_l, fzL_dX, fzL_n, fzL_cd, Option.map_some, fz_d, pk_d, ifS_some, hd_int, hd_str, hd_bool, hd_none, hd_list, hd_tuple, wipeX, List.map_cons, List.map_nil, List.length_cons, List.length_nil, List.replicate_succ, List.replicate_zero, List.cons_append, List.nil_append, List.append_nil, decide_eq_true_eq, if_true, if_false, Nat.reduceAdd, Nat.reduceSub, Nat.reduceLeDiff, Nat.zero_add, Nat.sub_zero, Bool.not_false]
    by_cases e : z = y
    · rw [if_neg (by simp [e])]
      have hm : y ∈ up ks x := by
        rw [hh]
        rcases up_step g hz with ⟨_, e2⟩ | ⟨q, j, _, _, _, e2⟩ <;> rw [e2] <;> exact e ▸ List.mem_cons_self
      rw [decide_eq_true hm] at h
      exact h
    · rw [if_pos (by simp [e])]
      unfold rGet2
      simp only [startX, rSeq, rAsg, rgName, rVar, rC, rBin, rD, rCl, rFz, rTb, rTr, rIf, rIfS, rRet, rRetN, rNx, rCons, rNil, rTup, rTupC, rLst, rApp, rAppF, rCall, rPar, rNeg, rNot, rAnd, rOr, rChain, rLc, riSeq, rYes, rDrop, rFor, rApd, rExt, rgTup, rgCons, rgNil, rgSub, rIsiX, riRng1, riRng2, slot_z, slot_s, set_z, set_s, at0, at1, at2, at3, at4, at5, at6, dX_c, dX_n, gIx_tup, gIx_lst, gEq_ii, gEq_ss, gNe_ii, gNe_ss, gAdd_ii, gSub_ii, gLt_ii, gLe_ii, gGt_ii, gGe_ii, gIsN_d, gLen_l, gMax_ii, gMin_ii, gInt_b, gInt_i, gAbs_i, gApd_last, isLst_last, boX_b, tru_l, fzL_dX, fzL_n, fzL_cd, Option.map_some, fz_d, pk_d, ifS_some, hd_int, hd_str, hd_bool, hd_none, hd_list, hd_tuple, wipeX, List.map_cons, List.map_nil, List.length_cons, List.length_nil, List.replicate_succ, List.replicate_zero, List.cons_append, List.nil_append, List.append_nil, decide_eq_true_eq, if_true, if_false, Nat.reduceAdd, Nat.reduceSub, Nat.reduceLeDiff, Nat.zero_add, Nat.sub_zero]
      refine ⟨trivial, ?_⟩
      rw [gGet_s (hd_kd ks _)]
      rw [dget_ks]
      rcases up_step g hz with ⟨e1, e2⟩ | ⟨q, j, e1, hq, hj, e2⟩
      · rw [e1]
        refine hC 0 _ _ (by omega) ⟨none, rfl, .inl ⟨rfl, rfl, ?_⟩, rfl⟩
        rw [hh, e2]
        simpa using fun c => e c.symm
      · rw [e1]
        refine hC (j + 1) _ _ (by omega) ⟨some q, rfl, .inr ⟨q, j, rfl, rfl, hq, ?_⟩, rfl⟩
        rw [hh, e2, List.mem_cons]
        exact ⟨fun c => c.elim (fun c => absurd c.symm e) id, .inr⟩
def pd_up : PD := fun ds R => ∃ s ks x, ds = [s, .str x] ∧ Is s ks ∧ Gk ks ∧ x ∈ ks.map (·.1) ∧ R (.list ((up ks x).map .str))
theorem ok_up (D : DefOk K mg "_law_up" ["state", "name"] (defArgs s__law_up) (defBody s__law_up) (defScope s__law_up)) (Z : Fx K mg base) : Cal P w K mg base 1 "_law_up" ["state", "name"] (pfD pd_up) := by
  refine Cal.mkD (k := 0) D sc__law_up (sd__law_up Z) (fun ds R ⟨s, ks, x, e, _⟩ => by rw [e]; rfl) (fun ds R h => ?_) fun ds R R' i ⟨s, ks, x, e, h1, h2, h3, h4⟩ => ⟨s, ks, x, e, h1, h2, h3, i _ h4⟩
  obtain ⟨s, ks, x, rfl, I, g, hx, h⟩ := h
  obtain ⟨i0, hi0⟩ := rk_of hx
  have s0 : (0 : Nat) ≤ sizeLine := by decide
  unfold b__law_up
  simp only [startX, rAsg, rgName, rVar, rC, rBin, rD, rCl, rFz, rTb, rTr, rIf, rIfS, rRet, rRetN, rNx, rCons, rNil, rTup, rTupC, rLst, rApp, rAppF, rCall, rPar, rNeg, rNot, rAnd, rOr, rChain, rLc, riSeq, rYes, rDrop, rFor, rApd, rExt, rgTup, rgCons, rgNil, rgSub, rIsiX, riRng1, riRng2, slot_z, slot_s, set_z, set_s, at0, at1, at2, at3, at4, at5, at6, dX_c, dX_n, gIx_tup, gIx_lst, gEq_ii, gEq_ss, gNe_ii, gNe_ss, gAdd_ii, gSub_ii, gLt_ii, gLe_ii, gGt_ii, gGe_ii, gIsN_d, gLen_l, gMax_ii, gMin_ii, gInt_b, gInt_i, gAbs_i, gApd_last, isLst_last, boX_b, tru_l, fzL_dX, fzL_n, fzL_cd, Option.map_some, fz_d, pk_d, ifS_some, hd_int, hd_str, hd_bool, hd_none, hd_list, hd_tuple, wipeX, List.map_cons, List.map_nil, List.length_cons, List.length_nil, List.replicate_succ, List.replicate_zero, List.cons_append, List.nil_append, List.append_nil, decide_eq_true_eq, if_true, if_false, Nat.reduceAdd, Nat.reduceSub, Nat.reduceLeDiff, Nat.zero_add, Nat.sub_zero, N__law_up]
  refine seq_step ?_
  simp only [startX, rAsg, rgName, rVar, rC, rBin, rD, rCl, rFz, rTb, rTr, rIf, rIfS, rRet, rRetN, rNx, rCons, rNil, rTup, rTupC, rLst, rApp, rAppF, rCall, rPar, rNeg, rNot, rAnd, rOr, rChain, rLc, riSeq, rYes, rDrop, rFor, rApd, rExt, rgTup, rgCons, rgNil, rgSub, rIsiX, riRng1, riRng2, slot_z, slot_s, set_z, set_s, at0, at1, at2, at3, at4, at5, at6, dX_c, dX_n, gIx_tup, gIx_lst, gEq_ii, gEq_ss, gNe_ii, gNe_ss, gAdd_ii, gSub_ii, gLt_ii, gLe_ii, gGt_ii, gGe_ii, gIsN_d, gLen_l, gMax_ii, gMin_ii, gInt_b, gInt_i, gAbs_i, gApd_last, isLst_last, boX_b, tru_l, fzL_dX, fzL_n, fzL_cd, Option.map_some, fz_d, pk_d, ifS_some, hd_int, hd_str, hd_bool, hd_none, hd_list, hd_tuple, wipeX, List.map_cons, List.map_nil, List.length_cons, List.length_nil, List.replicate_succ, List.replicate_zero, List.cons_append, List.nil_append, List.append_nil, decide_eq_true_eq, if_true, if_false, Nat.reduceAdd, Nat.reduceSub, Nat.reduceLeDiff, Nat.zero_add, Nat.sub_zero, gIx_fld I.fk]
  refine u_dict g ?_
  refine seq_step ?_
  simp only [startX, rAsg, rgName, rVar, rC, rBin, rD, rCl, rFz, rTb, rTr, rIf, rIfS, rRet, rRetN, rNx, rCons, rNil, rTup, rTupC, rLst, rApp, rAppF, rCall, rPar, rNeg, rNot, rAnd, rOr, rChain, rLc, riSeq, rYes, rDrop, rFor, rApd, rExt, rgTup, rgCons, rgNil, rgSub, rIsiX, riRng1, riRng2, slot_z, slot_s, set_z, set_s, at0, at1, at2, at3, at4, at5, at6, dX_c, dX_n, gIx_tup, gIx_lst, gEq_ii, gEq_ss, gNe_ii, gNe_ss, gAdd_ii, gSub_ii, gLt_ii, gLe_ii, gGt_ii, gGe_ii, gIsN_d, gLen_l, gMax_ii, gMin_ii, gInt_b, gInt_i, gAbs_i, gApd_last, isLst_last, boX_b, tru_l, fzL_dX, fzL_n, fzL_cd, Option.map_some, fz_d, pk_d, ifS_some, hd_int, hd_str, hd_bool, hd_none, hd_list, hd_tuple, wipeX, List.map_cons, List.map_nil, List.length_cons, List.length_nil, List.replicate_succ, List.replicate_zero, List.cons_append, List.nil_append, List.append_nil, decide_eq_true_eq, if_true, if_false, Nat.reduceAdd, Nat.reduceSub, Nat.reduceLeDiff, Nat.zero_add, Nat.sub_zero]
  refine ⟨s0, ?_⟩
  refine seq_step ?_
  refine while_inv (fun n σ M' => ∃ (o : Option Str) (l : List Str), M' = [.frz (kdD ks), .lst (dX (l.map .str))] ∧ ((o = none ∧ n = 0 ∧ up ks x = l) ∨ ∃ z i, o = some z ∧ n = i + 1 ∧ Rk ks z i ∧ up ks x = l ++ up ks z) ∧
    σ = [some (.d s), some (.d (optS o)), some (.d (kdD ks)), some (.c 1)]) ?_ _ _ _
    ⟨some x, [], rfl, .inr ⟨x, i0, rfl, rfl, hi0, rfl⟩, rfl⟩
  rintro n σ M' ⟨o, l, rfl, ho, rfl⟩ C hC
  simp only [startX, rSeq, rAsg, rgName, rVar, rC, rBin, rD, rCl, rFz, rTb, rTr, rIf, rIfS, rRet, rRetN, rNx, rCons, rNil, rTup, rTupC, rLst, rApp, rAppF, rCall, rPar, rNeg, rNot, rAnd, rOr, rChain, rLc, riSeq, rYes, rDrop, rFor, rApd, rExt, rgTup, rgCons, rgNil, rgSub, rIsiX, riRng1, riRng2, slot_z, slot_s, set_z, set_s, at0, at1, at2, at3, at4, at5, at6, dX_c, dX_n, gIx_tup, gIx_lst, gEq_ii, gEq_ss, gNe_ii, gNe_ss, gAdd_ii, gSub_ii, gLt_ii, gLe_ii, gGt_ii, gGe_ii, gIsN_d, gLen_l, gMax_ii, gMin_ii, gInt_b, gInt_i, gAbs_i, gApd_last, isLst_last, boX_b, tru_l, fzL_dX, fzL_n, fzL_cd, Option.map_some, fz_d, pk_d, ifS_some, hd_int, hd_str, hd_bool, hd_none, hd_list, hd_tuple, wipeX, List.map_cons, List.map_nil, List.length_cons, List.length_nil, List.replicate_succ, List.replicate_zero, List.cons_append, List.nil_append, List.append_nil, decide_eq_true_eq, if_true, if_false, Nat.reduceAdd, Nat.reduceSub, Nat.reduceLeDiff, Nat.zero_add, Nat.sub_zero, isN_opt]
  have lx := (up_ok g _ x i0 (Nat.lt_succ_self _) hi0).2
  have := g.ln
  have := hi0.lt
  rcases ho with ⟨rfl, rfl, hn⟩ | ⟨z, i, rfl, rfl, hz, hh⟩
  · simp only [decide_true, Bool.xor_true, Bool.not_true, Bool.false_eq_true, if_false]
    refine ifS_mk (fz_lst rfl) ?_
    rw [hn] at h
    exact h
  · simp only [reduceCtorEq, decide_false, Bool.xor_false, if_true, optS, Bool.not_false]
    refine ⟨trivial, ?_⟩
    have ll : l.length + 1 ≤ i0 + 1 := by
      rw [hh, List.length_append] at lx
      rcases up_step g hz with ⟨_, e2⟩ | ⟨q, j, _, _, _, e2⟩ <;> (rw [e2, List.length_cons] at lx; omega)
    show ((dX (l.map .str)).length < sizeLine ∧ gIx (.d (kdD ks)) (.d (.str z)) [.frz (kdD ks), .lst (dX (l.map .str) ++ [.d (.str z)])] _)
    refine ⟨by rw [List.length_map, List.length_map, sizeLine_eq]; omega, ?_⟩
    rw [show dX (l.map .str) ++ [.d (.str z)] = dX ((l ++ [z]).map .str) by simp [dX]]
    rcases up_step g hz with ⟨e1, e2⟩ | ⟨q, j, e1, hq, hj, e2⟩
    · rw [gIx_ks e1]
      exact hC 0 _ _ (by omega) ⟨none, l ++ [z], rfl, .inl ⟨rfl, rfl, by rw [hh, e2]⟩, rfl⟩
    · rw [gIx_ks e1]
      exact hC (j + 1) _ _ (by omega) ⟨some q, l ++ [z], rfl, .inr ⟨q, j, rfl, rfl, hq, by rw [hh, e2]; simp⟩, rfl⟩
end K11

set_option Elab.async false
set_option linter.all false
set_option maxRecDepth 100000
set_option maxHeartbeats 8000000
namespace K11
open PySem PySem.Spec PyProof.Rows L2 G
variable {P : Program} {w : World} {K : PySem.W.Frag} {mg : Str → Option Value} {base : Heap} {k : Nat}
abbrev Rng := Str × Int × Int
def rgD (r : Rng) : PyData := .tuple [.str r.1, .int r.2.1, .int r.2.2]
structure Th where
  ks : List Str
  rg : List Rng
def thD (t : Th) : PyData := .tuple [.list (t.ks.map .str), .list (t.rg.map rgD)]
inductive Part where
  | kind (x : Str)
  | rng (r : Rng)
def ptD : Part → PyData
  | .kind x => .tuple [.str "kind", .str x]
  | .rng r => .tuple [.str "range", .str r.1, .int r.2.1, .int r.2.2]
def partsOf (t : Th) : List Part := t.ks.map .kind ++ t.rg.map .rng
structure Gt (ks : Ks) (t : Th) : Prop where
  km : ∀ x ∈ t.ks, x ∈ ks.map (·.1)
  kl : t.ks.length ≤ 10
  rn : (t.rg.map (·.1)).Nodup
  rl : t.rg.length ≤ 10
theorem Gk.okn {ks : Ks} (g : Gk ks) {x : Str} (h : x ∈ ks.map (·.1)) : PyData.strOk x = true := by
  obtain ⟨p, hp, rfl⟩ := List.mem_map.mp h
  exact g.ok p hp
theorem Gk.oku {ks : Ks} (g : Gk ks) {x : Str} (h : x ∈ ks.map (·.1)) : ∀ z ∈ up ks x, PyData.strOk z = true := fun z hz => by
  obtain ⟨i, hi⟩ := rk_of h
  exact g.okn ((up_ok g _ x i (Nat.lt_succ_self _) hi).1 z hz)
def pd_parts : PD := fun ds R => ∃ t : Th, ds = [thD t] ∧ t.ks.length ≤ 10 ∧ t.rg.length ≤ 10 ∧ R (.list ((partsOf t).map ptD))
theorem parts_D (t : Th) : (t.ks.map fun x => ptD (.kind x)) ++ (t.rg.map fun r => ptD (.rng r)) = (partsOf t).map ptD := by
  unfold partsOf
  rw [List.map_append, List.map_map, List.map_map]
  rfl
theorem ok_parts (D : DefOk K mg "parts" ["wish"] (defArgs s_parts) (defBody s_parts) (defScope s_parts)) (Z : Fx K mg base) : Cal P w K mg base 1 "parts" ["wish"] (pfD pd_parts) := by
  refine Cal.mkD (k := 0) D sc_parts (sd_parts Z) (fun ds R ⟨t, e, _⟩ => by rw [e]; rfl) (fun ds R h => ?_) fun ds R R' i ⟨t, e, h1, h2, h3⟩ => ⟨t, e, h1, h2, i _ h3⟩
  obtain ⟨t, rfl, l1, l2, h⟩ := h
  have s1 : (1 : Nat) ≤ sizeLine := by decide
  have s2 : (2 : Nat) ≤ sizeLine := by decide
  unfold b_parts
  simp only [startX, rSeq, rAsg, rgName, rVar, rC, rBin, rD, rCl, rFz, rTb, rTr, rIf, rIfS, rRet, rRetN, rNx, rCons, rNil, rTup, rTupC, rLst, rApp, rAppF, rCall, rPar, rNeg, rNot, rAnd, rOr, rChain, rLc, riSeq, rYes, rDrop, rFor, rApd, rExt, rgTup, rgCons, rgNil, rgSub, rIsiX, riRng1, riRng2, slot_z, slot_s, set_z, set_s, at0, at1, at2, at3, at4, at5, at6, dX_c, dX_n, gIx_tup, gIx_lst, gEq_ii, gEq_ss, gNe_ii, gNe_ss, gAdd_ii, gSub_ii, gLt_ii, gLe_ii, gGt_ii, gGe_ii, gIsN_d, gLen_l, gMax_ii, gMin_ii, gInt_b, gInt_i, gAbs_i, gApd_last, isLst_last, boX_b, tru_l, fzL_dX, fzL_n, fzL_cd, Option.map_some, fz_d, pk_d, ifS_some, hd_int, hd_str, hd_bool, hd_none, hd_list, hd_tuple, wipeX, List.map_cons, List.map_nil, List.length_cons, List.length_nil, List.replicate_succ, List.replicate_zero, List.cons_append, List.nil_append, List.append_nil, decide_eq_true_eq, if_true, if_false, Nat.reduceAdd, Nat.reduceSub, Nat.reduceLeDiff, Nat.zero_add, Nat.sub_zero, N_parts, thD]
  refine lcW_map PyData.str (fun _ => true) (fun x => ptD (.kind x)) (by trivial) t.ks [] (small (by simp; omega)) (fun x hx Kt Kf h1 h2 => ?_) ?_
  · simp only [startX, rSeq, rAsg, rgName, rVar, rC, rBin, rD, rCl, rFz, rTb, rTr, rIf, rIfS, rRet, rRetN, rNx, rCons, rNil, rTup, rTupC, rLst, rApp, rAppF, rCall, rPar, rNeg, rNot, rAnd, rOr, rChain, rLc, riSeq, rYes, rDrop, rFor, rApd, rExt, rgTup, rgCons, rgNil, rgSub, rIsiX, riRng1, riRng2, slot_z, slot_s, set_z, set_s, at0, at1, at2, at3, at4, at5, at6, dX_c, dX_n, gIx_tup, gIx_lst, gEq_ii, gEq_ss, gNe_ii, gNe_ss, gAdd_ii, gSub_ii, gLt_ii, gLe_ii, gGt_ii, gGe_ii, gIsN_d, gLen_l, gMax_ii, gMin_ii, gInt_b, gInt_i, gAbs_i, gApd_last, isLst_last, boX_b, tru_l, fzL_dX, fzL_n, fzL_cd, Option.map_some, fz_d, pk_d, ifS_some, hd_int, hd_str, hd_bool, hd_none, hd_list, hd_tuple, wipeX, List.map_cons, List.map_nil, List.length_cons, List.length_nil, List.replicate_succ, List.replicate_zero, List.cons_append, List.nil_append, List.append_nil, decide_eq_true_eq, if_true, if_false, Nat.reduceAdd, Nat.reduceSub, Nat.reduceLeDiff, Nat.zero_add, Nat.sub_zero]
    exact ⟨s2, h1 rfl⟩
  rw [filt]
  simp only [startX, rSeq, rAsg, rgName, rVar, rC, rBin, rD, rCl, rFz, rTb, rTr, rIf, rIfS, rRet, rRetN, rNx, rCons, rNil, rTup, rTupC, rLst, rApp, rAppF, rCall, rPar, rNeg, rNot, rAnd, rOr, rChain, rLc, riSeq, rYes, rDrop, rFor, rApd, rExt, rgTup, rgCons, rgNil, rgSub, rIsiX, riRng1, riRng2, slot_z, slot_s, set_z, set_s, at0, at1, at2, at3, at4, at5, at6, dX_c, dX_n, gIx_tup, gIx_lst, gEq_ii, gEq_ss, gNe_ii, gNe_ss, gAdd_ii, gSub_ii, gLt_ii, gLe_ii, gGt_ii, gGe_ii, gIsN_d, gLen_l, gMax_ii, gMin_ii, gInt_b, gInt_i, gAbs_i, gApd_last, isLst_last, boX_b, tru_l, fzL_dX, fzL_n, fzL_cd, Option.map_some, fz_d, pk_d, ifS_some, hd_int, hd_str, hd_bool, hd_none, hd_list, hd_tuple, wipeX, List.map_cons, List.map_nil, List.length_cons, List.length_nil, List.replicate_succ, List.replicate_zero, List.cons_append, List.nil_append, List.append_nil, decide_eq_true_eq, if_true, if_false, Nat.reduceAdd, Nat.reduceSub, Nat.reduceLeDiff, Nat.zero_add, Nat.sub_zero]
  refine lcW_map rgD (fun _ => true) (fun r => ptD (.rng r)) (by trivial) t.rg [] (small (by simp; omega)) (fun r hr Kt Kf h1 h2 => ?_) ?_
  · simp only [startX, rSeq, rAsg, rgName, rVar, rC, rBin, rD, rCl, rFz, rTb, rTr, rIf, rIfS, rRet, rRetN, rNx, rCons, rNil, rTup, rTupC, rLst, rApp, rAppF, rCall, rPar, rNeg, rNot, rAnd, rOr, rChain, rLc, riSeq, rYes, rDrop, rFor, rApd, rExt, rgTup, rgCons, rgNil, rgSub, rIsiX, riRng1, riRng2, slot_z, slot_s, set_z, set_s, at0, at1, at2, at3, at4, at5, at6, dX_c, dX_n, gIx_tup, gIx_lst, gEq_ii, gEq_ss, gNe_ii, gNe_ss, gAdd_ii, gSub_ii, gLt_ii, gLe_ii, gGt_ii, gGe_ii, gIsN_d, gLen_l, gMax_ii, gMin_ii, gInt_b, gInt_i, gAbs_i, gApd_last, isLst_last, boX_b, tru_l, fzL_dX, fzL_n, fzL_cd, Option.map_some, fz_d, pk_d, ifS_some, hd_int, hd_str, hd_bool, hd_none, hd_list, hd_tuple, wipeX, List.map_cons, List.map_nil, List.length_cons, List.length_nil, List.replicate_succ, List.replicate_zero, List.cons_append, List.nil_append, List.append_nil, decide_eq_true_eq, if_true, if_false, Nat.reduceAdd, Nat.reduceSub, Nat.reduceLeDiff, Nat.zero_add, Nat.sub_zero, rgD]
    refine ⟨s1, ?_⟩
    rw [gAdd_tt]
    exact ⟨show 4 ≤ sizeLine by decide, h1 rfl⟩
  rw [filt]
  simp only [startX, rSeq, rAsg, rgName, rVar, rC, rBin, rD, rCl, rFz, rTb, rTr, rIf, rIfS, rRet, rRetN, rNx, rCons, rNil, rTup, rTupC, rLst, rApp, rAppF, rCall, rPar, rNeg, rNot, rAnd, rOr, rChain, rLc, riSeq, rYes, rDrop, rFor, rApd, rExt, rgTup, rgCons, rgNil, rgSub, rIsiX, riRng1, riRng2, slot_z, slot_s, set_z, set_s, at0, at1, at2, at3, at4, at5, at6, dX_c, dX_n, gIx_tup, gIx_lst, gEq_ii, gEq_ss, gNe_ii, gNe_ss, gAdd_ii, gSub_ii, gLt_ii, gLe_ii, gGt_ii, gGe_ii, gIsN_d, gLen_l, gMax_ii, gMin_ii, gInt_b, gInt_i, gAbs_i, gApd_last, isLst_last, boX_b, tru_l, fzL_dX, fzL_n, fzL_cd, Option.map_some, fz_d, pk_d, ifS_some, hd_int, hd_str, hd_bool, hd_none, hd_list, hd_tuple, wipeX, List.map_cons, List.map_nil, List.length_cons, List.length_nil, List.replicate_succ, List.replicate_zero, List.cons_append, List.nil_append, List.append_nil, decide_eq_true_eq, if_true, if_false, Nat.reduceAdd, Nat.reduceSub, Nat.reduceLeDiff, Nat.zero_add, Nat.sub_zero, gAdd_ll, parts_D]
  refine ⟨small (by rw [List.length_map, List.length_map]; omega), h⟩
/-! ### met, held -/
def metP (ks : Ks) (t : Th) : Part → Bool
  | .kind x => t.ks.any fun y => decide (x ∈ up ks y)
  | .rng r => t.rg.any fun q => decide (q.1 = r.1) && decide (max q.2.1 r.2.1 ≤ min q.2.2 r.2.2)
def heldP (t : Th) : Part → Bool
  | .kind x => decide (x ∈ t.ks)
  | .rng r => t.rg.any fun q => decide (q.1 = r.1) && (decide (q.2.1 ≤ r.2.1) && decide (r.2.2 ≤ q.2.2))
def okP : Part → Prop
  | .kind x => PyData.strOk x = true
  | .rng _ => True
def pd_met : PD := fun ds R => ∃ s ks t p, ds = [s, thD t, ptD p] ∧ Is s ks ∧ Gk ks ∧ Gt ks t ∧ okP p ∧ R (.bool (metP ks t p))
def pd_held : PD := fun ds R => ∃ ks t p, ds = [thD t, ptD p] ∧ Gk ks ∧ Gt ks t ∧ okP p ∧ R (.bool (heldP t p))
theorem u_isk {s : PyData} {ks : Ks} {x y : Str} {M : Sto} {P : Xv → Sto → Prop} (I : Is s ks) (g : Gk ks) (hx : x ∈ ks.map (·.1)) (h : P (.d (.bool (decide (y ∈ up ks x)))) M) : pfD pd_isk [.d s, .d (.str x), .d (.str y)] M P :=
  pfD3 _ _ _ _ _ _ ⟨s, ks, x, y, rfl, I, g, hx, h⟩
theorem u_up {s : PyData} {ks : Ks} {x : Str} {M : Sto} {P : Xv → Sto → Prop} (I : Is s ks) (g : Gk ks) (hx : x ∈ ks.map (·.1)) (h : P (.d (.list ((up ks x).map .str))) M) : pfD pd_up [.d s, .d (.str x)] M P :=
  pfD2 _ _ _ _ _ ⟨s, ks, x, rfl, I, g, hx, h⟩
theorem len_any {α : Type} (xs : List α) (f : α → Bool) : decide (0 < ((xs.filter f).length : Int)) = xs.any f := by
  induction xs with
  | nil => rfl
  | cons a xs ih =>
    rw [List.any_cons, ← ih]
    by_cases c : f a = true
    · rw [List.filter_cons_of_pos c, c, Bool.true_or]
      exact decide_eq_true (by rw [List.length_cons]; omega)
    · rw [List.filter_cons_of_neg c, Bool.eq_false_iff.mpr c, Bool.false_or]
theorem kr : ¬ ("range" : Str) = "kind" := by decide
theorem ok_met (D : DefOk K mg "meets_part" ["state", "thing", "part"] (defArgs s_meets_part) (defBody s_meets_part) (defScope s_meets_part)) (Z : Fx K mg base) (C1 : Cal P w K mg base 1 "is_kind" ["state", "kind", "wide"] (pfD pd_isk)) : Cal P w K mg base 2 "meets_part" ["state", "thing", "part"] (pfD pd_met) := by
  refine Cal.mkD (k := 1) D sc_meets_part (sd_meets_part Z C1) (fun ds R ⟨s, ks, t, p, e, _⟩ => by rw [e]; rfl) (fun ds R h => ?_) fun ds R R' i ⟨s, ks, t, p, e, h1, h2, h3, h4, h5⟩ => ⟨s, ks, t, p, e, h1, h2, h3, h4, i _ h5⟩
  obtain ⟨s, ks, t, p, rfl, I, g, gt, hp, h⟩ := h
  have kl := gt.kl
  unfold b_meets_part
  simp only [startX, rAsg, rgName, rVar, rC, rBin, rD, rCl, rFz, rTb, rTr, rIf, rIfS, rRet, rRetN, rNx, rCons, rNil, rTup, rTupC, rLst, rApp, rAppF, rCall, rPar, rNeg, rNot, rAnd, rOr, rChain, rLc, riSeq, rYes, rDrop, rFor, rApd, rExt, rgTup, rgCons, rgNil, rgSub, rIsiX, riRng1, riRng2, slot_z, slot_s, set_z, set_s, at0, at1, at2, at3, at4, at5, at6, dX_c, dX_n, gIx_tup, gIx_lst, gEq_ii, gEq_ss, gNe_ii, gNe_ss, gAdd_ii, gSub_ii, gLt_ii, gLe_ii, gGt_ii, gGe_ii, gIsN_d, gLen_l, gMax_ii, gMin_ii, gInt_b, gInt_i, gAbs_i, gApd_last, isLst_last, boX_b, tru_l, fzL_dX, fzL_n, fzL_cd, Option.map_some, fz_d, pk_d, ifS_some, hd_int, hd_str, hd_bool, hd_none, hd_list, hd_tuple, wipeX, List.map_cons, List.map_nil, List.length_cons, List.length_nil, List.replicate_succ, List.replicate_zero, List.cons_append, List.nil_append, List.append_nil, decide_eq_true_eq, if_true, if_false, Nat.reduceAdd, Nat.reduceSub, Nat.reduceLeDiff, Nat.zero_add, Nat.sub_zero, N_meets_part]
  refine seq_step ?_
  cases p with
  | kind x =>
    simp only [startX, rAsg, rgName, rVar, rC, rBin, rD, rCl, rFz, rTb, rTr, rIf, rIfS, rRet, rRetN, rNx, rCons, rNil, rTup, rTupC, rLst, rApp, rAppF, rCall, rPar, rNeg, rNot, rAnd, rOr, rChain, rLc, riSeq, rYes, rDrop, rFor, rApd, rExt, rgTup, rgCons, rgNil, rgSub, rIsiX, riRng1, riRng2, slot_z, slot_s, set_z, set_s, at0, at1, at2, at3, at4, at5, at6, dX_c, dX_n, gIx_tup, gIx_lst, gEq_ii, gEq_ss, gNe_ii, gNe_ss, gAdd_ii, gSub_ii, gLt_ii, gLe_ii, gGt_ii, gGe_ii, gIsN_d, gLen_l, gMax_ii, gMin_ii, gInt_b, gInt_i, gAbs_i, gApd_last, isLst_last, boX_b, tru_l, fzL_dX, fzL_n, fzL_cd, Option.map_some, fz_d, pk_d, ifS_some, hd_int, hd_str, hd_bool, hd_none, hd_list, hd_tuple, wipeX, List.map_cons, List.map_nil, List.length_cons, List.length_nil, List.replicate_succ, List.replicate_zero, List.cons_append, List.nil_append, List.append_nil, decide_eq_true_eq, if_true, if_false, Nat.reduceAdd, Nat.reduceSub, Nat.reduceLeDiff, Nat.zero_add, Nat.sub_zero, ptD, thD]
    refine lcW_map PyData.str (fun _ => true) (fun y => .bool (decide (x ∈ up ks y))) (by trivial) t.ks [] (small (by simp; omega)) (fun y hy Kt Kf h1 h2 => ?_) ?_
    · simp only [startX, rAsg, rgName, rVar, rC, rBin, rD, rCl, rFz, rTb, rTr, rIf, rIfS, rRet, rRetN, rNx, rCons, rNil, rTup, rTupC, rLst, rApp, rAppF, rCall, rPar, rNeg, rNot, rAnd, rOr, rChain, rLc, riSeq, rYes, rDrop, rFor, rApd, rExt, rgTup, rgCons, rgNil, rgSub, rIsiX, riRng1, riRng2, slot_z, slot_s, set_z, set_s, at0, at1, at2, at3, at4, at5, at6, dX_c, dX_n, gIx_tup, gIx_lst, gEq_ii, gEq_ss, gNe_ii, gNe_ss, gAdd_ii, gSub_ii, gLt_ii, gLe_ii, gGt_ii, gGe_ii, gIsN_d, gLen_l, gMax_ii, gMin_ii, gInt_b, gInt_i, gAbs_i, gApd_last, isLst_last, boX_b, tru_l, fzL_dX, fzL_n, fzL_cd, Option.map_some, fz_d, pk_d, ifS_some, hd_int, hd_str, hd_bool, hd_none, hd_list, hd_tuple, wipeX, List.map_cons, List.map_nil, List.length_cons, List.length_nil, List.replicate_succ, List.replicate_zero, List.cons_append, List.nil_append, List.append_nil, decide_eq_true_eq, if_true, if_false, Nat.reduceAdd, Nat.reduceSub, Nat.reduceLeDiff, Nat.zero_add, Nat.sub_zero]
      exact u_isk I g (gt.km y hy) (h1 rfl)
    simp only [startX, rAsg, rgName, rVar, rC, rBin, rD, rCl, rFz, rTb, rTr, rIf, rIfS, rRet, rRetN, rNx, rCons, rNil, rTup, rTupC, rLst, rApp, rAppF, rCall, rPar, rNeg, rNot, rAnd, rOr, rChain, rLc, riSeq, rYes, rDrop, rFor, rApd, rExt, rgTup, rgCons, rgNil, rgSub, rIsiX, riRng1, riRng2, slot_z, slot_s, set_z, set_s, at0, at1, at2, at3, at4, at5, at6, dX_c, dX_n, gIx_tup, gIx_lst, gEq_ii, gEq_ss, gNe_ii, gNe_ss, gAdd_ii, gSub_ii, gLt_ii, gLe_ii, gGt_ii, gGe_ii, gIsN_d, gLen_l, gMax_ii, gMin_ii, gInt_b, gInt_i, gAbs_i, gApd_last, isLst_last, boX_b, tru_l, fzL_dX, fzL_n, fzL_cd, Option.map_some, fz_d, pk_d, ifS_some, hd_int, hd_str, hd_bool, hd_none, hd_list, hd_tuple, wipeX, List.map_cons, List.map_nil, List.length_cons, List.length_nil, List.replicate_succ, List.replicate_zero, List.cons_append, List.nil_append, List.append_nil, decide_eq_true_eq, if_true, if_false, Nat.reduceAdd, Nat.reduceSub, Nat.reduceLeDiff, Nat.zero_add, Nat.sub_zero, gAny_f]
    exact h
  | rng r =>
    simp only [startX, rAsg, rgName, rVar, rC, rBin, rD, rCl, rFz, rTb, rTr, rIf, rIfS, rRet, rRetN, rNx, rCons, rNil, rTup, rTupC, rLst, rApp, rAppF, rCall, rPar, rNeg, rNot, rAnd, rOr, rChain, rLc, riSeq, rYes, rDrop, rFor, rApd, rExt, rgTup, rgCons, rgNil, rgSub, rIsiX, riRng1, riRng2, slot_z, slot_s, set_z, set_s, at0, at1, at2, at3, at4, at5, at6, dX_c, dX_n, gIx_tup, gIx_lst, gEq_ii, gEq_ss, gNe_ii, gNe_ss, gAdd_ii, gSub_ii, gLt_ii, gLe_ii, gGt_ii, gGe_ii, gIsN_d, gLen_l, gMax_ii, gMin_ii, gInt_b, gInt_i, gAbs_i, gApd_last, isLst_last, boX_b, tru_l, fzL_dX, fzL_n, fzL_cd, Option.map_some, fz_d, pk_d, ifS_some, hd_int, hd_str, hd_bool, hd_none, hd_list, hd_tuple, wipeX, List.map_cons, List.map_nil, List.length_cons, List.length_nil, List.replicate_succ, List.replicate_zero, List.cons_append, List.nil_append, List.append_nil, decide_eq_true_eq, if_true, if_false, Nat.reduceAdd, Nat.reduceSub, Nat.reduceLeDiff, Nat.zero_add, Nat.sub_zero, ptD, thD]
    rw [if_neg (by simpa using kr)]
    refine seq_step ?_
    simp only [startX, rAsg, rgName, rVar, rC, rBin, rD, rCl, rFz, rTb, rTr, rIf, rIfS, rRet, rRetN, rNx, rCons, rNil, rTup, rTupC, rLst, rApp, rAppF, rCall, rPar, rNeg, rNot, rAnd, rOr, rChain, rLc, riSeq, rYes, rDrop, rFor, rApd, rExt, rgTup, rgCons, rgNil, rgSub, rIsiX, riRng1, riRng2, slot_z, slot_s, set_z, set_s, at0, at1, at2, at3, at4, at5, at6, dX_c, dX_n, gIx_tup, gIx_lst, gEq_ii, gEq_ss, gNe_ii, gNe_ss, gAdd_ii, gSub_ii, gLt_ii, gLe_ii, gGt_ii, gGe_ii, gIsN_d, gLen_l, gMax_ii, gMin_ii, gInt_b, gInt_i, gAbs_i, gApd_last, isLst_last, boX_b, tru_l, fzL_dX, fzL_n, fzL_cd, Option.map_some, fz_d, pk_d, ifS_some, hd_int, hd_str, hd_bool, hd_none, hd_list, hd_tuple, wipeX, List.map_cons, List.map_nil, List.length_cons, List.length_nil, List.replicate_succ, List.replicate_zero, List.cons_append, List.nil_append, List.append_nil, decide_eq_true_eq, if_true, if_false, Nat.reduceAdd, Nat.reduceSub, Nat.reduceLeDiff, Nat.zero_add, Nat.sub_zero]
    refine ⟨trivial, ?_⟩
    refine seq_step ?_
    simp only [startX, rAsg, rgName, rVar, rC, rBin, rD, rCl, rFz, rTb, rTr, rIf, rIfS, rRet, rRetN, rNx, rCons, rNil, rTup, rTupC, rLst, rApp, rAppF, rCall, rPar, rNeg, rNot, rAnd, rOr, rChain, rLc, riSeq, rYes, rDrop, rFor, rApd, rExt, rgTup, rgCons, rgNil, rgSub, rIsiX, riRng1, riRng2, slot_z, slot_s, set_z, set_s, at0, at1, at2, at3, at4, at5, at6, dX_c, dX_n, gIx_tup, gIx_lst, gEq_ii, gEq_ss, gNe_ii, gNe_ss, gAdd_ii, gSub_ii, gLt_ii, gLe_ii, gGt_ii, gGe_ii, gIsN_d, gLen_l, gMax_ii, gMin_ii, gInt_b, gInt_i, gAbs_i, gApd_last, isLst_last, boX_b, tru_l, fzL_dX, fzL_n, fzL_cd, Option.map_some, fz_d, pk_d, ifS_some, hd_int, hd_str, hd_bool, hd_none, hd_list, hd_tuple, wipeX, List.map_cons, List.map_nil, List.length_cons, List.length_nil, List.replicate_succ, List.replicate_zero, List.cons_append, List.nil_append, List.append_nil, decide_eq_true_eq, if_true, if_false, Nat.reduceAdd, Nat.reduceSub, Nat.reduceLeDiff, Nat.zero_add, Nat.sub_zero]
    refine loopW_inv (fun xs σ M => ∃ (rest : List Rng) (o3 o8 o9 o10 : Option Xv), xs = dX (rest.map rgD) ∧ metP ks t (.rng r) = (rest.any fun q => decide (q.1 = r.1) && decide (max q.2.1 r.2.1 ≤ min q.2.2 r.2.2)) ∧ M = [] ∧
      σ = [some (.d s), some (.d (thD t)), some (.d (ptD (.rng r))), o3, some (.d (.str "range")), some (.d (.str r.1)), some (.d (.int r.2.1)), some (.d (.int r.2.2)), o8, o9, o10]) ?_ ?_ _ _ _
      ⟨t.rg, _, _, _, _, rfl, rfl, rfl, rfl⟩
    · rintro x xs σ M ⟨rest, o3, o8, o9, o10, e, ev, rfl, rfl⟩ C hC
      obtain ⟨q, rest, rfl⟩ : ∃ a r, rest = a :: r := by
        cases rest with
        | nil => cases e
        | cons a r => exact ⟨a, r, rfl⟩
      rw [List.map_cons, dX_c] at e
      cases e
      refine ⟨trivial, ?_⟩
      simp only [startX, rSeq, rAsg, rgName, rVar, rC, rBin, rD, rCl, rFz, rTb, rTr, rIf, rIfS, rRet, rRetN, rNx, rCons, rNil, rTup, rTupC, rLst, rApp, rAppF, rCall, rPar, rNeg, rNot, rAnd, rOr, rChain, rLc, riSeq, rYes, rDrop, rFor, rApd, rExt, rgTup, rgCons, rgNil, rgSub, rIsiX, riRng1, riRng2, slot_z, slot_s, set_z, set_s, at0, at1, at2, at3, at4, at5, at6, dX_c, dX_n, gIx_tup, gIx_lst, gEq_ii, gEq_ss, gNe_ii, gNe_ss, gAdd_ii, gSub_ii, gLt_ii, gLe_ii, gGt_ii, gGe_ii, gIsN_d, gLen_l, gMax_ii, gMin_ii, gInt_b, gInt_i, gAbs_i, gApd_last, isLst_last, boX_b, tru_l, fzL_dX, fzL_n, fzL_cd, Option.map_some, fz_d, pk_d, ifS_some, hd_int, hd_str, hd_bool, hd_none, hd_list, hd_tuple, wipeX, List.map_cons, List.map_nil, List.length_cons, List.length_nil, List.replicate_succ, List.replicate_zero, List.cons_append, List.nil_append, List.append_nil, decide_eq_true_eq, if_true, if_false, Nat.reduceAdd, Nat.reduceSub, Nat.reduceLeDiff, Nat.zero_add, Nat.sub_zero, rgD, true_and]
      rw [List.any_cons] at ev
      by_cases c : q.1 = r.1
      · rw [if_pos c]
        by_cases c2 : max q.2.1 r.2.1 ≤ min q.2.2 r.2.2
        · rw [if_pos c2]
          rw [ev, decide_eq_true c, decide_eq_true c2] at h
          exact h
        · rw [if_neg c2]
          rw [decide_eq_false c2, Bool.and_false, Bool.false_or] at ev
          exact hC _ _ ⟨rest, _, _, _, _, rfl, ev, rfl, rfl⟩
      · rw [if_neg c]
        rw [decide_eq_false c, Bool.false_and, Bool.false_or] at ev
        simp only [Bool.false_eq_true, if_false]
        exact hC _ _ ⟨rest, _, _, _, _, rfl, ev, rfl, rfl⟩
    · rintro σ M ⟨rest, o3, o8, o9, o10, e, ev, rfl, rfl⟩
      have e0 : rest = [] := by
        cases rest with
        | nil => rfl
        | cons a r => cases e
      subst e0
      refine ⟨trivial, ?_⟩
      rw [ev] at h
      exact h
theorem ok_lmet (D : DefOk K mg "_law_part_met" ["state", "thing", "part"] (defArgs s__law_part_met) (defBody s__law_part_met) (defScope s__law_part_met)) (Z : Fx K mg base) (C1 : Cal P w K mg base 1 "_law_up" ["state", "name"] (pfD pd_up)) : Cal P w K mg base 2 "_law_part_met" ["state", "thing", "part"] (pfD pd_met) := by
  refine Cal.mkD (k := 1) D sc__law_part_met (sd__law_part_met Z C1) (fun ds R ⟨s, ks, t, p, e, _⟩ => by rw [e]; rfl) (fun ds R h => ?_) fun ds R R' i ⟨s, ks, t, p, e, h1, h2, h3, h4, h5⟩ => ⟨s, ks, t, p, e, h1, h2, h3, h4, i _ h5⟩
  obtain ⟨s, ks, t, p, rfl, I, g, gt, hp, h⟩ := h
  have kl := gt.kl
  unfold b__law_part_met
  simp only [startX, rAsg, rgName, rVar, rC, rBin, rD, rCl, rFz, rTb, rTr, rIf, rIfS, rRet, rRetN, rNx, rCons, rNil, rTup, rTupC, rLst, rApp, rAppF, rCall, rPar, rNeg, rNot, rAnd, rOr, rChain, rLc, riSeq, rYes, rDrop, rFor, rApd, rExt, rgTup, rgCons, rgNil, rgSub, rIsiX, riRng1, riRng2, slot_z, slot_s, set_z, set_s, at0, at1, at2, at3, at4, at5, at6, dX_c, dX_n, gIx_tup, gIx_lst, gEq_ii, gEq_ss, gNe_ii, gNe_ss, gAdd_ii, gSub_ii, gLt_ii, gLe_ii, gGt_ii, gGe_ii, gIsN_d, gLen_l, gMax_ii, gMin_ii, gInt_b, gInt_i, gAbs_i, gApd_last, isLst_last, boX_b, tru_l, fzL_dX, fzL_n, fzL_cd, Option.map_some, fz_d, pk_d, ifS_some, hd_int, hd_str, hd_bool, hd_none, hd_list, hd_tuple, wipeX, List.map_cons, List.map_nil, List.length_cons, List.length_nil, List.replicate_succ, List.replicate_zero, List.cons_append, List.nil_append, List.append_nil, decide_eq_true_eq, if_true, if_false, Nat.reduceAdd, Nat.reduceSub, Nat.reduceLeDiff, Nat.zero_add, Nat.sub_zero, N__law_part_met]
  refine seq_step ?_
  cases p with
  | kind x =>
    simp only [startX, rAsg, rgName, rVar, rC, rBin, rD, rCl, rFz, rTb, rTr, rIf, rIfS, rRet, rRetN, rNx, rCons, rNil, rTup, rTupC, rLst, rApp, rAppF, rCall, rPar, rNeg, rNot, rAnd, rOr, rChain, rLc, riSeq, rYes, rDrop, rFor, rApd, rExt, rgTup, rgCons, rgNil, rgSub, rIsiX, riRng1, riRng2, slot_z, slot_s, set_z, set_s, at0, at1, at2, at3, at4, at5, at6, dX_c, dX_n, gIx_tup, gIx_lst, gEq_ii, gEq_ss, gNe_ii, gNe_ss, gAdd_ii, gSub_ii, gLt_ii, gLe_ii, gGt_ii, gGe_ii, gIsN_d, gLen_l, gMax_ii, gMin_ii, gInt_b, gInt_i, gAbs_i, gApd_last, isLst_last, boX_b, tru_l, fzL_dX, fzL_n, fzL_cd, Option.map_some, fz_d, pk_d, ifS_some, hd_int, hd_str, hd_bool, hd_none, hd_list, hd_tuple, wipeX, List.map_cons, List.map_nil, List.length_cons, List.length_nil, List.replicate_succ, List.replicate_zero, List.cons_append, List.nil_append, List.append_nil, decide_eq_true_eq, if_true, if_false, Nat.reduceAdd, Nat.reduceSub, Nat.reduceLeDiff, Nat.zero_add, Nat.sub_zero, ptD, thD]
    refine lcW_map PyData.str (fun _ => true) (fun y => .bool (decide (x ∈ up ks y))) (by trivial) t.ks [] (small (by simp; omega)) (fun y hy Kt Kf h1 h2 => ?_) ?_
    · simp only [startX, rAsg, rgName, rVar, rC, rBin, rD, rCl, rFz, rTb, rTr, rIf, rIfS, rRet, rRetN, rNx, rCons, rNil, rTup, rTupC, rLst, rApp, rAppF, rCall, rPar, rNeg, rNot, rAnd, rOr, rChain, rLc, riSeq, rYes, rDrop, rFor, rApd, rExt, rgTup, rgCons, rgNil, rgSub, rIsiX, riRng1, riRng2, slot_z, slot_s, set_z, set_s, at0, at1, at2, at3, at4, at5, at6, dX_c, dX_n, gIx_tup, gIx_lst, gEq_ii, gEq_ss, gNe_ii, gNe_ss, gAdd_ii, gSub_ii, gLt_ii, gLe_ii, gGt_ii, gGe_ii, gIsN_d, gLen_l, gMax_ii, gMin_ii, gInt_b, gInt_i, gAbs_i, gApd_last, isLst_last, boX_b, tru_l, fzL_dX, fzL_n, fzL_cd, Option.map_some, fz_d, pk_d, ifS_some, hd_int, hd_str, hd_bool, hd_none, hd_list, hd_tuple, wipeX, List.map_cons, List.map_nil, List.length_cons, List.length_nil, List.replicate_succ, List.replicate_zero, List.cons_append, List.nil_append, List.append_nil, decide_eq_true_eq, if_true, if_false, Nat.reduceAdd, Nat.reduceSub, Nat.reduceLeDiff, Nat.zero_add, Nat.sub_zero]
      refine u_up I g (gt.km y hy) ?_
      rw [gIn_strs hp (g.oku (gt.km y hy))]
      simp only [Bool.false_xor]
      exact h1 rfl
    simp only [startX, rAsg, rgName, rVar, rC, rBin, rD, rCl, rFz, rTb, rTr, rIf, rIfS, rRet, rRetN, rNx, rCons, rNil, rTup, rTupC, rLst, rApp, rAppF, rCall, rPar, rNeg, rNot, rAnd, rOr, rChain, rLc, riSeq, rYes, rDrop, rFor, rApd, rExt, rgTup, rgCons, rgNil, rgSub, rIsiX, riRng1, riRng2, slot_z, slot_s, set_z, set_s, at0, at1, at2, at3, at4, at5, at6, dX_c, dX_n, gIx_tup, gIx_lst, gEq_ii, gEq_ss, gNe_ii, gNe_ss, gAdd_ii, gSub_ii, gLt_ii, gLe_ii, gGt_ii, gGe_ii, gIsN_d, gLen_l, gMax_ii, gMin_ii, gInt_b, gInt_i, gAbs_i, gApd_last, isLst_last, boX_b, tru_l, fzL_dX, fzL_n, fzL_cd, Option.map_some, fz_d, pk_d, ifS_some, hd_int, hd_str, hd_bool, hd_none, hd_list, hd_tuple, wipeX, List.map_cons, List.map_nil, List.length_cons, List.length_nil, List.replicate_succ, List.replicate_zero, List.cons_append, List.nil_append, List.append_nil, decide_eq_true_eq, if_true, if_false, Nat.reduceAdd, Nat.reduceSub, Nat.reduceLeDiff, Nat.zero_add, Nat.sub_zero, gAny_f]
    exact h
  | rng r =>
    simp only [startX, rAsg, rgName, rVar, rC, rBin, rD, rCl, rFz, rTb, rTr, rIf, rIfS, rRet, rRetN, rNx, rCons, rNil, rTup, rTupC, rLst, rApp, rAppF, rCall, rPar, rNeg, rNot, rAnd, rOr, rChain, rLc, riSeq, rYes, rDrop, rFor, rApd, rExt, rgTup, rgCons, rgNil, rgSub, rIsiX, riRng1, riRng2, slot_z, slot_s, set_z, set_s, at0, at1, at2, at3, at4, at5, at6, dX_c, dX_n, gIx_tup, gIx_lst, gEq_ii, gEq_ss, gNe_ii, gNe_ss, gAdd_ii, gSub_ii, gLt_ii, gLe_ii, gGt_ii, gGe_ii, gIsN_d, gLen_l, gMax_ii, gMin_ii, gInt_b, gInt_i, gAbs_i, gApd_last, isLst_last, boX_b, tru_l, fzL_dX, fzL_n, fzL_cd, Option.map_some, fz_d, pk_d, ifS_some, hd_int, hd_str, hd_bool, hd_none, hd_list, hd_tuple, wipeX, List.map_cons, List.map_nil, List.length_cons, List.length_nil, List.replicate_succ, List.replicate_zero, List.cons_append, List.nil_append, List.append_nil, decide_eq_true_eq, if_true, if_false, Nat.reduceAdd, Nat.reduceSub, Nat.reduceLeDiff, Nat.zero_add, Nat.sub_zero, ptD, thD]
    rw [if_neg (by simpa using kr)]
    refine seq_step ?_
    simp only [startX, rAsg, rgName, rVar, rC, rBin, rD, rCl, rFz, rTb, rTr, rIf, rIfS, rRet, rRetN, rNx, rCons, rNil, rTup, rTupC, rLst, rApp, rAppF, rCall, rPar, rNeg, rNot, rAnd, rOr, rChain, rLc, riSeq, rYes, rDrop, rFor, rApd, rExt, rgTup, rgCons, rgNil, rgSub, rIsiX, riRng1, riRng2, slot_z, slot_s, set_z, set_s, at0, at1, at2, at3, at4, at5, at6, dX_c, dX_n, gIx_tup, gIx_lst, gEq_ii, gEq_ss, gNe_ii, gNe_ss, gAdd_ii, gSub_ii, gLt_ii, gLe_ii, gGt_ii, gGe_ii, gIsN_d, gLen_l, gMax_ii, gMin_ii, gInt_b, gInt_i, gAbs_i, gApd_last, isLst_last, boX_b, tru_l, fzL_dX, fzL_n, fzL_cd, Option.map_some, fz_d, pk_d, ifS_some, hd_int, hd_str, hd_bool, hd_none, hd_list, hd_tuple, wipeX, List.map_cons, List.map_nil, List.length_cons, List.length_nil, List.replicate_succ, List.replicate_zero, List.cons_append, List.nil_append, List.append_nil, decide_eq_true_eq, if_true, if_false, Nat.reduceAdd, Nat.reduceSub, Nat.reduceLeDiff, Nat.zero_add, Nat.sub_zero]
    refine loopW_inv (fun xs σ M => ∃ (rest : List Rng) (o3 o4 o5 : Option Xv), xs = dX (rest.map rgD) ∧ (rest.map (·.1)).Nodup ∧ metP ks t (.rng r) = (rest.any fun q => decide (q.1 = r.1) && decide (max q.2.1 r.2.1 ≤ min q.2.2 r.2.2)) ∧ M = [] ∧
      σ = [some (.d s), some (.d (thD t)), some (.d (ptD (.rng r))), o3, o4, o5]) ?_ ?_ _ _ _
      ⟨t.rg, _, _, _, rfl, gt.rn, rfl, rfl, rfl⟩
    · rintro x xs σ M ⟨rest, o3, o4, o5, e, nd, ev, rfl, rfl⟩ C hC
      obtain ⟨q, rest, rfl⟩ : ∃ a r, rest = a :: r := by
        cases rest with
        | nil => cases e
        | cons a r => exact ⟨a, r, rfl⟩
      rw [List.map_cons, dX_c] at e
      cases e
      refine ⟨trivial, ?_⟩
      rw [List.map_cons] at nd
      obtain ⟨n1, n2⟩ := List.nodup_cons.mp nd
      simp only [startX, rSeq, rAsg, rgName, rVar, rC, rBin, rD, rCl, rFz, rTb, rTr, rIf, rIfS, rRet, rRetN, rNx, rCons, rNil, rTup, rTupC, rLst, rApp, rAppF, rCall, rPar, rNeg, rNot, rAnd, rOr, rChain, rLc, riSeq, rYes, rDrop, rFor, rApd, rExt, rgTup, rgCons, rgNil, rgSub, rIsiX, riRng1, riRng2, slot_z, slot_s, set_z, set_s, at0, at1, at2, at3, at4, at5, at6, dX_c, dX_n, gIx_tup, gIx_lst, gEq_ii, gEq_ss, gNe_ii, gNe_ss, gAdd_ii, gSub_ii, gLt_ii, gLe_ii, gGt_ii, gGe_ii, gIsN_d, gLen_l, gMax_ii, gMin_ii, gInt_b, gInt_i, gAbs_i, gApd_last, isLst_last, boX_b, tru_l, fzL_dX, fzL_n, fzL_cd, Option.map_some, fz_d, pk_d, ifS_some, hd_int, hd_str, hd_bool, hd_none, hd_list, hd_tuple, wipeX, List.map_cons, List.map_nil, List.length_cons, List.length_nil, List.replicate_succ, List.replicate_zero, List.cons_append, List.nil_append, List.append_nil, decide_eq_true_eq, if_true, if_false, Nat.reduceAdd, Nat.reduceSub, Nat.reduceLeDiff, Nat.zero_add, Nat.sub_zero, rgD, ptD, true_and]
      rw [List.any_cons] at ev
      by_cases c : q.1 = r.1
      · rw [if_pos c]
        have e0 : (rest.any fun q => decide (q.1 = r.1) && decide (max q.2.1 r.2.1 ≤ min q.2.2 r.2.2)) = false := by
          rw [List.any_eq_false]
          intro z hz
          have : z.1 ≠ r.1 := fun e => n1 (c ▸ e ▸ List.mem_map.mpr ⟨z, hz, rfl⟩)
          simp [this]
        rw [ev, e0, decide_eq_true c, Bool.true_and, Bool.or_false] at h
        exact h
      · rw [if_neg c]
        rw [decide_eq_false c, Bool.false_and, Bool.false_or] at ev
        exact hC _ _ ⟨rest, _, _, _, rfl, n2, ev, rfl, rfl⟩
    · rintro σ M ⟨rest, o3, o4, o5, e, nd, ev, rfl, rfl⟩
      have e0 : rest = [] := by
        cases rest with
        | nil => rfl
        | cons a r => cases e
      subst e0
      refine ⟨trivial, ?_⟩
      rw [ev] at h
      exact h
def pd_meets : PD := fun ds R => ∃ s ks t v, ds = [s, thD t, thD v] ∧ Is s ks ∧ Gk ks ∧ Gt ks t ∧ Gt ks v ∧ R (.bool ((partsOf v).all (metP ks t)))
theorem u_parts {t : Th} {M : Sto} {P : Xv → Sto → Prop} {ks : Ks} (g : Gt ks t) (h : P (.d (.list ((partsOf t).map ptD))) M) : pfD pd_parts [.d (thD t)] M P :=
  pfD1 _ _ _ _ ⟨t, rfl, g.kl, g.rl, h⟩
theorem u_met {s : PyData} {ks : Ks} {t : Th} {p : Part} {M : Sto} {P : Xv → Sto → Prop} (I : Is s ks) (g : Gk ks) (gt : Gt ks t) (hp : okP p) (h : P (.d (.bool (metP ks t p))) M) : pfD pd_met [.d s, .d (thD t), .d (ptD p)] M P :=
  pfD3 _ _ _ _ _ _ ⟨s, ks, t, p, rfl, I, g, gt, hp, h⟩
theorem okP_of {ks : Ks} {t : Th} (g : Gk ks) (gt : Gt ks t) : ∀ p ∈ partsOf t, okP p := fun p hp => by
  rcases List.mem_append.mp hp with h | h
  · obtain ⟨x, hx, rfl⟩ := List.mem_map.mp h
    exact g.okn (gt.km x hx)
  · obtain ⟨r, _, rfl⟩ := List.mem_map.mp h
    exact trivial
theorem parts_len {ks : Ks} {t : Th} (gt : Gt ks t) : (partsOf t).length ≤ 20 := by
  unfold partsOf
  have := gt.kl
  have := gt.rl
  rw [List.length_append, List.length_map, List.length_map]; omega
theorem ok_meets (D : DefOk K mg "meets" ["state", "thing", "wish"] (defArgs s_meets) (defBody s_meets) (defScope s_meets)) (Z : Fx K mg base) (C1 : Cal P w K mg base 2 "parts" ["wish"] (pfD pd_parts)) (C2 : Cal P w K mg base 2 "meets_part" ["state", "thing", "part"] (pfD pd_met)) : Cal P w K mg base 3 "meets" ["state", "thing", "wish"] (pfD pd_meets) := by
  refine Cal.mkD (k := 2) D sc_meets (sd_meets Z C1 C2) (fun ds R ⟨s, ks, t, v, e, _⟩ => by rw [e]; rfl) (fun ds R h => ?_) fun ds R R' i ⟨s, ks, t, v, e, h1, h2, h3, h4, h5⟩ => ⟨s, ks, t, v, e, h1, h2, h3, h4, i _ h5⟩
  obtain ⟨s, ks, t, v, rfl, I, g, gt, gv, h⟩ := h
  have pl := parts_len gv
  unfold b_meets
  simp only [startX, rSeq, rAsg, rgName, rVar, rC, rBin, rD, rCl, rFz, rTb, rTr, rIf, rIfS, rRet, rRetN, rNx, rCons, rNil, rTup, rTupC, rLst, rApp, rAppF, rCall, rPar, rNeg, rNot, rAnd, rOr, rChain, rLc, riSeq, rYes, rDrop, rFor, rApd, rExt, rgTup, rgCons, rgNil, rgSub, rIsiX, riRng1, riRng2, slot_z, slot_s, set_z, set_s, at0, at1, at2, at3, at4, at5, at6, dX_c, dX_n, gIx_tup, gIx_lst, gEq_ii, gEq_ss, gNe_ii, gNe_ss, gAdd_ii, gSub_ii, gLt_ii, gLe_ii, gGt_ii, gGe_ii, gIsN_d, gLen_l, gMax_ii, gMin_ii, gInt_b, gInt_i, gAbs_i, gApd_last, isLst_last, boX_b, tru_l, fzL_dX, fzL_n, fzL_cd, Option.map_some, fz_d, pk_d, ifS_some, hd_int, hd_str, hd_bool, hd_none, hd_list, hd_tuple, wipeX, List.map_cons, List.map_nil, List.length_cons, List.length_nil, List.replicate_succ, List.replicate_zero, List.cons_append, List.nil_append, List.append_nil, decide_eq_true_eq, if_true, if_false, Nat.reduceAdd, Nat.reduceSub, Nat.reduceLeDiff, Nat.zero_add, Nat.sub_zero, N_meets]
  refine u_parts gv ?_
  refine lcW_map ptD (fun _ => true) (fun p => .bool (metP ks t p)) (by trivial) (partsOf v) [] (small (by simp; omega)) (fun p hp Kt Kf h1 h2 => ?_) ?_
  · simp only [startX, rSeq, rAsg, rgName, rVar, rC, rBin, rD, rCl, rFz, rTb, rTr, rIf, rIfS, rRet, rRetN, rNx, rCons, rNil, rTup, rTupC, rLst, rApp, rAppF, rCall, rPar, rNeg, rNot, rAnd, rOr, rChain, rLc, riSeq, rYes, rDrop, rFor, rApd, rExt, rgTup, rgCons, rgNil, rgSub, rIsiX, riRng1, riRng2, slot_z, slot_s, set_z, set_s, at0, at1, at2, at3, at4, at5, at6, dX_c, dX_n, gIx_tup, gIx_lst, gEq_ii, gEq_ss, gNe_ii, gNe_ss, gAdd_ii, gSub_ii, gLt_ii, gLe_ii, gGt_ii, gGe_ii, gIsN_d, gLen_l, gMax_ii, gMin_ii, gInt_b, gInt_i, gAbs_i, gApd_last, isLst_last, boX_b, tru_l, fzL_dX, fzL_n, fzL_cd, Option.map_some, fz_d, pk_d, ifS_some, hd_int, hd_str, hd_bool, hd_none, hd_list, hd_tuple, wipeX, List.map_cons, List.map_nil, List.length_cons, List.length_nil, List.replicate_succ, List.replicate_zero, List.cons_append, List.nil_append, List.append_nil, decide_eq_true_eq, if_true, if_false, Nat.reduceAdd, Nat.reduceSub, Nat.reduceLeDiff, Nat.zero_add, Nat.sub_zero]
    exact u_met I g gt (okP_of g gv p hp) (h1 rfl)
  simp only [startX, rSeq, rAsg, rgName, rVar, rC, rBin, rD, rCl, rFz, rTb, rTr, rIf, rIfS, rRet, rRetN, rNx, rCons, rNil, rTup, rTupC, rLst, rApp, rAppF, rCall, rPar, rNeg, rNot, rAnd, rOr, rChain, rLc, riSeq, rYes, rDrop, rFor, rApd, rExt, rgTup, rgCons, rgNil, rgSub, rIsiX, riRng1, riRng2, slot_z, slot_s, set_z, set_s, at0, at1, at2, at3, at4, at5, at6, dX_c, dX_n, gIx_tup, gIx_lst, gEq_ii, gEq_ss, gNe_ii, gNe_ss, gAdd_ii, gSub_ii, gLt_ii, gLe_ii, gGt_ii, gGe_ii, gIsN_d, gLen_l, gMax_ii, gMin_ii, gInt_b, gInt_i, gAbs_i, gApd_last, isLst_last, boX_b, tru_l, fzL_dX, fzL_n, fzL_cd, Option.map_some, fz_d, pk_d, ifS_some, hd_int, hd_str, hd_bool, hd_none, hd_list, hd_tuple, wipeX, List.map_cons, List.map_nil, List.length_cons, List.length_nil, List.replicate_succ, List.replicate_zero, List.cons_append, List.nil_append, List.append_nil, decide_eq_true_eq, if_true, if_false, Nat.reduceAdd, Nat.reduceSub, Nat.reduceLeDiff, Nat.zero_add, Nat.sub_zero, gAll_f]
  exact h
end K11

set_option Elab.async false
set_option linter.all false
set_option maxRecDepth 100000
set_option maxHeartbeats 8000000
namespace K11
open PySem PySem.Spec PyProof.Rows L2 G
variable {P : Program} {w : World} {K : PySem.W.Frag} {mg : Str → Option Value} {base : Heap} {k : Nat}
/-! ### the drawing state: one cell -/
abbrev D3 := Int × Int × Int
def dM (sc : List Int) (d : D3) : Sto := [.lst [.d (.list (sc.map .int)), .d (.int d.1), .d (.int d.2.1), .d (.int d.2.2)]]
def DOk (d : D3) : Prop := 0 ≤ d.1 ∧ 0 ≤ d.2.1
section
variable {sc : List Int} {d : D3} {x : Int} {P : Xv → Sto → Prop} {Q : Sto → Prop}
theorem dm0 : gIx (.c 0) (.d (.int 0)) (dM sc d) P = P (.d (.list (sc.map .int))) (dM sc d) := rfl
theorem dm1 : gIx (.c 0) (.d (.int 1)) (dM sc d) P = P (.d (.int d.1)) (dM sc d) := rfl
theorem dm2 : gIx (.c 0) (.d (.int 2)) (dM sc d) P = P (.d (.int d.2.1)) (dM sc d) := rfl
theorem dm3 : gIx (.c 0) (.d (.int 3)) (dM sc d) P = P (.d (.int d.2.2)) (dM sc d) := rfl
theorem ds1 : gSet (.c 0) (.d (.int 1)) (.d (.int x)) (dM sc d) Q = Q (dM sc (x, d.2.1, d.2.2)) := rfl
theorem ds2 : gSet (.c 0) (.d (.int 2)) (.d (.int x)) (dM sc d) Q = Q (dM sc (d.1, x, d.2.2)) := rfl
theorem ds3 : gSet (.c 0) (.d (.int 3)) (.d (.int x)) (dM sc d) Q = Q (dM sc (d.1, d.2.1, x)) := rfl
end
def pf_drs : PF := fun xs M R => ∃ sc : List Int, xs = [.d (.list (sc.map .int))] ∧ M = [] ∧ R (.c 0) (dM sc (0, 0, 1))
theorem ok_draws (D : DefOk K mg "_law_draws" ["script"] (defArgs s__law_draws) (defBody s__law_draws) (defScope s__law_draws)) (Z : Fx K mg base) : Cal P w K mg base 1 "_law_draws" ["script"] pf_drs := by
  refine Cal.mk_ (k := 0) D sc__law_draws (sd__law_draws Z) (fun xs M R ⟨_, e, _⟩ => by rw [e]; rfl) (fun xs M R h => ?_)
  obtain ⟨sc, rfl, rfl, h⟩ := h
  unfold b__law_draws
  simp only [startX, rSeq, rAsg, rgName, rVar, rC, rBin, rD, rCl, rFz, rTb, rTr, rIf, rIfS, rRet, rRetN, rNx, rCons, rNil, rTup, rTupC, rLst, rApp, rAppF, rCall, rPar, rNeg, rNot, rAnd, rOr, rChain, rLc, riSeq, rYes, rDrop, rFor, rApd, rExt, rgTup, rgCons, rgNil, rgSub, rIsiX, riRng1, riRng2, slot_z, slot_s, set_z, set_s, at0, at1, at2, at3, at4, at5, at6, dX_c, dX_n, gIx_tup, gIx_lst, gEq_ii, gEq_ss, gNe_ii, gNe_ss, gAdd_ii, gSub_ii, gLt_ii, gLe_ii, gGt_ii, gGe_ii, gIsN_d, gLen_l, gMax_ii, gMin_ii, gInt_b, gInt_i, gAbs_i, gApd_last, isLst_last, boX_b, tru_l, fzL_dX, fzL_n, fzL_cd, Option.map_some, fz_d, pk_d, ifS_some, hd_int, hd_str, hd_bool, hd_none, hd_list, hd_tuple, wipeX, List.map_cons, List.map_nil, List.length_cons, List.length_nil, List.replicate_succ, List.replicate_zero, List.cons_append, List.nil_append, List.append_nil, decide_eq_true_eq, if_true, if_false, Nat.reduceAdd, Nat.reduceSub, Nat.reduceLeDiff, Nat.zero_add, Nat.sub_zero, N__law_draws, gList]
  exact ⟨by decide, h⟩
def pf_dr : PF := fun xs M R => ∃ sc d lim, xs = [.c 0, .d (.int lim)] ∧ M = dM sc d ∧ DOk d ∧ 0 < lim ∧ lim < 1000 ∧ ∀ v d', DOk d' → 0 ≤ v → v < lim → R (.d (.int v)) (dM sc d')
theorem gPow18 (M : Sto) (P : Xv → Sto → Prop) (h : P (.d (.int (10 ^ 18))) M) : gPow (.d (.int 10)) (.d (.int 18)) M P := ⟨⟨by decide, by decide, by decide⟩, h⟩
theorem ok_draw (D : DefOk K mg "_law_draw" ["draws", "limit"] (defArgs s__law_draw) (defBody s__law_draw) (defScope s__law_draw)) (Z : Fx K mg base) : Cal P w K mg base 1 "_law_draw" ["draws", "limit"] (pfPre 1 pf_dr) := by
  refine Cal.mkPre (k := 0) D sc__law_draw (sd__law_draw Z) (fun xs M R ⟨_, _, _, e, _⟩ => by rw [e]; rfl) (fun xs M R h => ?_)
  obtain ⟨sc, d, lim, rfl, rfl, ok, l0, l1, h⟩ := h
  have fin : ∀ v d', DOk d' → 0 ≤ v → v < lim → EndsPre 1 R (.rt (.d (.int v))) (dM sc d') := fun v d' a b c => ⟨Nat.le_refl 1, h v d' a b c⟩
  unfold b__law_draw
  simp only [startX, rAsg, rgName, rVar, rC, rBin, rD, rCl, rFz, rTb, rTr, rIf, rIfS, rRet, rRetN, rNx, rCons, rNil, rTup, rTupC, rLst, rApp, rAppF, rCall, rPar, rNeg, rNot, rAnd, rOr, rChain, rLc, riSeq, rYes, rDrop, rFor, rApd, rExt, rgTup, rgCons, rgNil, rgSub, rIsiX, riRng1, riRng2, slot_z, slot_s, set_z, set_s, at0, at1, at2, at3, at4, at5, at6, dX_c, dX_n, gIx_tup, gIx_lst, gEq_ii, gEq_ss, gNe_ii, gNe_ss, gAdd_ii, gSub_ii, gLt_ii, gLe_ii, gGt_ii, gGe_ii, gIsN_d, gLen_l, gMax_ii, gMin_ii, gInt_b, gInt_i, gAbs_i, gApd_last, isLst_last, boX_b, tru_l, fzL_dX, fzL_n, fzL_cd, Option.map_some, fz_d, pk_d, ifS_some, hd_int, hd_str, hd_bool, hd_none, hd_list, hd_tuple, wipeX, List.map_cons, List.map_nil, List.length_cons, List.length_nil, List.replicate_succ, List.replicate_zero, List.cons_append, List.nil_append, List.append_nil, decide_eq_true_eq, if_true, if_false, Nat.reduceAdd, Nat.reduceSub, Nat.reduceLeDiff, Nat.zero_add, Nat.sub_zero, N__law_draw]
  refine seq_cut (fun σ1 M1 => ∃ (d : D3) (o2 : Option Xv), σ1 = [some (.c 0), some (.d (.int lim)), o2, none] ∧ M1 = dM sc d ∧ DOk d) ?_ ?_
  · intro X hX
    simp only [startX, rAsg, rgName, rVar, rC, rBin, rD, rCl, rFz, rTb, rTr, rIf, rIfS, rRet, rRetN, rNx, rCons, rNil, rTup, rTupC, rLst, rApp, rAppF, rCall, rPar, rNeg, rNot, rAnd, rOr, rChain, rLc, riSeq, rYes, rDrop, rFor, rApd, rExt, rgTup, rgCons, rgNil, rgSub, rIsiX, riRng1, riRng2, slot_z, slot_s, set_z, set_s, at0, at1, at2, at3, at4, at5, at6, dX_c, dX_n, gIx_tup, gIx_lst, gEq_ii, gEq_ss, gNe_ii, gNe_ss, gAdd_ii, gSub_ii, gLt_ii, gLe_ii, gGt_ii, gGe_ii, gIsN_d, gLen_l, gMax_ii, gMin_ii, gInt_b, gInt_i, gAbs_i, gApd_last, isLst_last, boX_b, tru_l, fzL_dX, fzL_n, fzL_cd, Option.map_some, fz_d, pk_d, ifS_some, hd_int, hd_str, hd_bool, hd_none, hd_list, hd_tuple, wipeX, List.map_cons, List.map_nil, List.length_cons, List.length_nil, List.replicate_succ, List.replicate_zero, List.cons_append, List.nil_append, List.append_nil, decide_eq_true_eq, if_true, if_false, Nat.reduceAdd, Nat.reduceSub, Nat.reduceLeDiff, Nat.zero_add, Nat.sub_zero, dm0, dm1, dm2, gLen_l, List.length_map]
    by_cases c1 : d.2.1 = 0
    · rw [if_pos c1]
      by_cases c2 : d.1 < (sc.length : Int)
      · rw [if_pos c2]
        refine seq_step ?_
        obtain ⟨c, hc, ec⟩ := at_in PyData.int ok.1 c2
        simp only [startX, rAsg, rgName, rVar, rC, rBin, rD, rCl, rFz, rTb, rTr, rIf, rIfS, rRet, rRetN, rNx, rCons, rNil, rTup, rTupC, rLst, rApp, rAppF, rCall, rPar, rNeg, rNot, rAnd, rOr, rChain, rLc, riSeq, rYes, rDrop, rFor, rApd, rExt, rgTup, rgCons, rgNil, rgSub, rIsiX, riRng1, riRng2, slot_z, slot_s, set_z, set_s, at0, at1, at2, at3, at4, at5, at6, dX_c, dX_n, gIx_tup, gIx_lst, gEq_ii, gEq_ss, gNe_ii, gNe_ss, gAdd_ii, gSub_ii, gLt_ii, gLe_ii, gGt_ii, gGe_ii, gIsN_d, gLen_l, gMax_ii, gMin_ii, gInt_b, gInt_i, gAbs_i, gApd_last, isLst_last, boX_b, tru_l, fzL_dX, fzL_n, fzL_cd, Option.map_some, fz_d, pk_d, ifS_some, hd_int, hd_str, hd_bool, hd_none, hd_list, hd_tuple, wipeX, List.map_cons, List.map_nil, List.length_cons, List.length_nil, List.replicate_succ, List.replicate_zero, List.cons_append, List.nil_append, List.append_nil, decide_eq_true_eq, if_true, if_false, Nat.reduceAdd, Nat.reduceSub, Nat.reduceLeDiff, Nat.zero_add, Nat.sub_zero, dm0, dm1, ec]
        refine seq_step ?_
        simp only [startX, rAsg, rgName, rVar, rC, rBin, rD, rCl, rFz, rTb, rTr, rIf, rIfS, rRet, rRetN, rNx, rCons, rNil, rTup, rTupC, rLst, rApp, rAppF, rCall, rPar, rNeg, rNot, rAnd, rOr, rChain, rLc, riSeq, rYes, rDrop, rFor, rApd, rExt, rgTup, rgCons, rgNil, rgSub, rIsiX, riRng1, riRng2, slot_z, slot_s, set_z, set_s, at0, at1, at2, at3, at4, at5, at6, dX_c, dX_n, gIx_tup, gIx_lst, gEq_ii, gEq_ss, gNe_ii, gNe_ss, gAdd_ii, gSub_ii, gLt_ii, gLe_ii, gGt_ii, gGe_ii, gIsN_d, gLen_l, gMax_ii, gMin_ii, gInt_b, gInt_i, gAbs_i, gApd_last, isLst_last, boX_b, tru_l, fzL_dX, fzL_n, fzL_cd, Option.map_some, fz_d, pk_d, ifS_some, hd_int, hd_str, hd_bool, hd_none, hd_list, hd_tuple, wipeX, List.map_cons, List.map_nil, List.length_cons, List.length_nil, List.replicate_succ, List.replicate_zero, List.cons_append, List.nil_append, List.append_nil, decide_eq_true_eq, if_true, if_false, Nat.reduceAdd, Nat.reduceSub, Nat.reduceLeDiff, Nat.zero_add, Nat.sub_zero, dm1, ds1]
        refine seq_cut (fun σ1 M1 => ∃ (d : D3), σ1 = [some (.c 0), some (.d (.int lim)), some (.d (.int c)), none] ∧ M1 = dM sc d ∧ DOk d) ?_ ?_
        · intro Y hY
          simp only [startX, rAsg, rgName, rVar, rC, rBin, rD, rCl, rFz, rTb, rTr, rIf, rIfS, rRet, rRetN, rNx, rCons, rNil, rTup, rTupC, rLst, rApp, rAppF, rCall, rPar, rNeg, rNot, rAnd, rOr, rChain, rLc, riSeq, rYes, rDrop, rFor, rApd, rExt, rgTup, rgCons, rgNil, rgSub, rIsiX, riRng1, riRng2, slot_z, slot_s, set_z, set_s, at0, at1, at2, at3, at4, at5, at6, dX_c, dX_n, gIx_tup, gIx_lst, gEq_ii, gEq_ss, gNe_ii, gNe_ss, gAdd_ii, gSub_ii, gLt_ii, gLe_ii, gGt_ii, gGe_ii, gIsN_d, gLen_l, gMax_ii, gMin_ii, gInt_b, gInt_i, gAbs_i, gApd_last, isLst_last, boX_b, tru_l, fzL_dX, fzL_n, fzL_cd, Option.map_some, fz_d, pk_d, ifS_some, hd_int, hd_str, hd_bool, hd_none, hd_list, hd_tuple, wipeX, List.map_cons, List.map_nil, List.length_cons, List.length_nil, List.replicate_succ, List.replicate_zero, List.cons_append, List.nil_append, List.append_nil, decide_eq_true_eq, if_true, if_false, Nat.reduceAdd, Nat.reduceSub, Nat.reduceLeDiff, Nat.zero_add, Nat.sub_zero]
          refine gPow18 _ _ ?_
          simp only [startX, rAsg, rgName, rVar, rC, rBin, rD, rCl, rFz, rTb, rTr, rIf, rIfS, rRet, rRetN, rNx, rCons, rNil, rTup, rTupC, rLst, rApp, rAppF, rCall, rPar, rNeg, rNot, rAnd, rOr, rChain, rLc, riSeq, rYes, rDrop, rFor, rApd, rExt, rgTup, rgCons, rgNil, rgSub, rIsiX, riRng1, riRng2, slot_z, slot_s, set_z, set_s, at0, at1, at2, at3, at4, at5, at6, dX_c, dX_n, gIx_tup, gIx_lst, gEq_ii, gEq_ss, gNe_ii, gNe_ss, gAdd_ii, gSub_ii, gLt_ii, gLe_ii, gGt_ii, gGe_ii, gIsN_d, gLen_l, gMax_ii, gMin_ii, gInt_b, gInt_i, gAbs_i, gApd_last, isLst_last, boX_b, tru_l, fzL_dX, fzL_n, fzL_cd, Option.map_some, fz_d, pk_d, ifS_some, hd_int, hd_str, hd_bool, hd_none, hd_list, hd_tuple, wipeX, List.map_cons, List.map_nil, List.length_cons, List.length_nil, List.replicate_succ, List.replicate_zero, List.cons_append, List.nil_append, List.append_nil, decide_eq_true_eq, if_true, if_false, Nat.reduceAdd, Nat.reduceSub, Nat.reduceLeDiff, Nat.zero_add, Nat.sub_zero]
          split
          · rename_i q
            simp only [startX, rAsg, rgName, rVar, rC, rBin, rD, rCl, rFz, rTb, rTr, rIf, rIfS, rRet, rRetN, rNx, rCons, rNil, rTup, rTupC, rLst, rApp, rAppF, rCall, rPar, rNeg, rNot, rAnd, rOr, rChain, rLc, riSeq, rYes, rDrop, rFor, rApd, rExt, rgTup, rgCons, rgNil, rgSub, rIsiX, riRng1, riRng2, slot_z, slot_s, set_z, set_s, at0, at1, at2, at3, at4, at5, at6, dX_c, dX_n, gIx_tup, gIx_lst, gEq_ii, gEq_ss, gNe_ii, gNe_ss, gAdd_ii, gSub_ii, gLt_ii, gLe_ii, gGt_ii, gGe_ii, gIsN_d, gLen_l, gMax_ii, gMin_ii, gInt_b, gInt_i, gAbs_i, gApd_last, isLst_last, boX_b, tru_l, fzL_dX, fzL_n, fzL_cd, Option.map_some, fz_d, pk_d, ifS_some, hd_int, hd_str, hd_bool, hd_none, hd_list, hd_tuple, wipeX, List.map_cons, List.map_nil, List.length_cons, List.length_nil, List.replicate_succ, List.replicate_zero, List.cons_append, List.nil_append, List.append_nil, decide_eq_true_eq, if_true, if_false, Nat.reduceAdd, Nat.reduceSub, Nat.reduceLeDiff, Nat.zero_add, Nat.sub_zero, ds2]
            exact hY _ _ ⟨_, rfl, rfl, by have := ok.1; show 0 ≤ d.1 + 1; omega, by show 0 ≤ c; omega⟩
          · exact hY _ _ ⟨_, rfl, rfl, by have := ok.1; show 0 ≤ d.1 + 1; omega, ok.2⟩
        · rintro _ _ ⟨d, rfl, rfl, ok⟩
          simp only [startX, rAsg, rgName, rVar, rC, rBin, rD, rCl, rFz, rTb, rTr, rIf, rIfS, rRet, rRetN, rNx, rCons, rNil, rTup, rTupC, rLst, rApp, rAppF, rCall, rPar, rNeg, rNot, rAnd, rOr, rChain, rLc, riSeq, rYes, rDrop, rFor, rApd, rExt, rgTup, rgCons, rgNil, rgSub, rIsiX, riRng1, riRng2, slot_z, slot_s, set_z, set_s, at0, at1, at2, at3, at4, at5, at6, dX_c, dX_n, gIx_tup, gIx_lst, gEq_ii, gEq_ss, gNe_ii, gNe_ss, gAdd_ii, gSub_ii, gLt_ii, gLe_ii, gGt_ii, gGe_ii, gIsN_d, gLen_l, gMax_ii, gMin_ii, gInt_b, gInt_i, gAbs_i, gApd_last, isLst_last, boX_b, tru_l, fzL_dX, fzL_n, fzL_cd, Option.map_some, fz_d, pk_d, ifS_some, hd_int, hd_str, hd_bool, hd_none, hd_list, hd_tuple, wipeX, List.map_cons, List.map_nil, List.length_cons, List.length_nil, List.replicate_succ, List.replicate_zero, List.cons_append, List.nil_append, List.append_nil, decide_eq_true_eq, if_true, if_false, Nat.reduceAdd, Nat.reduceSub, Nat.reduceLeDiff, Nat.zero_add, Nat.sub_zero, dm3, ds3, gMul_r _ 48271 _ _ (by decide), gMod_ii _ 2147483647 _ _ (by decide)]
          exact hX _ _ ⟨_, _, rfl, rfl, ok⟩
      · rw [if_neg c2]
        exact hX _ _ ⟨_, _, rfl, rfl, ok⟩
    · rw [if_neg c1]
      simp only [Bool.false_eq_true, if_false]
      exact hX _ _ ⟨_, _, rfl, rfl, ok⟩
  rintro _ _ ⟨d, o2, rfl, rfl, ok⟩
  refine seq_step ?_
  simp only [startX, rAsg, rgName, rVar, rC, rBin, rD, rCl, rFz, rTb, rTr, rIf, rIfS, rRet, rRetN, rNx, rCons, rNil, rTup, rTupC, rLst, rApp, rAppF, rCall, rPar, rNeg, rNot, rAnd, rOr, rChain, rLc, riSeq, rYes, rDrop, rFor, rApd, rExt, rgTup, rgCons, rgNil, rgSub, rIsiX, riRng1, riRng2, slot_z, slot_s, set_z, set_s, at0, at1, at2, at3, at4, at5, at6, dX_c, dX_n, gIx_tup, gIx_lst, gEq_ii, gEq_ss, gNe_ii, gNe_ss, gAdd_ii, gSub_ii, gLt_ii, gLe_ii, gGt_ii, gGe_ii, gIsN_d, gLen_l, gMax_ii, gMin_ii, gInt_b, gInt_i, gAbs_i, gApd_last, isLst_last, boX_b, tru_l, fzL_dX, fzL_n, fzL_cd, Option.map_some, fz_d, pk_d, ifS_some, hd_int, hd_str, hd_bool, hd_none, hd_list, hd_tuple, wipeX, List.map_cons, List.map_nil, List.length_cons, List.length_nil, List.replicate_succ, List.replicate_zero, List.cons_append, List.nil_append, List.append_nil, decide_eq_true_eq, if_true, if_false, Nat.reduceAdd, Nat.reduceSub, Nat.reduceLeDiff, Nat.zero_add, Nat.sub_zero, dm2]
  split
  · refine seq_step ?_
    simp only [startX, rAsg, rgName, rVar, rC, rBin, rD, rCl, rFz, rTb, rTr, rIf, rIfS, rRet, rRetN, rNx, rCons, rNil, rTup, rTupC, rLst, rApp, rAppF, rCall, rPar, rNeg, rNot, rAnd, rOr, rChain, rLc, riSeq, rYes, rDrop, rFor, rApd, rExt, rgTup, rgCons, rgNil, rgSub, rIsiX, riRng1, riRng2, slot_z, slot_s, set_z, set_s, at0, at1, at2, at3, at4, at5, at6, dX_c, dX_n, gIx_tup, gIx_lst, gEq_ii, gEq_ss, gNe_ii, gNe_ss, gAdd_ii, gSub_ii, gLt_ii, gLe_ii, gGt_ii, gGe_ii, gIsN_d, gLen_l, gMax_ii, gMin_ii, gInt_b, gInt_i, gAbs_i, gApd_last, isLst_last, boX_b, tru_l, fzL_dX, fzL_n, fzL_cd, Option.map_some, fz_d, pk_d, ifS_some, hd_int, hd_str, hd_bool, hd_none, hd_list, hd_tuple, wipeX, List.map_cons, List.map_nil, List.length_cons, List.length_nil, List.replicate_succ, List.replicate_zero, List.cons_append, List.nil_append, List.append_nil, decide_eq_true_eq, if_true, if_false, Nat.reduceAdd, Nat.reduceSub, Nat.reduceLeDiff, Nat.zero_add, Nat.sub_zero, dm2, gMod_ii _ _ _ _ l0]
    refine seq_step ?_
    simp only [startX, rAsg, rgName, rVar, rC, rBin, rD, rCl, rFz, rTb, rTr, rIf, rIfS, rRet, rRetN, rNx, rCons, rNil, rTup, rTupC, rLst, rApp, rAppF, rCall, rPar, rNeg, rNot, rAnd, rOr, rChain, rLc, riSeq, rYes, rDrop, rFor, rApd, rExt, rgTup, rgCons, rgNil, rgSub, rIsiX, riRng1, riRng2, slot_z, slot_s, set_z, set_s, at0, at1, at2, at3, at4, at5, at6, dX_c, dX_n, gIx_tup, gIx_lst, gEq_ii, gEq_ss, gNe_ii, gNe_ss, gAdd_ii, gSub_ii, gLt_ii, gLe_ii, gGt_ii, gGe_ii, gIsN_d, gLen_l, gMax_ii, gMin_ii, gInt_b, gInt_i, gAbs_i, gApd_last, isLst_last, boX_b, tru_l, fzL_dX, fzL_n, fzL_cd, Option.map_some, fz_d, pk_d, ifS_some, hd_int, hd_str, hd_bool, hd_none, hd_list, hd_tuple, wipeX, List.map_cons, List.map_nil, List.length_cons, List.length_nil, List.replicate_succ, List.replicate_zero, List.cons_append, List.nil_append, List.append_nil, decide_eq_true_eq, if_true, if_false, Nat.reduceAdd, Nat.reduceSub, Nat.reduceLeDiff, Nat.zero_add, Nat.sub_zero, dm2, gDiv_ii _ _ _ _ (show 0 < lim ∧ lim < 1073741824 by omega), ds2]
    exact fin _ _ ⟨ok.1, Int.ediv_nonneg ok.2 (by omega)⟩ (Int.emod_nonneg _ (by omega)) (Int.emod_lt_of_pos _ l0)
  · refine seq_step ?_
    simp only [startX, rAsg, rgName, rVar, rC, rBin, rD, rCl, rFz, rTb, rTr, rIf, rIfS, rRet, rRetN, rNx, rCons, rNil, rTup, rTupC, rLst, rApp, rAppF, rCall, rPar, rNeg, rNot, rAnd, rOr, rChain, rLc, riSeq, rYes, rDrop, rFor, rApd, rExt, rgTup, rgCons, rgNil, rgSub, rIsiX, riRng1, riRng2, slot_z, slot_s, set_z, set_s, at0, at1, at2, at3, at4, at5, at6, dX_c, dX_n, gIx_tup, gIx_lst, gEq_ii, gEq_ss, gNe_ii, gNe_ss, gAdd_ii, gSub_ii, gLt_ii, gLe_ii, gGt_ii, gGe_ii, gIsN_d, gLen_l, gMax_ii, gMin_ii, gInt_b, gInt_i, gAbs_i, gApd_last, isLst_last, boX_b, tru_l, fzL_dX, fzL_n, fzL_cd, Option.map_some, fz_d, pk_d, ifS_some, hd_int, hd_str, hd_bool, hd_none, hd_list, hd_tuple, wipeX, List.map_cons, List.map_nil, List.length_cons, List.length_nil, List.replicate_succ, List.replicate_zero, List.cons_append, List.nil_append, List.append_nil, decide_eq_true_eq, if_true, if_false, Nat.reduceAdd, Nat.reduceSub, Nat.reduceLeDiff, Nat.zero_add, Nat.sub_zero, dm3, ds3, gMul_r _ 69621 _ _ (by decide), gMod_ii _ 2147483629 _ _ (by decide)]
    simp only [startX, rAsg, rgName, rVar, rC, rBin, rD, rCl, rFz, rTb, rTr, rIf, rIfS, rRet, rRetN, rNx, rCons, rNil, rTup, rTupC, rLst, rApp, rAppF, rCall, rPar, rNeg, rNot, rAnd, rOr, rChain, rLc, riSeq, rYes, rDrop, rFor, rApd, rExt, rgTup, rgCons, rgNil, rgSub, rIsiX, riRng1, riRng2, slot_z, slot_s, set_z, set_s, at0, at1, at2, at3, at4, at5, at6, dX_c, dX_n, gIx_tup, gIx_lst, gEq_ii, gEq_ss, gNe_ii, gNe_ss, gAdd_ii, gSub_ii, gLt_ii, gLe_ii, gGt_ii, gGe_ii, gIsN_d, gLen_l, gMax_ii, gMin_ii, gInt_b, gInt_i, gAbs_i, gApd_last, isLst_last, boX_b, tru_l, fzL_dX, fzL_n, fzL_cd, Option.map_some, fz_d, pk_d, ifS_some, hd_int, hd_str, hd_bool, hd_none, hd_list, hd_tuple, wipeX, List.map_cons, List.map_nil, List.length_cons, List.length_nil, List.replicate_succ, List.replicate_zero, List.cons_append, List.nil_append, List.append_nil, decide_eq_true_eq, if_true, if_false, Nat.reduceAdd, Nat.reduceSub, Nat.reduceLeDiff, Nat.zero_add, Nat.sub_zero, dm3, gDiv_ii _ 11 _ _ (by decide), gMod_ii _ _ _ _ l0]
    exact fin _ _ ok (Int.emod_nonneg _ (by omega)) (Int.emod_lt_of_pos _ l0)
theorem u_dr {sc : List Int} {d : D3} {lim : Int} {L : Sto} {P : Xv → Sto → Prop} (ok : DOk d) (l0 : 0 < lim) (l1 : lim < 1000) (h : ∀ v d', DOk d' → 0 ≤ v → v < lim → P (.d (.int v)) (dM sc d' ++ L)) :
    pfPre 1 pf_dr [.c 0, .d (.int lim)] (dM sc d ++ L) P := by
  have below : ∀ d', belowM 1 (dM sc d') = true := fun d' => rfl
  refine ⟨by simp [dM], rfl, below _, sc, d, lim, rfl, rfl, ok, l0, l1, fun v d' a b c => ⟨rfl, rfl, below _, ?_⟩⟩
  exact h v d' a b c
theorem u_dr0 {sc : List Int} {d : D3} {lim : Int} {P : Xv → Sto → Prop} (ok : DOk d) (l0 : 0 < lim) (l1 : lim < 1000) (h : ∀ v d', DOk d' → 0 ≤ v → v < lim → P (.d (.int v)) (dM sc d')) :
    pfPre 1 pf_dr [.c 0, .d (.int lim)] (dM sc d) P := by
  have := u_dr (L := []) (P := P) ok l0 l1 fun v d' a b c => by rw [List.append_nil]; exact h v d' a b c
  rwa [List.append_nil] at this
def uvw : List Str := ["u", "v", "w"]
/-! ### kinds and ranges as they are drawn -/
def pf_kinds : PF := fun xs M R => ∃ sc d s ks, xs = [.c 0, .d s] ∧ M = dM sc d ∧ DOk d ∧ Is s ks ∧ Gk ks ∧ 0 < ks.length ∧ ∀ (l : List Str) (d' : D3), DOk d' → (∀ x ∈ l, x ∈ ks.map (·.1)) → l.length ≤ 4 → R (.d (.list (l.map .str))) (dM sc d')
theorem ok_kinds (D : DefOk K mg "_law_kinds" ["draws", "state"] (defArgs s__law_kinds) (defBody s__law_kinds) (defScope s__law_kinds)) (Z : Fx K mg base) (C1 : Cal P w K mg base 1 "_law_draw" ["draws", "limit"] (pfPre 1 pf_dr)) : Cal P w K mg base 2 "_law_kinds" ["draws", "state"] (pfPre 1 pf_kinds) := by
  refine Cal.mkPre (k := 1) D sc__law_kinds (sd__law_kinds Z C1) (fun xs M R ⟨_, _, _, _, e, _⟩ => by rw [e]; rfl) (fun xs M R h => ?_)
  obtain ⟨sc, d, s, ks, rfl, rfl, ok, I, g, hp, h⟩ := h
  have l7 := g.ln
  unfold b__law_kinds
  simp only [startX, rSeq, rAsg, rgName, rVar, rC, rBin, rD, rCl, rFz, rTb, rTr, rIf, rIfS, rRet, rRetN, rNx, rCons, rNil, rTup, rTupC, rLst, rApp, rAppF, rCall, rPar, rNeg, rNot, rAnd, rOr, rChain, rLc, riSeq, rYes, rDrop, rFor, rApd, rExt, rgTup, rgCons, rgNil, rgSub, rIsiX, riRng1, riRng2, slot_z, slot_s, set_z, set_s, at0, at1, at2, at3, at4, at5, at6, dX_c, dX_n, gIx_tup, gIx_lst, gEq_ii, gEq_ss, gNe_ii, gNe_ss, gAdd_ii, gSub_ii, gLt_ii, gLe_ii, gGt_ii, gGe_ii, gIsN_d, gLen_l, gMax_ii, gMin_ii, gInt_b, gInt_i, gAbs_i, gApd_last, isLst_last, boX_b, tru_l, fzL_dX, fzL_n, fzL_cd, Option.map_some, fz_d, pk_d, ifS_some, hd_int, hd_str, hd_bool, hd_none, hd_list, hd_tuple, wipeX, List.map_cons, List.map_nil, List.length_cons, List.length_nil, List.replicate_succ, List.replicate_zero, List.cons_append, List.nil_append, List.append_nil, decide_eq_true_eq, if_true, if_false, Nat.reduceAdd, Nat.reduceSub, Nat.reduceLeDiff, Nat.zero_add, Nat.sub_zero, N__law_kinds]
  refine u_dr0 ok (by decide) (by decide) fun v d ok v0 v1 => ?_
  simp only [startX, rSeq, rAsg, rgName, rVar, rC, rBin, rD, rCl, rFz, rTb, rTr, rIf, rIfS, rRet, rRetN, rNx, rCons, rNil, rTup, rTupC, rLst, rApp, rAppF, rCall, rPar, rNeg, rNot, rAnd, rOr, rChain, rLc, riSeq, rYes, rDrop, rFor, rApd, rExt, rgTup, rgCons, rgNil, rgSub, rIsiX, riRng1, riRng2, slot_z, slot_s, set_z, set_s, at0, at1, at2, at3, at4, at5, at6, dX_c, dX_n, gIx_tup, gIx_lst, gEq_ii, gEq_ss, gNe_ii, gNe_ss, gAdd_ii, gSub_ii, gLt_ii, gLe_ii, gGt_ii, gGe_ii, gIsN_d, gLen_l, gMax_ii, gMin_ii, gInt_b, gInt_i, gAbs_i, gApd_last, isLst_last, boX_b, tru_l, fzL_dX, fzL_n, fzL_cd, Option.map_some, fz_d, pk_d, ifS_some, hd_int, hd_str, hd_bool, hd_none, hd_list, hd_tuple, wipeX, List.map_cons, List.map_nil, List.length_cons, List.length_nil, List.replicate_succ, List.replicate_zero, List.cons_append, List.nil_append, List.append_nil, decide_eq_true_eq, if_true, if_false, Nat.reduceAdd, Nat.reduceSub, Nat.reduceLeDiff, Nat.zero_add, Nat.sub_zero, rSSet]
  refine ⟨by omega, by omega, ?_⟩
  refine lcW_inv (fun xs acc M => ∃ (n : Nat) (lo : Int) (l : List Str) (d : D3), xs = rangeX lo n ∧ l.length + n ≤ 4 ∧ acc = dX (l.map .str) ∧ (∀ x ∈ l, x ∈ ks.map (·.1)) ∧ M = dM sc d ∧ DOk d) ?_ ?_ _ _ _ ⟨v.toNat, 0, [], d, rfl, by simp; omega, rfl, (by intro x hx; cases hx), rfl, ok⟩
  · rintro x xs acc M ⟨n, lo, l, d, e, ll, rfl, hl, rfl, ok⟩ C hC
    obtain ⟨n, rfl⟩ : ∃ n', n = n' + 1 := by
      cases n with
      | zero => cases e
      | succ n => exact ⟨n, rfl⟩
    rw [rangeX_succ] at e
    cases e
    refine ⟨trivial, ?_⟩
    simp only [startX, rSeq, rAsg, rgName, rVar, rC, rBin, rD, rCl, rFz, rTb, rTr, rIf, rIfS, rRet, rRetN, rNx, rCons, rNil, rTup, rTupC, rLst, rApp, rAppF, rCall, rPar, rNeg, rNot, rAnd, rOr, rChain, rLc, riSeq, rYes, rDrop, rFor, rApd, rExt, rgTup, rgCons, rgNil, rgSub, rIsiX, riRng1, riRng2, slot_z, slot_s, set_z, set_s, at0, at1, at2, at3, at4, at5, at6, dX_c, dX_n, gIx_tup, gIx_lst, gEq_ii, gEq_ss, gNe_ii, gNe_ss, gAdd_ii, gSub_ii, gLt_ii, gLe_ii, gGt_ii, gGe_ii, gIsN_d, gLen_l, gMax_ii, gMin_ii, gInt_b, gInt_i, gAbs_i, gApd_last, isLst_last, boX_b, tru_l, fzL_dX, fzL_n, fzL_cd, Option.map_some, fz_d, pk_d, ifS_some, hd_int, hd_str, hd_bool, hd_none, hd_list, hd_tuple, wipeX, List.map_cons, List.map_nil, List.length_cons, List.length_nil, List.replicate_succ, List.replicate_zero, List.cons_append, List.nil_append, List.append_nil, decide_eq_true_eq, if_true, if_false, Nat.reduceAdd, Nat.reduceSub, Nat.reduceLeDiff, Nat.zero_add, Nat.sub_zero, gIx_fld I.fk, gLen_l, List.length_map]
    refine u_dr0 ok (by omega) (by omega) fun v d ok v0 v1 => ?_
    obtain ⟨p, hp, ep⟩ := at_in ksD v0 v1
    simp only [startX, rSeq, rAsg, rgName, rVar, rC, rBin, rD, rCl, rFz, rTb, rTr, rIf, rIfS, rRet, rRetN, rNx, rCons, rNil, rTup, rTupC, rLst, rApp, rAppF, rCall, rPar, rNeg, rNot, rAnd, rOr, rChain, rLc, riSeq, rYes, rDrop, rFor, rApd, rExt, rgTup, rgCons, rgNil, rgSub, rIsiX, riRng1, riRng2, slot_z, slot_s, set_z, set_s, at0, at1, at2, at3, at4, at5, at6, dX_c, dX_n, gIx_tup, gIx_lst, gEq_ii, gEq_ss, gNe_ii, gNe_ss, gAdd_ii, gSub_ii, gLt_ii, gLe_ii, gGt_ii, gGe_ii, gIsN_d, gLen_l, gMax_ii, gMin_ii, gInt_b, gInt_i, gAbs_i, gApd_last, isLst_last, boX_b, tru_l, fzL_dX, fzL_n, fzL_cd, Option.map_some, fz_d, pk_d, ifS_some, hd_int, hd_str, hd_bool, hd_none, hd_list, hd_tuple, wipeX, List.map_cons, List.map_nil, List.length_cons, List.length_nil, List.replicate_succ, List.replicate_zero, List.cons_append, List.nil_append, List.append_nil, decide_eq_true_eq, if_true, if_false, Nat.reduceAdd, Nat.reduceSub, Nat.reduceLeDiff, Nat.zero_add, Nat.sub_zero, ep, ksD]
    refine ⟨by rw [sizeLine_eq]; omega, hC _ _ ⟨n, lo + 1, l ++ [p.1], d, rfl, by simp; omega, by simp [dX], fun x hx => ?_, rfl, ok⟩⟩
    rcases List.mem_append.mp hx with z | z
    · exact hl x z
    · rw [List.mem_singleton.mp z]; exact List.mem_map.mpr ⟨p, hp, rfl⟩
  · rintro acc M ⟨n, lo, l, d, e, ll, rfl, hl, rfl, ok⟩
    refine ⟨trivial, ?_⟩
    simp only [startX, rSeq, rAsg, rgName, rVar, rC, rBin, rD, rCl, rFz, rTb, rTr, rIf, rIfS, rRet, rRetN, rNx, rCons, rNil, rTup, rTupC, rLst, rApp, rAppF, rCall, rPar, rNeg, rNot, rAnd, rOr, rChain, rLc, riSeq, rYes, rDrop, rFor, rApd, rExt, rgTup, rgCons, rgNil, rgSub, rIsiX, riRng1, riRng2, slot_z, slot_s, set_z, set_s, at0, at1, at2, at3, at4, at5, at6, dX_c, dX_n, gIx_tup, gIx_lst, gEq_ii, gEq_ss, gNe_ii, gNe_ss, gAdd_ii, gSub_ii, gLt_ii, gLe_ii, gGt_ii, gGe_ii, gIsN_d, gLen_l, gMax_ii, gMin_ii, gInt_b, gInt_i, gAbs_i, gApd_last, isLst_last, boX_b, tru_l, fzL_dX, fzL_n, fzL_cd, Option.map_some, fz_d, pk_d, ifS_some, hd_int, hd_str, hd_bool, hd_none, hd_list, hd_tuple, wipeX, List.map_cons, List.map_nil, List.length_cons, List.length_nil, List.replicate_succ, List.replicate_zero, List.cons_append, List.nil_append, List.append_nil, decide_eq_true_eq, if_true, if_false, Nat.reduceAdd, Nat.reduceSub, Nat.reduceLeDiff, Nat.zero_add, Nat.sub_zero, List.nil_append]
    rw [keysX_strs]
    refine ifS_mk rfl ⟨?_, ?_, ?_⟩
    · rw [List.length_map]
      have : scanBound = 4096 := rfl
      omega
    · rw [List.map_map]; exact strs_all l
    rw [uniqK_strs, sortD_strs]
    try simp only [startX, rSeq, rAsg, rgName, rVar, rC, rBin, rD, rCl, rFz, rTb, rTr, rIf, rIfS, rRet, rRetN, rNx, rCons, rNil, rTup, rTupC, rLst, rApp, rAppF, rCall, rPar, rNeg, rNot, rAnd, rOr, rChain, rLc, riSeq, rYes, rDrop, rFor, rApd, rExt, rgTup, rgCons, rgNil, rgSub, rIsiX, riRng1, riRng2, slot_z, slot_s, set_z, set_s, at0, at1, at2, at3, at4, at5, at6, dX_c, dX_n, gIx_tup, gIx_lst, gEq_ii, gEq_ss, gNe_ii, gNe_ss, gAdd_ii, gSub_ii, gLt_ii, gLe_ii, gGt_ii, gGe_ii, gIsN_d, gLen_l, gMax_ii, gMin_ii, gInt_b, gInt_i, gAbs_i, gApd_last, isLst_last, boX_b, tru_l, fzL_dX, fzL_n, fzL_cd, Option.map_some, fz_d, pk_d, ifS_some, hd_int, hd_str, hd_bool, hd_none, hd_list, hd_tuple, wipeX, List.map_cons, List.map_nil, List.length_cons, List.length_nil, List.replicate_succ, List.replicate_zero, List.cons_append, List.nil_append, List.append_nil, decide_eq_true_eq, if_true, if_false, Nat.reduceAdd, Nat.reduceSub, Nat.reduceLeDiff, Nat.zero_add, Nat.sub_zero]
    refine ⟨Nat.le_refl 1, h (SU l) d ok (fun x hx => hl x (SU_mem.mp hx)) ?_⟩
    have := SU_len l
    omega
structure Gr (rg : List Rng) : Prop where
  nm : ∀ r ∈ rg, r.1 ∈ uvw
  nd : (rg.map (·.1)).Nodup
  bd : ∀ r ∈ rg, 0 ≤ r.2.1 ∧ r.2.1 < 9 ∧ r.2.1 ≤ r.2.2 ∧ r.2.2 < 20
theorem Gr.len {rg : List Rng} (h : Gr rg) : rg.length ≤ 3 := by
  have := len_le (l := rg.map (·.1)) (m := uvw) h.nd fun y hy => by
    obtain ⟨q, hq, rfl⟩ := List.mem_map.mp hy
    exact h.nm q hq
  rw [List.length_map] at this
  exact this
def pf_rgs : PF := fun xs M R => ∃ sc d, xs = [.c 0] ∧ M = dM sc d ∧ DOk d ∧ ∀ (rg : List Rng) (d' : D3), DOk d' → Gr rg → R (.d (.list (rg.map rgD))) (dM sc d')
theorem ok_rgs (D : DefOk K mg "_law_ranges" ["draws"] (defArgs s__law_ranges) (defBody s__law_ranges) (defScope s__law_ranges)) (Z : Fx K mg base) (C1 : Cal P w K mg base 1 "_law_draw" ["draws", "limit"] (pfPre 1 pf_dr)) : Cal P w K mg base 2 "_law_ranges" ["draws"] (pfPre 1 pf_rgs) := by
  refine Cal.mkPre (k := 1) D sc__law_ranges (sd__law_ranges Z C1) (fun xs M R ⟨_, _, e, _⟩ => by rw [e]; rfl) (fun xs M R h => ?_)
  obtain ⟨sc, d, rfl, rfl, ok, h⟩ := h
  have s0 : (0 : Nat) ≤ sizeLine := by decide
  have s2 : (2 : Nat) ≤ sizeLine := by decide
  have s3 : (3 : Nat) ≤ sizeLine := by decide
  unfold b__law_ranges
  simp only [startX, rAsg, rgName, rVar, rC, rBin, rD, rCl, rFz, rTb, rTr, rIf, rIfS, rRet, rRetN, rNx, rCons, rNil, rTup, rTupC, rLst, rApp, rAppF, rCall, rPar, rNeg, rNot, rAnd, rOr, rChain, rLc, riSeq, rYes, rDrop, rFor, rApd, rExt, rgTup, rgCons, rgNil, rgSub, rIsiX, riRng1, riRng2, slot_z, slot_s, set_z, set_s, at0, at1, at2, at3, at4, at5, at6, dX_c, dX_n, gIx_tup, gIx_lst, gEq_ii, gEq_ss, gNe_ii, gNe_ss, gAdd_ii, gSub_ii, gLt_ii, gLe_ii, gGt_ii, gGe_ii, gIsN_d, gLen_l, gMax_ii, gMin_ii, gInt_b, gInt_i, gAbs_i, gApd_last, isLst_last, boX_b, tru_l, fzL_dX, fzL_n, fzL_cd, Option.map_some, fz_d, pk_d, ifS_some, hd_int, hd_str, hd_bool, hd_none, hd_list, hd_tuple, wipeX, List.map_cons, List.map_nil, List.length_cons, List.length_nil, List.replicate_succ, List.replicate_zero, List.cons_append, List.nil_append, List.append_nil, decide_eq_true_eq, if_true, if_false, Nat.reduceAdd, Nat.reduceSub, Nat.reduceLeDiff, Nat.zero_add, Nat.sub_zero, N__law_ranges]
  refine seq_step ?_
  simp only [startX, rAsg, rgName, rVar, rC, rBin, rD, rCl, rFz, rTb, rTr, rIf, rIfS, rRet, rRetN, rNx, rCons, rNil, rTup, rTupC, rLst, rApp, rAppF, rCall, rPar, rNeg, rNot, rAnd, rOr, rChain, rLc, riSeq, rYes, rDrop, rFor, rApd, rExt, rgTup, rgCons, rgNil, rgSub, rIsiX, riRng1, riRng2, slot_z, slot_s, set_z, set_s, at0, at1, at2, at3, at4, at5, at6, dX_c, dX_n, gIx_tup, gIx_lst, gEq_ii, gEq_ss, gNe_ii, gNe_ss, gAdd_ii, gSub_ii, gLt_ii, gLe_ii, gGt_ii, gGe_ii, gIsN_d, gLen_l, gMax_ii, gMin_ii, gInt_b, gInt_i, gAbs_i, gApd_last, isLst_last, boX_b, tru_l, fzL_dX, fzL_n, fzL_cd, Option.map_some, fz_d, pk_d, ifS_some, hd_int, hd_str, hd_bool, hd_none, hd_list, hd_tuple, wipeX, List.map_cons, List.map_nil, List.length_cons, List.length_nil, List.replicate_succ, List.replicate_zero, List.cons_append, List.nil_append, List.append_nil, decide_eq_true_eq, if_true, if_false, Nat.reduceAdd, Nat.reduceSub, Nat.reduceLeDiff, Nat.zero_add, Nat.sub_zero]
  refine ⟨s0, ?_⟩
  refine seq_step ?_
  simp only [startX, rAsg, rgName, rVar, rC, rBin, rD, rCl, rFz, rTb, rTr, rIf, rIfS, rRet, rRetN, rNx, rCons, rNil, rTup, rTupC, rLst, rApp, rAppF, rCall, rPar, rNeg, rNot, rAnd, rOr, rChain, rLc, riSeq, rYes, rDrop, rFor, rApd, rExt, rgTup, rgCons, rgNil, rgSub, rIsiX, riRng1, riRng2, slot_z, slot_s, set_z, set_s, at0, at1, at2, at3, at4, at5, at6, dX_c, dX_n, gIx_tup, gIx_lst, gEq_ii, gEq_ss, gNe_ii, gNe_ss, gAdd_ii, gSub_ii, gLt_ii, gLe_ii, gGt_ii, gGe_ii, gIsN_d, gLen_l, gMax_ii, gMin_ii, gInt_b, gInt_i, gAbs_i, gApd_last, isLst_last, boX_b, tru_l, fzL_dX, fzL_n, fzL_cd, Option.map_some, fz_d, pk_d, ifS_some, hd_int, hd_str, hd_bool, hd_none, hd_list, hd_tuple, wipeX, List.map_cons, List.map_nil, List.length_cons, List.length_nil, List.replicate_succ, List.replicate_zero, List.cons_append, List.nil_append, List.append_nil, decide_eq_true_eq, if_true, if_false, Nat.reduceAdd, Nat.reduceSub, Nat.reduceLeDiff, Nat.zero_add, Nat.sub_zero]
  refine ⟨s3, ?_⟩
  refine loopW_inv (fun xs σ M => ∃ (pre rest : List Str) (rg : List Rng) (d : D3) (o2 o3 : Option Xv), xs = dX (rest.map .str) ∧ pre ++ rest = uvw ∧ (∀ r ∈ rg, r.1 ∈ pre) ∧ Gr rg ∧ M = dM sc d ++ [.lst (dX (rg.map rgD))] ∧ DOk d ∧
    σ = [some (.c 0), some (.c 1), o2, o3]) ?_ ?_ _ _ _
    ⟨[], uvw, [], d, _, _, rfl, rfl, (by intro x hx; cases hx), ⟨(by intro x hx; cases hx), List.nodup_nil, (by intro x hx; cases hx)⟩, rfl, ok, rfl⟩
  · rintro x xs σ M ⟨pre, rest, rg, d, o2, o3, e, ep, hr, gr, rfl, ok, rfl⟩ C hC
    obtain ⟨n, rest, rfl⟩ : ∃ a r, rest = a :: r := by
      cases rest with
      | nil => cases e
      | cons a r => exact ⟨a, r, rfl⟩
    rw [List.map_cons, dX_c] at e
    cases e
    have hn : n ∈ uvw := by rw [← ep]; exact List.mem_append_right _ List.mem_cons_self
    have nn : n ∉ pre := fun z => by
      have nd : uvw.Nodup := by decide +kernel
      rw [← ep, List.nodup_append] at nd
      exact nd.2.2 n z n List.mem_cons_self rfl
    have lr := gr.len
    refine ⟨trivial, ?_⟩
    simp only [startX, rSeq, rAsg, rgName, rVar, rC, rBin, rD, rCl, rFz, rTb, rTr, rIf, rIfS, rRet, rRetN, rNx, rCons, rNil, rTup, rTupC, rLst, rApp, rAppF, rCall, rPar, rNeg, rNot, rAnd, rOr, rChain, rLc, riSeq, rYes, rDrop, rFor, rApd, rExt, rgTup, rgCons, rgNil, rgSub, rIsiX, riRng1, riRng2, slot_z, slot_s, set_z, set_s, at0, at1, at2, at3, at4, at5, at6, dX_c, dX_n, gIx_tup, gIx_lst, gEq_ii, gEq_ss, gNe_ii, gNe_ss, gAdd_ii, gSub_ii, gLt_ii, gLe_ii, gGt_ii, gGe_ii, gIsN_d, gLen_l, gMax_ii, gMin_ii, gInt_b, gInt_i, gAbs_i, gApd_last, isLst_last, boX_b, tru_l, fzL_dX, fzL_n, fzL_cd, Option.map_some, fz_d, pk_d, ifS_some, hd_int, hd_str, hd_bool, hd_none, hd_list, hd_tuple, wipeX, List.map_cons, List.map_nil, List.length_cons, List.length_nil, List.replicate_succ, List.replicate_zero, List.cons_append, List.nil_append, List.append_nil, decide_eq_true_eq, if_true, if_false, Nat.reduceAdd, Nat.reduceSub, Nat.reduceLeDiff, Nat.zero_add, Nat.sub_zero]
    refine u_dr ok (by decide) (by decide) fun v d ok v0 v1 => ?_
    simp only [startX, rSeq, rAsg, rgName, rVar, rC, rBin, rD, rCl, rFz, rTb, rTr, rIf, rIfS, rRet, rRetN, rNx, rCons, rNil, rTup, rTupC, rLst, rApp, rAppF, rCall, rPar, rNeg, rNot, rAnd, rOr, rChain, rLc, riSeq, rYes, rDrop, rFor, rApd, rExt, rgTup, rgCons, rgNil, rgSub, rIsiX, riRng1, riRng2, slot_z, slot_s, set_z, set_s, at0, at1, at2, at3, at4, at5, at6, dX_c, dX_n, gIx_tup, gIx_lst, gEq_ii, gEq_ss, gNe_ii, gNe_ss, gAdd_ii, gSub_ii, gLt_ii, gLe_ii, gGt_ii, gGe_ii, gIsN_d, gLen_l, gMax_ii, gMin_ii, gInt_b, gInt_i, gAbs_i, gApd_last, isLst_last, boX_b, tru_l, fzL_dX, fzL_n, fzL_cd, Option.map_some, fz_d, pk_d, ifS_some, hd_int, hd_str, hd_bool, hd_none, hd_list, hd_tuple, wipeX, List.map_cons, List.map_nil, List.length_cons, List.length_nil, List.replicate_succ, List.replicate_zero, List.cons_append, List.nil_append, List.append_nil, decide_eq_true_eq, if_true, if_false, Nat.reduceAdd, Nat.reduceSub, Nat.reduceLeDiff, Nat.zero_add, Nat.sub_zero]
    have ep' : (pre ++ [n]) ++ rest = uvw := by rw [← ep]; simp
    have hr' : ∀ r ∈ rg, r.1 ∈ pre ++ [n] := fun r q => List.mem_append_left _ (hr r q)
    split
    · refine u_dr ok (by decide) (by decide) fun v2 d ok a0 a1 => ?_
      simp only [startX, rSeq, rAsg, rgName, rVar, rC, rBin, rD, rCl, rFz, rTb, rTr, rIf, rIfS, rRet, rRetN, rNx, rCons, rNil, rTup, rTupC, rLst, rApp, rAppF, rCall, rPar, rNeg, rNot, rAnd, rOr, rChain, rLc, riSeq, rYes, rDrop, rFor, rApd, rExt, rgTup, rgCons, rgNil, rgSub, rIsiX, riRng1, riRng2, slot_z, slot_s, set_z, set_s, at0, at1, at2, at3, at4, at5, at6, dX_c, dX_n, gIx_tup, gIx_lst, gEq_ii, gEq_ss, gNe_ii, gNe_ss, gAdd_ii, gSub_ii, gLt_ii, gLe_ii, gGt_ii, gGe_ii, gIsN_d, gLen_l, gMax_ii, gMin_ii, gInt_b, gInt_i, gAbs_i, gApd_last, isLst_last, boX_b, tru_l, fzL_dX, fzL_n, fzL_cd, Option.map_some, fz_d, pk_d, ifS_some, hd_int, hd_str, hd_bool, hd_none, hd_list, hd_tuple, wipeX, List.map_cons, List.map_nil, List.length_cons, List.length_nil, List.replicate_succ, List.replicate_zero, List.cons_append, List.nil_append, List.append_nil, decide_eq_true_eq, if_true, if_false, Nat.reduceAdd, Nat.reduceSub, Nat.reduceLeDiff, Nat.zero_add, Nat.sub_zero]
      refine ⟨trivial, ?_⟩
      refine u_dr ok (by decide) (by decide) fun v3 d ok b0 b1 => ?_
      simp only [startX, rSeq, rAsg, rgName, rVar, rC, rBin, rD, rCl, rFz, rTb, rTr, rIf, rIfS, rRet, rRetN, rNx, rCons, rNil, rTup, rTupC, rLst, rApp, rAppF, rCall, rPar, rNeg, rNot, rAnd, rOr, rChain, rLc, riSeq, rYes, rDrop, rFor, rApd, rExt, rgTup, rgCons, rgNil, rgSub, rIsiX, riRng1, riRng2, slot_z, slot_s, set_z, set_s, at0, at1, at2, at3, at4, at5, at6, dX_c, dX_n, gIx_tup, gIx_lst, gEq_ii, gEq_ss, gNe_ii, gNe_ss, gAdd_ii, gSub_ii, gLt_ii, gLe_ii, gGt_ii, gGe_ii, gIsN_d, gLen_l, gMax_ii, gMin_ii, gInt_b, gInt_i, gAbs_i, gApd_last, isLst_last, boX_b, tru_l, fzL_dX, fzL_n, fzL_cd, Option.map_some, fz_d, pk_d, ifS_some, hd_int, hd_str, hd_bool, hd_none, hd_list, hd_tuple, wipeX, List.map_cons, List.map_nil, List.length_cons, List.length_nil, List.replicate_succ, List.replicate_zero, List.cons_append, List.nil_append, List.append_nil, decide_eq_true_eq, if_true, if_false, Nat.reduceAdd, Nat.reduceSub, Nat.reduceLeDiff, Nat.zero_add, Nat.sub_zero]
      refine ⟨s2, ?_⟩
      refine u_dr ok (by decide) (by decide) fun v4 d ok c0 c1 => ?_
      have fin : ∀ hi : Int, v2 ≤ hi → hi < 20 → gApd (.c 1) (.d (rgD (n, v2, hi))) (dM sc d ++ [.lst (dX (rg.map rgD))]) fun x M => C [some (.c 0), some (.c 1), some (.d (.str n)), some (.d (.int v2))] M := fun hi h1 h2 => by
        show ((dX (rg.map rgD)).length < sizeLine ∧ C _ (dM sc d ++ [.lst (dX (rg.map rgD) ++ [.d (rgD (n, v2, hi))])]))
        refine ⟨by rw [List.length_map, List.length_map, sizeLine_eq]; omega, ?_⟩
        rw [show dX (rg.map rgD) ++ [.d (rgD (n, v2, hi))] = dX ((rg ++ [(n, v2, hi)]).map rgD) by simp [dX]]
        refine hC _ _ ⟨pre ++ [n], rest, rg ++ [(n, v2, hi)], d, _, _, rfl, ep', fun r hr2 => ?_, ⟨fun r hr2 => ?_, ?_, fun r hr2 => ?_⟩, rfl, ok, rfl⟩
        · rcases List.mem_append.mp hr2 with z | z
          · exact hr' r z
          · rw [List.mem_singleton.mp z]; exact List.mem_append_right _ (List.mem_singleton.mpr rfl)
        · rcases List.mem_append.mp hr2 with z | z
          · exact gr.nm r z
          · rw [List.mem_singleton.mp z]; exact hn
        · rw [List.map_append, List.nodup_append]
          refine ⟨gr.nd, by simp, fun a ha b hb e => nn ?_⟩
          simp at hb
          subst hb
          obtain ⟨r, hr3, e2⟩ := List.mem_map.mp ha
          rw [← e, ← e2]
          exact hr r hr3
        · rcases List.mem_append.mp hr2 with z | z
          · exact gr.bd r z
          · rw [List.mem_singleton.mp z]; exact ⟨a0, a1, h1, h2⟩
      have : v4 = 0 ∨ v4 = 1 := by omega
      rcases this with rfl | rfl
      · simp only [startX, rSeq, rAsg, rgName, rVar, rC, rBin, rD, rCl, rFz, rTb, rTr, rIf, rIfS, rRet, rRetN, rNx, rCons, rNil, rTup, rTupC, rLst, rApp, rAppF, rCall, rPar, rNeg, rNot, rAnd, rOr, rChain, rLc, riSeq, rYes, rDrop, rFor, rApd, rExt, rgTup, rgCons, rgNil, rgSub, rIsiX, riRng1, riRng2, slot_z, slot_s, set_z, set_s, at0, at1, at2, at3, at4, at5, at6, dX_c, dX_n, gIx_tup, gIx_lst, gEq_ii, gEq_ss, gNe_ii, gNe_ss, gAdd_ii, gSub_ii, gLt_ii, gLe_ii, gGt_ii, gGe_ii, gIsN_d, gLen_l, gMax_ii, gMin_ii, gInt_b, gInt_i, gAbs_i, gApd_last, isLst_last, boX_b, tru_l, fzL_dX, fzL_n, fzL_cd, Option.map_some, fz_d, pk_d, ifS_some, hd_int, hd_str, hd_bool, hd_none, hd_list, hd_tuple, wipeX, List.map_cons, List.map_nil, List.length_cons, List.length_nil, List.replicate_succ, List.replicate_zero, List.cons_append, List.nil_append, List.append_nil, decide_eq_true_eq, if_true, if_false, Nat.reduceAdd, Nat.reduceSub, Nat.reduceLeDiff, Nat.zero_add, Nat.sub_zero]
        exact ⟨s3, fin _ (by omega) (by omega)⟩
      · simp only [startX, rSeq, rAsg, rgName, rVar, rC, rBin, rD, rCl, rFz, rTb, rTr, rIf, rIfS, rRet, rRetN, rNx, rCons, rNil, rTup, rTupC, rLst, rApp, rAppF, rCall, rPar, rNeg, rNot, rAnd, rOr, rChain, rLc, riSeq, rYes, rDrop, rFor, rApd, rExt, rgTup, rgCons, rgNil, rgSub, rIsiX, riRng1, riRng2, slot_z, slot_s, set_z, set_s, at0, at1, at2, at3, at4, at5, at6, dX_c, dX_n, gIx_tup, gIx_lst, gEq_ii, gEq_ss, gNe_ii, gNe_ss, gAdd_ii, gSub_ii, gLt_ii, gLe_ii, gGt_ii, gGe_ii, gIsN_d, gLen_l, gMax_ii, gMin_ii, gInt_b, gInt_i, gAbs_i, gApd_last, isLst_last, boX_b, tru_l, fzL_dX, fzL_n, fzL_cd, Option.map_some, fz_d, pk_d, ifS_some, hd_int, hd_str, hd_bool, hd_none, hd_list, hd_tuple, wipeX, List.map_cons, List.map_nil, List.length_cons, List.length_nil, List.replicate_succ, List.replicate_zero, List.cons_append, List.nil_append, List.append_nil, decide_eq_true_eq, if_true, if_false, Nat.reduceAdd, Nat.reduceSub, Nat.reduceLeDiff, Nat.zero_add, Nat.sub_zero]
        exact ⟨s3, fin _ (by omega) (by omega)⟩
    · exact hC _ _ ⟨pre ++ [n], rest, rg, d, _, _, rfl, ep', hr', gr, rfl, ok, rfl⟩
  · rintro σ M ⟨pre, rest, rg, d, o2, o3, e, ep, hr, gr, rfl, ok, rfl⟩
    refine ⟨trivial, ?_⟩
    simp only [startX, rSeq, rAsg, rgName, rVar, rC, rBin, rD, rCl, rFz, rTb, rTr, rIf, rIfS, rRet, rRetN, rNx, rCons, rNil, rTup, rTupC, rLst, rApp, rAppF, rCall, rPar, rNeg, rNot, rAnd, rOr, rChain, rLc, riSeq, rYes, rDrop, rFor, rApd, rExt, rgTup, rgCons, rgNil, rgSub, rIsiX, riRng1, riRng2, slot_z, slot_s, set_z, set_s, at0, at1, at2, at3, at4, at5, at6, dX_c, dX_n, gIx_tup, gIx_lst, gEq_ii, gEq_ss, gNe_ii, gNe_ss, gAdd_ii, gSub_ii, gLt_ii, gLe_ii, gGt_ii, gGe_ii, gIsN_d, gLen_l, gMax_ii, gMin_ii, gInt_b, gInt_i, gAbs_i, gApd_last, isLst_last, boX_b, tru_l, fzL_dX, fzL_n, fzL_cd, Option.map_some, fz_d, pk_d, ifS_some, hd_int, hd_str, hd_bool, hd_none, hd_list, hd_tuple, wipeX, List.map_cons, List.map_nil, List.length_cons, List.length_nil, List.replicate_succ, List.replicate_zero, List.cons_append, List.nil_append, List.append_nil, decide_eq_true_eq, if_true, if_false, Nat.reduceAdd, Nat.reduceSub, Nat.reduceLeDiff, Nat.zero_add, Nat.sub_zero]
    refine ifS_mk (fz_lst rfl) ?_
    exact ⟨Nat.le_add_left 1 _, h rg d ok gr⟩
end K11

set_option Elab.async false
set_option linter.all false
set_option maxRecDepth 100000
set_option maxHeartbeats 8000000
namespace K11
open PySem PySem.Spec PyProof.Rows L2 G
variable {P : Program} {w : World} {K : PySem.W.Frag} {mg : Str → Option Value} {base : Heap} {k : Nat}
/-! ### the forest -/
def nm7 : List Str := ["a", "b", "c", "d", "e", "f", "g"]
def ky11 : List Str := ["closed", "lands", "documents", "applications", "priors", "cites", "fields", "versions", "fees", "transfers", "registered"]
def ky7 : List Str := ["licences", "products", "drops", "oppositions", "bends", "rates", "sales"]
def kv0 (ks : Ks) : List (Key × PyData) := [(.inr "kinds", .list (ks.map ksD)), (.inr "quantities", .list [.str "u", .str "v", .str "w"])]
def emp (l : List Str) : List (Key × PyData) := l.map fun x => (.inr x, .list [])
def foD (ks : Ks) : PyData := .dict ((kv0 ks ++ emp (ky11 ++ ky7)).map fun p => (kD p.1, p.2))
theorem is_fo (ks : Ks) : Is (foD ks) ks := ⟨by kernel_rfl⟩
theorem xP_map (l : List (Key × PyData)) : xP l = l.map fun p => (p.1, Xv.d p.2) := rfl
theorem put_emp {ks : Ks} {pre : List Str} {x : Str} {rest : List Str} (e : pre ++ x :: rest = ky11 ++ ky7) : putX (xP (kv0 ks ++ emp pre)) (.inr x) (.d (.list [])) = xP (kv0 ks ++ emp (pre ++ [x])) := by
  have nd : ((["kinds", "quantities"] : List Str) ++ (ky11 ++ ky7)).Nodup := by decide +kernel
  rw [← e, ← List.append_assoc] at nd
  rw [putX_new]
  · simp [xP, emp]
  · intro z
    have hz : x ∈ ((["kinds", "quantities"] : List Str) ++ pre) := by
      unfold xP at z
      rw [List.map_map] at z
      obtain ⟨p, hp, e2⟩ := List.mem_map.mp z
      have e2 : p.1 = .inr x := e2
      rcases List.mem_append.mp hp with h | h
      · rcases List.mem_cons.mp h with rfl | h
        · have : ("kinds" : Str) = x := Sum.inr.inj e2
          rw [← this]; simp
        · rw [List.mem_singleton.mp h] at e2
          have : ("quantities" : Str) = x := Sum.inr.inj e2
          rw [← this]; simp
      · obtain ⟨y, hy, rfl⟩ := List.mem_map.mp h
        have : y = x := Sum.inr.inj e2
        rw [← this]
        exact List.mem_append_right _ hy
    rw [List.nodup_append] at nd
    exact nd.2.2 x hz x List.mem_cons_self rfl
def pf_for : PF := fun xs M R => ∃ sc d, xs = [.c 0] ∧ M = dM sc d ∧ DOk d ∧ ∀ (ks : Ks) (d' : D3), DOk d' → Gk ks → 0 < ks.length → (∀ p ∈ ks, p.1 ∈ nm7) → R (.d (foD ks)) (dM sc d')
theorem gSet_st {M : Sto} {j : Nat} {ks : Ks} {pre : List Str} {x : Str} {rest : List Str} (e : pre ++ x :: rest = ky11 ++ ky7) (em : M[j]? = some (.dic (xP (kv0 ks ++ emp pre)))) {Q : Sto → Prop} (q : Q (M.set j (.dic (xP (kv0 ks ++ emp (pre ++ [x])))))) : gSet (.c j) (.d (.str x)) (.d (.list [])) M Q := by
  have l := congrArg List.length e
  rw [List.length_append] at l
  have l2 : (ky11 ++ ky7).length = 18 := by decide
  unfold gSet
  simp only [em, hd_str]
  refine ifS_mk (show keyOf (.str x) = some (.inr x) from rfl) ⟨?_, ?_⟩
  · unfold xP emp kv0
    simp
    rw [sizeLine_eq]; omega
  · rw [put_emp e]; exact q
theorem kv0_merge (ks : Ks) : mergeX [] [((.inr (Str.ofString "kinds") : Key), Xv.d (.list (ks.map ksD))), (.inr (Str.ofString "quantities"), .d (.list [.str (Str.ofString "u"), .str (Str.ofString "v"), .str (Str.ofString "w")]))] = xP (kv0 ks ++ emp []) := by
  have := mergeX_nodup (kvs := [((.inr (Str.ofString "kinds") : Key), Xv.d (.list (ks.map ksD))), (.inr (Str.ofString "quantities"), .d (.list [.str (Str.ofString "u"), .str (Str.ofString "v"), .str (Str.ofString "w")]))]) (acc := []) (show ([.inr (Str.ofString "kinds"), .inr (Str.ofString "quantities")] : List Key).Nodup by decide +kernel)
  rw [this]
  rfl
theorem len_dm (sc : List Int) (d : D3) : (dM sc d).length = 1 := rfl
theorem cut7 {v : Int} (v0 : 0 ≤ v) (v1 : v < 7) : ∃ T : List Str, cutX [Xv.d (.str (Str.ofString "a")), .d (.str (Str.ofString "b")), .d (.str (Str.ofString "c")), .d (.str (Str.ofString "d")), .d (.str (Str.ofString "e")), .d (.str (Str.ofString "f")), .d (.str (Str.ofString "g"))] none (some (1 + v)) = dX (T.map .str) ∧ (∀ x ∈ T, x ∈ nm7) ∧ T.Nodup ∧ 0 < T.length ∧ T.length ≤ 7 := by
  have : v = 0 ∨ v = 1 ∨ v = 2 ∨ v = 3 ∨ v = 4 ∨ v = 5 ∨ v = 6 := by omega
  rcases this with rfl | rfl | rfl | rfl | rfl | rfl | rfl
  · exact ⟨nm7.take 1, rfl, by decide +kernel, by decide +kernel, by decide +kernel, by decide +kernel⟩
  · exact ⟨nm7.take 2, rfl, by decide +kernel, by decide +kernel, by decide +kernel, by decide +kernel⟩
  · exact ⟨nm7.take 3, rfl, by decide +kernel, by decide +kernel, by decide +kernel, by decide +kernel⟩
  · exact ⟨nm7.take 4, rfl, by decide +kernel, by decide +kernel, by decide +kernel, by decide +kernel⟩
  · exact ⟨nm7.take 5, rfl, by decide +kernel, by decide +kernel, by decide +kernel, by decide +kernel⟩
  · exact ⟨nm7.take 6, rfl, by decide +kernel, by decide +kernel, by decide +kernel, by decide +kernel⟩
  · exact ⟨nm7.take 7, rfl, by decide +kernel, by decide +kernel, by decide +kernel, by decide +kernel⟩
theorem at_ix {α : Type} {xs : List α} (enc : α → PyData) {v : Int} (h0 : 0 ≤ v) (h1 : v < xs.length) : ∃ (j : Nat) (a : α), j < xs.length ∧ xs[j]? = some a ∧ atI (dX (xs.map enc)) v = some (.d (enc a)) := by
  have hl : v.toNat < xs.length := by omega
  refine ⟨v.toNat, xs[v.toNat], hl, List.getElem?_eq_getElem hl, ?_⟩
  have e : ((v.toNat : Nat) : Int) = v := by omega
  have := L2.atI_nat (xs := dX (xs.map enc)) (j := v.toNat) (v := .d (enc xs[v.toNat])) (by simp [dX, hl])
  rwa [e] at this
theorem keyX_s (x : Str) : keyX (.d (.str x)) = some (.inr x) := rfl
theorem ok_for (D : DefOk K mg "_law_forest" ["draws"] (defArgs s__law_forest) (defBody s__law_forest) (defScope s__law_forest)) (Z : Fx K mg base) (C1 : Cal P w K mg base 1 "_law_draw" ["draws", "limit"] (pfPre 1 pf_dr)) : Cal P w K mg base 2 "_law_forest" ["draws"] (pfPre 1 pf_for) := by
  refine Cal.mkPre (k := 1) D sc__law_forest (sd__law_forest Z C1) (fun xs M R ⟨_, _, e, _⟩ => by rw [e]; rfl) (fun xs M R h => ?_)
  obtain ⟨sc, d, rfl, rfl, ok, h⟩ := h
  have s0 : (0 : Nat) ≤ sizeLine := by decide
  have s2 : (2 : Nat) ≤ sizeLine := by decide
  have s3 : (3 : Nat) ≤ sizeLine := by decide
  have s7 : (7 : Nat) ≤ sizeLine := by decide
  have s11 : (11 : Nat) ≤ sizeLine := by decide
  unfold b__law_forest
  simp only [startX, rAsg, rgName, rVar, rC, rBin, rD, rCl, rFz, rTb, rTr, rIf, rIfS, rRet, rRetN, rNx, rCons, rNil, rTup, rTupC, rLst, rApp, rAppF, rCall, rPar, rNeg, rNot, rAnd, rOr, rChain, rLc, riSeq, rYes, rDrop, rFor, rApd, rExt, rgTup, rgCons, rgNil, rgSub, rIsiX, riRng1, riRng2, slot_z, slot_s, set_z, set_s, at0, at1, at2, at3, at4, at5, at6, dX_c, dX_n, gIx_tup, gIx_lst, gEq_ii, gEq_ss, gNe_ii, gNe_ss, gAdd_ii, gSub_ii, gLt_ii, gLe_ii, gGt_ii, gGe_ii, gIsN_d, gLen_l, gMax_ii, gMin_ii, gInt_b, gInt_i, gAbs_i, gApd_last, isLst_last, boX_b, tru_l, fzL_dX, fzL_n, fzL_cd, Option.map_some, fz_d, pk_d, ifS_some, hd_int, hd_str, hd_bool, hd_none, hd_list, hd_tuple, wipeX, List.map_cons, List.map_nil, List.length_cons, List.length_nil, List.replicate_succ, List.replicate_zero, List.cons_append, List.nil_append, List.append_nil, decide_eq_true_eq, if_true, if_false, Nat.reduceAdd, Nat.reduceSub, Nat.reduceLeDiff, Nat.zero_add, Nat.sub_zero, N__law_forest]
  refine seq_step ?_
  simp only [startX, rAsg, rgName, rVar, rC, rBin, rD, rCl, rFz, rTb, rTr, rIf, rIfS, rRet, rRetN, rNx, rCons, rNil, rTup, rTupC, rLst, rApp, rAppF, rCall, rPar, rNeg, rNot, rAnd, rOr, rChain, rLc, riSeq, rYes, rDrop, rFor, rApd, rExt, rgTup, rgCons, rgNil, rgSub, rIsiX, riRng1, riRng2, slot_z, slot_s, set_z, set_s, at0, at1, at2, at3, at4, at5, at6, dX_c, dX_n, gIx_tup, gIx_lst, gEq_ii, gEq_ss, gNe_ii, gNe_ss, gAdd_ii, gSub_ii, gLt_ii, gLe_ii, gGt_ii, gGe_ii, gIsN_d, gLen_l, gMax_ii, gMin_ii, gInt_b, gInt_i, gAbs_i, gApd_last, isLst_last, boX_b, tru_l, fzL_dX, fzL_n, fzL_cd, Option.map_some, fz_d, pk_d, ifS_some, hd_int, hd_str, hd_bool, hd_none, hd_list, hd_tuple, wipeX, List.map_cons, List.map_nil, List.length_cons, List.length_nil, List.replicate_succ, List.replicate_zero, List.cons_append, List.nil_append, List.append_nil, decide_eq_true_eq, if_true, if_false, Nat.reduceAdd, Nat.reduceSub, Nat.reduceLeDiff, Nat.zero_add, Nat.sub_zero]
  refine ⟨s0, ?_⟩
  refine seq_step ?_
  simp only [startX, rAsg, rgName, rVar, rC, rBin, rD, rCl, rFz, rTb, rTr, rIf, rIfS, rRet, rRetN, rNx, rCons, rNil, rTup, rTupC, rLst, rApp, rAppF, rCall, rPar, rNeg, rNot, rAnd, rOr, rChain, rLc, riSeq, rYes, rDrop, rFor, rApd, rExt, rgTup, rgCons, rgNil, rgSub, rIsiX, riRng1, riRng2, slot_z, slot_s, set_z, set_s, at0, at1, at2, at3, at4, at5, at6, dX_c, dX_n, gIx_tup, gIx_lst, gEq_ii, gEq_ss, gNe_ii, gNe_ss, gAdd_ii, gSub_ii, gLt_ii, gLe_ii, gGt_ii, gGe_ii, gIsN_d, gLen_l, gMax_ii, gMin_ii, gInt_b, gInt_i, gAbs_i, gApd_last, isLst_last, boX_b, tru_l, fzL_dX, fzL_n, fzL_cd, Option.map_some, fz_d, pk_d, ifS_some, hd_int, hd_str, hd_bool, hd_none, hd_list, hd_tuple, wipeX, List.map_cons, List.map_nil, List.length_cons, List.length_nil, List.replicate_succ, List.replicate_zero, List.cons_append, List.nil_append, List.append_nil, decide_eq_true_eq, if_true, if_false, Nat.reduceAdd, Nat.reduceSub, Nat.reduceLeDiff, Nat.zero_add, Nat.sub_zero, rSl, rNoP, rPart]
  refine ⟨s7, ?_⟩
  refine u_dr (d := d) ok (by decide) (by decide) fun v d ok v0 v1 => ?_
  simp only [startX, rAsg, rgName, rVar, rC, rBin, rD, rCl, rFz, rTb, rTr, rIf, rIfS, rRet, rRetN, rNx, rCons, rNil, rTup, rTupC, rLst, rApp, rAppF, rCall, rPar, rNeg, rNot, rAnd, rOr, rChain, rLc, riSeq, rYes, rDrop, rFor, rApd, rExt, rgTup, rgCons, rgNil, rgSub, rIsiX, riRng1, riRng2, slot_z, slot_s, set_z, set_s, at0, at1, at2, at3, at4, at5, at6, dX_c, dX_n, gIx_tup, gIx_lst, gEq_ii, gEq_ss, gNe_ii, gNe_ss, gAdd_ii, gSub_ii, gLt_ii, gLe_ii, gGt_ii, gGe_ii, gIsN_d, gLen_l, gMax_ii, gMin_ii, gInt_b, gInt_i, gAbs_i, gApd_last, isLst_last, boX_b, tru_l, fzL_dX, fzL_n, fzL_cd, Option.map_some, fz_d, pk_d, ifS_some, hd_int, hd_str, hd_bool, hd_none, hd_list, hd_tuple, wipeX, List.map_cons, List.map_nil, List.length_cons, List.length_nil, List.replicate_succ, List.replicate_zero, List.cons_append, List.nil_append, List.append_nil, decide_eq_true_eq, if_true, if_false, Nat.reduceAdd, Nat.reduceSub, Nat.reduceLeDiff, Nat.zero_add, Nat.sub_zero, gSl]
  obtain ⟨T, eT, tm, tn, t0, t7⟩ := cut7 v0 v1
  rw [eT, fzL_dX]
  simp only [startX, rAsg, rgName, rVar, rC, rBin, rD, rCl, rFz, rTb, rTr, rIf, rIfS, rRet, rRetN, rNx, rCons, rNil, rTup, rTupC, rLst, rApp, rAppF, rCall, rPar, rNeg, rNot, rAnd, rOr, rChain, rLc, riSeq, rYes, rDrop, rFor, rApd, rExt, rgTup, rgCons, rgNil, rgSub, rIsiX, riRng1, riRng2, slot_z, slot_s, set_z, set_s, at0, at1, at2, at3, at4, at5, at6, dX_c, dX_n, gIx_tup, gIx_lst, gEq_ii, gEq_ss, gNe_ii, gNe_ss, gAdd_ii, gSub_ii, gLt_ii, gLe_ii, gGt_ii, gGe_ii, gIsN_d, gLen_l, gMax_ii, gMin_ii, gInt_b, gInt_i, gAbs_i, gApd_last, isLst_last, boX_b, tru_l, fzL_dX, fzL_n, fzL_cd, Option.map_some, fz_d, pk_d, ifS_some, hd_int, hd_str, hd_bool, hd_none, hd_list, hd_tuple, wipeX, List.map_cons, List.map_nil, List.length_cons, List.length_nil, List.replicate_succ, List.replicate_zero, List.cons_append, List.nil_append, List.append_nil, decide_eq_true_eq, if_true, if_false, Nat.reduceAdd, Nat.reduceSub, Nat.reduceLeDiff, Nat.zero_add, Nat.sub_zero, len_dm]
  refine loopW_inv (fun xs σ M => ∃ (pre rest : List Str) (ks : Ks) (d : D3) (o2 : Option Xv), xs = dX (rest.map .str) ∧ pre ++ rest = T ∧ ks.map (·.1) = pre ∧ (∀ (i : Nat) x q, ks[i]? = some (x, some q) → ∃ (j : Nat) (o : Option Str), j < i ∧ ks[j]? = some (q, o)) ∧ M = dM sc d ++ [.lst (dX (ks.map ksD))] ∧ DOk d ∧
    σ = [some (.c 0), some (.c 1), o2, none, none]) ?_ ?_ _ _ _
    ⟨[], T, [], d, _, rfl, rfl, rfl, (by intro i x q e; simp at e), rfl, ok, rfl⟩
  · rintro x xs σ M ⟨pre, rest, ks, d, o2, e, ep, ek, hp, rfl, ok, rfl⟩ C hC
    obtain ⟨n, rest, rfl⟩ : ∃ a r, rest = a :: r := by
      cases rest with
      | nil => cases e
      | cons a r => exact ⟨a, r, rfl⟩
    rw [List.map_cons, dX_c] at e
    cases e
    have lp : ks.length = pre.length := by rw [← ek, List.length_map]
    have lt : pre.length < T.length := by rw [← ep, List.length_append, List.length_cons]; omega
    have ep' : (pre ++ [n]) ++ rest = T := by rw [← ep]; simp
    have fin : ∀ (o : Option Str) (d : D3), DOk d → (∀ q, o = some q → ∃ (j : Nat) (o' : Option Str), j < ks.length ∧ ks[j]? = some (q, o')) → gApd (.c 1) (.d (ksD (n, o))) (dM sc d ++ [.lst (dX (ks.map ksD))]) fun x M => C [some (.c 0), some (.c 1), some (.d (.str n)), none, none] M := fun o d ok ho => by
      show ((dX (ks.map ksD)).length < sizeLine ∧ C _ (dM sc d ++ [.lst (dX (ks.map ksD) ++ [.d (ksD (n, o))])]))
      refine ⟨by rw [List.length_map, List.length_map, sizeLine_eq]; omega, ?_⟩
      rw [show dX (ks.map ksD) ++ [.d (ksD (n, o))] = dX ((ks ++ [(n, o)]).map ksD) by simp [dX]]
      refine hC _ _ ⟨pre ++ [n], rest, ks ++ [(n, o)], d, _, rfl, ep', by rw [List.map_append, ek]; rfl, fun i x q e => ?_, rfl, ok, rfl⟩
      by_cases hi : i < ks.length
      · rw [List.getElem?_append_left hi] at e
        obtain ⟨j, o', h1, h2⟩ := hp i x q e
        exact ⟨j, o', h1, by rw [List.getElem?_append_left (by omega)]; exact h2⟩
      · rw [List.getElem?_append_right (by omega)] at e
        have hi2 : i - ks.length = 0 := by
          cases e3 : i - ks.length with
          | zero => rfl
          | succ k => rw [e3] at e; simp at e
        rw [hi2] at e
        simp at e
        obtain ⟨rfl, rfl⟩ := e
        obtain ⟨j, o', h1, h2⟩ := ho q rfl
        exact ⟨j, o', by omega, by rw [List.getElem?_append_left h1]; exact h2⟩
    have hdE : ∀ d : D3, hd (dM sc d ++ [.lst (dX (ks.map ksD))]) (.c 1) = .lst (dX (ks.map ksD)) := fun _ => rfl
    have ld : (dX (ks.map ksD)).length = ks.length := by rw [List.length_map, List.length_map]
    refine ⟨trivial, ?_⟩
    simp only [startX, rSeq, rAsg, rgName, rVar, rC, rBin, rD, rCl, rFz, rTb, rTr, rIf, rIfS, rRet, rRetN, rNx, rCons, rNil, rTup, rTupC, rLst, rApp, rAppF, rCall, rPar, rNeg, rNot, rAnd, rOr, rChain, rLc, riSeq, rYes, rDrop, rFor, rApd, rExt, rgTup, rgCons, rgNil, rgSub, rIsiX, riRng1, riRng2, slot_z, slot_s, set_z, set_s, at0, at1, at2, at3, at4, at5, at6, dX_c, dX_n, gIx_tup, gIx_lst, gEq_ii, gEq_ss, gNe_ii, gNe_ss, gAdd_ii, gSub_ii, gLt_ii, gLe_ii, gGt_ii, gGe_ii, gIsN_d, gLen_l, gMax_ii, gMin_ii, gInt_b, gInt_i, gAbs_i, gApd_last, isLst_last, boX_b, tru_l, fzL_dX, fzL_n, fzL_cd, Option.map_some, fz_d, pk_d, ifS_some, hd_int, hd_str, hd_bool, hd_none, hd_list, hd_tuple, wipeX, List.map_cons, List.map_nil, List.length_cons, List.length_nil, List.replicate_succ, List.replicate_zero, List.cons_append, List.nil_append, List.append_nil, decide_eq_true_eq, if_true, if_false, Nat.reduceAdd, Nat.reduceSub, Nat.reduceLeDiff, Nat.zero_add, Nat.sub_zero, gLen, hdE, ld]
    refine ⟨trivial, ?_⟩
    split
    · exact ⟨s2, fin none d ok nofun⟩
    · rename_i hne
      refine u_dr ok (by decide) (by decide) fun v2 d ok a0 a1 => ?_
      simp only [startX, rSeq, rAsg, rgName, rVar, rC, rBin, rD, rCl, rFz, rTb, rTr, rIf, rIfS, rRet, rRetN, rNx, rCons, rNil, rTup, rTupC, rLst, rApp, rAppF, rCall, rPar, rNeg, rNot, rAnd, rOr, rChain, rLc, riSeq, rYes, rDrop, rFor, rApd, rExt, rgTup, rgCons, rgNil, rgSub, rIsiX, riRng1, riRng2, slot_z, slot_s, set_z, set_s, at0, at1, at2, at3, at4, at5, at6, dX_c, dX_n, gIx_tup, gIx_lst, gEq_ii, gEq_ss, gNe_ii, gNe_ss, gAdd_ii, gSub_ii, gLt_ii, gLe_ii, gGt_ii, gGe_ii, gIsN_d, gLen_l, gMax_ii, gMin_ii, gInt_b, gInt_i, gAbs_i, gApd_last, isLst_last, boX_b, tru_l, fzL_dX, fzL_n, fzL_cd, Option.map_some, fz_d, pk_d, ifS_some, hd_int, hd_str, hd_bool, hd_none, hd_list, hd_tuple, wipeX, List.map_cons, List.map_nil, List.length_cons, List.length_nil, List.replicate_succ, List.replicate_zero, List.cons_append, List.nil_append, List.append_nil, decide_eq_true_eq, if_true, if_false, Nat.reduceAdd, Nat.reduceSub, Nat.reduceLeDiff, Nat.zero_add, Nat.sub_zero]
      split
      · exact ⟨s2, fin none d ok nofun⟩
      · refine u_dr ok (by omega) (by omega) fun v3 d ok b0 b1 => ?_
        obtain ⟨j, p, hj, hp2, ep2⟩ := at_ix ksD b0 (by rw [ld] at b1; exact b1)
        have gx : ∀ P : Xv → Sto → Prop, gIx (.c 1) (.d (.int v3)) (dM sc d ++ [.lst (dX (ks.map ksD))]) P = P (.d (ksD p)) (dM sc d ++ [.lst (dX (ks.map ksD))]) := fun P => by
          show ifS (atI (dX (ks.map ksD)) v3) _ = _
          rw [ep2, ifS_some]
        simp only [startX, rSeq, rAsg, rgName, rVar, rC, rBin, rD, rCl, rFz, rTb, rTr, rIf, rIfS, rRet, rRetN, rNx, rCons, rNil, rTup, rTupC, rLst, rApp, rAppF, rCall, rPar, rNeg, rNot, rAnd, rOr, rChain, rLc, riSeq, rYes, rDrop, rFor, rApd, rExt, rgTup, rgCons, rgNil, rgSub, rIsiX, riRng1, riRng2, slot_z, slot_s, set_z, set_s, at0, at1, at2, at3, at4, at5, at6, dX_c, dX_n, gIx_tup, gIx_lst, gEq_ii, gEq_ss, gNe_ii, gNe_ss, gAdd_ii, gSub_ii, gLt_ii, gLe_ii, gGt_ii, gGe_ii, gIsN_d, gLen_l, gMax_ii, gMin_ii, gInt_b, gInt_i, gAbs_i, gApd_last, isLst_last, boX_b, tru_l, fzL_dX, fzL_n, fzL_cd, Option.map_some, fz_d, pk_d, ifS_some, hd_int, hd_str, hd_bool, hd_none, hd_list, hd_tuple, wipeX, List.map_cons, List.map_nil, List.length_cons, List.length_nil, List.replicate_succ, List.replicate_zero, List.cons_append, List.nil_append, List.append_nil, decide_eq_true_eq, if_true, if_false, Nat.reduceAdd, Nat.reduceSub, Nat.reduceLeDiff, Nat.zero_add, Nat.sub_zero, gx, ksD]
        exact ⟨s2, fin (some p.1) d ok fun q e => by cases e; exact ⟨j, p.2, hj, hp2⟩⟩
  · rintro σ M ⟨pre, rest, ks, d, o2, e, ep, ek, hp, rfl, ok, rfl⟩
    have e0 : rest = [] := by
      cases rest with
      | nil => rfl
      | cons a r => cases e
    subst e0
    rw [List.append_nil] at ep
    subst ep
    have lk : ks.length = pre.length := by rw [← ek, List.length_map]
    have g : Gk ks := ⟨by rw [ek]; exact tn, fun p hp2 => by
      have : p.1 ∈ pre := by rw [← ek]; exact List.mem_map.mpr ⟨p, hp2, rfl⟩
      have h7 : ∀ x ∈ nm7, PyData.strOk x = true := by decide +kernel
      exact h7 _ (tm _ this), by omega, hp⟩
    have hm7 : ∀ p ∈ ks, p.1 ∈ nm7 := fun p hp2 => tm _ (by rw [← ek]; exact List.mem_map.mpr ⟨p, hp2, rfl⟩)
    refine ⟨trivial, ?_⟩
    refine seq_step ?_
    simp only [startX, rAsg, rgName, rVar, rC, rBin, rD, rCl, rFz, rTb, rTr, rIf, rIfS, rRet, rRetN, rNx, rCons, rNil, rTup, rTupC, rLst, rApp, rAppF, rCall, rPar, rNeg, rNot, rAnd, rOr, rChain, rLc, riSeq, rYes, rDrop, rFor, rApd, rExt, rgTup, rgCons, rgNil, rgSub, rIsiX, riRng1, riRng2, slot_z, slot_s, set_z, set_s, at0, at1, at2, at3, at4, at5, at6, dX_c, dX_n, gIx_tup, gIx_lst, gEq_ii, gEq_ss, gNe_ii, gNe_ss, gAdd_ii, gSub_ii, gLt_ii, gLe_ii, gGt_ii, gGe_ii, gIsN_d, gLen_l, gMax_ii, gMin_ii, gInt_b, gInt_i, gAbs_i, gApd_last, isLst_last, boX_b, tru_l, fzL_dX, fzL_n, fzL_cd, Option.map_some, fz_d, pk_d, ifS_some, hd_int, hd_str, hd_bool, hd_none, hd_list, hd_tuple, wipeX, List.map_cons, List.map_nil, List.length_cons, List.length_nil, List.replicate_succ, List.replicate_zero, List.cons_append, List.nil_append, List.append_nil, decide_eq_true_eq, if_true, if_false, Nat.reduceAdd, Nat.reduceSub, Nat.reduceLeDiff, Nat.zero_add, Nat.sub_zero, rDic, rpCons, rpNil, keyX_s]
    refine ifS_mk (fz_lst rfl) ?_
    simp only [startX, rAsg, rgName, rVar, rC, rBin, rD, rCl, rFz, rTb, rTr, rIf, rIfS, rRet, rRetN, rNx, rCons, rNil, rTup, rTupC, rLst, rApp, rAppF, rCall, rPar, rNeg, rNot, rAnd, rOr, rChain, rLc, riSeq, rYes, rDrop, rFor, rApd, rExt, rgTup, rgCons, rgNil, rgSub, rIsiX, riRng1, riRng2, slot_z, slot_s, set_z, set_s, at0, at1, at2, at3, at4, at5, at6, dX_c, dX_n, gIx_tup, gIx_lst, gEq_ii, gEq_ss, gNe_ii, gNe_ss, gAdd_ii, gSub_ii, gLt_ii, gLe_ii, gGt_ii, gGe_ii, gIsN_d, gLen_l, gMax_ii, gMin_ii, gInt_b, gInt_i, gAbs_i, gApd_last, isLst_last, boX_b, tru_l, fzL_dX, fzL_n, fzL_cd, Option.map_some, fz_d, pk_d, ifS_some, hd_int, hd_str, hd_bool, hd_none, hd_list, hd_tuple, wipeX, List.map_cons, List.map_nil, List.length_cons, List.length_nil, List.replicate_succ, List.replicate_zero, List.cons_append, List.nil_append, List.append_nil, decide_eq_true_eq, if_true, if_false, Nat.reduceAdd, Nat.reduceSub, Nat.reduceLeDiff, Nat.zero_add, Nat.sub_zero, keyX_s]
    refine ⟨s3, trivial, ?_⟩
    rw [kv0_merge ks]
    let KB : Ob := .frz (.list (ks.map ksD))
    show rSeq _ _ [some (.c 0), some (.c 1), o2, some (.c 2), none] (dM sc d ++ [KB, .dic (xP (kv0 ks ++ emp []))]) _
    generalize KB = KB
    refine seq_step ?_
    simp only [startX, rAsg, rgName, rVar, rC, rBin, rD, rCl, rFz, rTb, rTr, rIf, rIfS, rRet, rRetN, rNx, rCons, rNil, rTup, rTupC, rLst, rApp, rAppF, rCall, rPar, rNeg, rNot, rAnd, rOr, rChain, rLc, riSeq, rYes, rDrop, rFor, rApd, rExt, rgTup, rgCons, rgNil, rgSub, rIsiX, riRng1, riRng2, slot_z, slot_s, set_z, set_s, at0, at1, at2, at3, at4, at5, at6, dX_c, dX_n, gIx_tup, gIx_lst, gEq_ii, gEq_ss, gNe_ii, gNe_ss, gAdd_ii, gSub_ii, gLt_ii, gLe_ii, gGt_ii, gGe_ii, gIsN_d, gLen_l, gMax_ii, gMin_ii, gInt_b, gInt_i, gAbs_i, gApd_last, isLst_last, boX_b, tru_l, fzL_dX, fzL_n, fzL_cd, Option.map_some, fz_d, pk_d, ifS_some, hd_int, hd_str, hd_bool, hd_none, hd_list, hd_tuple, wipeX, List.map_cons, List.map_nil, List.length_cons, List.length_nil, List.replicate_succ, List.replicate_zero, List.cons_append, List.nil_append, List.append_nil, decide_eq_true_eq, if_true, if_false, Nat.reduceAdd, Nat.reduceSub, Nat.reduceLeDiff, Nat.zero_add, Nat.sub_zero]
    refine ⟨s11, ?_⟩
    refine loopW_inv (fun xs σ M => ∃ (pre2 rest : List Str) (o4 : Option Xv), xs = dX (rest.map .str) ∧ pre2 ++ rest = ky11 ∧ M = dM sc d ++ [KB, .dic (xP (kv0 ks ++ emp pre2))] ∧
      σ = [some (.c 0), some (.c 1), o2, some (.c 2), o4]) ?_ ?_ _ _ _ ⟨[], ky11, _, rfl, rfl, rfl, rfl⟩
    · rintro x xs σ M ⟨pre2, rest, o4, e, ep, rfl, rfl⟩ C hC
      obtain ⟨n, rest, rfl⟩ : ∃ a r, rest = a :: r := by
        cases rest with
        | nil => cases e
        | cons a r => exact ⟨a, r, rfl⟩
      rw [List.map_cons, dX_c] at e
      cases e
      refine ⟨trivial, ?_⟩
      simp only [startX, rSeq, rAsg, rgName, rVar, rC, rBin, rD, rCl, rFz, rTb, rTr, rIf, rIfS, rRet, rRetN, rNx, rCons, rNil, rTup, rTupC, rLst, rApp, rAppF, rCall, rPar, rNeg, rNot, rAnd, rOr, rChain, rLc, riSeq, rYes, rDrop, rFor, rApd, rExt, rgTup, rgCons, rgNil, rgSub, rIsiX, riRng1, riRng2, slot_z, slot_s, set_z, set_s, at0, at1, at2, at3, at4, at5, at6, dX_c, dX_n, gIx_tup, gIx_lst, gEq_ii, gEq_ss, gNe_ii, gNe_ss, gAdd_ii, gSub_ii, gLt_ii, gLe_ii, gGt_ii, gGe_ii, gIsN_d, gLen_l, gMax_ii, gMin_ii, gInt_b, gInt_i, gAbs_i, gApd_last, isLst_last, boX_b, tru_l, fzL_dX, fzL_n, fzL_cd, Option.map_some, fz_d, pk_d, ifS_some, hd_int, hd_str, hd_bool, hd_none, hd_list, hd_tuple, wipeX, List.map_cons, List.map_nil, List.length_cons, List.length_nil, List.replicate_succ, List.replicate_zero, List.cons_append, List.nil_append, List.append_nil, decide_eq_true_eq, if_true, if_false, Nat.reduceAdd, Nat.reduceSub, Nat.reduceLeDiff, Nat.zero_add, Nat.sub_zero, rgSub]
      refine ⟨s0, gSet_st (rest := rest ++ ky7) (by rw [← List.cons_append, ← List.append_assoc, ep]) rfl (hC _ _ ⟨pre2 ++ [n], rest, _, rfl, by rw [← ep]; simp, rfl, rfl⟩)⟩
    rintro σ M ⟨pre2, rest, o4, e2, ep, rfl, rfl⟩
    have e0 : rest = [] := by
      cases rest with
      | nil => rfl
      | cons a r => cases e2
    subst e0
    rw [List.append_nil] at ep
    subst ep
    refine ⟨trivial, ?_⟩
    refine seq_step ?_
    simp only [startX, rAsg, rgName, rVar, rC, rBin, rD, rCl, rFz, rTb, rTr, rIf, rIfS, rRet, rRetN, rNx, rCons, rNil, rTup, rTupC, rLst, rApp, rAppF, rCall, rPar, rNeg, rNot, rAnd, rOr, rChain, rLc, riSeq, rYes, rDrop, rFor, rApd, rExt, rgTup, rgCons, rgNil, rgSub, rIsiX, riRng1, riRng2, slot_z, slot_s, set_z, set_s, at0, at1, at2, at3, at4, at5, at6, dX_c, dX_n, gIx_tup, gIx_lst, gEq_ii, gEq_ss, gNe_ii, gNe_ss, gAdd_ii, gSub_ii, gLt_ii, gLe_ii, gGt_ii, gGe_ii, gIsN_d, gLen_l, gMax_ii, gMin_ii, gInt_b, gInt_i, gAbs_i, gApd_last, isLst_last, boX_b, tru_l, fzL_dX, fzL_n, fzL_cd, Option.map_some, fz_d, pk_d, ifS_some, hd_int, hd_str, hd_bool, hd_none, hd_list, hd_tuple, wipeX, List.map_cons, List.map_nil, List.length_cons, List.length_nil, List.replicate_succ, List.replicate_zero, List.cons_append, List.nil_append, List.append_nil, decide_eq_true_eq, if_true, if_false, Nat.reduceAdd, Nat.reduceSub, Nat.reduceLeDiff, Nat.zero_add, Nat.sub_zero]
    refine ⟨s7, ?_⟩
    refine loopW_inv (fun xs σ M => ∃ (pre2 rest : List Str) (o4 : Option Xv), xs = dX (rest.map .str) ∧ pre2 ++ rest = ky7 ∧ M = dM sc d ++ [KB, .dic (xP (kv0 ks ++ emp (ky11 ++ pre2)))] ∧
      σ = [some (.c 0), some (.c 1), o2, some (.c 2), o4]) ?_ ?_ _ _ _ ⟨[], ky7, _, rfl, rfl, rfl, rfl⟩
    · rintro x xs σ M ⟨pre2, rest, o4, e, ep, rfl, rfl⟩ C hC
      obtain ⟨n, rest, rfl⟩ : ∃ a r, rest = a :: r := by
        cases rest with
        | nil => cases e
        | cons a r => exact ⟨a, r, rfl⟩
      rw [List.map_cons, dX_c] at e
      cases e
      refine ⟨trivial, ?_⟩
      simp only [startX, rSeq, rAsg, rgName, rVar, rC, rBin, rD, rCl, rFz, rTb, rTr, rIf, rIfS, rRet, rRetN, rNx, rCons, rNil, rTup, rTupC, rLst, rApp, rAppF, rCall, rPar, rNeg, rNot, rAnd, rOr, rChain, rLc, riSeq, rYes, rDrop, rFor, rApd, rExt, rgTup, rgCons, rgNil, rgSub, rIsiX, riRng1, riRng2, slot_z, slot_s, set_z, set_s, at0, at1, at2, at3, at4, at5, at6, dX_c, dX_n, gIx_tup, gIx_lst, gEq_ii, gEq_ss, gNe_ii, gNe_ss, gAdd_ii, gSub_ii, gLt_ii, gLe_ii, gGt_ii, gGe_ii, gIsN_d, gLen_l, gMax_ii, gMin_ii, gInt_b, gInt_i, gAbs_i, gApd_last, isLst_last, boX_b, tru_l, fzL_dX, fzL_n, fzL_cd, Option.map_some, fz_d, pk_d, ifS_some, hd_int, hd_str, hd_bool, hd_none, hd_list, hd_tuple, wipeX, List.map_cons, List.map_nil, List.length_cons, List.length_nil, List.replicate_succ, List.replicate_zero, List.cons_append, List.nil_append, List.append_nil, decide_eq_true_eq, if_true, if_false, Nat.reduceAdd, Nat.reduceSub, Nat.reduceLeDiff, Nat.zero_add, Nat.sub_zero, rgSub]
      refine ⟨s0, gSet_st (pre := ky11 ++ pre2) (rest := rest) (by rw [List.append_assoc, ep]) rfl (hC _ _ ⟨pre2 ++ [n], rest, _, rfl, by rw [← ep]; simp, by rw [List.append_assoc]; rfl, rfl⟩)⟩
    rintro σ M ⟨pre2, rest, o4, e2, ep, rfl, rfl⟩
    have e0 : rest = [] := by
      cases rest with
      | nil => rfl
      | cons a r => cases e2
    subst e0
    rw [List.append_nil] at ep
    subst ep
    refine ⟨trivial, ?_⟩
    simp only [startX, rAsg, rgName, rVar, rC, rBin, rD, rCl, rFz, rTb, rTr, rIf, rIfS, rRet, rRetN, rNx, rCons, rNil, rTup, rTupC, rLst, rApp, rAppF, rCall, rPar, rNeg, rNot, rAnd, rOr, rChain, rLc, riSeq, rYes, rDrop, rFor, rApd, rExt, rgTup, rgCons, rgNil, rgSub, rIsiX, riRng1, riRng2, slot_z, slot_s, set_z, set_s, at0, at1, at2, at3, at4, at5, at6, dX_c, dX_n, gIx_tup, gIx_lst, gEq_ii, gEq_ss, gNe_ii, gNe_ss, gAdd_ii, gSub_ii, gLt_ii, gLe_ii, gGt_ii, gGe_ii, gIsN_d, gLen_l, gMax_ii, gMin_ii, gInt_b, gInt_i, gAbs_i, gApd_last, isLst_last, boX_b, tru_l, fzL_dX, fzL_n, fzL_cd, Option.map_some, fz_d, pk_d, ifS_some, hd_int, hd_str, hd_bool, hd_none, hd_list, hd_tuple, wipeX, List.map_cons, List.map_nil, List.length_cons, List.length_nil, List.replicate_succ, List.replicate_zero, List.cons_append, List.nil_append, List.append_nil, decide_eq_true_eq, if_true, if_false, Nat.reduceAdd, Nat.reduceSub, Nat.reduceLeDiff, Nat.zero_add, Nat.sub_zero]
    refine ifS_mk (fz_dic (ps := kv0 ks ++ emp (ky11 ++ ky7)) rfl) ?_
    exact ⟨Nat.le_add_left 1 _, h ks d ok g (by omega) hm7⟩
end K11

set_option Elab.async false
set_option linter.all false
set_option maxRecDepth 100000
set_option maxHeartbeats 8000000
namespace K11
open PySem PySem.Spec PyProof.Rows L2 G
variable {P : Program} {w : World} {K : PySem.W.Frag} {mg : Str → Option Value} {base : Heap} {k : Nat}
/-! ### covered -/
def covP (ks : Ks) : Part → Part → Bool
  | .kind x, .kind y => decide (x ∈ up ks y)
  | .rng r, .rng q => decide (r.1 = q.1) && (decide (r.2.1 ≤ q.2.1) && decide (q.2.2 ≤ r.2.2))
  | _, _ => false
def okN (ks : Ks) : Part → Prop
  | .kind x => x ∈ ks.map (·.1)
  | .rng _ => True
theorem okN_of {ks : Ks} {t : Th} (gt : Gt ks t) : ∀ p ∈ partsOf t, okN ks p := fun p hp => by
  rcases List.mem_append.mp hp with h | h
  · obtain ⟨x, hx, rfl⟩ := List.mem_map.mp h
    exact gt.km x hx
  · obtain ⟨r, _, rfl⟩ := List.mem_map.mp h
    exact trivial
def pd_cov : PD := fun ds R => ∃ s ks p o, ds = [s, ptD p, ptD o] ∧ Is s ks ∧ Gk ks ∧ okN ks p ∧ okN ks o ∧ R (.bool (covP ks p o))
theorem kr2 : ¬ ("kind" : Str) = "range" := by decide
theorem ok_cov (D : DefOk K mg "covers_part" ["state", "part", "other"] (defArgs s_covers_part) (defBody s_covers_part) (defScope s_covers_part)) (Z : Fx K mg base) (C1 : Cal P w K mg base 1 "is_kind" ["state", "kind", "wide"] (pfD pd_isk)) : Cal P w K mg base 2 "covers_part" ["state", "part", "other"] (pfD pd_cov) := by
  refine Cal.mkD (k := 1) D sc_covers_part (sd_covers_part Z C1) (fun ds R ⟨s, ks, p, o, e, _⟩ => by rw [e]; rfl) (fun ds R h => ?_) fun ds R R' i ⟨s, ks, p, o, e, h1, h2, h3, h4, h5⟩ => ⟨s, ks, p, o, e, h1, h2, h3, h4, i _ h5⟩
  obtain ⟨s, ks, p, o, rfl, I, g, hp, ho, h⟩ := h
  unfold b_covers_part
  simp only [startX, rAsg, rgName, rVar, rC, rBin, rD, rCl, rFz, rTb, rTr, rIf, rIfS, rRet, rRetN, rNx, rCons, rNil, rTup, rTupC, rLst, rApp, rAppF, rCall, rPar, rNeg, rNot, rAnd, rOr, rChain, rLc, riSeq, rYes, rDrop, rFor, rApd, rExt, rgTup, rgCons, rgNil, rgSub, rIsiX, riRng1, riRng2, slot_z, slot_s, set_z, set_s, at0, at1, at2, at3, at4, at5, at6, dX_c, dX_n, gIx_tup, gIx_lst, gEq_ii, gEq_ss, gNe_ii, gNe_ss, gAdd_ii, gSub_ii, gLt_ii, gLe_ii, gGt_ii, gGe_ii, gIsN_d, gLen_l, gMax_ii, gMin_ii, gInt_b, gInt_i, gAbs_i, gApd_last, isLst_last, boX_b, tru_l, fzL_dX, fzL_n, fzL_cd, Option.map_some, fz_d, pk_d, ifS_some, hd_int, hd_str, hd_bool, hd_none, hd_list, hd_tuple, wipeX, List.map_cons, List.map_nil, List.length_cons, List.length_nil, List.replicate_succ, List.replicate_zero, List.cons_append, List.nil_append, List.append_nil, decide_eq_true_eq, if_true, if_false, Nat.reduceAdd, Nat.reduceSub, Nat.reduceLeDiff, Nat.zero_add, Nat.sub_zero, N_covers_part]
  refine seq_step ?_
  cases p with
  | kind x =>
    cases o with
    | kind y =>
      simp only [startX, rAsg, rgName, rVar, rC, rBin, rD, rCl, rFz, rTb, rTr, rIf, rIfS, rRet, rRetN, rNx, rCons, rNil, rTup, rTupC, rLst, rApp, rAppF, rCall, rPar, rNeg, rNot, rAnd, rOr, rChain, rLc, riSeq, rYes, rDrop, rFor, rApd, rExt, rgTup, rgCons, rgNil, rgSub, rIsiX, riRng1, riRng2, slot_z, slot_s, set_z, set_s, at0, at1, at2, at3, at4, at5, at6, dX_c, dX_n, gIx_tup, gIx_lst, gEq_ii, gEq_ss, gNe_ii, gNe_ss, gAdd_ii, gSub_ii, gLt_ii, gLe_ii, gGt_ii, gGe_ii, gIsN_d, gLen_l, gMax_ii, gMin_ii, gInt_b, gInt_i, gAbs_i, gApd_last, isLst_last, boX_b, tru_l, fzL_dX, fzL_n, fzL_cd, Option.map_some, fz_d, pk_d, ifS_some, hd_int, hd_str, hd_bool, hd_none, hd_list, hd_tuple, wipeX, List.map_cons, List.map_nil, List.length_cons, List.length_nil, List.replicate_succ, List.replicate_zero, List.cons_append, List.nil_append, List.append_nil, decide_eq_true_eq, if_true, if_false, Nat.reduceAdd, Nat.reduceSub, Nat.reduceLeDiff, Nat.zero_add, Nat.sub_zero, ptD, decide_true, Bool.not_true, Bool.false_eq_true]
      refine seq_step ?_
      simp only [startX, rAsg, rgName, rVar, rC, rBin, rD, rCl, rFz, rTb, rTr, rIf, rIfS, rRet, rRetN, rNx, rCons, rNil, rTup, rTupC, rLst, rApp, rAppF, rCall, rPar, rNeg, rNot, rAnd, rOr, rChain, rLc, riSeq, rYes, rDrop, rFor, rApd, rExt, rgTup, rgCons, rgNil, rgSub, rIsiX, riRng1, riRng2, slot_z, slot_s, set_z, set_s, at0, at1, at2, at3, at4, at5, at6, dX_c, dX_n, gIx_tup, gIx_lst, gEq_ii, gEq_ss, gNe_ii, gNe_ss, gAdd_ii, gSub_ii, gLt_ii, gLe_ii, gGt_ii, gGe_ii, gIsN_d, gLen_l, gMax_ii, gMin_ii, gInt_b, gInt_i, gAbs_i, gApd_last, isLst_last, boX_b, tru_l, fzL_dX, fzL_n, fzL_cd, Option.map_some, fz_d, pk_d, ifS_some, hd_int, hd_str, hd_bool, hd_none, hd_list, hd_tuple, wipeX, List.map_cons, List.map_nil, List.length_cons, List.length_nil, List.replicate_succ, List.replicate_zero, List.cons_append, List.nil_append, List.append_nil, decide_eq_true_eq, if_true, if_false, Nat.reduceAdd, Nat.reduceSub, Nat.reduceLeDiff, Nat.zero_add, Nat.sub_zero]
      exact u_isk I g ho h
    | rng q =>
      simp only [startX, rAsg, rgName, rVar, rC, rBin, rD, rCl, rFz, rTb, rTr, rIf, rIfS, rRet, rRetN, rNx, rCons, rNil, rTup, rTupC, rLst, rApp, rAppF, rCall, rPar, rNeg, rNot, rAnd, rOr, rChain, rLc, riSeq, rYes, rDrop, rFor, rApd, rExt, rgTup, rgCons, rgNil, rgSub, rIsiX, riRng1, riRng2, slot_z, slot_s, set_z, set_s, at0, at1, at2, at3, at4, at5, at6, dX_c, dX_n, gIx_tup, gIx_lst, gEq_ii, gEq_ss, gNe_ii, gNe_ss, gAdd_ii, gSub_ii, gLt_ii, gLe_ii, gGt_ii, gGe_ii, gIsN_d, gLen_l, gMax_ii, gMin_ii, gInt_b, gInt_i, gAbs_i, gApd_last, isLst_last, boX_b, tru_l, fzL_dX, fzL_n, fzL_cd, Option.map_some, fz_d, pk_d, ifS_some, hd_int, hd_str, hd_bool, hd_none, hd_list, hd_tuple, wipeX, List.map_cons, List.map_nil, List.length_cons, List.length_nil, List.replicate_succ, List.replicate_zero, List.cons_append, List.nil_append, List.append_nil, decide_eq_true_eq, if_true, if_false, Nat.reduceAdd, Nat.reduceSub, Nat.reduceLeDiff, Nat.zero_add, Nat.sub_zero, ptD]
      rw [if_pos (by simpa using kr2)]
      exact h
  | rng r =>
    cases o with
    | kind y =>
      simp only [startX, rAsg, rgName, rVar, rC, rBin, rD, rCl, rFz, rTb, rTr, rIf, rIfS, rRet, rRetN, rNx, rCons, rNil, rTup, rTupC, rLst, rApp, rAppF, rCall, rPar, rNeg, rNot, rAnd, rOr, rChain, rLc, riSeq, rYes, rDrop, rFor, rApd, rExt, rgTup, rgCons, rgNil, rgSub, rIsiX, riRng1, riRng2, slot_z, slot_s, set_z, set_s, at0, at1, at2, at3, at4, at5, at6, dX_c, dX_n, gIx_tup, gIx_lst, gEq_ii, gEq_ss, gNe_ii, gNe_ss, gAdd_ii, gSub_ii, gLt_ii, gLe_ii, gGt_ii, gGe_ii, gIsN_d, gLen_l, gMax_ii, gMin_ii, gInt_b, gInt_i, gAbs_i, gApd_last, isLst_last, boX_b, tru_l, fzL_dX, fzL_n, fzL_cd, Option.map_some, fz_d, pk_d, ifS_some, hd_int, hd_str, hd_bool, hd_none, hd_list, hd_tuple, wipeX, List.map_cons, List.map_nil, List.length_cons, List.length_nil, List.replicate_succ, List.replicate_zero, List.cons_append, List.nil_append, List.append_nil, decide_eq_true_eq, if_true, if_false, Nat.reduceAdd, Nat.reduceSub, Nat.reduceLeDiff, Nat.zero_add, Nat.sub_zero, ptD]
      rw [if_pos (by simpa using kr)]
      exact h
    | rng q =>
      simp only [startX, rAsg, rgName, rVar, rC, rBin, rD, rCl, rFz, rTb, rTr, rIf, rIfS, rRet, rRetN, rNx, rCons, rNil, rTup, rTupC, rLst, rApp, rAppF, rCall, rPar, rNeg, rNot, rAnd, rOr, rChain, rLc, riSeq, rYes, rDrop, rFor, rApd, rExt, rgTup, rgCons, rgNil, rgSub, rIsiX, riRng1, riRng2, slot_z, slot_s, set_z, set_s, at0, at1, at2, at3, at4, at5, at6, dX_c, dX_n, gIx_tup, gIx_lst, gEq_ii, gEq_ss, gNe_ii, gNe_ss, gAdd_ii, gSub_ii, gLt_ii, gLe_ii, gGt_ii, gGe_ii, gIsN_d, gLen_l, gMax_ii, gMin_ii, gInt_b, gInt_i, gAbs_i, gApd_last, isLst_last, boX_b, tru_l, fzL_dX, fzL_n, fzL_cd, Option.map_some, fz_d, pk_d, ifS_some, hd_int, hd_str, hd_bool, hd_none, hd_list, hd_tuple, wipeX, List.map_cons, List.map_nil, List.length_cons, List.length_nil, List.replicate_succ, List.replicate_zero, List.cons_append, List.nil_append, List.append_nil, decide_eq_true_eq, if_true, if_false, Nat.reduceAdd, Nat.reduceSub, Nat.reduceLeDiff, Nat.zero_add, Nat.sub_zero, ptD, decide_true, Bool.not_true, Bool.false_eq_true]
      refine seq_step ?_
      simp only [startX, rAsg, rgName, rVar, rC, rBin, rD, rCl, rFz, rTb, rTr, rIf, rIfS, rRet, rRetN, rNx, rCons, rNil, rTup, rTupC, rLst, rApp, rAppF, rCall, rPar, rNeg, rNot, rAnd, rOr, rChain, rLc, riSeq, rYes, rDrop, rFor, rApd, rExt, rgTup, rgCons, rgNil, rgSub, rIsiX, riRng1, riRng2, slot_z, slot_s, set_z, set_s, at0, at1, at2, at3, at4, at5, at6, dX_c, dX_n, gIx_tup, gIx_lst, gEq_ii, gEq_ss, gNe_ii, gNe_ss, gAdd_ii, gSub_ii, gLt_ii, gLe_ii, gGt_ii, gGe_ii, gIsN_d, gLen_l, gMax_ii, gMin_ii, gInt_b, gInt_i, gAbs_i, gApd_last, isLst_last, boX_b, tru_l, fzL_dX, fzL_n, fzL_cd, Option.map_some, fz_d, pk_d, ifS_some, hd_int, hd_str, hd_bool, hd_none, hd_list, hd_tuple, wipeX, List.map_cons, List.map_nil, List.length_cons, List.length_nil, List.replicate_succ, List.replicate_zero, List.cons_append, List.nil_append, List.append_nil, decide_eq_true_eq, if_true, if_false, Nat.reduceAdd, Nat.reduceSub, Nat.reduceLeDiff, Nat.zero_add, Nat.sub_zero]
      rw [if_neg (by simpa using kr)]
      simp only [startX, rAsg, rgName, rVar, rC, rBin, rD, rCl, rFz, rTb, rTr, rIf, rIfS, rRet, rRetN, rNx, rCons, rNil, rTup, rTupC, rLst, rApp, rAppF, rCall, rPar, rNeg, rNot, rAnd, rOr, rChain, rLc, riSeq, rYes, rDrop, rFor, rApd, rExt, rgTup, rgCons, rgNil, rgSub, rIsiX, riRng1, riRng2, slot_z, slot_s, set_z, set_s, at0, at1, at2, at3, at4, at5, at6, dX_c, dX_n, gIx_tup, gIx_lst, gEq_ii, gEq_ss, gNe_ii, gNe_ss, gAdd_ii, gSub_ii, gLt_ii, gLe_ii, gGt_ii, gGe_ii, gIsN_d, gLen_l, gMax_ii, gMin_ii, gInt_b, gInt_i, gAbs_i, gApd_last, isLst_last, boX_b, tru_l, fzL_dX, fzL_n, fzL_cd, Option.map_some, fz_d, pk_d, ifS_some, hd_int, hd_str, hd_bool, hd_none, hd_list, hd_tuple, wipeX, List.map_cons, List.map_nil, List.length_cons, List.length_nil, List.replicate_succ, List.replicate_zero, List.cons_append, List.nil_append, List.append_nil, decide_eq_true_eq, if_true, if_false, Nat.reduceAdd, Nat.reduceSub, Nat.reduceLeDiff, Nat.zero_add, Nat.sub_zero, rAndV, tru_b]
      have z : R (.bool (decide (r.1 = q.1) && (decide (r.2.1 ≤ q.2.1) && decide (q.2.2 ≤ r.2.2)))) := h
      by_cases c1 : r.1 = q.1
      · rw [if_pos c1]
        rw [decide_eq_true c1, Bool.true_and] at z
        by_cases c2 : r.2.1 ≤ q.2.1
        · rw [if_pos c2]
          rw [decide_eq_true c2, Bool.true_and] at z
          exact z
        · rw [if_neg c2]
          rw [decide_eq_false c2, Bool.false_and] at z
          rw [decide_eq_false c2]
          exact z
      · rw [if_neg c1]
        rw [decide_eq_false c1, Bool.false_and] at z
        rw [decide_eq_false c1]
        exact z
theorem ok_lcov (D : DefOk K mg "_law_covered" ["state", "part", "other"] (defArgs s__law_covered) (defBody s__law_covered) (defScope s__law_covered)) (Z : Fx K mg base) (C1 : Cal P w K mg base 1 "_law_up" ["state", "name"] (pfD pd_up)) : Cal P w K mg base 2 "_law_covered" ["state", "part", "other"] (pfD pd_cov) := by
  refine Cal.mkD (k := 1) D sc__law_covered (sd__law_covered Z C1) (fun ds R ⟨s, ks, p, o, e, _⟩ => by rw [e]; rfl) (fun ds R h => ?_) fun ds R R' i ⟨s, ks, p, o, e, h1, h2, h3, h4, h5⟩ => ⟨s, ks, p, o, e, h1, h2, h3, h4, i _ h5⟩
  obtain ⟨s, ks, p, o, rfl, I, g, hp, ho, h⟩ := h
  unfold b__law_covered
  simp only [startX, rAsg, rgName, rVar, rC, rBin, rD, rCl, rFz, rTb, rTr, rIf, rIfS, rRet, rRetN, rNx, rCons, rNil, rTup, rTupC, rLst, rApp, rAppF, rCall, rPar, rNeg, rNot, rAnd, rOr, rChain, rLc, riSeq, rYes, rDrop, rFor, rApd, rExt, rgTup, rgCons, rgNil, rgSub, rIsiX, riRng1, riRng2, slot_z, slot_s, set_z, set_s, at0, at1, at2, at3, at4, at5, at6, dX_c, dX_n, gIx_tup, gIx_lst, gEq_ii, gEq_ss, gNe_ii, gNe_ss, gAdd_ii, gSub_ii, gLt_ii, gLe_ii, gGt_ii, gGe_ii, gIsN_d, gLen_l, gMax_ii, gMin_ii, gInt_b, gInt_i, gAbs_i, gApd_last, isLst_last, boX_b, tru_l, fzL_dX, fzL_n, fzL_cd, Option.map_some, fz_d, pk_d, ifS_some, hd_int, hd_str, hd_bool, hd_none, hd_list, hd_tuple, wipeX, List.map_cons, List.map_nil, List.length_cons, List.length_nil, List.replicate_succ, List.replicate_zero, List.cons_append, List.nil_append, List.append_nil, decide_eq_true_eq, if_true, if_false, Nat.reduceAdd, Nat.reduceSub, Nat.reduceLeDiff, Nat.zero_add, Nat.sub_zero, N__law_covered]
  refine seq_step ?_
  cases p with
  | kind x =>
    cases o with
    | kind y =>
      simp only [startX, rAsg, rgName, rVar, rC, rBin, rD, rCl, rFz, rTb, rTr, rIf, rIfS, rRet, rRetN, rNx, rCons, rNil, rTup, rTupC, rLst, rApp, rAppF, rCall, rPar, rNeg, rNot, rAnd, rOr, rChain, rLc, riSeq, rYes, rDrop, rFor, rApd, rExt, rgTup, rgCons, rgNil, rgSub, rIsiX, riRng1, riRng2, slot_z, slot_s, set_z, set_s, at0, at1, at2, at3, at4, at5, at6, dX_c, dX_n, gIx_tup, gIx_lst, gEq_ii, gEq_ss, gNe_ii, gNe_ss, gAdd_ii, gSub_ii, gLt_ii, gLe_ii, gGt_ii, gGe_ii, gIsN_d, gLen_l, gMax_ii, gMin_ii, gInt_b, gInt_i, gAbs_i, gApd_last, isLst_last, boX_b, tru_l, fzL_dX, fzL_n, fzL_cd, Option.map_some, fz_d, pk_d, ifS_some, hd_int, hd_str, hd_bool, hd_none, hd_list, hd_tuple, wipeX, List.map_cons, List.map_nil, List.length_cons, List.length_nil, List.replicate_succ, List.replicate_zero, List.cons_append, List.nil_append, List.append_nil, decide_eq_true_eq, if_true, if_false, Nat.reduceAdd, Nat.reduceSub, Nat.reduceLeDiff, Nat.zero_add, Nat.sub_zero, ptD, rAndV, decide_true, tru_b]
      refine u_up I g ho ?_
      rw [gIn_strs (g.okn hp) (g.oku ho), Bool.false_xor]
      exact h
    | rng q =>
      simp only [startX, rAsg, rgName, rVar, rC, rBin, rD, rCl, rFz, rTb, rTr, rIf, rIfS, rRet, rRetN, rNx, rCons, rNil, rTup, rTupC, rLst, rApp, rAppF, rCall, rPar, rNeg, rNot, rAnd, rOr, rChain, rLc, riSeq, rYes, rDrop, rFor, rApd, rExt, rgTup, rgCons, rgNil, rgSub, rIsiX, riRng1, riRng2, slot_z, slot_s, set_z, set_s, at0, at1, at2, at3, at4, at5, at6, dX_c, dX_n, gIx_tup, gIx_lst, gEq_ii, gEq_ss, gNe_ii, gNe_ss, gAdd_ii, gSub_ii, gLt_ii, gLe_ii, gGt_ii, gGe_ii, gIsN_d, gLen_l, gMax_ii, gMin_ii, gInt_b, gInt_i, gAbs_i, gApd_last, isLst_last, boX_b, tru_l, fzL_dX, fzL_n, fzL_cd, Option.map_some, fz_d, pk_d, ifS_some, hd_int, hd_str, hd_bool, hd_none, hd_list, hd_tuple, wipeX, List.map_cons, List.map_nil, List.length_cons, List.length_nil, List.replicate_succ, List.replicate_zero, List.cons_append, List.nil_append, List.append_nil, decide_eq_true_eq, if_true, if_false, Nat.reduceAdd, Nat.reduceSub, Nat.reduceLeDiff, Nat.zero_add, Nat.sub_zero, ptD, rAndV, tru_b]
      rw [if_neg (by simpa using kr)]
      rw [decide_eq_false kr]
      exact h
  | rng r =>
    simp only [startX, rAsg, rgName, rVar, rC, rBin, rD, rCl, rFz, rTb, rTr, rIf, rIfS, rRet, rRetN, rNx, rCons, rNil, rTup, rTupC, rLst, rApp, rAppF, rCall, rPar, rNeg, rNot, rAnd, rOr, rChain, rLc, riSeq, rYes, rDrop, rFor, rApd, rExt, rgTup, rgCons, rgNil, rgSub, rIsiX, riRng1, riRng2, slot_z, slot_s, set_z, set_s, at0, at1, at2, at3, at4, at5, at6, dX_c, dX_n, gIx_tup, gIx_lst, gEq_ii, gEq_ss, gNe_ii, gNe_ss, gAdd_ii, gSub_ii, gLt_ii, gLe_ii, gGt_ii, gGe_ii, gIsN_d, gLen_l, gMax_ii, gMin_ii, gInt_b, gInt_i, gAbs_i, gApd_last, isLst_last, boX_b, tru_l, fzL_dX, fzL_n, fzL_cd, Option.map_some, fz_d, pk_d, ifS_some, hd_int, hd_str, hd_bool, hd_none, hd_list, hd_tuple, wipeX, List.map_cons, List.map_nil, List.length_cons, List.length_nil, List.replicate_succ, List.replicate_zero, List.cons_append, List.nil_append, List.append_nil, decide_eq_true_eq, if_true, if_false, Nat.reduceAdd, Nat.reduceSub, Nat.reduceLeDiff, Nat.zero_add, Nat.sub_zero, ptD]
    rw [if_neg (by simpa using kr)]
    cases o with
    | kind y =>
      simp only [startX, rAsg, rgName, rVar, rC, rBin, rD, rCl, rFz, rTb, rTr, rIf, rIfS, rRet, rRetN, rNx, rCons, rNil, rTup, rTupC, rLst, rApp, rAppF, rCall, rPar, rNeg, rNot, rAnd, rOr, rChain, rLc, riSeq, rYes, rDrop, rFor, rApd, rExt, rgTup, rgCons, rgNil, rgSub, rIsiX, riRng1, riRng2, slot_z, slot_s, set_z, set_s, at0, at1, at2, at3, at4, at5, at6, dX_c, dX_n, gIx_tup, gIx_lst, gEq_ii, gEq_ss, gNe_ii, gNe_ss, gAdd_ii, gSub_ii, gLt_ii, gLe_ii, gGt_ii, gGe_ii, gIsN_d, gLen_l, gMax_ii, gMin_ii, gInt_b, gInt_i, gAbs_i, gApd_last, isLst_last, boX_b, tru_l, fzL_dX, fzL_n, fzL_cd, Option.map_some, fz_d, pk_d, ifS_some, hd_int, hd_str, hd_bool, hd_none, hd_list, hd_tuple, wipeX, List.map_cons, List.map_nil, List.length_cons, List.length_nil, List.replicate_succ, List.replicate_zero, List.cons_append, List.nil_append, List.append_nil, decide_eq_true_eq, if_true, if_false, Nat.reduceAdd, Nat.reduceSub, Nat.reduceLeDiff, Nat.zero_add, Nat.sub_zero, ptD, rAndV, tru_b]
      rw [if_neg (by simpa using kr2)]
      rw [decide_eq_false kr2]
      exact h
    | rng q =>
      simp only [startX, rAsg, rgName, rVar, rC, rBin, rD, rCl, rFz, rTb, rTr, rIf, rIfS, rRet, rRetN, rNx, rCons, rNil, rTup, rTupC, rLst, rApp, rAppF, rCall, rPar, rNeg, rNot, rAnd, rOr, rChain, rLc, riSeq, rYes, rDrop, rFor, rApd, rExt, rgTup, rgCons, rgNil, rgSub, rIsiX, riRng1, riRng2, slot_z, slot_s, set_z, set_s, at0, at1, at2, at3, at4, at5, at6, dX_c, dX_n, gIx_tup, gIx_lst, gEq_ii, gEq_ss, gNe_ii, gNe_ss, gAdd_ii, gSub_ii, gLt_ii, gLe_ii, gGt_ii, gGe_ii, gIsN_d, gLen_l, gMax_ii, gMin_ii, gInt_b, gInt_i, gAbs_i, gApd_last, isLst_last, boX_b, tru_l, fzL_dX, fzL_n, fzL_cd, Option.map_some, fz_d, pk_d, ifS_some, hd_int, hd_str, hd_bool, hd_none, hd_list, hd_tuple, wipeX, List.map_cons, List.map_nil, List.length_cons, List.length_nil, List.replicate_succ, List.replicate_zero, List.cons_append, List.nil_append, List.append_nil, decide_eq_true_eq, if_true, if_false, Nat.reduceAdd, Nat.reduceSub, Nat.reduceLeDiff, Nat.zero_add, Nat.sub_zero, ptD, rAndV, tru_b, decide_true]
      have z : R (.bool (decide (r.1 = q.1) && (decide (r.2.1 ≤ q.2.1) && decide (q.2.2 ≤ r.2.2)))) := h
      by_cases c1 : r.1 = q.1
      · rw [if_pos c1]
        rw [decide_eq_true c1, Bool.true_and] at z
        by_cases c2 : r.2.1 ≤ q.2.1
        · rw [if_pos c2]
          rw [decide_eq_true c2, Bool.true_and] at z
          exact z
        · rw [if_neg c2]
          rw [decide_eq_false c2, Bool.false_and] at z
          rw [decide_eq_false c2]
          exact z
      · rw [if_neg c1]
        rw [decide_eq_false c1, Bool.false_and] at z
        rw [decide_eq_false c1]
        exact z
theorem ok_lparts (D : DefOk K mg "_law_parts" ["wish"] (defArgs s__law_parts) (defBody s__law_parts) (defScope s__law_parts)) (Z : Fx K mg base) : Cal P w K mg base 1 "_law_parts" ["wish"] (pfD pd_parts) := by
  refine Cal.mkD (k := 0) D sc__law_parts (sd__law_parts Z) (fun ds R ⟨t, e, _⟩ => by rw [e]; rfl) (fun ds R h => ?_) fun ds R R' i ⟨t, e, h1, h2, h3⟩ => ⟨t, e, h1, h2, i _ h3⟩
  obtain ⟨t, rfl, l1, l2, h⟩ := h
  have s2 : (2 : Nat) ≤ sizeLine := by decide
  have s4 : (4 : Nat) ≤ sizeLine := by decide
  unfold b__law_parts
  simp only [startX, rSeq, rAsg, rgName, rVar, rC, rBin, rD, rCl, rFz, rTb, rTr, rIf, rIfS, rRet, rRetN, rNx, rCons, rNil, rTup, rTupC, rLst, rApp, rAppF, rCall, rPar, rNeg, rNot, rAnd, rOr, rChain, rLc, riSeq, rYes, rDrop, rFor, rApd, rExt, rgTup, rgCons, rgNil, rgSub, rIsiX, riRng1, riRng2, slot_z, slot_s, set_z, set_s, at0, at1, at2, at3, at4, at5, at6, dX_c, dX_n, gIx_tup, gIx_lst, gEq_ii, gEq_ss, gNe_ii, gNe_ss, gAdd_ii, gSub_ii, gLt_ii, gLe_ii, gGt_ii, gGe_ii, gIsN_d, gLen_l, gMax_ii, gMin_ii, gInt_b, gInt_i, gAbs_i, gApd_last, isLst_last, boX_b, tru_l, fzL_dX, fzL_n, fzL_cd, Option.map_some, fz_d, pk_d, ifS_some, hd_int, hd_str, hd_bool, hd_none, hd_list, hd_tuple, wipeX, List.map_cons, List.map_nil, List.length_cons, List.length_nil, List.replicate_succ, List.replicate_zero, List.cons_append, List.nil_append, List.append_nil, decide_eq_true_eq, if_true, if_false, Nat.reduceAdd, Nat.reduceSub, Nat.reduceLeDiff, Nat.zero_add, Nat.sub_zero, N__law_parts, thD]
  refine lcW_map PyData.str (fun _ => true) (fun x => ptD (.kind x)) (by trivial) t.ks [] (small (by simp; omega)) (fun x hx Kt Kf h1 h2 => ?_) ?_
  · simp only [startX, rSeq, rAsg, rgName, rVar, rC, rBin, rD, rCl, rFz, rTb, rTr, rIf, rIfS, rRet, rRetN, rNx, rCons, rNil, rTup, rTupC, rLst, rApp, rAppF, rCall, rPar, rNeg, rNot, rAnd, rOr, rChain, rLc, riSeq, rYes, rDrop, rFor, rApd, rExt, rgTup, rgCons, rgNil, rgSub, rIsiX, riRng1, riRng2, slot_z, slot_s, set_z, set_s, at0, at1, at2, at3, at4, at5, at6, dX_c, dX_n, gIx_tup, gIx_lst, gEq_ii, gEq_ss, gNe_ii, gNe_ss, gAdd_ii, gSub_ii, gLt_ii, gLe_ii, gGt_ii, gGe_ii, gIsN_d, gLen_l, gMax_ii, gMin_ii, gInt_b, gInt_i, gAbs_i, gApd_last, isLst_last, boX_b, tru_l, fzL_dX, fzL_n, fzL_cd, Option.map_some, fz_d, pk_d, ifS_some, hd_int, hd_str, hd_bool, hd_none, hd_list, hd_tuple, wipeX, List.map_cons, List.map_nil, List.length_cons, List.length_nil, List.replicate_succ, List.replicate_zero, List.cons_append, List.nil_append, List.append_nil, decide_eq_true_eq, if_true, if_false, Nat.reduceAdd, Nat.reduceSub, Nat.reduceLeDiff, Nat.zero_add, Nat.sub_zero]
    exact ⟨s2, h1 rfl⟩
  rw [filt]
  simp only [startX, rSeq, rAsg, rgName, rVar, rC, rBin, rD, rCl, rFz, rTb, rTr, rIf, rIfS, rRet, rRetN, rNx, rCons, rNil, rTup, rTupC, rLst, rApp, rAppF, rCall, rPar, rNeg, rNot, rAnd, rOr, rChain, rLc, riSeq, rYes, rDrop, rFor, rApd, rExt, rgTup, rgCons, rgNil, rgSub, rIsiX, riRng1, riRng2, slot_z, slot_s, set_z, set_s, at0, at1, at2, at3, at4, at5, at6, dX_c, dX_n, gIx_tup, gIx_lst, gEq_ii, gEq_ss, gNe_ii, gNe_ss, gAdd_ii, gSub_ii, gLt_ii, gLe_ii, gGt_ii, gGe_ii, gIsN_d, gLen_l, gMax_ii, gMin_ii, gInt_b, gInt_i, gAbs_i, gApd_last, isLst_last, boX_b, tru_l, fzL_dX, fzL_n, fzL_cd, Option.map_some, fz_d, pk_d, ifS_some, hd_int, hd_str, hd_bool, hd_none, hd_list, hd_tuple, wipeX, List.map_cons, List.map_nil, List.length_cons, List.length_nil, List.replicate_succ, List.replicate_zero, List.cons_append, List.nil_append, List.append_nil, decide_eq_true_eq, if_true, if_false, Nat.reduceAdd, Nat.reduceSub, Nat.reduceLeDiff, Nat.zero_add, Nat.sub_zero]
  refine lcW_map rgD (fun _ => true) (fun r => ptD (.rng r)) (by trivial) t.rg [] (small (by simp; omega)) (fun r hr Kt Kf h1 h2 => ?_) ?_
  · simp only [startX, rSeq, rAsg, rgName, rVar, rC, rBin, rD, rCl, rFz, rTb, rTr, rIf, rIfS, rRet, rRetN, rNx, rCons, rNil, rTup, rTupC, rLst, rApp, rAppF, rCall, rPar, rNeg, rNot, rAnd, rOr, rChain, rLc, riSeq, rYes, rDrop, rFor, rApd, rExt, rgTup, rgCons, rgNil, rgSub, rIsiX, riRng1, riRng2, slot_z, slot_s, set_z, set_s, at0, at1, at2, at3, at4, at5, at6, dX_c, dX_n, gIx_tup, gIx_lst, gEq_ii, gEq_ss, gNe_ii, gNe_ss, gAdd_ii, gSub_ii, gLt_ii, gLe_ii, gGt_ii, gGe_ii, gIsN_d, gLen_l, gMax_ii, gMin_ii, gInt_b, gInt_i, gAbs_i, gApd_last, isLst_last, boX_b, tru_l, fzL_dX, fzL_n, fzL_cd, Option.map_some, fz_d, pk_d, ifS_some, hd_int, hd_str, hd_bool, hd_none, hd_list, hd_tuple, wipeX, List.map_cons, List.map_nil, List.length_cons, List.length_nil, List.replicate_succ, List.replicate_zero, List.cons_append, List.nil_append, List.append_nil, decide_eq_true_eq, if_true, if_false, Nat.reduceAdd, Nat.reduceSub, Nat.reduceLeDiff, Nat.zero_add, Nat.sub_zero, rgD]
    exact ⟨trivial, s4, h1 rfl⟩
  rw [filt]
  simp only [startX, rSeq, rAsg, rgName, rVar, rC, rBin, rD, rCl, rFz, rTb, rTr, rIf, rIfS, rRet, rRetN, rNx, rCons, rNil, rTup, rTupC, rLst, rApp, rAppF, rCall, rPar, rNeg, rNot, rAnd, rOr, rChain, rLc, riSeq, rYes, rDrop, rFor, rApd, rExt, rgTup, rgCons, rgNil, rgSub, rIsiX, riRng1, riRng2, slot_z, slot_s, set_z, set_s, at0, at1, at2, at3, at4, at5, at6, dX_c, dX_n, gIx_tup, gIx_lst, gEq_ii, gEq_ss, gNe_ii, gNe_ss, gAdd_ii, gSub_ii, gLt_ii, gLe_ii, gGt_ii, gGe_ii, gIsN_d, gLen_l, gMax_ii, gMin_ii, gInt_b, gInt_i, gAbs_i, gApd_last, isLst_last, boX_b, tru_l, fzL_dX, fzL_n, fzL_cd, Option.map_some, fz_d, pk_d, ifS_some, hd_int, hd_str, hd_bool, hd_none, hd_list, hd_tuple, wipeX, List.map_cons, List.map_nil, List.length_cons, List.length_nil, List.replicate_succ, List.replicate_zero, List.cons_append, List.nil_append, List.append_nil, decide_eq_true_eq, if_true, if_false, Nat.reduceAdd, Nat.reduceSub, Nat.reduceLeDiff, Nat.zero_add, Nat.sub_zero, gAdd_ll, parts_D]
  refine ⟨small (by rw [List.length_map, List.length_map]; omega), h⟩
theorem ok_lmeets (D : DefOk K mg "_law_met" ["state", "thing", "wish"] (defArgs s__law_met) (defBody s__law_met) (defScope s__law_met)) (Z : Fx K mg base) (C1 : Cal P w K mg base 2 "_law_parts" ["wish"] (pfD pd_parts)) (C2 : Cal P w K mg base 2 "_law_part_met" ["state", "thing", "part"] (pfD pd_met)) : Cal P w K mg base 3 "_law_met" ["state", "thing", "wish"] (pfD pd_meets) := by
  refine Cal.mkD (k := 2) D sc__law_met (sd__law_met Z C1 C2) (fun ds R ⟨s, ks, t, v, e, _⟩ => by rw [e]; rfl) (fun ds R h => ?_) fun ds R R' i ⟨s, ks, t, v, e, h1, h2, h3, h4, h5⟩ => ⟨s, ks, t, v, e, h1, h2, h3, h4, i _ h5⟩
  obtain ⟨s, ks, t, v, rfl, I, g, gt, gv, h⟩ := h
  have pl := parts_len gv
  unfold b__law_met
  simp only [startX, rSeq, rAsg, rgName, rVar, rC, rBin, rD, rCl, rFz, rTb, rTr, rIf, rIfS, rRet, rRetN, rNx, rCons, rNil, rTup, rTupC, rLst, rApp, rAppF, rCall, rPar, rNeg, rNot, rAnd, rOr, rChain, rLc, riSeq, rYes, rDrop, rFor, rApd, rExt, rgTup, rgCons, rgNil, rgSub, rIsiX, riRng1, riRng2, slot_z, slot_s, set_z, set_s, at0, at1, at2, at3, at4, at5, at6, dX_c, dX_n, gIx_tup, gIx_lst, gEq_ii, gEq_ss, gNe_ii, gNe_ss, gAdd_ii, gSub_ii, gLt_ii, gLe_ii, gGt_ii, gGe_ii, gIsN_d, gLen_l, gMax_ii, gMin_ii, gInt_b, gInt_i, gAbs_i, gApd_last, isLst_last, boX_b, tru_l, fzL_dX, fzL_n, fzL_cd, Option.map_some, fz_d, pk_d, ifS_some, hd_int, hd_str, hd_bool, hd_none, hd_list, hd_tuple, wipeX, List.map_cons, List.map_nil, List.length_cons, List.length_nil, List.replicate_succ, List.replicate_zero, List.cons_append, List.nil_append, List.append_nil, decide_eq_true_eq, if_true, if_false, Nat.reduceAdd, Nat.reduceSub, Nat.reduceLeDiff, Nat.zero_add, Nat.sub_zero, N__law_met]
  refine u_parts gv ?_
  refine lcW_map ptD (fun _ => true) (fun p => .bool (metP ks t p)) (by trivial) (partsOf v) [] (small (by simp; omega)) (fun p hp Kt Kf h1 h2 => ?_) ?_
  · simp only [startX, rSeq, rAsg, rgName, rVar, rC, rBin, rD, rCl, rFz, rTb, rTr, rIf, rIfS, rRet, rRetN, rNx, rCons, rNil, rTup, rTupC, rLst, rApp, rAppF, rCall, rPar, rNeg, rNot, rAnd, rOr, rChain, rLc, riSeq, rYes, rDrop, rFor, rApd, rExt, rgTup, rgCons, rgNil, rgSub, rIsiX, riRng1, riRng2, slot_z, slot_s, set_z, set_s, at0, at1, at2, at3, at4, at5, at6, dX_c, dX_n, gIx_tup, gIx_lst, gEq_ii, gEq_ss, gNe_ii, gNe_ss, gAdd_ii, gSub_ii, gLt_ii, gLe_ii, gGt_ii, gGe_ii, gIsN_d, gLen_l, gMax_ii, gMin_ii, gInt_b, gInt_i, gAbs_i, gApd_last, isLst_last, boX_b, tru_l, fzL_dX, fzL_n, fzL_cd, Option.map_some, fz_d, pk_d, ifS_some, hd_int, hd_str, hd_bool, hd_none, hd_list, hd_tuple, wipeX, List.map_cons, List.map_nil, List.length_cons, List.length_nil, List.replicate_succ, List.replicate_zero, List.cons_append, List.nil_append, List.append_nil, decide_eq_true_eq, if_true, if_false, Nat.reduceAdd, Nat.reduceSub, Nat.reduceLeDiff, Nat.zero_add, Nat.sub_zero]
    exact u_met I g gt (okP_of g gv p hp) (h1 rfl)
  simp only [startX, rSeq, rAsg, rgName, rVar, rC, rBin, rD, rCl, rFz, rTb, rTr, rIf, rIfS, rRet, rRetN, rNx, rCons, rNil, rTup, rTupC, rLst, rApp, rAppF, rCall, rPar, rNeg, rNot, rAnd, rOr, rChain, rLc, riSeq, rYes, rDrop, rFor, rApd, rExt, rgTup, rgCons, rgNil, rgSub, rIsiX, riRng1, riRng2, slot_z, slot_s, set_z, set_s, at0, at1, at2, at3, at4, at5, at6, dX_c, dX_n, gIx_tup, gIx_lst, gEq_ii, gEq_ss, gNe_ii, gNe_ss, gAdd_ii, gSub_ii, gLt_ii, gLe_ii, gGt_ii, gGe_ii, gIsN_d, gLen_l, gMax_ii, gMin_ii, gInt_b, gInt_i, gAbs_i, gApd_last, isLst_last, boX_b, tru_l, fzL_dX, fzL_n, fzL_cd, Option.map_some, fz_d, pk_d, ifS_some, hd_int, hd_str, hd_bool, hd_none, hd_list, hd_tuple, wipeX, List.map_cons, List.map_nil, List.length_cons, List.length_nil, List.replicate_succ, List.replicate_zero, List.cons_append, List.nil_append, List.append_nil, decide_eq_true_eq, if_true, if_false, Nat.reduceAdd, Nat.reduceSub, Nat.reduceLeDiff, Nat.zero_add, Nat.sub_zero, gAll_f]
  exact h
/-! ### a thing outside -/
def outR (p : Part) (r : Rng) : Rng := match p with
  | .rng q => if q.1 = r.1 ∧ q.2.1 ≤ r.2.1 then (r.1, r.2.2, r.2.2) else (r.1, r.2.1, r.2.1)
  | .kind _ => (r.1, r.2.1, r.2.1)
def outT (v : Th) (p : Part) : Th := ⟨v.ks, v.rg.map (outR p)⟩
theorem outR_nm (p : Part) (r : Rng) : (outR p r).1 = r.1 := by
  unfold outR
  split
  · split <;> rfl
  · rfl
theorem outT_ok {ks : Ks} {v : Th} (g : Gt ks v) (p : Part) : Gt ks (outT v p) := by
  refine ⟨g.km, g.kl, ?_, by show (v.rg.map (outR p)).length ≤ 10; rw [List.length_map]; exact g.rl⟩
  show ((v.rg.map (outR p)).map (·.1)).Nodup
  rw [List.map_map, show v.rg.map ((fun x => x.1) ∘ outR p) = v.rg.map (·.1) from List.map_congr_left fun r _ => outR_nm p r]
  exact g.rn
theorem fzL_one {M M' : Sto} {v : Xv} {d : PyData} (e : fz M v = some (d, M')) : fzL M [v] = some ([d], M') := by
  show (match frzN 6 M v with
    | some (d, M') => match frzLf (frzN 6) M' [] with
      | some (ds, M'') => some (d :: ds, M'')
      | none => none
    | none => none) = _
  have e : frzN 6 M v = some (d, M') := e
  rw [e]
  rfl
def pd_out : PD := fun ds R => ∃ ks v p, ds = [thD v, ptD p] ∧ Gt ks v ∧ R (thD (outT v p))
theorem ok_out (D : DefOk K mg "outside" ["wish", "part"] (defArgs s_outside) (defBody s_outside) (defScope s_outside)) (Z : Fx K mg base) : Cal P w K mg base 1 "outside" ["wish", "part"] (pfD pd_out) := by
  refine Cal.mkD (k := 0) D sc_outside (sd_outside Z) (fun ds R ⟨ks, v, p, e, _⟩ => by rw [e]; rfl) (fun ds R h => ?_) fun ds R R' i ⟨ks, v, p, e, h1, h2⟩ => ⟨ks, v, p, e, h1, i _ h2⟩
  obtain ⟨ks, v, p, rfl, g, h⟩ := h
  have s0 : (0 : Nat) ≤ sizeLine := by decide
  have s2 : (2 : Nat) ≤ sizeLine := by decide
  have s3 : (3 : Nat) ≤ sizeLine := by decide
  have rl := g.rl
  unfold b_outside
  simp only [startX, rAsg, rgName, rVar, rC, rBin, rD, rCl, rFz, rTb, rTr, rIf, rIfS, rRet, rRetN, rNx, rCons, rNil, rTup, rTupC, rLst, rApp, rAppF, rCall, rPar, rNeg, rNot, rAnd, rOr, rChain, rLc, riSeq, rYes, rDrop, rFor, rApd, rExt, rgTup, rgCons, rgNil, rgSub, rIsiX, riRng1, riRng2, slot_z, slot_s, set_z, set_s, at0, at1, at2, at3, at4, at5, at6, dX_c, dX_n, gIx_tup, gIx_lst, gEq_ii, gEq_ss, gNe_ii, gNe_ss, gAdd_ii, gSub_ii, gLt_ii, gLe_ii, gGt_ii, gGe_ii, gIsN_d, gLen_l, gMax_ii, gMin_ii, gInt_b, gInt_i, gAbs_i, gApd_last, isLst_last, boX_b, tru_l, fzL_dX, fzL_n, fzL_cd, Option.map_some, fz_d, pk_d, ifS_some, hd_int, hd_str, hd_bool, hd_none, hd_list, hd_tuple, wipeX, List.map_cons, List.map_nil, List.length_cons, List.length_nil, List.replicate_succ, List.replicate_zero, List.cons_append, List.nil_append, List.append_nil, decide_eq_true_eq, if_true, if_false, Nat.reduceAdd, Nat.reduceSub, Nat.reduceLeDiff, Nat.zero_add, Nat.sub_zero, N_outside]
  refine seq_step ?_
  simp only [startX, rAsg, rgName, rVar, rC, rBin, rD, rCl, rFz, rTb, rTr, rIf, rIfS, rRet, rRetN, rNx, rCons, rNil, rTup, rTupC, rLst, rApp, rAppF, rCall, rPar, rNeg, rNot, rAnd, rOr, rChain, rLc, riSeq, rYes, rDrop, rFor, rApd, rExt, rgTup, rgCons, rgNil, rgSub, rIsiX, riRng1, riRng2, slot_z, slot_s, set_z, set_s, at0, at1, at2, at3, at4, at5, at6, dX_c, dX_n, gIx_tup, gIx_lst, gEq_ii, gEq_ss, gNe_ii, gNe_ss, gAdd_ii, gSub_ii, gLt_ii, gLe_ii, gGt_ii, gGe_ii, gIsN_d, gLen_l, gMax_ii, gMin_ii, gInt_b, gInt_i, gAbs_i, gApd_last, isLst_last, boX_b, tru_l, fzL_dX, fzL_n, fzL_cd, Option.map_some, fz_d, pk_d, ifS_some, hd_int, hd_str, hd_bool, hd_none, hd_list, hd_tuple, wipeX, List.map_cons, List.map_nil, List.length_cons, List.length_nil, List.replicate_succ, List.replicate_zero, List.cons_append, List.nil_append, List.append_nil, decide_eq_true_eq, if_true, if_false, Nat.reduceAdd, Nat.reduceSub, Nat.reduceLeDiff, Nat.zero_add, Nat.sub_zero]
  refine ⟨s0, ?_⟩
  refine seq_step ?_
  have hv0 : ∀ (M : Sto) (P : Xv → Sto → Prop), gIx (.d (thD v)) (.d (.int 0)) M P = P (.d (.list (v.ks.map .str))) M := fun _ _ => rfl
  have hv1 : ∀ (M : Sto) (P : Xv → Sto → Prop), gIx (.d (thD v)) (.d (.int 1)) M P = P (.d (.list (v.rg.map rgD))) M := fun _ _ => rfl
  simp only [startX, rAsg, rgName, rVar, rC, rBin, rD, rCl, rFz, rTb, rTr, rIf, rIfS, rRet, rRetN, rNx, rCons, rNil, rTup, rTupC, rLst, rApp, rAppF, rCall, rPar, rNeg, rNot, rAnd, rOr, rChain, rLc, riSeq, rYes, rDrop, rFor, rApd, rExt, rgTup, rgCons, rgNil, rgSub, rIsiX, riRng1, riRng2, slot_z, slot_s, set_z, set_s, at0, at1, at2, at3, at4, at5, at6, dX_c, dX_n, gIx_tup, gIx_lst, gEq_ii, gEq_ss, gNe_ii, gNe_ss, gAdd_ii, gSub_ii, gLt_ii, gLe_ii, gGt_ii, gGe_ii, gIsN_d, gLen_l, gMax_ii, gMin_ii, gInt_b, gInt_i, gAbs_i, gApd_last, isLst_last, boX_b, tru_l, fzL_dX, fzL_n, fzL_cd, Option.map_some, fz_d, pk_d, ifS_some, hd_int, hd_str, hd_bool, hd_none, hd_list, hd_tuple, wipeX, List.map_cons, List.map_nil, List.length_cons, List.length_nil, List.replicate_succ, List.replicate_zero, List.cons_append, List.nil_append, List.append_nil, decide_eq_true_eq, if_true, if_false, Nat.reduceAdd, Nat.reduceSub, Nat.reduceLeDiff, Nat.zero_add, Nat.sub_zero, hv1]
  refine loopW_inv (fun xs σ M => ∃ (pre rest : List Rng) (o3 o4 o5 o6 : Option Xv), xs = dX (rest.map rgD) ∧ pre ++ rest = v.rg ∧ M = [.lst (dX ((pre.map (outR p)).map rgD))] ∧
    σ = [some (.d (thD v)), some (.d (ptD p)), some (.c 0), o3, o4, o5, o6]) ?_ ?_ _ _ _ ⟨[], v.rg, _, _, _, _, rfl, rfl, rfl, rfl⟩
  · rintro x xs σ M ⟨pre, rest, o3, o4, o5, o6, e, ep, rfl, rfl⟩ C hC
    obtain ⟨r, rest, rfl⟩ : ∃ a r, rest = a :: r := by
      cases rest with
      | nil => cases e
      | cons a r => exact ⟨a, r, rfl⟩
    rw [List.map_cons, dX_c] at e
    cases e
    have lp : pre.length ≤ 10 := by
      have := congrArg List.length ep
      rw [List.length_append] at this
      omega
    refine ⟨trivial, ?_⟩
    simp only [startX, rAsg, rgName, rVar, rC, rBin, rD, rCl, rFz, rTb, rTr, rIf, rIfS, rRet, rRetN, rNx, rCons, rNil, rTup, rTupC, rLst, rApp, rAppF, rCall, rPar, rNeg, rNot, rAnd, rOr, rChain, rLc, riSeq, rYes, rDrop, rFor, rApd, rExt, rgTup, rgCons, rgNil, rgSub, rIsiX, riRng1, riRng2, slot_z, slot_s, set_z, set_s, at0, at1, at2, at3, at4, at5, at6, dX_c, dX_n, gIx_tup, gIx_lst, gEq_ii, gEq_ss, gNe_ii, gNe_ss, gAdd_ii, gSub_ii, gLt_ii, gLe_ii, gGt_ii, gGe_ii, gIsN_d, gLen_l, gMax_ii, gMin_ii, gInt_b, gInt_i, gAbs_i, gApd_last, isLst_last, boX_b, tru_l, fzL_dX, fzL_n, fzL_cd, Option.map_some, fz_d, pk_d, ifS_some, hd_int, hd_str, hd_bool, hd_none, hd_list, hd_tuple, wipeX, List.map_cons, List.map_nil, List.length_cons, List.length_nil, List.replicate_succ, List.replicate_zero, List.cons_append, List.nil_append, List.append_nil, decide_eq_true_eq, if_true, if_false, Nat.reduceAdd, Nat.reduceSub, Nat.reduceLeDiff, Nat.zero_add, Nat.sub_zero, rgD]
    refine ⟨trivial, ?_⟩
    refine seq_step ?_
    simp only [startX, rAsg, rgName, rVar, rC, rBin, rD, rCl, rFz, rTb, rTr, rIf, rIfS, rRet, rRetN, rNx, rCons, rNil, rTup, rTupC, rLst, rApp, rAppF, rCall, rPar, rNeg, rNot, rAnd, rOr, rChain, rLc, riSeq, rYes, rDrop, rFor, rApd, rExt, rgTup, rgCons, rgNil, rgSub, rIsiX, riRng1, riRng2, slot_z, slot_s, set_z, set_s, at0, at1, at2, at3, at4, at5, at6, dX_c, dX_n, gIx_tup, gIx_lst, gEq_ii, gEq_ss, gNe_ii, gNe_ss, gAdd_ii, gSub_ii, gLt_ii, gLe_ii, gGt_ii, gGe_ii, gIsN_d, gLen_l, gMax_ii, gMin_ii, gInt_b, gInt_i, gAbs_i, gApd_last, isLst_last, boX_b, tru_l, fzL_dX, fzL_n, fzL_cd, Option.map_some, fz_d, pk_d, ifS_some, hd_int, hd_str, hd_bool, hd_none, hd_list, hd_tuple, wipeX, List.map_cons, List.map_nil, List.length_cons, List.length_nil, List.replicate_succ, List.replicate_zero, List.cons_append, List.nil_append, List.append_nil, decide_eq_true_eq, if_true, if_false, Nat.reduceAdd, Nat.reduceSub, Nat.reduceLeDiff, Nat.zero_add, Nat.sub_zero]
    have fin : ∀ (z : Int), outR p r = (r.1, z, z) → isLst [Ob.lst (dX ((pre.map (outR p)).map rgD))] (.c 0) ∧ 3 ≤ sizeLine ∧ gApd (.c 0) (.d (.tuple [.str r.1, .int z, .int z])) [.lst (dX ((pre.map (outR p)).map rgD))] fun _ M1 => C [some (.d (thD v)), some (.d (ptD p)), some (.c 0), some (.d (.str r.1)), some (.d (.int r.2.1)), some (.d (.int r.2.2)), some (.d (.int z))] M1 := fun z ez => by
      refine ⟨trivial, s3, ?_⟩
      show ((dX ((pre.map (outR p)).map rgD)).length < sizeLine ∧ C _ [.lst (dX ((pre.map (outR p)).map rgD) ++ [.d (rgD (r.1, z, z))])])
      refine ⟨by rw [List.length_map, List.length_map, List.length_map, sizeLine_eq]; omega, ?_⟩
      rw [← ez, show dX ((pre.map (outR p)).map rgD) ++ [.d (rgD (outR p r))] = dX (((pre ++ [r]).map (outR p)).map rgD) by simp [dX]]
      exact hC _ _ ⟨pre ++ [r], rest, _, _, _, _, rfl, by rw [← ep]; simp, rfl, rfl⟩
    refine seq_step ?_
    cases p with
    | kind x =>
      simp only [startX, rAsg, rgName, rVar, rC, rBin, rD, rCl, rFz, rTb, rTr, rIf, rIfS, rRet, rRetN, rNx, rCons, rNil, rTup, rTupC, rLst, rApp, rAppF, rCall, rPar, rNeg, rNot, rAnd, rOr, rChain, rLc, riSeq, rYes, rDrop, rFor, rApd, rExt, rgTup, rgCons, rgNil, rgSub, rIsiX, riRng1, riRng2, slot_z, slot_s, set_z, set_s, at0, at1, at2, at3, at4, at5, at6, dX_c, dX_n, gIx_tup, gIx_lst, gEq_ii, gEq_ss, gNe_ii, gNe_ss, gAdd_ii, gSub_ii, gLt_ii, gLe_ii, gGt_ii, gGe_ii, gIsN_d, gLen_l, gMax_ii, gMin_ii, gInt_b, gInt_i, gAbs_i, gApd_last, isLst_last, boX_b, tru_l, fzL_dX, fzL_n, fzL_cd, Option.map_some, fz_d, pk_d, ifS_some, hd_int, hd_str, hd_bool, hd_none, hd_list, hd_tuple, wipeX, List.map_cons, List.map_nil, List.length_cons, List.length_nil, List.replicate_succ, List.replicate_zero, List.cons_append, List.nil_append, List.append_nil, decide_eq_true_eq, if_true, if_false, Nat.reduceAdd, Nat.reduceSub, Nat.reduceLeDiff, Nat.zero_add, Nat.sub_zero, ptD]
      rw [if_neg (by simpa using kr2)]
      simp only [Bool.false_eq_true, if_false]
      try simp only [startX, rAsg, rgName, rVar, rC, rBin, rD, rCl, rFz, rTb, rTr, rIf, rIfS, rRet, rRetN, rNx, rCons, rNil, rTup, rTupC, rLst, rApp, rAppF, rCall, rPar, rNeg, rNot, rAnd, rOr, rChain, rLc, riSeq, rYes, rDrop, rFor, rApd, rExt, rgTup, rgCons, rgNil, rgSub, rIsiX, riRng1, riRng2, slot_z, slot_s, set_z, set_s, at0, at1, at2, at3, at4, at5, at6, dX_c, dX_n, gIx_tup, gIx_lst, gEq_ii, gEq_ss, gNe_ii, gNe_ss, gAdd_ii, gSub_ii, gLt_ii, gLe_ii, gGt_ii, gGe_ii, gIsN_d, gLen_l, gMax_ii, gMin_ii, gInt_b, gInt_i, gAbs_i, gApd_last, isLst_last, boX_b, tru_l, fzL_dX, fzL_n, fzL_cd, Option.map_some, fz_d, pk_d, ifS_some, hd_int, hd_str, hd_bool, hd_none, hd_list, hd_tuple, wipeX, List.map_cons, List.map_nil, List.length_cons, List.length_nil, List.replicate_succ, List.replicate_zero, List.cons_append, List.nil_append, List.append_nil, decide_eq_true_eq, if_true, if_false, Nat.reduceAdd, Nat.reduceSub, Nat.reduceLeDiff, Nat.zero_add, Nat.sub_zero]
      exact fin r.2.1 rfl
    | rng q =>
      simp only [startX, rAsg, rgName, rVar, rC, rBin, rD, rCl, rFz, rTb, rTr, rIf, rIfS, rRet, rRetN, rNx, rCons, rNil, rTup, rTupC, rLst, rApp, rAppF, rCall, rPar, rNeg, rNot, rAnd, rOr, rChain, rLc, riSeq, rYes, rDrop, rFor, rApd, rExt, rgTup, rgCons, rgNil, rgSub, rIsiX, riRng1, riRng2, slot_z, slot_s, set_z, set_s, at0, at1, at2, at3, at4, at5, at6, dX_c, dX_n, gIx_tup, gIx_lst, gEq_ii, gEq_ss, gNe_ii, gNe_ss, gAdd_ii, gSub_ii, gLt_ii, gLe_ii, gGt_ii, gGe_ii, gIsN_d, gLen_l, gMax_ii, gMin_ii, gInt_b, gInt_i, gAbs_i, gApd_last, isLst_last, boX_b, tru_l, fzL_dX, fzL_n, fzL_cd, Option.map_some, fz_d, pk_d, ifS_some, hd_int, hd_str, hd_bool, hd_none, hd_list, hd_tuple, wipeX, List.map_cons, List.map_nil, List.length_cons, List.length_nil, List.replicate_succ, List.replicate_zero, List.cons_append, List.nil_append, List.append_nil, decide_eq_true_eq, if_true, if_false, Nat.reduceAdd, Nat.reduceSub, Nat.reduceLeDiff, Nat.zero_add, Nat.sub_zero, ptD]
      by_cases c1 : q.1 = r.1
      · rw [if_pos c1]
        by_cases c2 : q.2.1 ≤ r.2.1
        · rw [if_pos c2]
          exact fin r.2.2 (by unfold outR; exact if_pos ⟨c1, c2⟩)
        · rw [if_neg c2]
          exact fin r.2.1 (by unfold outR; exact if_neg fun z => c2 z.2)
      · rw [if_neg c1]
        simp only [Bool.false_eq_true, if_false]
        exact fin r.2.1 (by unfold outR; exact if_neg fun z => c1 z.1)
  · rintro σ M ⟨pre, rest, o3, o4, o5, o6, e, ep, rfl, rfl⟩
    have e0 : rest = [] := by
      cases rest with
      | nil => rfl
      | cons a r => cases e
    subst e0
    rw [List.append_nil] at ep
    refine ⟨trivial, ?_⟩
    simp only [startX, rAsg, rgName, rVar, rC, rBin, rD, rCl, rFz, rTb, rTr, rIf, rIfS, rRet, rRetN, rNx, rCons, rNil, rTup, rTupC, rLst, rApp, rAppF, rCall, rPar, rNeg, rNot, rAnd, rOr, rChain, rLc, riSeq, rYes, rDrop, rFor, rApd, rExt, rgTup, rgCons, rgNil, rgSub, rIsiX, riRng1, riRng2, slot_z, slot_s, set_z, set_s, at0, at1, at2, at3, at4, at5, at6, dX_c, dX_n, gIx_tup, gIx_lst, gEq_ii, gEq_ss, gNe_ii, gNe_ss, gAdd_ii, gSub_ii, gLt_ii, gLe_ii, gGt_ii, gGe_ii, gIsN_d, gLen_l, gMax_ii, gMin_ii, gInt_b, gInt_i, gAbs_i, gApd_last, isLst_last, boX_b, tru_l, fzL_dX, fzL_n, fzL_cd, Option.map_some, fz_d, pk_d, ifS_some, hd_int, hd_str, hd_bool, hd_none, hd_list, hd_tuple, wipeX, List.map_cons, List.map_nil, List.length_cons, List.length_nil, List.replicate_succ, List.replicate_zero, List.cons_append, List.nil_append, List.append_nil, decide_eq_true_eq, if_true, if_false, Nat.reduceAdd, Nat.reduceSub, Nat.reduceLeDiff, Nat.zero_add, Nat.sub_zero, hv0, gList]
    rw [fzL_one (fz_lst rfl)]
    refine ⟨s2, ?_⟩
    rw [ep]
    exact h
end K11

set_option Elab.async false
set_option linter.all false
set_option maxRecDepth 100000
set_option maxHeartbeats 8000000
namespace K11
open PySem PySem.Spec PyProof.Rows L2 G
variable {P : Program} {w : World} {K : PySem.W.Frag} {mg : Str → Option Value} {base : Heap} {k : Nat}
inductive Td where
  | no (t : Th)
  | cov (ps : List Int)
def tdD : Td → PyData
  | .no t => .tuple [.str "not", thD t]
  | .cov ps => .tuple [.str "covers", .list (ps.map .int)]
abbrev pdf : Part := .kind ⟨#[]⟩
def cvd (ks : Ks) (rows : List Part) : List Part → List Int → Prop
  | [], [] => True
  | p :: ps, j :: js => (∃ n : Nat, j = n ∧ n < rows.length ∧ covP ks p (rows.getD n pdf) = true) ∧ cvd ks rows ps js
  | _, _ => False
theorem cvd_snoc {ks : Ks} {rows : List Part} {p : Part} {n : Nat} (hn : n < rows.length) (hc : covP ks p (rows.getD n pdf) = true) : ∀ {ps : List Part} {js : List Int}, cvd ks rows ps js → cvd ks rows (ps ++ [p]) (js ++ [(n : Int)])
  | [], [], _ => ⟨⟨n, rfl, hn, hc⟩, trivial⟩
  | _ :: _, _ :: _, h => ⟨h.1, cvd_snoc hn hc h.2⟩
  | [], _ :: _, h => h.elim
  | _ :: _, [], h => h.elim
theorem cvd_len {ks : Ks} {rows : List Part} : ∀ {ps : List Part} {js : List Int}, cvd ks rows ps js → js.length = ps.length
  | [], [], _ => rfl
  | _ :: _, _ :: _, h => congrArg (· + 1) (cvd_len h.2)
  | [], _ :: _, h => h.elim
  | _ :: _, [], h => h.elim
def Right (ks : Ks) (one other : Th) : Td → Prop
  | .no t => ∃ p ∈ partsOf one, (∀ o ∈ partsOf other, covP ks p o = false) ∧ t = outT other p
  | .cov ps => cvd ks (partsOf other) (partsOf one) ps
def pd_covers : PD := fun ds R => ∃ s ks one other, ds = [s, thD one, thD other] ∧ Is s ks ∧ Gk ks ∧ Gt ks one ∧ Gt ks other ∧ ∀ td, Right ks one other td → R (tdD td)
theorem u_cov {s : PyData} {ks : Ks} {p o : Part} {M : Sto} {P : Xv → Sto → Prop} (I : Is s ks) (g : Gk ks) (hp : okN ks p) (ho : okN ks o) (h : P (.d (.bool (covP ks p o))) M) : pfD pd_cov [.d s, .d (ptD p), .d (ptD o)] M P :=
  pfD3 _ _ _ _ _ _ ⟨s, ks, p, o, rfl, I, g, hp, ho, h⟩
theorem u_out {ks : Ks} {v : Th} {p : Part} {M : Sto} {P : Xv → Sto → Prop} (g : Gt ks v) (h : P (.d (thD (outT v p))) M) : pfD pd_out [.d (thD v), .d (ptD p)] M P :=
  pfD2 _ _ _ _ _ ⟨ks, v, p, rfl, g, h⟩
theorem getD_pt {rows : List Part} {i : Nat} (h : i < rows.length) : (rows.map ptD).getD i .none = ptD (rows.getD i pdf) := by simp [List.getD, h]
theorem getD_mem {rows : List Part} {i : Nat} (h : i < rows.length) : rows.getD i pdf ∈ rows := by
  have : rows.getD i pdf = rows[i] := by simp [List.getD, h]
  rw [this]; exact List.getElem_mem h
theorem ok_covers (D : DefOk K mg "covers" ["state", "one", "other"] (defArgs s_covers) (defBody s_covers) (defScope s_covers)) (Z : Fx K mg base) (C1 : Cal P w K mg base 2 "parts" ["wish"] (pfD pd_parts)) (C2 : Cal P w K mg base 2 "covers_part" ["state", "part", "other"] (pfD pd_cov)) (C3 : Cal P w K mg base 2 "outside" ["wish", "part"] (pfD pd_out)) : Cal P w K mg base 3 "covers" ["state", "one", "other"] (pfD pd_covers) := by
  refine Cal.mkD (k := 2) D sc_covers (sd_covers Z C1 C2 C3) (fun ds R ⟨s, ks, p, o, e, _⟩ => by rw [e]; rfl) (fun ds R h => ?_) fun ds R R' i ⟨s, ks, p, o, e, h1, h2, h3, h4, h5⟩ => ⟨s, ks, p, o, e, h1, h2, h3, h4, fun td q => i _ (h5 td q)⟩
  obtain ⟨s, ks, one, other, rfl, I, g, g1, g2, h⟩ := h
  have s0 : (0 : Nat) ≤ sizeLine := by decide
  have s2 : (2 : Nat) ≤ sizeLine := by decide
  have l1 := parts_len g1
  have l2 := parts_len g2
  have n1 := okN_of g1
  have n2 := okN_of g2
  unfold b_covers
  simp only [startX, rAsg, rgName, rVar, rC, rBin, rD, rCl, rFz, rTb, rTr, rIf, rIfS, rRet, rRetN, rNx, rCons, rNil, rTup, rTupC, rLst, rApp, rAppF, rCall, rPar, rNeg, rNot, rAnd, rOr, rChain, rLc, riSeq, rYes, rDrop, rFor, rApd, rExt, rgTup, rgCons, rgNil, rgSub, rIsiX, riRng1, riRng2, slot_z, slot_s, set_z, set_s, at0, at1, at2, at3, at4, at5, at6, dX_c, dX_n, gIx_tup, gIx_lst, gEq_ii, gEq_ss, gNe_ii, gNe_ss, gAdd_ii, gSub_ii, gLt_ii, gLe_ii, gGt_ii, gGe_ii, gIsN_d, gLen_l, gMax_ii, gMin_ii, gInt_b, gInt_i, gAbs_i, gApd_last, isLst_last, boX_b, tru_l, fzL_dX, fzL_n, fzL_cd, Option.map_some, fz_d, pk_d, ifS_some, hd_int, hd_str, hd_bool, hd_none, hd_list, hd_tuple, wipeX, List.map_cons, List.map_nil, List.length_cons, List.length_nil, List.replicate_succ, List.replicate_zero, List.cons_append, List.nil_append, List.append_nil, decide_eq_true_eq, if_true, if_false, Nat.reduceAdd, Nat.reduceSub, Nat.reduceLeDiff, Nat.zero_add, Nat.sub_zero, N_covers]
  refine seq_step ?_
  simp only [startX, rAsg, rgName, rVar, rC, rBin, rD, rCl, rFz, rTb, rTr, rIf, rIfS, rRet, rRetN, rNx, rCons, rNil, rTup, rTupC, rLst, rApp, rAppF, rCall, rPar, rNeg, rNot, rAnd, rOr, rChain, rLc, riSeq, rYes, rDrop, rFor, rApd, rExt, rgTup, rgCons, rgNil, rgSub, rIsiX, riRng1, riRng2, slot_z, slot_s, set_z, set_s, at0, at1, at2, at3, at4, at5, at6, dX_c, dX_n, gIx_tup, gIx_lst, gEq_ii, gEq_ss, gNe_ii, gNe_ss, gAdd_ii, gSub_ii, gLt_ii, gLe_ii, gGt_ii, gGe_ii, gIsN_d, gLen_l, gMax_ii, gMin_ii, gInt_b, gInt_i, gAbs_i, gApd_last, isLst_last, boX_b, tru_l, fzL_dX, fzL_n, fzL_cd, Option.map_some, fz_d, pk_d, ifS_some, hd_int, hd_str, hd_bool, hd_none, hd_list, hd_tuple, wipeX, List.map_cons, List.map_nil, List.length_cons, List.length_nil, List.replicate_succ, List.replicate_zero, List.cons_append, List.nil_append, List.append_nil, decide_eq_true_eq, if_true, if_false, Nat.reduceAdd, Nat.reduceSub, Nat.reduceLeDiff, Nat.zero_add, Nat.sub_zero]
  refine ⟨s0, ?_⟩
  refine seq_step ?_
  simp only [startX, rAsg, rgName, rVar, rC, rBin, rD, rCl, rFz, rTb, rTr, rIf, rIfS, rRet, rRetN, rNx, rCons, rNil, rTup, rTupC, rLst, rApp, rAppF, rCall, rPar, rNeg, rNot, rAnd, rOr, rChain, rLc, riSeq, rYes, rDrop, rFor, rApd, rExt, rgTup, rgCons, rgNil, rgSub, rIsiX, riRng1, riRng2, slot_z, slot_s, set_z, set_s, at0, at1, at2, at3, at4, at5, at6, dX_c, dX_n, gIx_tup, gIx_lst, gEq_ii, gEq_ss, gNe_ii, gNe_ss, gAdd_ii, gSub_ii, gLt_ii, gLe_ii, gGt_ii, gGe_ii, gIsN_d, gLen_l, gMax_ii, gMin_ii, gInt_b, gInt_i, gAbs_i, gApd_last, isLst_last, boX_b, tru_l, fzL_dX, fzL_n, fzL_cd, Option.map_some, fz_d, pk_d, ifS_some, hd_int, hd_str, hd_bool, hd_none, hd_list, hd_tuple, wipeX, List.map_cons, List.map_nil, List.length_cons, List.length_nil, List.replicate_succ, List.replicate_zero, List.cons_append, List.nil_append, List.append_nil, decide_eq_true_eq, if_true, if_false, Nat.reduceAdd, Nat.reduceSub, Nat.reduceLeDiff, Nat.zero_add, Nat.sub_zero]
  refine u_parts g2 ?_
  obtain ⟨rows, hrows⟩ : ∃ rows, partsOf other = rows := ⟨_, rfl⟩
  refine seq_step ?_
  simp only [startX, rAsg, rgName, rVar, rC, rBin, rD, rCl, rFz, rTb, rTr, rIf, rIfS, rRet, rRetN, rNx, rCons, rNil, rTup, rTupC, rLst, rApp, rAppF, rCall, rPar, rNeg, rNot, rAnd, rOr, rChain, rLc, riSeq, rYes, rDrop, rFor, rApd, rExt, rgTup, rgCons, rgNil, rgSub, rIsiX, riRng1, riRng2, slot_z, slot_s, set_z, set_s, at0, at1, at2, at3, at4, at5, at6, dX_c, dX_n, gIx_tup, gIx_lst, gEq_ii, gEq_ss, gNe_ii, gNe_ss, gAdd_ii, gSub_ii, gLt_ii, gLe_ii, gGt_ii, gGe_ii, gIsN_d, gLen_l, gMax_ii, gMin_ii, gInt_b, gInt_i, gAbs_i, gApd_last, isLst_last, boX_b, tru_l, fzL_dX, fzL_n, fzL_cd, Option.map_some, fz_d, pk_d, ifS_some, hd_int, hd_str, hd_bool, hd_none, hd_list, hd_tuple, wipeX, List.map_cons, List.map_nil, List.length_cons, List.length_nil, List.replicate_succ, List.replicate_zero, List.cons_append, List.nil_append, List.append_nil, decide_eq_true_eq, if_true, if_false, Nat.reduceAdd, Nat.reduceSub, Nat.reduceLeDiff, Nat.zero_add, Nat.sub_zero]
  refine u_parts g1 ?_
  simp only [startX, rAsg, rgName, rVar, rC, rBin, rD, rCl, rFz, rTb, rTr, rIf, rIfS, rRet, rRetN, rNx, rCons, rNil, rTup, rTupC, rLst, rApp, rAppF, rCall, rPar, rNeg, rNot, rAnd, rOr, rChain, rLc, riSeq, rYes, rDrop, rFor, rApd, rExt, rgTup, rgCons, rgNil, rgSub, rIsiX, riRng1, riRng2, slot_z, slot_s, set_z, set_s, at0, at1, at2, at3, at4, at5, at6, dX_c, dX_n, gIx_tup, gIx_lst, gEq_ii, gEq_ss, gNe_ii, gNe_ss, gAdd_ii, gSub_ii, gLt_ii, gLe_ii, gGt_ii, gGe_ii, gIsN_d, gLen_l, gMax_ii, gMin_ii, gInt_b, gInt_i, gAbs_i, gApd_last, isLst_last, boX_b, tru_l, fzL_dX, fzL_n, fzL_cd, Option.map_some, fz_d, pk_d, ifS_some, hd_int, hd_str, hd_bool, hd_none, hd_list, hd_tuple, wipeX, List.map_cons, List.map_nil, List.length_cons, List.length_nil, List.replicate_succ, List.replicate_zero, List.cons_append, List.nil_append, List.append_nil, decide_eq_true_eq, if_true, if_false, Nat.reduceAdd, Nat.reduceSub, Nat.reduceLeDiff, Nat.zero_add, Nat.sub_zero, hrows]
  rw [hrows] at l2 n2
  refine loopW_inv (fun xs σ M => ∃ (pre rest : List Part) (js : List Int) (o5 o6 : Option Xv), xs = dX (rest.map ptD) ∧ pre ++ rest = partsOf one ∧ cvd ks rows pre js ∧ M = [.lst (dX (js.map .int))] ∧
    σ = [some (.d s), some (.d (thD one)), some (.d (thD other)), some (.c 0), some (.d (.list (rows.map ptD))), o5, o6, none, none]) ?_ ?_ _ _ _ ⟨[], partsOf one, [], _, _, rfl, rfl, trivial, rfl, rfl⟩
  · rintro x xs σ M ⟨pre, rest, js, o5, o6, e, ep, hc, rfl, rfl⟩ C hC
    obtain ⟨p, rest, rfl⟩ : ∃ a r, rest = a :: r := by
      cases rest with
      | nil => cases e
      | cons a r => exact ⟨a, r, rfl⟩
    rw [List.map_cons, dX_c] at e
    cases e
    have hp : p ∈ partsOf one := by rw [← ep]; exact List.mem_append_right _ List.mem_cons_self
    have lj := cvd_len hc
    have lp : pre.length ≤ 20 := by
      have := congrArg List.length ep
      rw [List.length_append] at this
      omega
    refine ⟨trivial, ?_⟩
    simp only [rgName, set_z, set_s]
    refine seq_step ?_
    simp only [startX, rAsg, rgName, rVar, rC, rBin, rD, rCl, rFz, rTb, rTr, rIf, rIfS, rRet, rRetN, rNx, rCons, rNil, rTup, rTupC, rLst, rApp, rAppF, rCall, rPar, rNeg, rNot, rAnd, rOr, rChain, rLc, riSeq, rYes, rDrop, rFor, rApd, rExt, rgTup, rgCons, rgNil, rgSub, rIsiX, riRng1, riRng2, slot_z, slot_s, set_z, set_s, at0, at1, at2, at3, at4, at5, at6, dX_c, dX_n, gIx_tup, gIx_lst, gEq_ii, gEq_ss, gNe_ii, gNe_ss, gAdd_ii, gSub_ii, gLt_ii, gLe_ii, gGt_ii, gGe_ii, gIsN_d, gLen_l, gMax_ii, gMin_ii, gInt_b, gInt_i, gAbs_i, gApd_last, isLst_last, boX_b, tru_l, fzL_dX, fzL_n, fzL_cd, Option.map_some, fz_d, pk_d, ifS_some, hd_int, hd_str, hd_bool, hd_none, hd_list, hd_tuple, wipeX, List.map_cons, List.map_nil, List.length_cons, List.length_nil, List.replicate_succ, List.replicate_zero, List.cons_append, List.nil_append, List.append_nil, decide_eq_true_eq, if_true, if_false, Nat.reduceAdd, Nat.reduceSub, Nat.reduceLeDiff, Nat.zero_add, Nat.sub_zero, riEnum, show (hdD (.list (rows.map ptD)) = .lst (dX (rows.map ptD))) from rfl]
    rw [datX_dX]
    refine ifS_mk rfl ?_
    unfold enD
    rw [List.length_map]
    refine lcW_map (fun i : Nat => .tuple [.int (i : Int), (rows.map ptD).getD i .none]) (fun i => covP ks p (rows.getD i pdf)) (fun i => .int (i : Int)) (by trivial) (List.range rows.length) [] (small (by simp; omega)) (fun i hi Kt Kf h1 h2 => ?_) ?_
    · have hi := List.mem_range.mp hi
      simp only [startX, rAsg, rgName, rVar, rC, rBin, rD, rCl, rFz, rTb, rTr, rIf, rIfS, rRet, rRetN, rNx, rCons, rNil, rTup, rTupC, rLst, rApp, rAppF, rCall, rPar, rNeg, rNot, rAnd, rOr, rChain, rLc, riSeq, rYes, rDrop, rFor, rApd, rExt, rgTup, rgCons, rgNil, rgSub, rIsiX, riRng1, riRng2, slot_z, slot_s, set_z, set_s, at0, at1, at2, at3, at4, at5, at6, dX_c, dX_n, gIx_tup, gIx_lst, gEq_ii, gEq_ss, gNe_ii, gNe_ss, gAdd_ii, gSub_ii, gLt_ii, gLe_ii, gGt_ii, gGe_ii, gIsN_d, gLen_l, gMax_ii, gMin_ii, gInt_b, gInt_i, gAbs_i, gApd_last, isLst_last, boX_b, tru_l, fzL_dX, fzL_n, fzL_cd, Option.map_some, fz_d, pk_d, ifS_some, hd_int, hd_str, hd_bool, hd_none, hd_list, hd_tuple, wipeX, List.map_cons, List.map_nil, List.length_cons, List.length_nil, List.replicate_succ, List.replicate_zero, List.cons_append, List.nil_append, List.append_nil, decide_eq_true_eq, if_true, if_false, Nat.reduceAdd, Nat.reduceSub, Nat.reduceLeDiff, Nat.zero_add, Nat.sub_zero]
      refine ⟨trivial, ?_⟩
      rw [getD_pt hi]
      refine u_cov I g (n1 p hp) (n2 _ (getD_mem hi)) ?_
      simp only [tru_b, ifS_some]
      split
      · rename_i q; exact h1 q
      · rename_i q; exact h2 (Bool.eq_false_iff.mpr q)
    simp only [startX, rAsg, rgName, rVar, rC, rBin, rD, rCl, rFz, rTb, rTr, rIf, rIfS, rRet, rRetN, rNx, rCons, rNil, rTup, rTupC, rLst, rApp, rAppF, rCall, rPar, rNeg, rNot, rAnd, rOr, rChain, rLc, riSeq, rYes, rDrop, rFor, rApd, rExt, rgTup, rgCons, rgNil, rgSub, rIsiX, riRng1, riRng2, slot_z, slot_s, set_z, set_s, at0, at1, at2, at3, at4, at5, at6, dX_c, dX_n, gIx_tup, gIx_lst, gEq_ii, gEq_ss, gNe_ii, gNe_ss, gAdd_ii, gSub_ii, gLt_ii, gLe_ii, gGt_ii, gGe_ii, gIsN_d, gLen_l, gMax_ii, gMin_ii, gInt_b, gInt_i, gAbs_i, gApd_last, isLst_last, boX_b, tru_l, fzL_dX, fzL_n, fzL_cd, Option.map_some, fz_d, pk_d, ifS_some, hd_int, hd_str, hd_bool, hd_none, hd_list, hd_tuple, wipeX, List.map_cons, List.map_nil, List.length_cons, List.length_nil, List.replicate_succ, List.replicate_zero, List.cons_append, List.nil_append, List.append_nil, decide_eq_true_eq, if_true, if_false, Nat.reduceAdd, Nat.reduceSub, Nat.reduceLeDiff, Nat.zero_add, Nat.sub_zero]
    refine seq_step ?_
    simp only [startX, rAsg, rgName, rVar, rC, rBin, rD, rCl, rFz, rTb, rTr, rIf, rIfS, rRet, rRetN, rNx, rCons, rNil, rTup, rTupC, rLst, rApp, rAppF, rCall, rPar, rNeg, rNot, rAnd, rOr, rChain, rLc, riSeq, rYes, rDrop, rFor, rApd, rExt, rgTup, rgCons, rgNil, rgSub, rIsiX, riRng1, riRng2, slot_z, slot_s, set_z, set_s, at0, at1, at2, at3, at4, at5, at6, dX_c, dX_n, gIx_tup, gIx_lst, gEq_ii, gEq_ss, gNe_ii, gNe_ss, gAdd_ii, gSub_ii, gLt_ii, gLe_ii, gGt_ii, gGe_ii, gIsN_d, gLen_l, gMax_ii, gMin_ii, gInt_b, gInt_i, gAbs_i, gApd_last, isLst_last, boX_b, tru_l, fzL_dX, fzL_n, fzL_cd, Option.map_some, fz_d, pk_d, ifS_some, hd_int, hd_str, hd_bool, hd_none, hd_list, hd_tuple, wipeX, List.map_cons, List.map_nil, List.length_cons, List.length_nil, List.replicate_succ, List.replicate_zero, List.cons_append, List.nil_append, List.append_nil, decide_eq_true_eq, if_true, if_false, Nat.reduceAdd, Nat.reduceSub, Nat.reduceLeDiff, Nat.zero_add, Nat.sub_zero, List.length_map]
    cases hq : (List.range rows.length).filter fun i => covP ks p (rows.getD i pdf) with
    | nil =>
      simp only [startX, rAsg, rgName, rVar, rC, rBin, rD, rCl, rFz, rTb, rTr, rIf, rIfS, rRet, rRetN, rNx, rCons, rNil, rTup, rTupC, rLst, rApp, rAppF, rCall, rPar, rNeg, rNot, rAnd, rOr, rChain, rLc, riSeq, rYes, rDrop, rFor, rApd, rExt, rgTup, rgCons, rgNil, rgSub, rIsiX, riRng1, riRng2, slot_z, slot_s, set_z, set_s, at0, at1, at2, at3, at4, at5, at6, dX_c, dX_n, gIx_tup, gIx_lst, gEq_ii, gEq_ss, gNe_ii, gNe_ss, gAdd_ii, gSub_ii, gLt_ii, gLe_ii, gGt_ii, gGe_ii, gIsN_d, gLen_l, gMax_ii, gMin_ii, gInt_b, gInt_i, gAbs_i, gApd_last, isLst_last, boX_b, tru_l, fzL_dX, fzL_n, fzL_cd, Option.map_some, fz_d, pk_d, ifS_some, hd_int, hd_str, hd_bool, hd_none, hd_list, hd_tuple, wipeX, List.map_cons, List.map_nil, List.length_cons, List.length_nil, List.replicate_succ, List.replicate_zero, List.cons_append, List.nil_append, List.append_nil, decide_eq_true_eq, if_true, if_false, Nat.reduceAdd, Nat.reduceSub, Nat.reduceLeDiff, Nat.zero_add, Nat.sub_zero, Int.natCast_zero]
      refine u_out g2 ?_
      simp only [startX, rAsg, rgName, rVar, rC, rBin, rD, rCl, rFz, rTb, rTr, rIf, rIfS, rRet, rRetN, rNx, rCons, rNil, rTup, rTupC, rLst, rApp, rAppF, rCall, rPar, rNeg, rNot, rAnd, rOr, rChain, rLc, riSeq, rYes, rDrop, rFor, rApd, rExt, rgTup, rgCons, rgNil, rgSub, rIsiX, riRng1, riRng2, slot_z, slot_s, set_z, set_s, at0, at1, at2, at3, at4, at5, at6, dX_c, dX_n, gIx_tup, gIx_lst, gEq_ii, gEq_ss, gNe_ii, gNe_ss, gAdd_ii, gSub_ii, gLt_ii, gLe_ii, gGt_ii, gGe_ii, gIsN_d, gLen_l, gMax_ii, gMin_ii, gInt_b, gInt_i, gAbs_i, gApd_last, isLst_last, boX_b, tru_l, fzL_dX, fzL_n, fzL_cd, Option.map_some, fz_d, pk_d, ifS_some, hd_int, hd_str, hd_bool, hd_none, hd_list, hd_tuple, wipeX, List.map_cons, List.map_nil, List.length_cons, List.length_nil, List.replicate_succ, List.replicate_zero, List.cons_append, List.nil_append, List.append_nil, decide_eq_true_eq, if_true, if_false, Nat.reduceAdd, Nat.reduceSub, Nat.reduceLeDiff, Nat.zero_add, Nat.sub_zero]
      refine ⟨s2, ?_⟩
      refine h (.no (outT other p)) ⟨p, hp, fun o ho => ?_, rfl⟩
      rw [hrows] at ho
      obtain ⟨i, hi, ei⟩ := List.getElem_of_mem ho
      have z := List.filter_eq_nil_iff.mp hq i (List.mem_range.mpr hi)
      rw [show rows.getD i pdf = o by simp [List.getD, hi, ei]] at z
      exact Bool.eq_false_iff.mpr z
    | cons i is =>
      have hi : i ∈ (List.range rows.length).filter fun i => covP ks p (rows.getD i pdf) := by rw [hq]; exact List.mem_cons_self
      obtain ⟨hi1, hi2⟩ := List.mem_filter.mp hi
      rw [if_neg (by simp; omega)]
      simp only [startX, rAsg, rgName, rVar, rC, rBin, rD, rCl, rFz, rTb, rTr, rIf, rIfS, rRet, rRetN, rNx, rCons, rNil, rTup, rTupC, rLst, rApp, rAppF, rCall, rPar, rNeg, rNot, rAnd, rOr, rChain, rLc, riSeq, rYes, rDrop, rFor, rApd, rExt, rgTup, rgCons, rgNil, rgSub, rIsiX, riRng1, riRng2, slot_z, slot_s, set_z, set_s, at0, at1, at2, at3, at4, at5, at6, dX_c, dX_n, gIx_tup, gIx_lst, gEq_ii, gEq_ss, gNe_ii, gNe_ss, gAdd_ii, gSub_ii, gLt_ii, gLe_ii, gGt_ii, gGe_ii, gIsN_d, gLen_l, gMax_ii, gMin_ii, gInt_b, gInt_i, gAbs_i, gApd_last, isLst_last, boX_b, tru_l, fzL_dX, fzL_n, fzL_cd, Option.map_some, fz_d, pk_d, ifS_some, hd_int, hd_str, hd_bool, hd_none, hd_list, hd_tuple, wipeX, List.map_cons, List.map_nil, List.length_cons, List.length_nil, List.replicate_succ, List.replicate_zero, List.cons_append, List.nil_append, List.append_nil, decide_eq_true_eq, if_true, if_false, Nat.reduceAdd, Nat.reduceSub, Nat.reduceLeDiff, Nat.zero_add, Nat.sub_zero, at0]
      refine ⟨trivial, ?_⟩
      show ((dX (js.map .int)).length < sizeLine ∧ C _ [.lst (dX (js.map .int) ++ [.d (.int (i : Int))])])
      refine ⟨by rw [List.length_map, List.length_map, sizeLine_eq]; omega, ?_⟩
      rw [show dX (js.map .int) ++ [.d (.int (i : Int))] = dX ((js ++ [(i : Int)]).map .int) by simp [dX]]
      exact hC _ _ ⟨pre ++ [p], rest, js ++ [(i : Int)], _, _, rfl, by rw [← ep]; simp, cvd_snoc (List.mem_range.mp hi1) hi2 hc, rfl, rfl⟩
  · rintro σ M ⟨pre, rest, js, o5, o6, e, ep, hc, rfl, rfl⟩
    have e0 : rest = [] := by
      cases rest with
      | nil => rfl
      | cons a r => cases e
    subst e0
    rw [List.append_nil] at ep
    refine ⟨trivial, ?_⟩
    simp only [startX, rAsg, rgName, rVar, rC, rBin, rD, rCl, rFz, rTb, rTr, rIf, rIfS, rRet, rRetN, rNx, rCons, rNil, rTup, rTupC, rLst, rApp, rAppF, rCall, rPar, rNeg, rNot, rAnd, rOr, rChain, rLc, riSeq, rYes, rDrop, rFor, rApd, rExt, rgTup, rgCons, rgNil, rgSub, rIsiX, riRng1, riRng2, slot_z, slot_s, set_z, set_s, at0, at1, at2, at3, at4, at5, at6, dX_c, dX_n, gIx_tup, gIx_lst, gEq_ii, gEq_ss, gNe_ii, gNe_ss, gAdd_ii, gSub_ii, gLt_ii, gLe_ii, gGt_ii, gGe_ii, gIsN_d, gLen_l, gMax_ii, gMin_ii, gInt_b, gInt_i, gAbs_i, gApd_last, isLst_last, boX_b, tru_l, fzL_dX, fzL_n, fzL_cd, Option.map_some, fz_d, pk_d, ifS_some, hd_int, hd_str, hd_bool, hd_none, hd_list, hd_tuple, wipeX, List.map_cons, List.map_nil, List.length_cons, List.length_nil, List.replicate_succ, List.replicate_zero, List.cons_append, List.nil_append, List.append_nil, decide_eq_true_eq, if_true, if_false, Nat.reduceAdd, Nat.reduceSub, Nat.reduceLeDiff, Nat.zero_add, Nat.sub_zero]
    rw [fzL_one (fz_lst rfl)]
    refine ⟨s2, ?_⟩
    refine h (.cov js) ?_
    show cvd ks (partsOf other) (partsOf one) js
    rw [hrows, ← ep]
    exact hc
end K11

set_option Elab.async false
set_option linter.all false
set_option maxRecDepth 100000
set_option maxHeartbeats 8000000
namespace K11
open PySem PySem.Spec PyProof.Rows L2 G
variable {P : Program} {w : World} {K : PySem.W.Frag} {mg : Str → Option Value} {base : Heap} {k : Nat}
/-! ### faults -/
def cvOk (ks : Ks) (rows : List Part) (p : Part) (j : Int) : Prop := 0 ≤ j ∧ j < rows.length ∧ covP ks p (rows.getD j.toNat pdf) = true
instance (ks : Ks) (rows : List Part) (p : Part) (j : Int) : Decidable (cvOk ks rows p j) := by unfold cvOk; infer_instance
def cvF (ks : Ks) (rows : List Part) : List Part → List Int → Nat → PyData
  | p :: ps, j :: js, i => if cvOk ks rows p j then cvF ks rows ps js (i + 1) else .tuple [.str "part", .int (i : Int)]
  | _, _, _ => .none
def faultC (ks : Ks) (one other : Th) : Td → PyData
  | .no t => if (partsOf other).all (metP ks t) = true then (if (partsOf one).all (metP ks t) = true then .tuple [.str "one"] else .none) else .tuple [.str "other"]
  | .cov ps => if ps.length = (partsOf one).length then cvF ks (partsOf other) (partsOf one) ps 0 else .tuple [.str "length"]
def TOk (ks : Ks) : Td → Prop
  | .no t => Gt ks t
  | .cov ps => ps.length ≤ 100
def pd_fault : PD := fun ds R => ∃ s ks one other td, ds = [s, thD one, thD other, tdD td] ∧ Is s ks ∧ Gk ks ∧ Gt ks one ∧ Gt ks other ∧ TOk ks td ∧ R (faultC ks one other td)
theorem u_meets {s : PyData} {ks : Ks} {M : Sto} {P : Xv → Sto → Prop} {t v : Th} (I : Is s ks) (g : Gk ks) (gt : Gt ks t) (gv : Gt ks v) (h : P (.d (.bool ((partsOf v).all (metP ks t)))) M) : pfD pd_meets [.d s, .d (thD t), .d (thD v)] M P := pfD3 _ _ _ _ _ _ ⟨s, ks, t, v, rfl, I, g, gt, gv, h⟩
theorem at_pt {rows : List Part} {j : Int} (h0 : 0 ≤ j) (h1 : j < rows.length) : atI (dX (rows.map ptD)) j = some (.d (ptD (rows.getD j.toNat pdf))) := by
  have hl : j.toNat < rows.length := by omega
  have e : ((j.toNat : Nat) : Int) = j := by omega
  have := L2.atI_nat (xs := dX (rows.map ptD)) (j := j.toNat) (v := .d (ptD rows[j.toNat])) (by simp [dX, hl])
  rw [e] at this
  rw [this, show rows.getD j.toNat pdf = rows[j.toNat] by simp [List.getD, hl]]
theorem at_ptn {rows : List Part} {i : Nat} (h1 : i < rows.length) : atI (dX (rows.map ptD)) (i : Int) = some (.d (ptD (rows.getD i pdf))) := by
  have := at_pt (rows := rows) (j := (i : Int)) (by omega) (by omega)
  simpa using this
theorem at_ps {ps : List Int} {i : Nat} (h1 : i < ps.length) : atI (dX (ps.map .int)) (i : Int) = some (.d (.int (ps.getD i 0))) := by
  have := L2.atI_nat (xs := dX (ps.map PyData.int)) (j := i) (v := .d (.int ps[i])) (by simp [dX, h1])
  rw [this, show ps.getD i 0 = ps[i] by simp [List.getD, h1]]
theorem drop_pt {rows : List Part} {i : Nat} (h : i < rows.length) : rows.drop i = rows.getD i pdf :: rows.drop (i + 1) := by
  rw [List.drop_eq_getElem_cons h, show rows.getD i pdf = rows[i] by simp [List.getD, h]]
theorem drop_ps {ps : List Int} {i : Nat} (h : i < ps.length) : ps.drop i = ps.getD i 0 :: ps.drop (i + 1) := by
  rw [List.drop_eq_getElem_cons h, show ps.getD i 0 = ps[i] by simp [List.getD, h]]
theorem nk : ¬ ("covers" : Str) = "not" := by decide
theorem ok_fault (D : DefOk K mg "cover_fault" ["state", "one", "other", "told"] (defArgs s_cover_fault) (defBody s_cover_fault) (defScope s_cover_fault)) (Z : Fx K mg base) (C1 : Cal P w K mg base 3 "meets" ["state", "thing", "wish"] (pfD pd_meets)) (C2 : Cal P w K mg base 3 "parts" ["wish"] (pfD pd_parts)) (C3 : Cal P w K mg base 3 "covers_part" ["state", "part", "other"] (pfD pd_cov)) : Cal P w K mg base 4 "cover_fault" ["state", "one", "other", "told"] (pfD pd_fault) := by
  refine Cal.mkD (k := 3) D sc_cover_fault (sd_cover_fault Z C1 C2 C3) (fun ds R ⟨s, ks, p, o, td, e, _⟩ => by rw [e]; rfl) (fun ds R h => ?_) fun ds R R' i ⟨s, ks, p, o, td, e, h1, h2, h3, h4, h5, h6⟩ => ⟨s, ks, p, o, td, e, h1, h2, h3, h4, h5, i _ h6⟩
  obtain ⟨s, ks, one, other, td, rfl, I, g, g1, g2, ht, h⟩ := h
  have s0 : (0 : Nat) ≤ sizeLine := by decide
  have s1 : (1 : Nat) ≤ sizeLine := by decide
  have s2 : (2 : Nat) ≤ sizeLine := by decide
  have l1 := parts_len g1
  have l2 := parts_len g2
  have n1 := okN_of g1
  have n2 := okN_of g2
  unfold b_cover_fault
  simp only [startX, rAsg, rgName, rVar, rC, rBin, rD, rCl, rFz, rTb, rTr, rIf, rIfS, rRet, rRetN, rNx, rCons, rNil, rTup, rTupC, rLst, rApp, rAppF, rCall, rPar, rNeg, rNot, rAnd, rOr, rChain, rLc, riSeq, rYes, rDrop, rFor, rApd, rExt, rgTup, rgCons, rgNil, rgSub, rIsiX, riRng1, riRng2, slot_z, slot_s, set_z, set_s, at0, at1, at2, at3, at4, at5, at6, dX_c, dX_n, gIx_tup, gIx_lst, gEq_ii, gEq_ss, gNe_ii, gNe_ss, gAdd_ii, gSub_ii, gLt_ii, gLe_ii, gGt_ii, gGe_ii, gIsN_d, gLen_l, gMax_ii, gMin_ii, gInt_b, gInt_i, gAbs_i, gApd_last, isLst_last, boX_b, tru_l, fzL_dX, fzL_n, fzL_cd, Option.map_some, fz_d, pk_d, ifS_some, hd_int, hd_str, hd_bool, hd_none, hd_list, hd_tuple, wipeX, List.map_cons, List.map_nil, List.length_cons, List.length_nil, List.replicate_succ, List.replicate_zero, List.cons_append, List.nil_append, List.append_nil, decide_eq_true_eq, if_true, if_false, Nat.reduceAdd, Nat.reduceSub, Nat.reduceLeDiff, Nat.zero_add, Nat.sub_zero, N_cover_fault]
  refine seq_step ?_
  cases td with
  | no t =>
    simp only [faultC] at h
    simp only [startX, rAsg, rgName, rVar, rC, rBin, rD, rCl, rFz, rTb, rTr, rIf, rIfS, rRet, rRetN, rNx, rCons, rNil, rTup, rTupC, rLst, rApp, rAppF, rCall, rPar, rNeg, rNot, rAnd, rOr, rChain, rLc, riSeq, rYes, rDrop, rFor, rApd, rExt, rgTup, rgCons, rgNil, rgSub, rIsiX, riRng1, riRng2, slot_z, slot_s, set_z, set_s, at0, at1, at2, at3, at4, at5, at6, dX_c, dX_n, gIx_tup, gIx_lst, gEq_ii, gEq_ss, gNe_ii, gNe_ss, gAdd_ii, gSub_ii, gLt_ii, gLe_ii, gGt_ii, gGe_ii, gIsN_d, gLen_l, gMax_ii, gMin_ii, gInt_b, gInt_i, gAbs_i, gApd_last, isLst_last, boX_b, tru_l, fzL_dX, fzL_n, fzL_cd, Option.map_some, fz_d, pk_d, ifS_some, hd_int, hd_str, hd_bool, hd_none, hd_list, hd_tuple, wipeX, List.map_cons, List.map_nil, List.length_cons, List.length_nil, List.replicate_succ, List.replicate_zero, List.cons_append, List.nil_append, List.append_nil, decide_eq_true_eq, if_true, if_false, Nat.reduceAdd, Nat.reduceSub, Nat.reduceLeDiff, Nat.zero_add, Nat.sub_zero, tdD]
    refine seq_step ?_
    simp only [startX, rAsg, rgName, rVar, rC, rBin, rD, rCl, rFz, rTb, rTr, rIf, rIfS, rRet, rRetN, rNx, rCons, rNil, rTup, rTupC, rLst, rApp, rAppF, rCall, rPar, rNeg, rNot, rAnd, rOr, rChain, rLc, riSeq, rYes, rDrop, rFor, rApd, rExt, rgTup, rgCons, rgNil, rgSub, rIsiX, riRng1, riRng2, slot_z, slot_s, set_z, set_s, at0, at1, at2, at3, at4, at5, at6, dX_c, dX_n, gIx_tup, gIx_lst, gEq_ii, gEq_ss, gNe_ii, gNe_ss, gAdd_ii, gSub_ii, gLt_ii, gLe_ii, gGt_ii, gGe_ii, gIsN_d, gLen_l, gMax_ii, gMin_ii, gInt_b, gInt_i, gAbs_i, gApd_last, isLst_last, boX_b, tru_l, fzL_dX, fzL_n, fzL_cd, Option.map_some, fz_d, pk_d, ifS_some, hd_int, hd_str, hd_bool, hd_none, hd_list, hd_tuple, wipeX, List.map_cons, List.map_nil, List.length_cons, List.length_nil, List.replicate_succ, List.replicate_zero, List.cons_append, List.nil_append, List.append_nil, decide_eq_true_eq, if_true, if_false, Nat.reduceAdd, Nat.reduceSub, Nat.reduceLeDiff, Nat.zero_add, Nat.sub_zero]
    refine u_meets I g ht g2 ?_
    simp only [startX, rAsg, rgName, rVar, rC, rBin, rD, rCl, rFz, rTb, rTr, rIf, rIfS, rRet, rRetN, rNx, rCons, rNil, rTup, rTupC, rLst, rApp, rAppF, rCall, rPar, rNeg, rNot, rAnd, rOr, rChain, rLc, riSeq, rYes, rDrop, rFor, rApd, rExt, rgTup, rgCons, rgNil, rgSub, rIsiX, riRng1, riRng2, slot_z, slot_s, set_z, set_s, at0, at1, at2, at3, at4, at5, at6, dX_c, dX_n, gIx_tup, gIx_lst, gEq_ii, gEq_ss, gNe_ii, gNe_ss, gAdd_ii, gSub_ii, gLt_ii, gLe_ii, gGt_ii, gGe_ii, gIsN_d, gLen_l, gMax_ii, gMin_ii, gInt_b, gInt_i, gAbs_i, gApd_last, isLst_last, boX_b, tru_l, fzL_dX, fzL_n, fzL_cd, Option.map_some, fz_d, pk_d, ifS_some, hd_int, hd_str, hd_bool, hd_none, hd_list, hd_tuple, wipeX, List.map_cons, List.map_nil, List.length_cons, List.length_nil, List.replicate_succ, List.replicate_zero, List.cons_append, List.nil_append, List.append_nil, decide_eq_true_eq, if_true, if_false, Nat.reduceAdd, Nat.reduceSub, Nat.reduceLeDiff, Nat.zero_add, Nat.sub_zero, tru_b]
    by_cases c1 : (partsOf other).all (metP ks t) = true
    · rw [if_neg (by rw [c1]; simp)]
      rw [if_pos c1] at h
      try simp only [startX, rAsg, rgName, rVar, rC, rBin, rD, rCl, rFz, rTb, rTr, rIf, rIfS, rRet, rRetN, rNx, rCons, rNil, rTup, rTupC, rLst, rApp, rAppF, rCall, rPar, rNeg, rNot, rAnd, rOr, rChain, rLc, riSeq, rYes, rDrop, rFor, rApd, rExt, rgTup, rgCons, rgNil, rgSub, rIsiX, riRng1, riRng2, slot_z, slot_s, set_z, set_s, at0, at1, at2, at3, at4, at5, at6, dX_c, dX_n, gIx_tup, gIx_lst, gEq_ii, gEq_ss, gNe_ii, gNe_ss, gAdd_ii, gSub_ii, gLt_ii, gLe_ii, gGt_ii, gGe_ii, gIsN_d, gLen_l, gMax_ii, gMin_ii, gInt_b, gInt_i, gAbs_i, gApd_last, isLst_last, boX_b, tru_l, fzL_dX, fzL_n, fzL_cd, Option.map_some, fz_d, pk_d, ifS_some, hd_int, hd_str, hd_bool, hd_none, hd_list, hd_tuple, wipeX, List.map_cons, List.map_nil, List.length_cons, List.length_nil, List.replicate_succ, List.replicate_zero, List.cons_append, List.nil_append, List.append_nil, decide_eq_true_eq, if_true, if_false, Nat.reduceAdd, Nat.reduceSub, Nat.reduceLeDiff, Nat.zero_add, Nat.sub_zero]
      refine u_meets I g ht g1 ?_
      simp only [startX, rAsg, rgName, rVar, rC, rBin, rD, rCl, rFz, rTb, rTr, rIf, rIfS, rRet, rRetN, rNx, rCons, rNil, rTup, rTupC, rLst, rApp, rAppF, rCall, rPar, rNeg, rNot, rAnd, rOr, rChain, rLc, riSeq, rYes, rDrop, rFor, rApd, rExt, rgTup, rgCons, rgNil, rgSub, rIsiX, riRng1, riRng2, slot_z, slot_s, set_z, set_s, at0, at1, at2, at3, at4, at5, at6, dX_c, dX_n, gIx_tup, gIx_lst, gEq_ii, gEq_ss, gNe_ii, gNe_ss, gAdd_ii, gSub_ii, gLt_ii, gLe_ii, gGt_ii, gGe_ii, gIsN_d, gLen_l, gMax_ii, gMin_ii, gInt_b, gInt_i, gAbs_i, gApd_last, isLst_last, boX_b, tru_l, fzL_dX, fzL_n, fzL_cd, Option.map_some, fz_d, pk_d, ifS_some, hd_int, hd_str, hd_bool, hd_none, hd_list, hd_tuple, wipeX, List.map_cons, List.map_nil, List.length_cons, List.length_nil, List.replicate_succ, List.replicate_zero, List.cons_append, List.nil_append, List.append_nil, decide_eq_true_eq, if_true, if_false, Nat.reduceAdd, Nat.reduceSub, Nat.reduceLeDiff, Nat.zero_add, Nat.sub_zero, tru_b]
      by_cases c2 : (partsOf one).all (metP ks t) = true
      · rw [if_pos c2]
        rw [if_pos c2] at h
        exact ⟨s1, h⟩
      · rw [if_neg c2]
        rw [if_neg c2] at h
        exact h
    · rw [if_pos (by simpa using c1)]
      rw [if_neg c1] at h
      exact ⟨s1, h⟩
  | cov ps =>
    simp only [faultC] at h
    simp only [startX, rAsg, rgName, rVar, rC, rBin, rD, rCl, rFz, rTb, rTr, rIf, rIfS, rRet, rRetN, rNx, rCons, rNil, rTup, rTupC, rLst, rApp, rAppF, rCall, rPar, rNeg, rNot, rAnd, rOr, rChain, rLc, riSeq, rYes, rDrop, rFor, rApd, rExt, rgTup, rgCons, rgNil, rgSub, rIsiX, riRng1, riRng2, slot_z, slot_s, set_z, set_s, at0, at1, at2, at3, at4, at5, at6, dX_c, dX_n, gIx_tup, gIx_lst, gEq_ii, gEq_ss, gNe_ii, gNe_ss, gAdd_ii, gSub_ii, gLt_ii, gLe_ii, gGt_ii, gGe_ii, gIsN_d, gLen_l, gMax_ii, gMin_ii, gInt_b, gInt_i, gAbs_i, gApd_last, isLst_last, boX_b, tru_l, fzL_dX, fzL_n, fzL_cd, Option.map_some, fz_d, pk_d, ifS_some, hd_int, hd_str, hd_bool, hd_none, hd_list, hd_tuple, wipeX, List.map_cons, List.map_nil, List.length_cons, List.length_nil, List.replicate_succ, List.replicate_zero, List.cons_append, List.nil_append, List.append_nil, decide_eq_true_eq, if_true, if_false, Nat.reduceAdd, Nat.reduceSub, Nat.reduceLeDiff, Nat.zero_add, Nat.sub_zero, tdD]
    rw [if_neg (by simpa using nk)]
    refine seq_step ?_
    simp only [startX, rAsg, rgName, rVar, rC, rBin, rD, rCl, rFz, rTb, rTr, rIf, rIfS, rRet, rRetN, rNx, rCons, rNil, rTup, rTupC, rLst, rApp, rAppF, rCall, rPar, rNeg, rNot, rAnd, rOr, rChain, rLc, riSeq, rYes, rDrop, rFor, rApd, rExt, rgTup, rgCons, rgNil, rgSub, rIsiX, riRng1, riRng2, slot_z, slot_s, set_z, set_s, at0, at1, at2, at3, at4, at5, at6, dX_c, dX_n, gIx_tup, gIx_lst, gEq_ii, gEq_ss, gNe_ii, gNe_ss, gAdd_ii, gSub_ii, gLt_ii, gLe_ii, gGt_ii, gGe_ii, gIsN_d, gLen_l, gMax_ii, gMin_ii, gInt_b, gInt_i, gAbs_i, gApd_last, isLst_last, boX_b, tru_l, fzL_dX, fzL_n, fzL_cd, Option.map_some, fz_d, pk_d, ifS_some, hd_int, hd_str, hd_bool, hd_none, hd_list, hd_tuple, wipeX, List.map_cons, List.map_nil, List.length_cons, List.length_nil, List.replicate_succ, List.replicate_zero, List.cons_append, List.nil_append, List.append_nil, decide_eq_true_eq, if_true, if_false, Nat.reduceAdd, Nat.reduceSub, Nat.reduceLeDiff, Nat.zero_add, Nat.sub_zero]
    refine u_parts g2 ?_
    refine seq_step ?_
    simp only [startX, rAsg, rgName, rVar, rC, rBin, rD, rCl, rFz, rTb, rTr, rIf, rIfS, rRet, rRetN, rNx, rCons, rNil, rTup, rTupC, rLst, rApp, rAppF, rCall, rPar, rNeg, rNot, rAnd, rOr, rChain, rLc, riSeq, rYes, rDrop, rFor, rApd, rExt, rgTup, rgCons, rgNil, rgSub, rIsiX, riRng1, riRng2, slot_z, slot_s, set_z, set_s, at0, at1, at2, at3, at4, at5, at6, dX_c, dX_n, gIx_tup, gIx_lst, gEq_ii, gEq_ss, gNe_ii, gNe_ss, gAdd_ii, gSub_ii, gLt_ii, gLe_ii, gGt_ii, gGe_ii, gIsN_d, gLen_l, gMax_ii, gMin_ii, gInt_b, gInt_i, gAbs_i, gApd_last, isLst_last, boX_b, tru_l, fzL_dX, fzL_n, fzL_cd, Option.map_some, fz_d, pk_d, ifS_some, hd_int, hd_str, hd_bool, hd_none, hd_list, hd_tuple, wipeX, List.map_cons, List.map_nil, List.length_cons, List.length_nil, List.replicate_succ, List.replicate_zero, List.cons_append, List.nil_append, List.append_nil, decide_eq_true_eq, if_true, if_false, Nat.reduceAdd, Nat.reduceSub, Nat.reduceLeDiff, Nat.zero_add, Nat.sub_zero]
    refine u_parts g1 ?_
    refine seq_step ?_
    simp only [startX, rAsg, rgName, rVar, rC, rBin, rD, rCl, rFz, rTb, rTr, rIf, rIfS, rRet, rRetN, rNx, rCons, rNil, rTup, rTupC, rLst, rApp, rAppF, rCall, rPar, rNeg, rNot, rAnd, rOr, rChain, rLc, riSeq, rYes, rDrop, rFor, rApd, rExt, rgTup, rgCons, rgNil, rgSub, rIsiX, riRng1, riRng2, slot_z, slot_s, set_z, set_s, at0, at1, at2, at3, at4, at5, at6, dX_c, dX_n, gIx_tup, gIx_lst, gEq_ii, gEq_ss, gNe_ii, gNe_ss, gAdd_ii, gSub_ii, gLt_ii, gLe_ii, gGt_ii, gGe_ii, gIsN_d, gLen_l, gMax_ii, gMin_ii, gInt_b, gInt_i, gAbs_i, gApd_last, isLst_last, boX_b, tru_l, fzL_dX, fzL_n, fzL_cd, Option.map_some, fz_d, pk_d, ifS_some, hd_int, hd_str, hd_bool, hd_none, hd_list, hd_tuple, wipeX, List.map_cons, List.map_nil, List.length_cons, List.length_nil, List.replicate_succ, List.replicate_zero, List.cons_append, List.nil_append, List.append_nil, decide_eq_true_eq, if_true, if_false, Nat.reduceAdd, Nat.reduceSub, Nat.reduceLeDiff, Nat.zero_add, Nat.sub_zero, gLen_l, List.length_map]
    obtain ⟨rows, hrows⟩ : ∃ rows, partsOf other = rows := ⟨_, rfl⟩
    obtain ⟨ws, hws⟩ : ∃ ws, partsOf one = ws := ⟨_, rfl⟩
    simp only [hrows, hws] at h l1 l2 n1 n2 ⊢
    by_cases c1 : ps.length = ws.length
    rotate_left
    · rw [if_pos (by simpa using fun z => c1 (by omega))]
      rw [if_neg c1] at h
      exact ⟨s1, h⟩
    rw [if_neg (by simp [c1])]
    rw [if_pos c1] at h
    refine seq_step ?_
    simp only [startX, rAsg, rgName, rVar, rC, rBin, rD, rCl, rFz, rTb, rTr, rIf, rIfS, rRet, rRetN, rNx, rCons, rNil, rTup, rTupC, rLst, rApp, rAppF, rCall, rPar, rNeg, rNot, rAnd, rOr, rChain, rLc, riSeq, rYes, rDrop, rFor, rApd, rExt, rgTup, rgCons, rgNil, rgSub, rIsiX, riRng1, riRng2, slot_z, slot_s, set_z, set_s, at0, at1, at2, at3, at4, at5, at6, dX_c, dX_n, gIx_tup, gIx_lst, gEq_ii, gEq_ss, gNe_ii, gNe_ss, gAdd_ii, gSub_ii, gLt_ii, gLe_ii, gGt_ii, gGe_ii, gIsN_d, gLen_l, gMax_ii, gMin_ii, gInt_b, gInt_i, gAbs_i, gApd_last, isLst_last, boX_b, tru_l, fzL_dX, fzL_n, fzL_cd, Option.map_some, fz_d, pk_d, ifS_some, hd_int, hd_str, hd_bool, hd_none, hd_list, hd_tuple, wipeX, List.map_cons, List.map_nil, List.length_cons, List.length_nil, List.replicate_succ, List.replicate_zero, List.cons_append, List.nil_append, List.append_nil, decide_eq_true_eq, if_true, if_false, Nat.reduceAdd, Nat.reduceSub, Nat.reduceLeDiff, Nat.zero_add, Nat.sub_zero, riEnum, show (hdD (.list (ps.map .int)) = .lst (dX (ps.map .int))) from rfl]
    rw [datX_dX]
    refine ifS_mk rfl ?_
    unfold enD
    rw [List.length_map]
    obtain ⟨V, hV⟩ : ∃ V, cvF ks rows ws ps 0 = V := ⟨_, rfl⟩
    rw [hV] at h
    refine loopW_inv (fun xs σ M => ∃ (i : Nat) (o6 o7 : Option Xv), xs = dX (((List.range ps.length).drop i).map fun i : Nat => .tuple [.int (i : Int), (ps.map PyData.int).getD i .none]) ∧ i ≤ ps.length ∧ cvF ks rows (ws.drop i) (ps.drop i) i = V ∧ M = [] ∧
      σ = [some (.d s), some (.d (thD one)), some (.d (thD other)), some (.d (.tuple [.str "covers", .list (ps.map .int)])), some (.d (.list (rows.map ptD))), some (.d (.list (ws.map ptD))), o6, o7]) ?_ ?_ _ _ _ ⟨0, _, _, rfl, Nat.zero_le _, hV, rfl, rfl⟩
    · rintro x xs σ M ⟨i, o6, o7, e, hi, ev, rfl, rfl⟩ C hC
      have hi2 : i < ps.length := by
        by_cases z : i < ps.length
        · exact z
        · rw [List.drop_of_length_le (by rw [List.length_range]; omega)] at e
          cases e
      rw [List.drop_eq_getElem_cons (by rw [List.length_range]; exact hi2), List.getElem_range, List.map_cons, dX_c] at e
      cases e
      refine ⟨trivial, ?_⟩
      simp only [startX, rAsg, rgName, rVar, rC, rBin, rD, rCl, rFz, rTb, rTr, rIf, rIfS, rRet, rRetN, rNx, rCons, rNil, rTup, rTupC, rLst, rApp, rAppF, rCall, rPar, rNeg, rNot, rAnd, rOr, rChain, rLc, riSeq, rYes, rDrop, rFor, rApd, rExt, rgTup, rgCons, rgNil, rgSub, rIsiX, riRng1, riRng2, slot_z, slot_s, set_z, set_s, at0, at1, at2, at3, at4, at5, at6, dX_c, dX_n, gIx_tup, gIx_lst, gEq_ii, gEq_ss, gNe_ii, gNe_ss, gAdd_ii, gSub_ii, gLt_ii, gLe_ii, gGt_ii, gGe_ii, gIsN_d, gLen_l, gMax_ii, gMin_ii, gInt_b, gInt_i, gAbs_i, gApd_last, isLst_last, boX_b, tru_l, fzL_dX, fzL_n, fzL_cd, Option.map_some, fz_d, pk_d, ifS_some, hd_int, hd_str, hd_bool, hd_none, hd_list, hd_tuple, wipeX, List.map_cons, List.map_nil, List.length_cons, List.length_nil, List.replicate_succ, List.replicate_zero, List.cons_append, List.nil_append, List.append_nil, decide_eq_true_eq, if_true, if_false, Nat.reduceAdd, Nat.reduceSub, Nat.reduceLeDiff, Nat.zero_add, Nat.sub_zero]
      refine ⟨trivial, ?_⟩
      rw [show (ps.map PyData.int).getD i .none = .int (ps.getD i 0) by simp [List.getD, hi2]]
      rw [drop_pt (show i < ws.length by omega), drop_ps hi2] at ev
      unfold cvF at ev
      simp only [startX, rAsg, rgName, rVar, rC, rBin, rD, rCl, rFz, rTb, rTr, rIf, rIfS, rRet, rRetN, rNx, rCons, rNil, rTup, rTupC, rLst, rApp, rAppF, rCall, rPar, rNeg, rNot, rAnd, rOr, rChain, rLc, riSeq, rYes, rDrop, rFor, rApd, rExt, rgTup, rgCons, rgNil, rgSub, rIsiX, riRng1, riRng2, slot_z, slot_s, set_z, set_s, at0, at1, at2, at3, at4, at5, at6, dX_c, dX_n, gIx_tup, gIx_lst, gEq_ii, gEq_ss, gNe_ii, gNe_ss, gAdd_ii, gSub_ii, gLt_ii, gLe_ii, gGt_ii, gGe_ii, gIsN_d, gLen_l, gMax_ii, gMin_ii, gInt_b, gInt_i, gAbs_i, gApd_last, isLst_last, boX_b, tru_l, fzL_dX, fzL_n, fzL_cd, Option.map_some, fz_d, pk_d, ifS_some, hd_int, hd_str, hd_bool, hd_none, hd_list, hd_tuple, wipeX, List.map_cons, List.map_nil, List.length_cons, List.length_nil, List.replicate_succ, List.replicate_zero, List.cons_append, List.nil_append, List.append_nil, decide_eq_true_eq, if_true, if_false, Nat.reduceAdd, Nat.reduceSub, Nat.reduceLeDiff, Nat.zero_add, Nat.sub_zero, gLen_l, List.length_map]
      obtain ⟨j, hj⟩ : ∃ j, ps.getD i 0 = j := ⟨_, rfl⟩
      rw [hj] at ev ⊢
      by_cases ck : cvOk ks rows (ws.getD i pdf) j
      · obtain ⟨b0, b1, b2⟩ := ck
        rw [if_pos ⟨b0, b1, b2⟩] at ev
        rw [if_neg (by omega), if_neg (by omega)]
        simp only [startX, rAsg, rgName, rVar, rC, rBin, rD, rCl, rFz, rTb, rTr, rIf, rIfS, rRet, rRetN, rNx, rCons, rNil, rTup, rTupC, rLst, rApp, rAppF, rCall, rPar, rNeg, rNot, rAnd, rOr, rChain, rLc, riSeq, rYes, rDrop, rFor, rApd, rExt, rgTup, rgCons, rgNil, rgSub, rIsiX, riRng1, riRng2, slot_z, slot_s, set_z, set_s, at0, at1, at2, at3, at4, at5, at6, dX_c, dX_n, gIx_tup, gIx_lst, gEq_ii, gEq_ss, gNe_ii, gNe_ss, gAdd_ii, gSub_ii, gLt_ii, gLe_ii, gGt_ii, gGe_ii, gIsN_d, gLen_l, gMax_ii, gMin_ii, gInt_b, gInt_i, gAbs_i, gApd_last, isLst_last, boX_b, tru_l, fzL_dX, fzL_n, fzL_cd, Option.map_some, fz_d, pk_d, ifS_some, hd_int, hd_str, hd_bool, hd_none, hd_list, hd_tuple, wipeX, List.map_cons, List.map_nil, List.length_cons, List.length_nil, List.replicate_succ, List.replicate_zero, List.cons_append, List.nil_append, List.append_nil, decide_eq_true_eq, if_true, if_false, Nat.reduceAdd, Nat.reduceSub, Nat.reduceLeDiff, Nat.zero_add, Nat.sub_zero, at_ptn (show i < ws.length by omega), at_pt b0 b1]
        refine u_cov I g (n1 _ (getD_mem (by omega))) (n2 _ (getD_mem (by omega))) ?_
        simp only [startX, rAsg, rgName, rVar, rC, rBin, rD, rCl, rFz, rTb, rTr, rIf, rIfS, rRet, rRetN, rNx, rCons, rNil, rTup, rTupC, rLst, rApp, rAppF, rCall, rPar, rNeg, rNot, rAnd, rOr, rChain, rLc, riSeq, rYes, rDrop, rFor, rApd, rExt, rgTup, rgCons, rgNil, rgSub, rIsiX, riRng1, riRng2, slot_z, slot_s, set_z, set_s, at0, at1, at2, at3, at4, at5, at6, dX_c, dX_n, gIx_tup, gIx_lst, gEq_ii, gEq_ss, gNe_ii, gNe_ss, gAdd_ii, gSub_ii, gLt_ii, gLe_ii, gGt_ii, gGe_ii, gIsN_d, gLen_l, gMax_ii, gMin_ii, gInt_b, gInt_i, gAbs_i, gApd_last, isLst_last, boX_b, tru_l, fzL_dX, fzL_n, fzL_cd, Option.map_some, fz_d, pk_d, ifS_some, hd_int, hd_str, hd_bool, hd_none, hd_list, hd_tuple, wipeX, List.map_cons, List.map_nil, List.length_cons, List.length_nil, List.replicate_succ, List.replicate_zero, List.cons_append, List.nil_append, List.append_nil, decide_eq_true_eq, if_true, if_false, Nat.reduceAdd, Nat.reduceSub, Nat.reduceLeDiff, Nat.zero_add, Nat.sub_zero, tru_b, b2, Bool.not_true, Bool.false_eq_true]
        exact hC _ _ ⟨i + 1, _, _, rfl, hi2, ev, rfl, rfl⟩
      · rw [if_neg ck] at ev
        rw [← ev] at h
        by_cases b0 : j < 0
        · rw [if_pos b0]
          exact ⟨s2, h⟩
        rw [if_neg b0]
        by_cases b1 : (rows.length : Int) ≤ j
        · rw [if_pos b1]
          exact ⟨s2, h⟩
        rw [if_neg b1]
        simp only [startX, rAsg, rgName, rVar, rC, rBin, rD, rCl, rFz, rTb, rTr, rIf, rIfS, rRet, rRetN, rNx, rCons, rNil, rTup, rTupC, rLst, rApp, rAppF, rCall, rPar, rNeg, rNot, rAnd, rOr, rChain, rLc, riSeq, rYes, rDrop, rFor, rApd, rExt, rgTup, rgCons, rgNil, rgSub, rIsiX, riRng1, riRng2, slot_z, slot_s, set_z, set_s, at0, at1, at2, at3, at4, at5, at6, dX_c, dX_n, gIx_tup, gIx_lst, gEq_ii, gEq_ss, gNe_ii, gNe_ss, gAdd_ii, gSub_ii, gLt_ii, gLe_ii, gGt_ii, gGe_ii, gIsN_d, gLen_l, gMax_ii, gMin_ii, gInt_b, gInt_i, gAbs_i, gApd_last, isLst_last, boX_b, tru_l, fzL_dX, fzL_n, fzL_cd, Option.map_some, fz_d, pk_d, ifS_some, hd_int, hd_str, hd_bool, hd_none, hd_list, hd_tuple, wipeX, List.map_cons, List.map_nil, List.length_cons, List.length_nil, List.replicate_succ, List.replicate_zero, List.cons_append, List.nil_append, List.append_nil, decide_eq_true_eq, if_true, if_false, Nat.reduceAdd, Nat.reduceSub, Nat.reduceLeDiff, Nat.zero_add, Nat.sub_zero, at_ptn (show i < ws.length by omega), at_pt (show 0 ≤ j by omega) (show j < (rows.length : Int) by omega)]
        refine u_cov I g (n1 _ (getD_mem (by omega))) (n2 _ (getD_mem (by omega))) ?_
        have b2 : covP ks (ws.getD i pdf) (rows.getD j.toNat pdf) = false := Bool.eq_false_iff.mpr fun z => ck ⟨by omega, by omega, z⟩
        simp only [startX, rAsg, rgName, rVar, rC, rBin, rD, rCl, rFz, rTb, rTr, rIf, rIfS, rRet, rRetN, rNx, rCons, rNil, rTup, rTupC, rLst, rApp, rAppF, rCall, rPar, rNeg, rNot, rAnd, rOr, rChain, rLc, riSeq, rYes, rDrop, rFor, rApd, rExt, rgTup, rgCons, rgNil, rgSub, rIsiX, riRng1, riRng2, slot_z, slot_s, set_z, set_s, at0, at1, at2, at3, at4, at5, at6, dX_c, dX_n, gIx_tup, gIx_lst, gEq_ii, gEq_ss, gNe_ii, gNe_ss, gAdd_ii, gSub_ii, gLt_ii, gLe_ii, gGt_ii, gGe_ii, gIsN_d, gLen_l, gMax_ii, gMin_ii, gInt_b, gInt_i, gAbs_i, gApd_last, isLst_last, boX_b, tru_l, fzL_dX, fzL_n, fzL_cd, Option.map_some, fz_d, pk_d, ifS_some, hd_int, hd_str, hd_bool, hd_none, hd_list, hd_tuple, wipeX, List.map_cons, List.map_nil, List.length_cons, List.length_nil, List.replicate_succ, List.replicate_zero, List.cons_append, List.nil_append, List.append_nil, decide_eq_true_eq, if_true, if_false, Nat.reduceAdd, Nat.reduceSub, Nat.reduceLeDiff, Nat.zero_add, Nat.sub_zero, tru_b, b2, Bool.not_false]
        exact ⟨s2, h⟩
    · rintro σ M ⟨i, o6, o7, e, hi, ev, rfl, rfl⟩
      refine ⟨trivial, ?_⟩
      have e0 : ps.drop i = [] := by
        by_cases z : i < ps.length
        · rw [List.drop_eq_getElem_cons (by rw [List.length_range]; exact z), List.map_cons, dX_c] at e
          cases e
        · exact List.drop_of_length_le (by omega)
      rw [e0] at ev
      have ev : PyData.none = V := by
        rw [← ev]
        cases ws.drop i <;> rfl
      rw [← ev] at h
      exact h
theorem ok_lfault (D : DefOk K mg "_law_fault" ["state", "one", "other", "told"] (defArgs s__law_fault) (defBody s__law_fault) (defScope s__law_fault)) (Z : Fx K mg base) (C1 : Cal P w K mg base 3 "_law_met" ["state", "thing", "wish"] (pfD pd_meets)) (C2 : Cal P w K mg base 3 "_law_parts" ["wish"] (pfD pd_parts)) (C3 : Cal P w K mg base 3 "_law_covered" ["state", "part", "other"] (pfD pd_cov)) : Cal P w K mg base 4 "_law_fault" ["state", "one", "other", "told"] (pfD pd_fault) := by
  refine Cal.mkD (k := 3) D sc__law_fault (sd__law_fault Z C1 C2 C3) (fun ds R ⟨s, ks, p, o, td, e, _⟩ => by rw [e]; rfl) (fun ds R h => ?_) fun ds R R' i ⟨s, ks, p, o, td, e, h1, h2, h3, h4, h5, h6⟩ => ⟨s, ks, p, o, td, e, h1, h2, h3, h4, h5, i _ h6⟩
  obtain ⟨s, ks, one, other, td, rfl, I, g, g1, g2, ht, h⟩ := h
  have s0 : (0 : Nat) ≤ sizeLine := by decide
  have s1 : (1 : Nat) ≤ sizeLine := by decide
  have s2 : (2 : Nat) ≤ sizeLine := by decide
  have l1 := parts_len g1
  have l2 := parts_len g2
  have n1 := okN_of g1
  have n2 := okN_of g2
  unfold b__law_fault
  simp only [startX, rAsg, rgName, rVar, rC, rBin, rD, rCl, rFz, rTb, rTr, rIf, rIfS, rRet, rRetN, rNx, rCons, rNil, rTup, rTupC, rLst, rApp, rAppF, rCall, rPar, rNeg, rNot, rAnd, rOr, rChain, rLc, riSeq, rYes, rDrop, rFor, rApd, rExt, rgTup, rgCons, rgNil, rgSub, rIsiX, riRng1, riRng2, slot_z, slot_s, set_z, set_s, at0, at1, at2, at3, at4, at5, at6, dX_c, dX_n, gIx_tup, gIx_lst, gEq_ii, gEq_ss, gNe_ii, gNe_ss, gAdd_ii, gSub_ii, gLt_ii, gLe_ii, gGt_ii, gGe_ii, gIsN_d, gLen_l, gMax_ii, gMin_ii, gInt_b, gInt_i, gAbs_i, gApd_last, isLst_last, boX_b, tru_l, fzL_dX, fzL_n, fzL_cd, Option.map_some, fz_d, pk_d, ifS_some, hd_int, hd_str, hd_bool, hd_none, hd_list, hd_tuple, wipeX, List.map_cons, List.map_nil, List.length_cons, List.length_nil, List.replicate_succ, List.replicate_zero, List.cons_append, List.nil_append, List.append_nil, decide_eq_true_eq, if_true, if_false, Nat.reduceAdd, Nat.reduceSub, Nat.reduceLeDiff, Nat.zero_add, Nat.sub_zero, N__law_fault]
  refine seq_step ?_
  cases td with
  | no t =>
    simp only [faultC] at h
    simp only [startX, rAsg, rgName, rVar, rC, rBin, rD, rCl, rFz, rTb, rTr, rIf, rIfS, rRet, rRetN, rNx, rCons, rNil, rTup, rTupC, rLst, rApp, rAppF, rCall, rPar, rNeg, rNot, rAnd, rOr, rChain, rLc, riSeq, rYes, rDrop, rFor, rApd, rExt, rgTup, rgCons, rgNil, rgSub, rIsiX, riRng1, riRng2, slot_z, slot_s, set_z, set_s, at0, at1, at2, at3, at4, at5, at6, dX_c, dX_n, gIx_tup, gIx_lst, gEq_ii, gEq_ss, gNe_ii, gNe_ss, gAdd_ii, gSub_ii, gLt_ii, gLe_ii, gGt_ii, gGe_ii, gIsN_d, gLen_l, gMax_ii, gMin_ii, gInt_b, gInt_i, gAbs_i, gApd_last, isLst_last, boX_b, tru_l, fzL_dX, fzL_n, fzL_cd, Option.map_some, fz_d, pk_d, ifS_some, hd_int, hd_str, hd_bool, hd_none, hd_list, hd_tuple, wipeX, List.map_cons, List.map_nil, List.length_cons, List.length_nil, List.replicate_succ, List.replicate_zero, List.cons_append, List.nil_append, List.append_nil, decide_eq_true_eq, if_true, if_false, Nat.reduceAdd, Nat.reduceSub, Nat.reduceLeDiff, Nat.zero_add, Nat.sub_zero, tdD]
    refine seq_step ?_
    simp only [startX, rAsg, rgName, rVar, rC, rBin, rD, rCl, rFz, rTb, rTr, rIf, rIfS, rRet, rRetN, rNx, rCons, rNil, rTup, rTupC, rLst, rApp, rAppF, rCall, rPar, rNeg, rNot, rAnd, rOr, rChain, rLc, riSeq, rYes, rDrop, rFor, rApd, rExt, rgTup, rgCons, rgNil, rgSub, rIsiX, riRng1, riRng2, slot_z, slot_s, set_z, set_s, at0, at1, at2, at3, at4, at5, at6, dX_c, dX_n, gIx_tup, gIx_lst, gEq_ii, gEq_ss, gNe_ii, gNe_ss, gAdd_ii, gSub_ii, gLt_ii, gLe_ii, gGt_ii, gGe_ii, gIsN_d, gLen_l, gMax_ii, gMin_ii, gInt_b, gInt_i, gAbs_i, gApd_last, isLst_last, boX_b, tru_l, fzL_dX, fzL_n, fzL_cd, Option.map_some, fz_d, pk_d, ifS_some, hd_int, hd_str, hd_bool, hd_none, hd_list, hd_tuple, wipeX, List.map_cons, List.map_nil, List.length_cons, List.length_nil, List.replicate_succ, List.replicate_zero, List.cons_append, List.nil_append, List.append_nil, decide_eq_true_eq, if_true, if_false, Nat.reduceAdd, Nat.reduceSub, Nat.reduceLeDiff, Nat.zero_add, Nat.sub_zero]
    refine u_meets I g ht g2 ?_
    simp only [startX, rAsg, rgName, rVar, rC, rBin, rD, rCl, rFz, rTb, rTr, rIf, rIfS, rRet, rRetN, rNx, rCons, rNil, rTup, rTupC, rLst, rApp, rAppF, rCall, rPar, rNeg, rNot, rAnd, rOr, rChain, rLc, riSeq, rYes, rDrop, rFor, rApd, rExt, rgTup, rgCons, rgNil, rgSub, rIsiX, riRng1, riRng2, slot_z, slot_s, set_z, set_s, at0, at1, at2, at3, at4, at5, at6, dX_c, dX_n, gIx_tup, gIx_lst, gEq_ii, gEq_ss, gNe_ii, gNe_ss, gAdd_ii, gSub_ii, gLt_ii, gLe_ii, gGt_ii, gGe_ii, gIsN_d, gLen_l, gMax_ii, gMin_ii, gInt_b, gInt_i, gAbs_i, gApd_last, isLst_last, boX_b, tru_l, fzL_dX, fzL_n, fzL_cd, Option.map_some, fz_d, pk_d, ifS_some, hd_int, hd_str, hd_bool, hd_none, hd_list, hd_tuple, wipeX, List.map_cons, List.map_nil, List.length_cons, List.length_nil, List.replicate_succ, List.replicate_zero, List.cons_append, List.nil_append, List.append_nil, decide_eq_true_eq, if_true, if_false, Nat.reduceAdd, Nat.reduceSub, Nat.reduceLeDiff, Nat.zero_add, Nat.sub_zero, tru_b]
    by_cases c1 : (partsOf other).all (metP ks t) = true
    · rw [if_neg (by rw [c1]; simp)]
      rw [if_pos c1] at h
      try simp only [startX, rAsg, rgName, rVar, rC, rBin, rD, rCl, rFz, rTb, rTr, rIf, rIfS, rRet, rRetN, rNx, rCons, rNil, rTup, rTupC, rLst, rApp, rAppF, rCall, rPar, rNeg, rNot, rAnd, rOr, rChain, rLc, riSeq, rYes, rDrop, rFor, rApd, rExt, rgTup, rgCons, rgNil, rgSub, rIsiX, riRng1, riRng2, slot_z, slot_s, set_z, set_s, at0, at1, at2, at3, at4, at5, at6, dX_c, dX_n, gIx_tup, gIx_lst, gEq_ii, gEq_ss, gNe_ii, gNe_ss, gAdd_ii, gSub_ii, gLt_ii, gLe_ii, gGt_ii, gGe_ii, gIsN_d, gLen_l, gMax_ii, gMin_ii, gInt_b, gInt_i, gAbs_i, gApd_last, isLst_last, boX_b, tru_l, fzL_dX, fzL_n, fzL_cd, Option.map_some, fz_d, pk_d, ifS_some, hd_int, hd_str, hd_bool, hd_none, hd_list, hd_tuple, wipeX, List.map_cons, List.map_nil, List.length_cons, List.length_nil, List.replicate_succ, List.replicate_zero, List.cons_append, List.nil_append, List.append_nil, decide_eq_true_eq, if_true, if_false, Nat.reduceAdd, Nat.reduceSub, Nat.reduceLeDiff, Nat.zero_add, Nat.sub_zero]
      refine u_meets I g ht g1 ?_
      simp only [startX, rAsg, rgName, rVar, rC, rBin, rD, rCl, rFz, rTb, rTr, rIf, rIfS, rRet, rRetN, rNx, rCons, rNil, rTup, rTupC, rLst, rApp, rAppF, rCall, rPar, rNeg, rNot, rAnd, rOr, rChain, rLc, riSeq, rYes, rDrop, rFor, rApd, rExt, rgTup, rgCons, rgNil, rgSub, rIsiX, riRng1, riRng2, slot_z, slot_s, set_z, set_s, at0, at1, at2, at3, at4, at5, at6, dX_c, dX_n, gIx_tup, gIx_lst, gEq_ii, gEq_ss, gNe_ii, gNe_ss, gAdd_ii, gSub_ii, gLt_ii, gLe_ii, gGt_ii, gGe_ii, gIsN_d, gLen_l, gMax_ii, gMin_ii, gInt_b, gInt_i, gAbs_i, gApd_last, isLst_last, boX_b, tru_l, fzL_dX, fzL_n, fzL_cd, Option.map_some, fz_d, pk_d, ifS_some, hd_int, hd_str, hd_bool, hd_none, hd_list, hd_tuple, wipeX, List.map_cons, List.map_nil, List.length_cons, List.length_nil, List.replicate_succ, List.replicate_zero, List.cons_append, List.nil_append, List.append_nil, decide_eq_true_eq, if_true, if_false, Nat.reduceAdd, Nat.reduceSub, Nat.reduceLeDiff, Nat.zero_add, Nat.sub_zero, tru_b]
      by_cases c2 : (partsOf one).all (metP ks t) = true
      · rw [if_pos c2]
        rw [if_pos c2] at h
        exact ⟨s1, h⟩
      · rw [if_neg c2]
        rw [if_neg c2] at h
        exact h
    · rw [if_pos (by simpa using c1)]
      rw [if_neg c1] at h
      exact ⟨s1, h⟩
  | cov ps =>
    simp only [faultC] at h
    simp only [startX, rAsg, rgName, rVar, rC, rBin, rD, rCl, rFz, rTb, rTr, rIf, rIfS, rRet, rRetN, rNx, rCons, rNil, rTup, rTupC, rLst, rApp, rAppF, rCall, rPar, rNeg, rNot, rAnd, rOr, rChain, rLc, riSeq, rYes, rDrop, rFor, rApd, rExt, rgTup, rgCons, rgNil, rgSub, rIsiX, riRng1, riRng2, slot_z, slot_s, set_z, set_s, at0, at1, at2, at3, at4, at5, at6, dX_c, dX_n, gIx_tup, gIx_lst, gEq_ii, gEq_ss, gNe_ii, gNe_ss, gAdd_ii, gSub_ii, gLt_ii, gLe_ii, gGt_ii, gGe_ii, gIsN_d, gLen_l, gMax_ii, gMin_ii, gInt_b, gInt_i, gAbs_i, gApd_last, isLst_last, boX_b, tru_l, fzL_dX, fzL_n, fzL_cd, Option.map_some, fz_d, pk_d, ifS_some, hd_int, hd_str, hd_bool, hd_none, hd_list, hd_tuple, wipeX, List.map_cons, List.map_nil, List.length_cons, List.length_nil, List.replicate_succ, List.replicate_zero, List.cons_append, List.nil_append, List.append_nil, decide_eq_true_eq, if_true, if_false, Nat.reduceAdd, Nat.reduceSub, Nat.reduceLeDiff, Nat.zero_add, Nat.sub_zero, tdD]
    rw [if_neg (by simpa using nk)]
    refine seq_step ?_
    simp only [startX, rAsg, rgName, rVar, rC, rBin, rD, rCl, rFz, rTb, rTr, rIf, rIfS, rRet, rRetN, rNx, rCons, rNil, rTup, rTupC, rLst, rApp, rAppF, rCall, rPar, rNeg, rNot, rAnd, rOr, rChain, rLc, riSeq, rYes, rDrop, rFor, rApd, rExt, rgTup, rgCons, rgNil, rgSub, rIsiX, riRng1, riRng2, slot_z, slot_s, set_z, set_s, at0, at1, at2, at3, at4, at5, at6, dX_c, dX_n, gIx_tup, gIx_lst, gEq_ii, gEq_ss, gNe_ii, gNe_ss, gAdd_ii, gSub_ii, gLt_ii, gLe_ii, gGt_ii, gGe_ii, gIsN_d, gLen_l, gMax_ii, gMin_ii, gInt_b, gInt_i, gAbs_i, gApd_last, isLst_last, boX_b, tru_l, fzL_dX, fzL_n, fzL_cd, Option.map_some, fz_d, pk_d, ifS_some, hd_int, hd_str, hd_bool, hd_none, hd_list, hd_tuple, wipeX, List.map_cons, List.map_nil, List.length_cons, List.length_nil, List.replicate_succ, List.replicate_zero, List.cons_append, List.nil_append, List.append_nil, decide_eq_true_eq, if_true, if_false, Nat.reduceAdd, Nat.reduceSub, Nat.reduceLeDiff, Nat.zero_add, Nat.sub_zero]
    refine u_parts g2 ?_
    refine seq_step ?_
    simp only [startX, rAsg, rgName, rVar, rC, rBin, rD, rCl, rFz, rTb, rTr, rIf, rIfS, rRet, rRetN, rNx, rCons, rNil, rTup, rTupC, rLst, rApp, rAppF, rCall, rPar, rNeg, rNot, rAnd, rOr, rChain, rLc, riSeq, rYes, rDrop, rFor, rApd, rExt, rgTup, rgCons, rgNil, rgSub, rIsiX, riRng1, riRng2, slot_z, slot_s, set_z, set_s, at0, at1, at2, at3, at4, at5, at6, dX_c, dX_n, gIx_tup, gIx_lst, gEq_ii, gEq_ss, gNe_ii, gNe_ss, gAdd_ii, gSub_ii, gLt_ii, gLe_ii, gGt_ii, gGe_ii, gIsN_d, gLen_l, gMax_ii, gMin_ii, gInt_b, gInt_i, gAbs_i, gApd_last, isLst_last, boX_b, tru_l, fzL_dX, fzL_n, fzL_cd, Option.map_some, fz_d, pk_d, ifS_some, hd_int, hd_str, hd_bool, hd_none, hd_list, hd_tuple, wipeX, List.map_cons, List.map_nil, List.length_cons, List.length_nil, List.replicate_succ, List.replicate_zero, List.cons_append, List.nil_append, List.append_nil, decide_eq_true_eq, if_true, if_false, Nat.reduceAdd, Nat.reduceSub, Nat.reduceLeDiff, Nat.zero_add, Nat.sub_zero]
    refine u_parts g1 ?_
    refine seq_step ?_
    simp only [startX, rAsg, rgName, rVar, rC, rBin, rD, rCl, rFz, rTb, rTr, rIf, rIfS, rRet, rRetN, rNx, rCons, rNil, rTup, rTupC, rLst, rApp, rAppF, rCall, rPar, rNeg, rNot, rAnd, rOr, rChain, rLc, riSeq, rYes, rDrop, rFor, rApd, rExt, rgTup, rgCons, rgNil, rgSub, rIsiX, riRng1, riRng2, slot_z, slot_s, set_z, set_s, at0, at1, at2, at3, at4, at5, at6, dX_c, dX_n, gIx_tup, gIx_lst, gEq_ii, gEq_ss, gNe_ii, gNe_ss, gAdd_ii, gSub_ii, gLt_ii, gLe_ii, gGt_ii, gGe_ii, gIsN_d, gLen_l, gMax_ii, gMin_ii, gInt_b, gInt_i, gAbs_i, gApd_last, isLst_last, boX_b, tru_l, fzL_dX, fzL_n, fzL_cd, Option.map_some, fz_d, pk_d, ifS_some, hd_int, hd_str, hd_bool, hd_none, hd_list, hd_tuple, wipeX, List.map_cons, List.map_nil, List.length_cons, List.length_nil, List.replicate_succ, List.replicate_zero, List.cons_append, List.nil_append, List.append_nil, decide_eq_true_eq, if_true, if_false, Nat.reduceAdd, Nat.reduceSub, Nat.reduceLeDiff, Nat.zero_add, Nat.sub_zero, gLen_l, List.length_map]
    obtain ⟨rows, hrows⟩ : ∃ rows, partsOf other = rows := ⟨_, rfl⟩
    obtain ⟨ws, hws⟩ : ∃ ws, partsOf one = ws := ⟨_, rfl⟩
    simp only [hrows, hws] at h l1 l2 n1 n2 ⊢
    by_cases c1 : ps.length = ws.length
    rotate_left
    · rw [if_pos (by simpa using fun z => c1 (by omega))]
      rw [if_neg c1] at h
      exact ⟨s1, h⟩
    rw [if_neg (by simp [c1])]
    rw [if_pos c1] at h
    refine seq_step ?_
    simp only [startX, rAsg, rgName, rVar, rC, rBin, rD, rCl, rFz, rTb, rTr, rIf, rIfS, rRet, rRetN, rNx, rCons, rNil, rTup, rTupC, rLst, rApp, rAppF, rCall, rPar, rNeg, rNot, rAnd, rOr, rChain, rLc, riSeq, rYes, rDrop, rFor, rApd, rExt, rgTup, rgCons, rgNil, rgSub, rIsiX, riRng1, riRng2, slot_z, slot_s, set_z, set_s, at0, at1, at2, at3, at4, at5, at6, dX_c, dX_n, gIx_tup, gIx_lst, gEq_ii, gEq_ss, gNe_ii, gNe_ss, gAdd_ii, gSub_ii, gLt_ii, gLe_ii, gGt_ii, gGe_ii, gIsN_d, gLen_l, gMax_ii, gMin_ii, gInt_b, gInt_i, gAbs_i, gApd_last, isLst_last, boX_b, tru_l, fzL_dX, fzL_n, fzL_cd, Option.map_some, fz_d, pk_d, ifS_some, hd_int, hd_str, hd_bool, hd_none, hd_list, hd_tuple, wipeX, List.map_cons, List.map_nil, List.length_cons, List.length_nil, List.replicate_succ, List.replicate_zero, List.cons_append, List.nil_append, List.append_nil, decide_eq_true_eq, if_true, if_false, Nat.reduceAdd, Nat.reduceSub, Nat.reduceLeDiff, Nat.zero_add, Nat.sub_zero, gLen_l, List.length_map]
    refine ⟨by omega, by omega, ?_⟩
    obtain ⟨V, hV⟩ : ∃ V, cvF ks rows ws ps 0 = V := ⟨_, rfl⟩
    rw [hV] at h
    refine loopW_inv (fun xs σ M => ∃ (m i : Nat) (o6 : Option Xv), xs = rangeX (i : Int) m ∧ i + m = ws.length ∧ cvF ks rows (ws.drop i) (ps.drop i) i = V ∧ M = [] ∧
      σ = [some (.d s), some (.d (thD one)), some (.d (thD other)), some (.d (.tuple [.str "covers", .list (ps.map .int)])), some (.d (.list (rows.map ptD))), some (.d (.list (ws.map ptD))), o6]) ?_ ?_ _ _ _ ⟨ws.length, 0, _, by rw [show ((ws.length : Int)).toNat = ws.length by omega]; rfl, by omega, hV, rfl, rfl⟩
    · rintro x xs σ M ⟨m, i, o6, e, hi, ev, rfl, rfl⟩ C hC
      obtain ⟨m, rfl⟩ : ∃ n', m = n' + 1 := by
        cases m with
        | zero => cases e
        | succ n => exact ⟨n, rfl⟩
      rw [rangeX_succ] at e
      cases e
      have hi2 : i < ps.length := by omega
      refine ⟨trivial, ?_⟩
      rw [drop_pt (show i < ws.length by omega), drop_ps hi2] at ev
      unfold cvF at ev
      simp only [startX, rAsg, rgName, rVar, rC, rBin, rD, rCl, rFz, rTb, rTr, rIf, rIfS, rRet, rRetN, rNx, rCons, rNil, rTup, rTupC, rLst, rApp, rAppF, rCall, rPar, rNeg, rNot, rAnd, rOr, rChain, rLc, riSeq, rYes, rDrop, rFor, rApd, rExt, rgTup, rgCons, rgNil, rgSub, rIsiX, riRng1, riRng2, slot_z, slot_s, set_z, set_s, at0, at1, at2, at3, at4, at5, at6, dX_c, dX_n, gIx_tup, gIx_lst, gEq_ii, gEq_ss, gNe_ii, gNe_ss, gAdd_ii, gSub_ii, gLt_ii, gLe_ii, gGt_ii, gGe_ii, gIsN_d, gLen_l, gMax_ii, gMin_ii, gInt_b, gInt_i, gAbs_i, gApd_last, isLst_last, boX_b, tru_l, fzL_dX, fzL_n, fzL_cd, Option.map_some, fz_d, pk_d, ifS_some, hd_int, hd_str, hd_bool, hd_none, hd_list, hd_tuple, wipeX, List.map_cons, List.map_nil, List.length_cons, List.length_nil, List.replicate_succ, List.replicate_zero, List.cons_append, List.nil_append, List.append_nil, decide_eq_true_eq, if_true, if_false, Nat.reduceAdd, Nat.reduceSub, Nat.reduceLeDiff, Nat.zero_add, Nat.sub_zero, at_ps hi2, gLen_l, List.length_map]
      obtain ⟨j, hj⟩ : ∃ j, ps.getD i 0 = j := ⟨_, rfl⟩
      rw [hj] at ev ⊢
      by_cases ck : cvOk ks rows (ws.getD i pdf) j
      · obtain ⟨b0, b1, b2⟩ := ck
        rw [if_pos ⟨b0, b1, b2⟩] at ev
        rw [if_pos b0, if_neg (by rw [decide_eq_true b1]; simp)]
        simp only [startX, rAsg, rgName, rVar, rC, rBin, rD, rCl, rFz, rTb, rTr, rIf, rIfS, rRet, rRetN, rNx, rCons, rNil, rTup, rTupC, rLst, rApp, rAppF, rCall, rPar, rNeg, rNot, rAnd, rOr, rChain, rLc, riSeq, rYes, rDrop, rFor, rApd, rExt, rgTup, rgCons, rgNil, rgSub, rIsiX, riRng1, riRng2, slot_z, slot_s, set_z, set_s, at0, at1, at2, at3, at4, at5, at6, dX_c, dX_n, gIx_tup, gIx_lst, gEq_ii, gEq_ss, gNe_ii, gNe_ss, gAdd_ii, gSub_ii, gLt_ii, gLe_ii, gGt_ii, gGe_ii, gIsN_d, gLen_l, gMax_ii, gMin_ii, gInt_b, gInt_i, gAbs_i, gApd_last, isLst_last, boX_b, tru_l, fzL_dX, fzL_n, fzL_cd, Option.map_some, fz_d, pk_d, ifS_some, hd_int, hd_str, hd_bool, hd_none, hd_list, hd_tuple, wipeX, List.map_cons, List.map_nil, List.length_cons, List.length_nil, List.replicate_succ, List.replicate_zero, List.cons_append, List.nil_append, List.append_nil, decide_eq_true_eq, if_true, if_false, Nat.reduceAdd, Nat.reduceSub, Nat.reduceLeDiff, Nat.zero_add, Nat.sub_zero, at_ptn (show i < ws.length by omega), at_pt b0 b1]
        refine u_cov I g (n1 _ (getD_mem (by omega))) (n2 _ (getD_mem (by omega))) ?_
        simp only [startX, rAsg, rgName, rVar, rC, rBin, rD, rCl, rFz, rTb, rTr, rIf, rIfS, rRet, rRetN, rNx, rCons, rNil, rTup, rTupC, rLst, rApp, rAppF, rCall, rPar, rNeg, rNot, rAnd, rOr, rChain, rLc, riSeq, rYes, rDrop, rFor, rApd, rExt, rgTup, rgCons, rgNil, rgSub, rIsiX, riRng1, riRng2, slot_z, slot_s, set_z, set_s, at0, at1, at2, at3, at4, at5, at6, dX_c, dX_n, gIx_tup, gIx_lst, gEq_ii, gEq_ss, gNe_ii, gNe_ss, gAdd_ii, gSub_ii, gLt_ii, gLe_ii, gGt_ii, gGe_ii, gIsN_d, gLen_l, gMax_ii, gMin_ii, gInt_b, gInt_i, gAbs_i, gApd_last, isLst_last, boX_b, tru_l, fzL_dX, fzL_n, fzL_cd, Option.map_some, fz_d, pk_d, ifS_some, hd_int, hd_str, hd_bool, hd_none, hd_list, hd_tuple, wipeX, List.map_cons, List.map_nil, List.length_cons, List.length_nil, List.replicate_succ, List.replicate_zero, List.cons_append, List.nil_append, List.append_nil, decide_eq_true_eq, if_true, if_false, Nat.reduceAdd, Nat.reduceSub, Nat.reduceLeDiff, Nat.zero_add, Nat.sub_zero, tru_b, b2, Bool.not_true, Bool.false_eq_true]
        exact hC _ _ ⟨m, i + 1, _, by rw [show ((i + 1 : Nat) : Int) = (i : Int) + 1 by omega], by omega, ev, rfl, rfl⟩
      · rw [if_neg ck] at ev
        rw [← ev] at h
        by_cases b0 : 0 ≤ j
        rotate_left
        · rw [if_neg b0]
          simp only [Bool.not_false, if_true]
          exact ⟨s2, h⟩
        rw [if_pos b0]
        by_cases b1 : j < (rows.length : Int)
        rotate_left
        · rw [if_pos (by rw [decide_eq_false b1]; rfl)]
          exact ⟨s2, h⟩
        rw [if_neg (by rw [decide_eq_true b1]; simp)]
        simp only [startX, rAsg, rgName, rVar, rC, rBin, rD, rCl, rFz, rTb, rTr, rIf, rIfS, rRet, rRetN, rNx, rCons, rNil, rTup, rTupC, rLst, rApp, rAppF, rCall, rPar, rNeg, rNot, rAnd, rOr, rChain, rLc, riSeq, rYes, rDrop, rFor, rApd, rExt, rgTup, rgCons, rgNil, rgSub, rIsiX, riRng1, riRng2, slot_z, slot_s, set_z, set_s, at0, at1, at2, at3, at4, at5, at6, dX_c, dX_n, gIx_tup, gIx_lst, gEq_ii, gEq_ss, gNe_ii, gNe_ss, gAdd_ii, gSub_ii, gLt_ii, gLe_ii, gGt_ii, gGe_ii, gIsN_d, gLen_l, gMax_ii, gMin_ii, gInt_b, gInt_i, gAbs_i, gApd_last, isLst_last, boX_b, tru_l, fzL_dX, fzL_n, fzL_cd, Option.map_some, fz_d, pk_d, ifS_some, hd_int, hd_str, hd_bool, hd_none, hd_list, hd_tuple, wipeX, List.map_cons, List.map_nil, List.length_cons, List.length_nil, List.replicate_succ, List.replicate_zero, List.cons_append, List.nil_append, List.append_nil, decide_eq_true_eq, if_true, if_false, Nat.reduceAdd, Nat.reduceSub, Nat.reduceLeDiff, Nat.zero_add, Nat.sub_zero, at_ptn (show i < ws.length by omega), at_pt b0 b1]
        refine u_cov I g (n1 _ (getD_mem (by omega))) (n2 _ (getD_mem (by omega))) ?_
        have b2 : covP ks (ws.getD i pdf) (rows.getD j.toNat pdf) = false := Bool.eq_false_iff.mpr fun z => ck ⟨b0, b1, z⟩
        simp only [startX, rAsg, rgName, rVar, rC, rBin, rD, rCl, rFz, rTb, rTr, rIf, rIfS, rRet, rRetN, rNx, rCons, rNil, rTup, rTupC, rLst, rApp, rAppF, rCall, rPar, rNeg, rNot, rAnd, rOr, rChain, rLc, riSeq, rYes, rDrop, rFor, rApd, rExt, rgTup, rgCons, rgNil, rgSub, rIsiX, riRng1, riRng2, slot_z, slot_s, set_z, set_s, at0, at1, at2, at3, at4, at5, at6, dX_c, dX_n, gIx_tup, gIx_lst, gEq_ii, gEq_ss, gNe_ii, gNe_ss, gAdd_ii, gSub_ii, gLt_ii, gLe_ii, gGt_ii, gGe_ii, gIsN_d, gLen_l, gMax_ii, gMin_ii, gInt_b, gInt_i, gAbs_i, gApd_last, isLst_last, boX_b, tru_l, fzL_dX, fzL_n, fzL_cd, Option.map_some, fz_d, pk_d, ifS_some, hd_int, hd_str, hd_bool, hd_none, hd_list, hd_tuple, wipeX, List.map_cons, List.map_nil, List.length_cons, List.length_nil, List.replicate_succ, List.replicate_zero, List.cons_append, List.nil_append, List.append_nil, decide_eq_true_eq, if_true, if_false, Nat.reduceAdd, Nat.reduceSub, Nat.reduceLeDiff, Nat.zero_add, Nat.sub_zero, tru_b, b2, Bool.not_false]
        exact ⟨s2, h⟩
    · rintro σ M ⟨m, i, o6, e, hi, ev, rfl, rfl⟩
      have e0 : m = 0 := by
        cases m with
        | zero => rfl
        | succ n => rw [rangeX_succ] at e; cases e
      subst e0
      refine ⟨trivial, ?_⟩
      rw [List.drop_of_length_le (show ws.length ≤ i by omega)] at ev
      have ev : PyData.none = V := ev
      rw [← ev] at h
      exact h
end K11

set_option Elab.async false
set_option linter.all false
set_option maxRecDepth 100000
set_option maxHeartbeats 8000000
namespace K11
open PySem PySem.Spec PyProof.Rows L2 G
variable {P : Program} {w : World} {K : PySem.W.Frag} {mg : Str → Option Value} {base : Heap} {k : Nat}
/-! ### what is told is right -/
theorem up_self {ks : Ks} (g : Gk ks) {x : Str} (h : x ∈ ks.map (·.1)) : x ∈ up ks x := by
  obtain ⟨i, hi⟩ := rk_of h
  rcases up_step g hi with ⟨_, e⟩ | ⟨q, j, _, _, _, e⟩ <;> rw [e] <;> exact List.mem_cons_self
theorem out_meets {ks : Ks} (g : Gk ks) {v : Th} (gv : Gt ks v) (hr : ∀ r ∈ v.rg, r.2.1 ≤ r.2.2) (p : Part) : (partsOf v).all (metP ks (outT v p)) = true := by
  rw [List.all_eq_true]
  intro q hq
  rcases List.mem_append.mp hq with h | h
  · obtain ⟨x, hx, rfl⟩ := List.mem_map.mp h
    exact List.any_eq_true.mpr ⟨x, hx, decide_eq_true (up_self g (gv.km x hx))⟩
  · obtain ⟨r, hr2, rfl⟩ := List.mem_map.mp h
    refine List.any_eq_true.mpr ⟨outR p r, List.mem_map.mpr ⟨r, hr2, rfl⟩, ?_⟩
    have b := hr r hr2
    rw [Bool.and_eq_true, decide_eq_true_eq, decide_eq_true_eq]
    refine ⟨outR_nm p r, ?_⟩
    unfold outR
    split
    · split
      · simp only; omega
      · simp only; omega
    · simp only; omega
theorem out_not {ks : Ks} {v : Th} {p : Part} (h : ∀ o ∈ partsOf v, covP ks p o = false) : metP ks (outT v p) p = false := by
  cases p with
  | kind x =>
    show (v.ks.any fun y => decide (x ∈ up ks y)) = false
    rw [List.any_eq_false]
    intro y hy
    have := h (.kind y) (List.mem_append_left _ (List.mem_map.mpr ⟨y, hy, rfl⟩))
    exact Bool.eq_false_iff.mp this
  | rng q =>
    show ((v.rg.map (outR (.rng q))).any fun z => decide (z.1 = q.1) && decide (max z.2.1 q.2.1 ≤ min z.2.2 q.2.2)) = false
    rw [List.any_eq_false]
    intro z hz
    obtain ⟨r, hr, rfl⟩ := List.mem_map.mp hz
    have c : (decide (q.1 = r.1) && (decide (q.2.1 ≤ r.2.1) && decide (r.2.2 ≤ q.2.2))) = false := h (.rng r) (List.mem_append_right _ (List.mem_map.mpr ⟨r, hr, rfl⟩))
    intro z2
    rw [Bool.and_eq_true, decide_eq_true_eq, decide_eq_true_eq] at z2
    obtain ⟨z3, z4⟩ := z2
    rw [outR_nm] at z3
    refine Bool.eq_false_iff.mp c ?_
    have m : q.2.1 ≤ r.2.1 ∧ r.2.2 ≤ q.2.2 := by
      unfold outR at z4
      by_cases d : q.1 = r.1 ∧ q.2.1 ≤ r.2.1
      · simp only [if_pos d] at z4
        exact ⟨d.2, by omega⟩
      · simp only [if_neg d] at z4
        have : ¬ q.2.1 ≤ r.2.1 := fun z => d ⟨z3.symm, z⟩
        omega
    rw [Bool.and_eq_true, Bool.and_eq_true, decide_eq_true_eq, decide_eq_true_eq, decide_eq_true_eq]
    exact ⟨z3.symm, m.1, m.2⟩
theorem cvd_F {ks : Ks} {rows : List Part} : ∀ {ps : List Part} {js : List Int} (i : Nat), cvd ks rows ps js → cvF ks rows ps js i = .none
  | [], [], i, _ => rfl
  | p :: ps, j :: js, i, h => by
    obtain ⟨⟨n, rfl, hn, hc⟩, h2⟩ := h
    unfold cvF
    rw [if_pos ⟨by omega, by omega, by simpa using hc⟩]
    exact cvd_F (i + 1) h2
  | [], _ :: _, _, h => h.elim
  | _ :: _, [], _, h => h.elim
theorem right_none {ks : Ks} (g : Gk ks) {one other : Th} (gv : Gt ks other) (hr : ∀ r ∈ other.rg, r.2.1 ≤ r.2.2) {td : Td} (h : Right ks one other td) : faultC ks one other td = .none := by
  cases td with
  | no t =>
    obtain ⟨p, hp, hc, rfl⟩ := h
    simp only [faultC]
    rw [if_pos (out_meets g gv hr p), if_neg fun z => ?_]
    have := List.all_eq_true.mp z p hp
    rw [out_not hc] at this
    cases this
  | cov ps =>
    simp only [faultC]
    rw [if_pos (cvd_len h)]
    exact cvd_F 0 h
def dueV (ks : Ks) (one other : Th) : Bool := (partsOf one).all fun p => (partsOf other).any fun o => covP ks p o
theorem cvd_due {ks : Ks} {rows : List Part} : ∀ {ps : List Part} {js : List Int}, cvd ks rows ps js → (ps.all fun p => rows.any fun o => covP ks p o) = true
  | [], [], _ => rfl
  | p :: ps, j :: js, h => by
    obtain ⟨⟨n, rfl, hn, hc⟩, h2⟩ := h
    rw [List.all_cons, Bool.and_eq_true]
    exact ⟨List.any_eq_true.mpr ⟨_, getD_mem hn, hc⟩, cvd_due h2⟩
  | [], _ :: _, h => h.elim
  | _ :: _, [], h => h.elim
theorem due_no {ks : Ks} {one other t : Th} (h : Right ks one other (.no t)) : dueV ks one other = false := by
  obtain ⟨p, hp, hc, rfl⟩ := h
  refine Bool.eq_false_iff.mpr fun z => ?_
  have := List.all_eq_true.mp z p hp
  obtain ⟨o, ho, e⟩ := List.any_eq_true.mp this
  rw [hc o ho] at e
  cases e
theorem due_cov {ks : Ks} {one other : Th} {ps : List Int} (h : Right ks one other (.cov ps)) : dueV ks one other = true := cvd_due h
theorem right_ok {ks : Ks} {one other : Th} (g1 : Gt ks one) (g2 : Gt ks other) {td : Td} (h : Right ks one other td) : TOk ks td ∧ ∀ ps, td = .cov ps → ps.length ≤ 20 := by
  cases td with
  | no t =>
    obtain ⟨p, hp, hc, rfl⟩ := h
    exact ⟨outT_ok g2 p, nofun⟩
  | cov ps =>
    have l := cvd_len h
    have := parts_len g1
    exact ⟨by show ps.length ≤ 100; omega, fun q e => by cases e; omega⟩
theorem shaped_fault {ks : Ks} {one other : Th} (td : Td) : SeqAt.shaped (faultC ks one other td) = true := by
  have cv : ∀ (rows ps : List Part) (js : List Int) (i : Nat), SeqAt.shaped (cvF ks rows ps js i) = true := by
    intro rows ps
    induction ps with
    | nil => intro js i; cases js <;> rfl
    | cons p ps ih =>
      intro js i
      cases js with
      | nil => rfl
      | cons j js =>
        unfold cvF
        split
        · exact ih js (i + 1)
        · have : PyData.strOk ("part" : Str) = true := by decide +kernel
          simp [SeqAt.shaped, PyData.canLay0, PyData.canLayAll0, PyData.depth, PyData.depthAll, this]
  cases td with
  | no t =>
    simp only [faultC]
    split
    · split
      · decide +kernel
      · rfl
    · decide +kernel
  | cov ps =>
    simp only [faultC]
    split
    · exact cv _ _ _ _
    · decide +kernel
/-- a fault is nothing or a tuple -/
theorem fault_kind {ks : Ks} {one other : Th} (td : Td) : faultC ks one other td = .none ∨ ∃ ds, faultC ks one other td = .tuple ds := by
  have cv : ∀ (rows ps : List Part) (js : List Int) (i : Nat), cvF ks rows ps js i = .none ∨ ∃ ds, cvF ks rows ps js i = .tuple ds := by
    intro rows ps
    induction ps with
    | nil => intro js i; cases js <;> exact .inl rfl
    | cons p ps ih =>
      intro js i
      cases js with
      | nil => exact .inl rfl
      | cons j js =>
        unfold cvF
        split
        · exact ih js (i + 1)
        · exact .inr ⟨_, rfl⟩
  cases td with
  | no t =>
    simp only [faultC]
    split
    · split
      · exact .inr ⟨_, rfl⟩
      · exact .inl rfl
    · exact .inr ⟨_, rfl⟩
  | cov ps =>
    simp only [faultC]
    split
    · exact cv _ _ _ _
    · exact .inr ⟨_, rfl⟩
end K11

set_option Elab.async false
set_option linter.all false
set_option maxRecDepth 100000
set_option maxHeartbeats 8000000
namespace K11
open PySem PySem.Spec PyProof.Rows L2 G
variable {P : Program} {w : World} {K : PySem.W.Frag} {mg : Str → Option Value} {base : Heap} {k : Nat}
theorem cutX_sub {α : Type} (xs : List α) (a b : Option Int) : (cutX xs a b).Sublist xs := (List.take_sublist _ _).trans (List.drop_sublist _ _)
theorem gSl_l {α : Type} (enc : α → PyData) (xs : List α) (a b : Option Int) (M : Sto) (P : Xv → Sto → Prop) : gSl (.d (.list (xs.map enc))) a b M P = P (.d (.list ((cutX xs a b).map enc))) M := by
  show ifS (fzL M (cutX (dX (xs.map enc)) a b)) _ = _
  rw [show cutX (dX (xs.map enc)) a b = dX ((cutX xs a b).map enc) by rw [dX, cutX_map, cutX_map], fzL_dX]
  rfl
def RgB (rg : List Rng) : Prop := ∀ r ∈ rg, r.1 ∈ uvw ∧ 0 ≤ r.2.1 ∧ r.2.1 < 1000 ∧ 0 ≤ r.2.2 ∧ r.2.2 < 1000
theorem Gr.rb {rg : List Rng} (h : Gr rg) : RgB rg := fun r hr => by
  obtain ⟨a, b, c, d⟩ := h.bd r hr
  exact ⟨h.nm r hr, a, by omega, by omega, by omega⟩
def pf_near : PF := fun xs M R => ∃ sc d s ks v, xs = [.c 0, .d s, .d (thD v)] ∧ M = dM sc d ∧ DOk d ∧ Is s ks ∧ Gk ks ∧ Gt ks v ∧ Gr v.rg ∧ ∀ (t : Th) (d' : D3), DOk d' → Gt ks t → RgB t.rg → R (.d (thD t)) (dM sc d')
theorem ok_near (D : DefOk K mg "_law_near" ["draws", "state", "wish"] (defArgs s__law_near) (defBody s__law_near) (defScope s__law_near)) (Z : Fx K mg base) (C1 : Cal P w K mg base 1 "_law_up" ["state", "name"] (pfD pd_up)) (C2 : Cal P w K mg base 1 "_law_draw" ["draws", "limit"] (pfPre 1 pf_dr)) : Cal P w K mg base 2 "_law_near" ["draws", "state", "wish"] (pfPre 1 pf_near) := by
  refine Cal.mkPre (k := 1) D sc__law_near (sd__law_near Z C1 C2) (fun xs M R ⟨_, _, _, _, _, e, _⟩ => by rw [e]; rfl) (fun xs M R h => ?_)
  obtain ⟨sc, d, s, ks, v, rfl, rfl, ok, I, g, gv, gr, h⟩ := h
  have s0 : (0 : Nat) ≤ sizeLine := by decide
  have s1 : (1 : Nat) ≤ sizeLine := by decide
  have s2 : (2 : Nat) ≤ sizeLine := by decide
  have s3 : (3 : Nat) ≤ sizeLine := by decide
  have kl := gv.kl
  have rl := gv.rl
  have l7 := g.ln
  have hv0 : ∀ (M : Sto) (P : Xv → Sto → Prop), gIx (.d (thD v)) (.d (.int 0)) M P = P (.d (.list (v.ks.map .str))) M := fun _ _ => rfl
  have hv1 : ∀ (M : Sto) (P : Xv → Sto → Prop), gIx (.d (thD v)) (.d (.int 1)) M P = P (.d (.list (v.rg.map rgD))) M := fun _ _ => rfl
  unfold b__law_near
  simp only [startX, rAsg, rgName, rVar, rC, rBin, rD, rCl, rFz, rTb, rTr, rIf, rIfS, rRet, rRetN, rNx, rCons, rNil, rTup, rTupC, rLst, rApp, rAppF, rCall, rPar, rNeg, rNot, rAnd, rOr, rChain, rLc, riSeq, rYes, rDrop, rFor, rApd, rExt, rgTup, rgCons, rgNil, rgSub, rIsiX, riRng1, riRng2, slot_z, slot_s, set_z, set_s, at0, at1, at2, at3, at4, at5, at6, dX_c, dX_n, gIx_tup, gIx_lst, gEq_ii, gEq_ss, gNe_ii, gNe_ss, gAdd_ii, gSub_ii, gLt_ii, gLe_ii, gGt_ii, gGe_ii, gIsN_d, gLen_l, gMax_ii, gMin_ii, gInt_b, gInt_i, gAbs_i, gApd_last, isLst_last, boX_b, tru_l, fzL_dX, fzL_n, fzL_cd, Option.map_some, fz_d, pk_d, ifS_some, hd_int, hd_str, hd_bool, hd_none, hd_list, hd_tuple, wipeX, List.map_cons, List.map_nil, List.length_cons, List.length_nil, List.replicate_succ, List.replicate_zero, List.cons_append, List.nil_append, List.append_nil, decide_eq_true_eq, if_true, if_false, Nat.reduceAdd, Nat.reduceSub, Nat.reduceLeDiff, Nat.zero_add, Nat.sub_zero, N__law_near]
  refine seq_step ?_
  simp only [startX, rAsg, rgName, rVar, rC, rBin, rD, rCl, rFz, rTb, rTr, rIf, rIfS, rRet, rRetN, rNx, rCons, rNil, rTup, rTupC, rLst, rApp, rAppF, rCall, rPar, rNeg, rNot, rAnd, rOr, rChain, rLc, riSeq, rYes, rDrop, rFor, rApd, rExt, rgTup, rgCons, rgNil, rgSub, rIsiX, riRng1, riRng2, slot_z, slot_s, set_z, set_s, at0, at1, at2, at3, at4, at5, at6, dX_c, dX_n, gIx_tup, gIx_lst, gEq_ii, gEq_ss, gNe_ii, gNe_ss, gAdd_ii, gSub_ii, gLt_ii, gLe_ii, gGt_ii, gGe_ii, gIsN_d, gLen_l, gMax_ii, gMin_ii, gInt_b, gInt_i, gAbs_i, gApd_last, isLst_last, boX_b, tru_l, fzL_dX, fzL_n, fzL_cd, Option.map_some, fz_d, pk_d, ifS_some, hd_int, hd_str, hd_bool, hd_none, hd_list, hd_tuple, wipeX, List.map_cons, List.map_nil, List.length_cons, List.length_nil, List.replicate_succ, List.replicate_zero, List.cons_append, List.nil_append, List.append_nil, decide_eq_true_eq, if_true, if_false, Nat.reduceAdd, Nat.reduceSub, Nat.reduceLeDiff, Nat.zero_add, Nat.sub_zero]
  refine ⟨s0, ?_⟩
  refine seq_step ?_
  simp only [startX, rAsg, rgName, rVar, rC, rBin, rD, rCl, rFz, rTb, rTr, rIf, rIfS, rRet, rRetN, rNx, rCons, rNil, rTup, rTupC, rLst, rApp, rAppF, rCall, rPar, rNeg, rNot, rAnd, rOr, rChain, rLc, riSeq, rYes, rDrop, rFor, rApd, rExt, rgTup, rgCons, rgNil, rgSub, rIsiX, riRng1, riRng2, slot_z, slot_s, set_z, set_s, at0, at1, at2, at3, at4, at5, at6, dX_c, dX_n, gIx_tup, gIx_lst, gEq_ii, gEq_ss, gNe_ii, gNe_ss, gAdd_ii, gSub_ii, gLt_ii, gLe_ii, gGt_ii, gGe_ii, gIsN_d, gLen_l, gMax_ii, gMin_ii, gInt_b, gInt_i, gAbs_i, gApd_last, isLst_last, boX_b, tru_l, fzL_dX, fzL_n, fzL_cd, Option.map_some, fz_d, pk_d, ifS_some, hd_int, hd_str, hd_bool, hd_none, hd_list, hd_tuple, wipeX, List.map_cons, List.map_nil, List.length_cons, List.length_nil, List.replicate_succ, List.replicate_zero, List.cons_append, List.nil_append, List.append_nil, decide_eq_true_eq, if_true, if_false, Nat.reduceAdd, Nat.reduceSub, Nat.reduceLeDiff, Nat.zero_add, Nat.sub_zero, hv0]
  refine loopW_inv (fun xs σ M => ∃ (rest l : List Str) (d : D3) (o4 o5 : Option Xv), xs = dX (rest.map .str) ∧ (∀ x ∈ rest, x ∈ v.ks) ∧ l.length + rest.length ≤ 10 ∧ (∀ x ∈ l, x ∈ ks.map (·.1)) ∧ M = dM sc d ∧ DOk d ∧
    σ = [some (.c 0), some (.d s), some (.d (thD v)), some (.d (.list (l.map .str))), o4, o5, none, none, none, none]) ?_ ?_ _ _ _
    ⟨v.ks, [], d, _, _, rfl, fun _ h => h, by simp; omega, (by intro x hx; cases hx), rfl, ok, rfl⟩
  · rintro x xs σ M ⟨rest, l, d, o4, o5, e, hr, ll, hl, rfl, ok, rfl⟩ C hC
    obtain ⟨n, rest, rfl⟩ : ∃ a r, rest = a :: r := by
      cases rest with
      | nil => cases e
      | cons a r => exact ⟨a, r, rfl⟩
    rw [List.map_cons, dX_c] at e
    cases e
    rw [List.length_cons] at ll
    have hn := gv.km n (hr n List.mem_cons_self)
    have hs := up_self g hn
    obtain ⟨i, hi⟩ := rk_of hn
    obtain ⟨um, ul⟩ := up_ok g _ n i (Nat.lt_succ_self _) hi
    have := hi.lt
    refine ⟨trivial, ?_⟩
    simp only [startX, rSeq, rAsg, rgName, rVar, rC, rBin, rD, rCl, rFz, rTb, rTr, rIf, rIfS, rRet, rRetN, rNx, rCons, rNil, rTup, rTupC, rLst, rApp, rAppF, rCall, rPar, rNeg, rNot, rAnd, rOr, rChain, rLc, riSeq, rYes, rDrop, rFor, rApd, rExt, rgTup, rgCons, rgNil, rgSub, rIsiX, riRng1, riRng2, slot_z, slot_s, set_z, set_s, at0, at1, at2, at3, at4, at5, at6, dX_c, dX_n, gIx_tup, gIx_lst, gEq_ii, gEq_ss, gNe_ii, gNe_ss, gAdd_ii, gSub_ii, gLt_ii, gLe_ii, gGt_ii, gGe_ii, gIsN_d, gLen_l, gMax_ii, gMin_ii, gInt_b, gInt_i, gAbs_i, gApd_last, isLst_last, boX_b, tru_l, fzL_dX, fzL_n, fzL_cd, Option.map_some, fz_d, pk_d, ifS_some, hd_int, hd_str, hd_bool, hd_none, hd_list, hd_tuple, wipeX, List.map_cons, List.map_nil, List.length_cons, List.length_nil, List.replicate_succ, List.replicate_zero, List.cons_append, List.nil_append, List.append_nil, decide_eq_true_eq, if_true, if_false, Nat.reduceAdd, Nat.reduceSub, Nat.reduceLeDiff, Nat.zero_add, Nat.sub_zero]
    refine u_up I g hn ?_
    simp only [startX, rSeq, rAsg, rgName, rVar, rC, rBin, rD, rCl, rFz, rTb, rTr, rIf, rIfS, rRet, rRetN, rNx, rCons, rNil, rTup, rTupC, rLst, rApp, rAppF, rCall, rPar, rNeg, rNot, rAnd, rOr, rChain, rLc, riSeq, rYes, rDrop, rFor, rApd, rExt, rgTup, rgCons, rgNil, rgSub, rIsiX, riRng1, riRng2, slot_z, slot_s, set_z, set_s, at0, at1, at2, at3, at4, at5, at6, dX_c, dX_n, gIx_tup, gIx_lst, gEq_ii, gEq_ss, gNe_ii, gNe_ss, gAdd_ii, gSub_ii, gLt_ii, gLe_ii, gGt_ii, gGe_ii, gIsN_d, gLen_l, gMax_ii, gMin_ii, gInt_b, gInt_i, gAbs_i, gApd_last, isLst_last, boX_b, tru_l, fzL_dX, fzL_n, fzL_cd, Option.map_some, fz_d, pk_d, ifS_some, hd_int, hd_str, hd_bool, hd_none, hd_list, hd_tuple, wipeX, List.map_cons, List.map_nil, List.length_cons, List.length_nil, List.replicate_succ, List.replicate_zero, List.cons_append, List.nil_append, List.append_nil, decide_eq_true_eq, if_true, if_false, Nat.reduceAdd, Nat.reduceSub, Nat.reduceLeDiff, Nat.zero_add, Nat.sub_zero]
    refine u_dr0 ok (by decide) (by decide) fun w1 d ok a0 a1 => ?_
    simp only [startX, rSeq, rAsg, rgName, rVar, rC, rBin, rD, rCl, rFz, rTb, rTr, rIf, rIfS, rRet, rRetN, rNx, rCons, rNil, rTup, rTupC, rLst, rApp, rAppF, rCall, rPar, rNeg, rNot, rAnd, rOr, rChain, rLc, riSeq, rYes, rDrop, rFor, rApd, rExt, rgTup, rgCons, rgNil, rgSub, rIsiX, riRng1, riRng2, slot_z, slot_s, set_z, set_s, at0, at1, at2, at3, at4, at5, at6, dX_c, dX_n, gIx_tup, gIx_lst, gEq_ii, gEq_ss, gNe_ii, gNe_ss, gAdd_ii, gSub_ii, gLt_ii, gLe_ii, gGt_ii, gGe_ii, gIsN_d, gLen_l, gMax_ii, gMin_ii, gInt_b, gInt_i, gAbs_i, gApd_last, isLst_last, boX_b, tru_l, fzL_dX, fzL_n, fzL_cd, Option.map_some, fz_d, pk_d, ifS_some, hd_int, hd_str, hd_bool, hd_none, hd_list, hd_tuple, wipeX, List.map_cons, List.map_nil, List.length_cons, List.length_nil, List.replicate_succ, List.replicate_zero, List.cons_append, List.nil_append, List.append_nil, decide_eq_true_eq, if_true, if_false, Nat.reduceAdd, Nat.reduceSub, Nat.reduceLeDiff, Nat.zero_add, Nat.sub_zero]
    split
    · have lp : 0 < (up ks n).length := List.length_pos_of_mem hs
      simp only [startX, rSeq, rAsg, rgName, rVar, rC, rBin, rD, rCl, rFz, rTb, rTr, rIf, rIfS, rRet, rRetN, rNx, rCons, rNil, rTup, rTupC, rLst, rApp, rAppF, rCall, rPar, rNeg, rNot, rAnd, rOr, rChain, rLc, riSeq, rYes, rDrop, rFor, rApd, rExt, rgTup, rgCons, rgNil, rgSub, rIsiX, riRng1, riRng2, slot_z, slot_s, set_z, set_s, at0, at1, at2, at3, at4, at5, at6, dX_c, dX_n, gIx_tup, gIx_lst, gEq_ii, gEq_ss, gNe_ii, gNe_ss, gAdd_ii, gSub_ii, gLt_ii, gLe_ii, gGt_ii, gGe_ii, gIsN_d, gLen_l, gMax_ii, gMin_ii, gInt_b, gInt_i, gAbs_i, gApd_last, isLst_last, boX_b, tru_l, fzL_dX, fzL_n, fzL_cd, Option.map_some, fz_d, pk_d, ifS_some, hd_int, hd_str, hd_bool, hd_none, hd_list, hd_tuple, wipeX, List.map_cons, List.map_nil, List.length_cons, List.length_nil, List.replicate_succ, List.replicate_zero, List.cons_append, List.nil_append, List.append_nil, decide_eq_true_eq, if_true, if_false, Nat.reduceAdd, Nat.reduceSub, Nat.reduceLeDiff, Nat.zero_add, Nat.sub_zero, gLen_l, List.length_map]
      refine u_dr0 ok (by omega) (by omega) fun w2 d ok b0 b1 => ?_
      obtain ⟨z, hz, ez⟩ := at_in PyData.str b0 b1
      simp only [startX, rSeq, rAsg, rgName, rVar, rC, rBin, rD, rCl, rFz, rTb, rTr, rIf, rIfS, rRet, rRetN, rNx, rCons, rNil, rTup, rTupC, rLst, rApp, rAppF, rCall, rPar, rNeg, rNot, rAnd, rOr, rChain, rLc, riSeq, rYes, rDrop, rFor, rApd, rExt, rgTup, rgCons, rgNil, rgSub, rIsiX, riRng1, riRng2, slot_z, slot_s, set_z, set_s, at0, at1, at2, at3, at4, at5, at6, dX_c, dX_n, gIx_tup, gIx_lst, gEq_ii, gEq_ss, gNe_ii, gNe_ss, gAdd_ii, gSub_ii, gLt_ii, gLe_ii, gGt_ii, gGe_ii, gIsN_d, gLen_l, gMax_ii, gMin_ii, gInt_b, gInt_i, gAbs_i, gApd_last, isLst_last, boX_b, tru_l, fzL_dX, fzL_n, fzL_cd, Option.map_some, fz_d, pk_d, ifS_some, hd_int, hd_str, hd_bool, hd_none, hd_list, hd_tuple, wipeX, List.map_cons, List.map_nil, List.length_cons, List.length_nil, List.replicate_succ, List.replicate_zero, List.cons_append, List.nil_append, List.append_nil, decide_eq_true_eq, if_true, if_false, Nat.reduceAdd, Nat.reduceSub, Nat.reduceLeDiff, Nat.zero_add, Nat.sub_zero, ez]
      refine ⟨s1, ?_⟩
      rw [gAdd_ll]
      refine ⟨small (by rw [List.length_map]; show l.length + 1 ≤ 10000; omega), ?_⟩
      rw [show l.map PyData.str ++ [.str z] = (l ++ [z]).map .str by simp]
      refine hC _ _ ⟨rest, l ++ [z], d, _, _, rfl, fun x hx => hr x (List.mem_cons_of_mem _ hx), by simp; omega, fun x hx => ?_, rfl, ok, rfl⟩
      rcases List.mem_append.mp hx with q | q
      · exact hl x q
      · rw [List.mem_singleton.mp q]; exact um z hz
    · refine ⟨s0, ?_⟩
      rw [gAdd_ll, List.append_nil]
      refine ⟨small (by rw [List.length_map]; show l.length + 0 ≤ 10000; omega), ?_⟩
      exact hC _ _ ⟨rest, l, d, _, _, rfl, fun x hx => hr x (List.mem_cons_of_mem _ hx), by omega, hl, rfl, ok, rfl⟩
  rintro σ M ⟨rest, l, d, o4, o5, e, hr, ll, hl, rfl, ok, rfl⟩
  refine ⟨trivial, ?_⟩
  clear e hr
  refine seq_step ?_
  simp only [startX, rAsg, rgName, rVar, rC, rBin, rD, rCl, rFz, rTb, rTr, rIf, rIfS, rRet, rRetN, rNx, rCons, rNil, rTup, rTupC, rLst, rApp, rAppF, rCall, rPar, rNeg, rNot, rAnd, rOr, rChain, rLc, riSeq, rYes, rDrop, rFor, rApd, rExt, rgTup, rgCons, rgNil, rgSub, rIsiX, riRng1, riRng2, slot_z, slot_s, set_z, set_s, at0, at1, at2, at3, at4, at5, at6, dX_c, dX_n, gIx_tup, gIx_lst, gEq_ii, gEq_ss, gNe_ii, gNe_ss, gAdd_ii, gSub_ii, gLt_ii, gLe_ii, gGt_ii, gGe_ii, gIsN_d, gLen_l, gMax_ii, gMin_ii, gInt_b, gInt_i, gAbs_i, gApd_last, isLst_last, boX_b, tru_l, fzL_dX, fzL_n, fzL_cd, Option.map_some, fz_d, pk_d, ifS_some, hd_int, hd_str, hd_bool, hd_none, hd_list, hd_tuple, wipeX, List.map_cons, List.map_nil, List.length_cons, List.length_nil, List.replicate_succ, List.replicate_zero, List.cons_append, List.nil_append, List.append_nil, decide_eq_true_eq, if_true, if_false, Nat.reduceAdd, Nat.reduceSub, Nat.reduceLeDiff, Nat.zero_add, Nat.sub_zero, len_dm]
  refine ⟨s0, ?_⟩
  refine seq_step ?_
  simp only [startX, rAsg, rgName, rVar, rC, rBin, rD, rCl, rFz, rTb, rTr, rIf, rIfS, rRet, rRetN, rNx, rCons, rNil, rTup, rTupC, rLst, rApp, rAppF, rCall, rPar, rNeg, rNot, rAnd, rOr, rChain, rLc, riSeq, rYes, rDrop, rFor, rApd, rExt, rgTup, rgCons, rgNil, rgSub, rIsiX, riRng1, riRng2, slot_z, slot_s, set_z, set_s, at0, at1, at2, at3, at4, at5, at6, dX_c, dX_n, gIx_tup, gIx_lst, gEq_ii, gEq_ss, gNe_ii, gNe_ss, gAdd_ii, gSub_ii, gLt_ii, gLe_ii, gGt_ii, gGe_ii, gIsN_d, gLen_l, gMax_ii, gMin_ii, gInt_b, gInt_i, gAbs_i, gApd_last, isLst_last, boX_b, tru_l, fzL_dX, fzL_n, fzL_cd, Option.map_some, fz_d, pk_d, ifS_some, hd_int, hd_str, hd_bool, hd_none, hd_list, hd_tuple, wipeX, List.map_cons, List.map_nil, List.length_cons, List.length_nil, List.replicate_succ, List.replicate_zero, List.cons_append, List.nil_append, List.append_nil, decide_eq_true_eq, if_true, if_false, Nat.reduceAdd, Nat.reduceSub, Nat.reduceLeDiff, Nat.zero_add, Nat.sub_zero, hv1]
  refine loopW_inv (fun xs σ M => ∃ (pre rest rs : List Rng) (d : D3) (o4 o7 o8 : Option Xv), xs = dX (rest.map rgD) ∧ pre ++ rest = v.rg ∧ (∀ r ∈ rs, r.1 ∈ pre.map (·.1)) ∧ (rs.map (·.1)).Nodup ∧ RgB rs ∧ rs.length ≤ pre.length ∧ M = dM sc d ++ [.lst (dX (rs.map rgD))] ∧ DOk d ∧
    σ = [some (.c 0), some (.d s), some (.d (thD v)), some (.d (.list (l.map .str))), o4, o5, some (.c 1), o7, o8, none]) ?_ ?_ _ _ _
    ⟨[], v.rg, [], d, _, _, _, rfl, rfl, (by intro x hx; cases hx), List.nodup_nil, (by intro x hx; cases hx), Nat.le_refl _, rfl, ok, rfl⟩
  · rintro x xs σ M ⟨pre, rest, rs, d, o4, o7, o8, e, ep, hr, nd, rb, lrs, rfl, ok, rfl⟩ C hC
    obtain ⟨r, rest, rfl⟩ : ∃ a r, rest = a :: r := by
      cases rest with
      | nil => cases e
      | cons a r => exact ⟨a, r, rfl⟩
    rw [List.map_cons, dX_c] at e
    cases e
    have hrm : r ∈ v.rg := by rw [← ep]; exact List.mem_append_right _ List.mem_cons_self
    obtain ⟨b0, b1, b2, b3⟩ := gr.bd r hrm
    have bn := gr.nm r hrm
    have np : r.1 ∉ pre.map (·.1) := fun z => by
      have nd := gv.rn
      rw [← ep, List.map_append, List.nodup_append] at nd
      exact nd.2.2 _ z r.1 (by simp) rfl
    have lp : pre.length < 10 := by
      have := congrArg List.length ep
      rw [List.length_append, List.length_cons] at this
      omega
    have ep' : (pre ++ [r]) ++ rest = v.rg := by rw [← ep]; simp
    have hr' : ∀ q ∈ rs, q.1 ∈ (pre ++ [r]).map (·.1) := fun q hq => by rw [List.map_append]; exact List.mem_append_left _ (hr q hq)
    refine ⟨trivial, ?_⟩
    simp only [startX, rSeq, rAsg, rgName, rVar, rC, rBin, rD, rCl, rFz, rTb, rTr, rIf, rIfS, rRet, rRetN, rNx, rCons, rNil, rTup, rTupC, rLst, rApp, rAppF, rCall, rPar, rNeg, rNot, rAnd, rOr, rChain, rLc, riSeq, rYes, rDrop, rFor, rApd, rExt, rgTup, rgCons, rgNil, rgSub, rIsiX, riRng1, riRng2, slot_z, slot_s, set_z, set_s, at0, at1, at2, at3, at4, at5, at6, dX_c, dX_n, gIx_tup, gIx_lst, gEq_ii, gEq_ss, gNe_ii, gNe_ss, gAdd_ii, gSub_ii, gLt_ii, gLe_ii, gGt_ii, gGe_ii, gIsN_d, gLen_l, gMax_ii, gMin_ii, gInt_b, gInt_i, gAbs_i, gApd_last, isLst_last, boX_b, tru_l, fzL_dX, fzL_n, fzL_cd, Option.map_some, fz_d, pk_d, ifS_some, hd_int, hd_str, hd_bool, hd_none, hd_list, hd_tuple, wipeX, List.map_cons, List.map_nil, List.length_cons, List.length_nil, List.replicate_succ, List.replicate_zero, List.cons_append, List.nil_append, List.append_nil, decide_eq_true_eq, if_true, if_false, Nat.reduceAdd, Nat.reduceSub, Nat.reduceLeDiff, Nat.zero_add, Nat.sub_zero, rgD]
    refine ⟨trivial, ?_⟩
    refine u_dr ok (by decide) (by decide) fun w1 d ok a0 a1 => ?_
    simp only [startX, rSeq, rAsg, rgName, rVar, rC, rBin, rD, rCl, rFz, rTb, rTr, rIf, rIfS, rRet, rRetN, rNx, rCons, rNil, rTup, rTupC, rLst, rApp, rAppF, rCall, rPar, rNeg, rNot, rAnd, rOr, rChain, rLc, riSeq, rYes, rDrop, rFor, rApd, rExt, rgTup, rgCons, rgNil, rgSub, rIsiX, riRng1, riRng2, slot_z, slot_s, set_z, set_s, at0, at1, at2, at3, at4, at5, at6, dX_c, dX_n, gIx_tup, gIx_lst, gEq_ii, gEq_ss, gNe_ii, gNe_ss, gAdd_ii, gSub_ii, gLt_ii, gLe_ii, gGt_ii, gGe_ii, gIsN_d, gLen_l, gMax_ii, gMin_ii, gInt_b, gInt_i, gAbs_i, gApd_last, isLst_last, boX_b, tru_l, fzL_dX, fzL_n, fzL_cd, Option.map_some, fz_d, pk_d, ifS_some, hd_int, hd_str, hd_bool, hd_none, hd_list, hd_tuple, wipeX, List.map_cons, List.map_nil, List.length_cons, List.length_nil, List.replicate_succ, List.replicate_zero, List.cons_append, List.nil_append, List.append_nil, decide_eq_true_eq, if_true, if_false, Nat.reduceAdd, Nat.reduceSub, Nat.reduceLeDiff, Nat.zero_add, Nat.sub_zero]
    split
    · try simp only [startX, rSeq, rAsg, rgName, rVar, rC, rBin, rD, rCl, rFz, rTb, rTr, rIf, rIfS, rRet, rRetN, rNx, rCons, rNil, rTup, rTupC, rLst, rApp, rAppF, rCall, rPar, rNeg, rNot, rAnd, rOr, rChain, rLc, riSeq, rYes, rDrop, rFor, rApd, rExt, rgTup, rgCons, rgNil, rgSub, rIsiX, riRng1, riRng2, slot_z, slot_s, set_z, set_s, at0, at1, at2, at3, at4, at5, at6, dX_c, dX_n, gIx_tup, gIx_lst, gEq_ii, gEq_ss, gNe_ii, gNe_ss, gAdd_ii, gSub_ii, gLt_ii, gLe_ii, gGt_ii, gGe_ii, gIsN_d, gLen_l, gMax_ii, gMin_ii, gInt_b, gInt_i, gAbs_i, gApd_last, isLst_last, boX_b, tru_l, fzL_dX, fzL_n, fzL_cd, Option.map_some, fz_d, pk_d, ifS_some, hd_int, hd_str, hd_bool, hd_none, hd_list, hd_tuple, wipeX, List.map_cons, List.map_nil, List.length_cons, List.length_nil, List.replicate_succ, List.replicate_zero, List.cons_append, List.nil_append, List.append_nil, decide_eq_true_eq, if_true, if_false, Nat.reduceAdd, Nat.reduceSub, Nat.reduceLeDiff, Nat.zero_add, Nat.sub_zero]
      refine ⟨trivial, ?_⟩
      refine u_dr ok (by decide) (by decide) fun w2 d ok c0 c1 => ?_
      simp only [startX, rSeq, rAsg, rgName, rVar, rC, rBin, rD, rCl, rFz, rTb, rTr, rIf, rIfS, rRet, rRetN, rNx, rCons, rNil, rTup, rTupC, rLst, rApp, rAppF, rCall, rPar, rNeg, rNot, rAnd, rOr, rChain, rLc, riSeq, rYes, rDrop, rFor, rApd, rExt, rgTup, rgCons, rgNil, rgSub, rIsiX, riRng1, riRng2, slot_z, slot_s, set_z, set_s, at0, at1, at2, at3, at4, at5, at6, dX_c, dX_n, gIx_tup, gIx_lst, gEq_ii, gEq_ss, gNe_ii, gNe_ss, gAdd_ii, gSub_ii, gLt_ii, gLe_ii, gGt_ii, gGe_ii, gIsN_d, gLen_l, gMax_ii, gMin_ii, gInt_b, gInt_i, gAbs_i, gApd_last, isLst_last, boX_b, tru_l, fzL_dX, fzL_n, fzL_cd, Option.map_some, fz_d, pk_d, ifS_some, hd_int, hd_str, hd_bool, hd_none, hd_list, hd_tuple, wipeX, List.map_cons, List.map_nil, List.length_cons, List.length_nil, List.replicate_succ, List.replicate_zero, List.cons_append, List.nil_append, List.append_nil, decide_eq_true_eq, if_true, if_false, Nat.reduceAdd, Nat.reduceSub, Nat.reduceLeDiff, Nat.zero_add, Nat.sub_zero]
      refine u_dr ok (by decide) (by decide) fun w3 d ok d0 d1 => ?_
      simp only [startX, rSeq, rAsg, rgName, rVar, rC, rBin, rD, rCl, rFz, rTb, rTr, rIf, rIfS, rRet, rRetN, rNx, rCons, rNil, rTup, rTupC, rLst, rApp, rAppF, rCall, rPar, rNeg, rNot, rAnd, rOr, rChain, rLc, riSeq, rYes, rDrop, rFor, rApd, rExt, rgTup, rgCons, rgNil, rgSub, rIsiX, riRng1, riRng2, slot_z, slot_s, set_z, set_s, at0, at1, at2, at3, at4, at5, at6, dX_c, dX_n, gIx_tup, gIx_lst, gEq_ii, gEq_ss, gNe_ii, gNe_ss, gAdd_ii, gSub_ii, gLt_ii, gLe_ii, gGt_ii, gGe_ii, gIsN_d, gLen_l, gMax_ii, gMin_ii, gInt_b, gInt_i, gAbs_i, gApd_last, isLst_last, boX_b, tru_l, fzL_dX, fzL_n, fzL_cd, Option.map_some, fz_d, pk_d, ifS_some, hd_int, hd_str, hd_bool, hd_none, hd_list, hd_tuple, wipeX, List.map_cons, List.map_nil, List.length_cons, List.length_nil, List.replicate_succ, List.replicate_zero, List.cons_append, List.nil_append, List.append_nil, decide_eq_true_eq, if_true, if_false, Nat.reduceAdd, Nat.reduceSub, Nat.reduceLeDiff, Nat.zero_add, Nat.sub_zero]
      refine u_dr ok (by decide) (by decide) fun w4 d ok e0 e1 => ?_
      simp only [startX, rSeq, rAsg, rgName, rVar, rC, rBin, rD, rCl, rFz, rTb, rTr, rIf, rIfS, rRet, rRetN, rNx, rCons, rNil, rTup, rTupC, rLst, rApp, rAppF, rCall, rPar, rNeg, rNot, rAnd, rOr, rChain, rLc, riSeq, rYes, rDrop, rFor, rApd, rExt, rgTup, rgCons, rgNil, rgSub, rIsiX, riRng1, riRng2, slot_z, slot_s, set_z, set_s, at0, at1, at2, at3, at4, at5, at6, dX_c, dX_n, gIx_tup, gIx_lst, gEq_ii, gEq_ss, gNe_ii, gNe_ss, gAdd_ii, gSub_ii, gLt_ii, gLe_ii, gGt_ii, gGe_ii, gIsN_d, gLen_l, gMax_ii, gMin_ii, gInt_b, gInt_i, gAbs_i, gApd_last, isLst_last, boX_b, tru_l, fzL_dX, fzL_n, fzL_cd, Option.map_some, fz_d, pk_d, ifS_some, hd_int, hd_str, hd_bool, hd_none, hd_list, hd_tuple, wipeX, List.map_cons, List.map_nil, List.length_cons, List.length_nil, List.replicate_succ, List.replicate_zero, List.cons_append, List.nil_append, List.append_nil, decide_eq_true_eq, if_true, if_false, Nat.reduceAdd, Nat.reduceSub, Nat.reduceLeDiff, Nat.zero_add, Nat.sub_zero]
      refine ⟨s3, ?_⟩
      obtain ⟨lo, hlo⟩ : ∃ lo, max 0 (r.2.1 - w2 + if w3 = 0 then 1 else 0) = lo := ⟨_, rfl⟩
      have blo : 0 ≤ lo ∧ lo < 1000 := by
        rw [← hlo]
        split <;> omega
      rw [hlo]
      show ((dX (rs.map rgD)).length < sizeLine ∧ C _ (dM sc d ++ [.lst (dX (rs.map rgD) ++ [.d (rgD (r.1, lo, r.2.2 + w4))])]))
      refine ⟨by rw [List.length_map, List.length_map, sizeLine_eq]; omega, ?_⟩
      rw [show dX (rs.map rgD) ++ [.d (rgD (r.1, lo, r.2.2 + w4))] = dX ((rs ++ [(r.1, lo, r.2.2 + w4)]).map rgD) by simp [dX]]
      refine hC _ _ ⟨pre ++ [r], rest, rs ++ [(r.1, lo, r.2.2 + w4)], d, _, _, _, rfl, ep', fun q hq => ?_, ?_, fun q hq => ?_, by simp; omega, rfl, ok, rfl⟩
      · rcases List.mem_append.mp hq with z | z
        · exact hr' q z
        · rw [List.mem_singleton.mp z, List.map_append]; exact List.mem_append_right _ (by simp)
      · rw [List.map_append, List.nodup_append]
        refine ⟨nd, by simp, fun a ha b hb e => np ?_⟩
        simp at hb
        subst hb
        obtain ⟨q, hq, e2⟩ := List.mem_map.mp ha
        rw [← e, ← e2]
        exact hr q hq
      · rcases List.mem_append.mp hq with z | z
        · exact rb q z
        · rw [List.mem_singleton.mp z]
          exact ⟨bn, blo.1, blo.2, by show 0 ≤ r.2.2 + w4; omega, by show r.2.2 + w4 < 1000; omega⟩
    · exact hC _ _ ⟨pre ++ [r], rest, rs, d, _, _, _, rfl, ep', hr', nd, rb, by rw [List.length_append]; omega, rfl, ok, rfl⟩
  rintro σ M ⟨pre, rest, rs, d, o4, o7, o8, e, ep, hr, nd, rb, lrs, rfl, ok, rfl⟩
  have e0 : rest = [] := by
    cases rest with
    | nil => rfl
    | cons a r => cases e
  subst e0
  rw [List.append_nil] at ep
  refine ⟨trivial, ?_⟩
  simp only [startX, rAsg, rgName, rVar, rC, rBin, rD, rCl, rFz, rTb, rTr, rIf, rIfS, rRet, rRetN, rNx, rCons, rNil, rTup, rTupC, rLst, rApp, rAppF, rCall, rPar, rNeg, rNot, rAnd, rOr, rChain, rLc, riSeq, rYes, rDrop, rFor, rApd, rExt, rgTup, rgCons, rgNil, rgSub, rIsiX, riRng1, riRng2, slot_z, slot_s, set_z, set_s, at0, at1, at2, at3, at4, at5, at6, dX_c, dX_n, gIx_tup, gIx_lst, gEq_ii, gEq_ss, gNe_ii, gNe_ss, gAdd_ii, gSub_ii, gLt_ii, gLe_ii, gGt_ii, gGe_ii, gIsN_d, gLen_l, gMax_ii, gMin_ii, gInt_b, gInt_i, gAbs_i, gApd_last, isLst_last, boX_b, tru_l, fzL_dX, fzL_n, fzL_cd, Option.map_some, fz_d, pk_d, ifS_some, hd_int, hd_str, hd_bool, hd_none, hd_list, hd_tuple, wipeX, List.map_cons, List.map_nil, List.length_cons, List.length_nil, List.replicate_succ, List.replicate_zero, List.cons_append, List.nil_append, List.append_nil, decide_eq_true_eq, if_true, if_false, Nat.reduceAdd, Nat.reduceSub, Nat.reduceLeDiff, Nat.zero_add, Nat.sub_zero, rSSet]
  rw [keysX_strs]
  refine ifS_mk rfl ⟨?_, ?_, ?_⟩
  · rw [List.length_map]
    have : scanBound = 4096 := rfl
    omega
  · rw [List.map_map]; exact strs_all l
  rw [uniqK_strs, sortD_strs]
  show lcW _ _ _ _ _ _ (dX (rs.map rgD)) [] _
  have lp : pre.length ≤ 10 := by rw [ep]; exact rl
  refine lcW_map rgD (fun r => decide (r.2.1 ≤ r.2.2)) rgD (show kp (.c 1) _ _ from rfl) rs [] (small (by simp; omega)) (fun r hr2 Kt Kf h1 h2 => ?_) ?_
  · simp only [startX, rAsg, rgName, rVar, rC, rBin, rD, rCl, rFz, rTb, rTr, rIf, rIfS, rRet, rRetN, rNx, rCons, rNil, rTup, rTupC, rLst, rApp, rAppF, rCall, rPar, rNeg, rNot, rAnd, rOr, rChain, rLc, riSeq, rYes, rDrop, rFor, rApd, rExt, rgTup, rgCons, rgNil, rgSub, rIsiX, riRng1, riRng2, slot_z, slot_s, set_z, set_s, at0, at1, at2, at3, at4, at5, at6, dX_c, dX_n, gIx_tup, gIx_lst, gEq_ii, gEq_ss, gNe_ii, gNe_ss, gAdd_ii, gSub_ii, gLt_ii, gLe_ii, gGt_ii, gGe_ii, gIsN_d, gLen_l, gMax_ii, gMin_ii, gInt_b, gInt_i, gAbs_i, gApd_last, isLst_last, boX_b, tru_l, fzL_dX, fzL_n, fzL_cd, Option.map_some, fz_d, pk_d, ifS_some, hd_int, hd_str, hd_bool, hd_none, hd_list, hd_tuple, wipeX, List.map_cons, List.map_nil, List.length_cons, List.length_nil, List.replicate_succ, List.replicate_zero, List.cons_append, List.nil_append, List.append_nil, decide_eq_true_eq, if_true, if_false, Nat.reduceAdd, Nat.reduceSub, Nat.reduceLeDiff, Nat.zero_add, Nat.sub_zero, rgD]
    split
    · rename_i q; exact h1 (decide_eq_true q)
    · rename_i q; exact h2 (decide_eq_false q)
  simp only [startX, rAsg, rgName, rVar, rC, rBin, rD, rCl, rFz, rTb, rTr, rIf, rIfS, rRet, rRetN, rNx, rCons, rNil, rTup, rTupC, rLst, rApp, rAppF, rCall, rPar, rNeg, rNot, rAnd, rOr, rChain, rLc, riSeq, rYes, rDrop, rFor, rApd, rExt, rgTup, rgCons, rgNil, rgSub, rIsiX, riRng1, riRng2, slot_z, slot_s, set_z, set_s, at0, at1, at2, at3, at4, at5, at6, dX_c, dX_n, gIx_tup, gIx_lst, gEq_ii, gEq_ss, gNe_ii, gNe_ss, gAdd_ii, gSub_ii, gLt_ii, gLe_ii, gGt_ii, gGe_ii, gIsN_d, gLen_l, gMax_ii, gMin_ii, gInt_b, gInt_i, gAbs_i, gApd_last, isLst_last, boX_b, tru_l, fzL_dX, fzL_n, fzL_cd, Option.map_some, fz_d, pk_d, ifS_some, hd_int, hd_str, hd_bool, hd_none, hd_list, hd_tuple, wipeX, List.map_cons, List.map_nil, List.length_cons, List.length_nil, List.replicate_succ, List.replicate_zero, List.cons_append, List.nil_append, List.append_nil, decide_eq_true_eq, if_true, if_false, Nat.reduceAdd, Nat.reduceSub, Nat.reduceLeDiff, Nat.zero_add, Nat.sub_zero]
  refine ⟨s2, Nat.le_add_left 1 _, h ⟨SU l, rs.filter fun r => decide (r.2.1 ≤ r.2.2)⟩ d ok ⟨fun x hx => hl x (SU_mem.mp hx), ?_, ?_, ?_⟩ fun r hr2 => rb r (List.mem_filter.mp hr2).1⟩
  · have := SU_len l
    show (SU l).length ≤ 10
    omega
  · show ((rs.filter fun r => decide (r.2.1 ≤ r.2.2)).map (·.1)).Nodup
    exact nd.sublist (List.Sublist.map _ List.filter_sublist)
  · have := List.length_filter_le (fun r : Rng => decide (r.2.1 ≤ r.2.2)) rs
    show (rs.filter fun r => decide (r.2.1 ≤ r.2.2)).length ≤ 10
    omega
def pf_bent : PF := fun xs M R => ∃ sc d s ks one other td, xs = [.c 0, .d s, .d (thD one), .d (thD other), .d (tdD td)] ∧ M = dM sc d ∧ DOk d ∧ Is s ks ∧ Gk ks ∧ 0 < ks.length ∧ Gt ks one ∧ TOk ks td ∧ (∀ ps, td = .cov ps → ps.length ≤ 20) ∧ ∀ (td' : Td) (d' : D3), DOk d' → TOk ks td' → R (.d (tdD td')) (dM sc d')
section
variable {sc : List Int} {d : D3} {L : Sto} {P : Xv → Sto → Prop} {s : PyData} {ks : Ks}
theorem u_kinds (ok : DOk d) (I : Is s ks) (g : Gk ks) (hp : 0 < ks.length) (h : ∀ (l : List Str) (d' : D3), DOk d' → (∀ x ∈ l, x ∈ ks.map (·.1)) → l.length ≤ 4 → P (.d (.list (l.map .str))) (dM sc d')) : pfPre 1 pf_kinds [.c 0, .d s] (dM sc d) P := by
  have : pfPre 1 pf_kinds [.c 0, .d s] (dM sc d ++ []) P := ⟨by simp [dM], rfl, rfl, sc, d, s, ks, rfl, rfl, ok, I, g, hp, fun l d' a b c => ⟨rfl, rfl, rfl, h l d' a b c⟩⟩
  rwa [List.append_nil] at this
theorem u_rgs (ok : DOk d) (h : ∀ (rg : List Rng) (d' : D3), DOk d' → Gr rg → P (.d (.list (rg.map rgD))) (dM sc d')) : pfPre 1 pf_rgs [.c 0] (dM sc d) P := by
  have : pfPre 1 pf_rgs [.c 0] (dM sc d ++ []) P := ⟨by simp [dM], rfl, rfl, sc, d, rfl, rfl, ok, fun rg d' a b => ⟨rfl, rfl, rfl, h rg d' a b⟩⟩
  rwa [List.append_nil] at this
end
theorem ok_bent (D : DefOk K mg "_law_bent" ["draws", "state", "one", "other", "told"] (defArgs s__law_bent) (defBody s__law_bent) (defScope s__law_bent)) (Z : Fx K mg base) (C1 : Cal P w K mg base 2 "_law_draw" ["draws", "limit"] (pfPre 1 pf_dr)) (C2 : Cal P w K mg base 2 "_law_ranges" ["draws"] (pfPre 1 pf_rgs)) (C3 : Cal P w K mg base 2 "_law_kinds" ["draws", "state"] (pfPre 1 pf_kinds)) (C4 : Cal P w K mg base 2 "_law_parts" ["wish"] (pfD pd_parts)) : Cal P w K mg base 3 "_law_bent" ["draws", "state", "one", "other", "told"] (pfPre 1 pf_bent) := by
  refine Cal.mkPre (k := 2) D sc__law_bent (sd__law_bent Z C1 C2 C3 C4) (fun xs M R ⟨_, _, _, _, _, _, _, e, _⟩ => by rw [e]; rfl) (fun xs M R h => ?_)
  obtain ⟨sc, d, s, ks, one, other, td, rfl, rfl, ok, I, g, kp0, g1, ht, h20, h⟩ := h
  have s0 : (0 : Nat) ≤ sizeLine := by decide
  have s1 : (1 : Nat) ≤ sizeLine := by decide
  have s2 : (2 : Nat) ≤ sizeLine := by decide
  have s3 : (3 : Nat) ≤ sizeLine := by decide
  have fin : ∀ (td' : Td) (d' : D3), DOk d' → TOk ks td' → EndsPre 1 R (.rt (.d (tdD td'))) (dM sc d') := fun td' d' a b => ⟨Nat.le_refl 1, h td' d' a b⟩
  unfold b__law_bent
  simp only [startX, rAsg, rgName, rVar, rC, rBin, rD, rCl, rFz, rTb, rTr, rIf, rIfS, rRet, rRetN, rNx, rCons, rNil, rTup, rTupC, rLst, rApp, rAppF, rCall, rPar, rNeg, rNot, rAnd, rOr, rChain, rLc, riSeq, rYes, rDrop, rFor, rApd, rExt, rgTup, rgCons, rgNil, rgSub, rIsiX, riRng1, riRng2, slot_z, slot_s, set_z, set_s, at0, at1, at2, at3, at4, at5, at6, dX_c, dX_n, gIx_tup, gIx_lst, gEq_ii, gEq_ss, gNe_ii, gNe_ss, gAdd_ii, gSub_ii, gLt_ii, gLe_ii, gGt_ii, gGe_ii, gIsN_d, gLen_l, gMax_ii, gMin_ii, gInt_b, gInt_i, gAbs_i, gApd_last, isLst_last, boX_b, tru_l, fzL_dX, fzL_n, fzL_cd, Option.map_some, fz_d, pk_d, ifS_some, hd_int, hd_str, hd_bool, hd_none, hd_list, hd_tuple, wipeX, List.map_cons, List.map_nil, List.length_cons, List.length_nil, List.replicate_succ, List.replicate_zero, List.cons_append, List.nil_append, List.append_nil, decide_eq_true_eq, if_true, if_false, Nat.reduceAdd, Nat.reduceSub, Nat.reduceLeDiff, Nat.zero_add, Nat.sub_zero, N__law_bent]
  refine seq_step ?_
  simp only [startX, rAsg, rgName, rVar, rC, rBin, rD, rCl, rFz, rTb, rTr, rIf, rIfS, rRet, rRetN, rNx, rCons, rNil, rTup, rTupC, rLst, rApp, rAppF, rCall, rPar, rNeg, rNot, rAnd, rOr, rChain, rLc, riSeq, rYes, rDrop, rFor, rApd, rExt, rgTup, rgCons, rgNil, rgSub, rIsiX, riRng1, riRng2, slot_z, slot_s, set_z, set_s, at0, at1, at2, at3, at4, at5, at6, dX_c, dX_n, gIx_tup, gIx_lst, gEq_ii, gEq_ss, gNe_ii, gNe_ss, gAdd_ii, gSub_ii, gLt_ii, gLe_ii, gGt_ii, gGe_ii, gIsN_d, gLen_l, gMax_ii, gMin_ii, gInt_b, gInt_i, gAbs_i, gApd_last, isLst_last, boX_b, tru_l, fzL_dX, fzL_n, fzL_cd, Option.map_some, fz_d, pk_d, ifS_some, hd_int, hd_str, hd_bool, hd_none, hd_list, hd_tuple, wipeX, List.map_cons, List.map_nil, List.length_cons, List.length_nil, List.replicate_succ, List.replicate_zero, List.cons_append, List.nil_append, List.append_nil, decide_eq_true_eq, if_true, if_false, Nat.reduceAdd, Nat.reduceSub, Nat.reduceLeDiff, Nat.zero_add, Nat.sub_zero]
  refine u_dr0 ok (by decide) (by decide) fun w1 d ok a0 a1 => ?_
  refine seq_step ?_
  simp only [startX, rAsg, rgName, rVar, rC, rBin, rD, rCl, rFz, rTb, rTr, rIf, rIfS, rRet, rRetN, rNx, rCons, rNil, rTup, rTupC, rLst, rApp, rAppF, rCall, rPar, rNeg, rNot, rAnd, rOr, rChain, rLc, riSeq, rYes, rDrop, rFor, rApd, rExt, rgTup, rgCons, rgNil, rgSub, rIsiX, riRng1, riRng2, slot_z, slot_s, set_z, set_s, at0, at1, at2, at3, at4, at5, at6, dX_c, dX_n, gIx_tup, gIx_lst, gEq_ii, gEq_ss, gNe_ii, gNe_ss, gAdd_ii, gSub_ii, gLt_ii, gLe_ii, gGt_ii, gGe_ii, gIsN_d, gLen_l, gMax_ii, gMin_ii, gInt_b, gInt_i, gAbs_i, gApd_last, isLst_last, boX_b, tru_l, fzL_dX, fzL_n, fzL_cd, Option.map_some, fz_d, pk_d, ifS_some, hd_int, hd_str, hd_bool, hd_none, hd_list, hd_tuple, wipeX, List.map_cons, List.map_nil, List.length_cons, List.length_nil, List.replicate_succ, List.replicate_zero, List.cons_append, List.nil_append, List.append_nil, decide_eq_true_eq, if_true, if_false, Nat.reduceAdd, Nat.reduceSub, Nat.reduceLeDiff, Nat.zero_add, Nat.sub_zero]
  by_cases c0 : w1 = 0
  · rw [if_pos c0]
    refine seq_step ?_
    simp only [startX, rAsg, rgName, rVar, rC, rBin, rD, rCl, rFz, rTb, rTr, rIf, rIfS, rRet, rRetN, rNx, rCons, rNil, rTup, rTupC, rLst, rApp, rAppF, rCall, rPar, rNeg, rNot, rAnd, rOr, rChain, rLc, riSeq, rYes, rDrop, rFor, rApd, rExt, rgTup, rgCons, rgNil, rgSub, rIsiX, riRng1, riRng2, slot_z, slot_s, set_z, set_s, at0, at1, at2, at3, at4, at5, at6, dX_c, dX_n, gIx_tup, gIx_lst, gEq_ii, gEq_ss, gNe_ii, gNe_ss, gAdd_ii, gSub_ii, gLt_ii, gLe_ii, gGt_ii, gGe_ii, gIsN_d, gLen_l, gMax_ii, gMin_ii, gInt_b, gInt_i, gAbs_i, gApd_last, isLst_last, boX_b, tru_l, fzL_dX, fzL_n, fzL_cd, Option.map_some, fz_d, pk_d, ifS_some, hd_int, hd_str, hd_bool, hd_none, hd_list, hd_tuple, wipeX, List.map_cons, List.map_nil, List.length_cons, List.length_nil, List.replicate_succ, List.replicate_zero, List.cons_append, List.nil_append, List.append_nil, decide_eq_true_eq, if_true, if_false, Nat.reduceAdd, Nat.reduceSub, Nat.reduceLeDiff, Nat.zero_add, Nat.sub_zero]
    refine u_rgs ok fun rg d ok gr => ?_
    have lr := gr.len
    refine seq_cut (fun σ1 M1 => ∃ (rg : List Rng) (d : D3) (o7 : Option Xv), σ1 = [some (.c 0), some (.d s), some (.d (thD one)), some (.d (thD other)), some (.d (tdD td)), some (.d (.int w1)), some (.d (.list (rg.map rgD))), o7, none] ∧ M1 = dM sc d ∧ DOk d ∧ (rg.map (·.1)).Nodup ∧ rg.length ≤ 3) ?_ ?_
    · intro X hX
      simp only [startX, rAsg, rgName, rVar, rC, rBin, rD, rCl, rFz, rTb, rTr, rIf, rIfS, rRet, rRetN, rNx, rCons, rNil, rTup, rTupC, rLst, rApp, rAppF, rCall, rPar, rNeg, rNot, rAnd, rOr, rChain, rLc, riSeq, rYes, rDrop, rFor, rApd, rExt, rgTup, rgCons, rgNil, rgSub, rIsiX, riRng1, riRng2, slot_z, slot_s, set_z, set_s, at0, at1, at2, at3, at4, at5, at6, dX_c, dX_n, gIx_tup, gIx_lst, gEq_ii, gEq_ss, gNe_ii, gNe_ss, gAdd_ii, gSub_ii, gLt_ii, gLe_ii, gGt_ii, gGe_ii, gIsN_d, gLen_l, gMax_ii, gMin_ii, gInt_b, gInt_i, gAbs_i, gApd_last, isLst_last, boX_b, tru_l, fzL_dX, fzL_n, fzL_cd, Option.map_some, fz_d, pk_d, ifS_some, hd_int, hd_str, hd_bool, hd_none, hd_list, hd_tuple, wipeX, List.map_cons, List.map_nil, List.length_cons, List.length_nil, List.replicate_succ, List.replicate_zero, List.cons_append, List.nil_append, List.append_nil, decide_eq_true_eq, if_true, if_false, Nat.reduceAdd, Nat.reduceSub, Nat.reduceLeDiff, Nat.zero_add, Nat.sub_zero]
      refine u_dr0 ok (by decide) (by decide) fun w2 d ok b0 b1 => ?_
      simp only [startX, rAsg, rgName, rVar, rC, rBin, rD, rCl, rFz, rTb, rTr, rIf, rIfS, rRet, rRetN, rNx, rCons, rNil, rTup, rTupC, rLst, rApp, rAppF, rCall, rPar, rNeg, rNot, rAnd, rOr, rChain, rLc, riSeq, rYes, rDrop, rFor, rApd, rExt, rgTup, rgCons, rgNil, rgSub, rIsiX, riRng1, riRng2, slot_z, slot_s, set_z, set_s, at0, at1, at2, at3, at4, at5, at6, dX_c, dX_n, gIx_tup, gIx_lst, gEq_ii, gEq_ss, gNe_ii, gNe_ss, gAdd_ii, gSub_ii, gLt_ii, gLe_ii, gGt_ii, gGe_ii, gIsN_d, gLen_l, gMax_ii, gMin_ii, gInt_b, gInt_i, gAbs_i, gApd_last, isLst_last, boX_b, tru_l, fzL_dX, fzL_n, fzL_cd, Option.map_some, fz_d, pk_d, ifS_some, hd_int, hd_str, hd_bool, hd_none, hd_list, hd_tuple, wipeX, List.map_cons, List.map_nil, List.length_cons, List.length_nil, List.replicate_succ, List.replicate_zero, List.cons_append, List.nil_append, List.append_nil, decide_eq_true_eq, if_true, if_false, Nat.reduceAdd, Nat.reduceSub, Nat.reduceLeDiff, Nat.zero_add, Nat.sub_zero]
      split
      · try simp only [startX, rAsg, rgName, rVar, rC, rBin, rD, rCl, rFz, rTb, rTr, rIf, rIfS, rRet, rRetN, rNx, rCons, rNil, rTup, rTupC, rLst, rApp, rAppF, rCall, rPar, rNeg, rNot, rAnd, rOr, rChain, rLc, riSeq, rYes, rDrop, rFor, rApd, rExt, rgTup, rgCons, rgNil, rgSub, rIsiX, riRng1, riRng2, slot_z, slot_s, set_z, set_s, at0, at1, at2, at3, at4, at5, at6, dX_c, dX_n, gIx_tup, gIx_lst, gEq_ii, gEq_ss, gNe_ii, gNe_ss, gAdd_ii, gSub_ii, gLt_ii, gLe_ii, gGt_ii, gGe_ii, gIsN_d, gLen_l, gMax_ii, gMin_ii, gInt_b, gInt_i, gAbs_i, gApd_last, isLst_last, boX_b, tru_l, fzL_dX, fzL_n, fzL_cd, Option.map_some, fz_d, pk_d, ifS_some, hd_int, hd_str, hd_bool, hd_none, hd_list, hd_tuple, wipeX, List.map_cons, List.map_nil, List.length_cons, List.length_nil, List.replicate_succ, List.replicate_zero, List.cons_append, List.nil_append, List.append_nil, decide_eq_true_eq, if_true, if_false, Nat.reduceAdd, Nat.reduceSub, Nat.reduceLeDiff, Nat.zero_add, Nat.sub_zero, show (hdD (.list (rg.map rgD)) = .lst (dX (rg.map rgD))) from rfl]
        refine lcW_map rgD (fun _ => true) (fun r => rgD (r.1, r.2.2 + 1, r.2.1)) (by trivial) rg [] (small (by simp; omega)) (fun r hr Kt Kf h1 h2 => ?_) ?_
        · simp only [startX, rAsg, rgName, rVar, rC, rBin, rD, rCl, rFz, rTb, rTr, rIf, rIfS, rRet, rRetN, rNx, rCons, rNil, rTup, rTupC, rLst, rApp, rAppF, rCall, rPar, rNeg, rNot, rAnd, rOr, rChain, rLc, riSeq, rYes, rDrop, rFor, rApd, rExt, rgTup, rgCons, rgNil, rgSub, rIsiX, riRng1, riRng2, slot_z, slot_s, set_z, set_s, at0, at1, at2, at3, at4, at5, at6, dX_c, dX_n, gIx_tup, gIx_lst, gEq_ii, gEq_ss, gNe_ii, gNe_ss, gAdd_ii, gSub_ii, gLt_ii, gLe_ii, gGt_ii, gGe_ii, gIsN_d, gLen_l, gMax_ii, gMin_ii, gInt_b, gInt_i, gAbs_i, gApd_last, isLst_last, boX_b, tru_l, fzL_dX, fzL_n, fzL_cd, Option.map_some, fz_d, pk_d, ifS_some, hd_int, hd_str, hd_bool, hd_none, hd_list, hd_tuple, wipeX, List.map_cons, List.map_nil, List.length_cons, List.length_nil, List.replicate_succ, List.replicate_zero, List.cons_append, List.nil_append, List.append_nil, decide_eq_true_eq, if_true, if_false, Nat.reduceAdd, Nat.reduceSub, Nat.reduceLeDiff, Nat.zero_add, Nat.sub_zero, rgD]
          exact ⟨s3, h1 rfl⟩
        rw [filt]
        try simp only [startX, rAsg, rgName, rVar, rC, rBin, rD, rCl, rFz, rTb, rTr, rIf, rIfS, rRet, rRetN, rNx, rCons, rNil, rTup, rTupC, rLst, rApp, rAppF, rCall, rPar, rNeg, rNot, rAnd, rOr, rChain, rLc, riSeq, rYes, rDrop, rFor, rApd, rExt, rgTup, rgCons, rgNil, rgSub, rIsiX, riRng1, riRng2, slot_z, slot_s, set_z, set_s, at0, at1, at2, at3, at4, at5, at6, dX_c, dX_n, gIx_tup, gIx_lst, gEq_ii, gEq_ss, gNe_ii, gNe_ss, gAdd_ii, gSub_ii, gLt_ii, gLe_ii, gGt_ii, gGe_ii, gIsN_d, gLen_l, gMax_ii, gMin_ii, gInt_b, gInt_i, gAbs_i, gApd_last, isLst_last, boX_b, tru_l, fzL_dX, fzL_n, fzL_cd, Option.map_some, fz_d, pk_d, ifS_some, hd_int, hd_str, hd_bool, hd_none, hd_list, hd_tuple, wipeX, List.map_cons, List.map_nil, List.length_cons, List.length_nil, List.replicate_succ, List.replicate_zero, List.cons_append, List.nil_append, List.append_nil, decide_eq_true_eq, if_true, if_false, Nat.reduceAdd, Nat.reduceSub, Nat.reduceLeDiff, Nat.zero_add, Nat.sub_zero]
        have e : rg.map (fun r => rgD (r.1, r.2.2 + 1, r.2.1)) = (rg.map fun r => ((r.1, r.2.2 + 1, r.2.1) : Rng)).map rgD := by rw [List.map_map]; rfl
        rw [e]
        refine hX _ _ ⟨_, d, _, rfl, rfl, ok, ?_, by rw [List.length_map]; exact lr⟩
        rw [List.map_map]
        exact gr.nd
      · exact hX _ _ ⟨rg, d, _, rfl, rfl, ok, gr.nd, lr⟩
    rintro _ _ ⟨rg, d, o7, rfl, rfl, ok, nd, lr⟩
    simp only [startX, rAsg, rgName, rVar, rC, rBin, rD, rCl, rFz, rTb, rTr, rIf, rIfS, rRet, rRetN, rNx, rCons, rNil, rTup, rTupC, rLst, rApp, rAppF, rCall, rPar, rNeg, rNot, rAnd, rOr, rChain, rLc, riSeq, rYes, rDrop, rFor, rApd, rExt, rgTup, rgCons, rgNil, rgSub, rIsiX, riRng1, riRng2, slot_z, slot_s, set_z, set_s, at0, at1, at2, at3, at4, at5, at6, dX_c, dX_n, gIx_tup, gIx_lst, gEq_ii, gEq_ss, gNe_ii, gNe_ss, gAdd_ii, gSub_ii, gLt_ii, gLe_ii, gGt_ii, gGe_ii, gIsN_d, gLen_l, gMax_ii, gMin_ii, gInt_b, gInt_i, gAbs_i, gApd_last, isLst_last, boX_b, tru_l, fzL_dX, fzL_n, fzL_cd, Option.map_some, fz_d, pk_d, ifS_some, hd_int, hd_str, hd_bool, hd_none, hd_list, hd_tuple, wipeX, List.map_cons, List.map_nil, List.length_cons, List.length_nil, List.replicate_succ, List.replicate_zero, List.cons_append, List.nil_append, List.append_nil, decide_eq_true_eq, if_true, if_false, Nat.reduceAdd, Nat.reduceSub, Nat.reduceLeDiff, Nat.zero_add, Nat.sub_zero]
    refine u_kinds ok I g kp0 fun kl d ok km kll => ?_
    simp only [startX, rAsg, rgName, rVar, rC, rBin, rD, rCl, rFz, rTb, rTr, rIf, rIfS, rRet, rRetN, rNx, rCons, rNil, rTup, rTupC, rLst, rApp, rAppF, rCall, rPar, rNeg, rNot, rAnd, rOr, rChain, rLc, riSeq, rYes, rDrop, rFor, rApd, rExt, rgTup, rgCons, rgNil, rgSub, rIsiX, riRng1, riRng2, slot_z, slot_s, set_z, set_s, at0, at1, at2, at3, at4, at5, at6, dX_c, dX_n, gIx_tup, gIx_lst, gEq_ii, gEq_ss, gNe_ii, gNe_ss, gAdd_ii, gSub_ii, gLt_ii, gLe_ii, gGt_ii, gGe_ii, gIsN_d, gLen_l, gMax_ii, gMin_ii, gInt_b, gInt_i, gAbs_i, gApd_last, isLst_last, boX_b, tru_l, fzL_dX, fzL_n, fzL_cd, Option.map_some, fz_d, pk_d, ifS_some, hd_int, hd_str, hd_bool, hd_none, hd_list, hd_tuple, wipeX, List.map_cons, List.map_nil, List.length_cons, List.length_nil, List.replicate_succ, List.replicate_zero, List.cons_append, List.nil_append, List.append_nil, decide_eq_true_eq, if_true, if_false, Nat.reduceAdd, Nat.reduceSub, Nat.reduceLeDiff, Nat.zero_add, Nat.sub_zero]
    exact ⟨s2, s2, fin (.no ⟨kl, rg⟩) d ok ⟨km, by show kl.length ≤ 10; omega, nd, by show rg.length ≤ 10; omega⟩⟩
  rw [if_neg c0]
  refine seq_step ?_
  simp only [startX, rAsg, rgName, rVar, rC, rBin, rD, rCl, rFz, rTb, rTr, rIf, rIfS, rRet, rRetN, rNx, rCons, rNil, rTup, rTupC, rLst, rApp, rAppF, rCall, rPar, rNeg, rNot, rAnd, rOr, rChain, rLc, riSeq, rYes, rDrop, rFor, rApd, rExt, rgTup, rgCons, rgNil, rgSub, rIsiX, riRng1, riRng2, slot_z, slot_s, set_z, set_s, at0, at1, at2, at3, at4, at5, at6, dX_c, dX_n, gIx_tup, gIx_lst, gEq_ii, gEq_ss, gNe_ii, gNe_ss, gAdd_ii, gSub_ii, gLt_ii, gLe_ii, gGt_ii, gGe_ii, gIsN_d, gLen_l, gMax_ii, gMin_ii, gInt_b, gInt_i, gAbs_i, gApd_last, isLst_last, boX_b, tru_l, fzL_dX, fzL_n, fzL_cd, Option.map_some, fz_d, pk_d, ifS_some, hd_int, hd_str, hd_bool, hd_none, hd_list, hd_tuple, wipeX, List.map_cons, List.map_nil, List.length_cons, List.length_nil, List.replicate_succ, List.replicate_zero, List.cons_append, List.nil_append, List.append_nil, decide_eq_true_eq, if_true, if_false, Nat.reduceAdd, Nat.reduceSub, Nat.reduceLeDiff, Nat.zero_add, Nat.sub_zero]
  by_cases c1 : w1 = 1
  · rw [if_pos c1]
    have lp := parts_len g1
    refine u_parts g1 ?_
    refine lcW_inv (fun xs acc M => ∃ (rest : List Part) (js : List Int) (d : D3), xs = dX (rest.map ptD) ∧ js.length + rest.length ≤ 20 ∧ acc = dX (js.map .int) ∧ M = dM sc d ∧ DOk d) ?_ ?_ _ _ _ ⟨partsOf one, [], d, rfl, by simp; omega, rfl, rfl, ok⟩
    · rintro x xs acc M ⟨rest, js, d, e, ll, rfl, rfl, ok⟩ C hC
      obtain ⟨p, rest, rfl⟩ : ∃ a r, rest = a :: r := by
        cases rest with
        | nil => cases e
        | cons a r => exact ⟨a, r, rfl⟩
      rw [List.map_cons, dX_c] at e
      cases e
      rw [List.length_cons] at ll
      refine ⟨trivial, ?_⟩
      simp only [startX, rAsg, rgName, rVar, rC, rBin, rD, rCl, rFz, rTb, rTr, rIf, rIfS, rRet, rRetN, rNx, rCons, rNil, rTup, rTupC, rLst, rApp, rAppF, rCall, rPar, rNeg, rNot, rAnd, rOr, rChain, rLc, riSeq, rYes, rDrop, rFor, rApd, rExt, rgTup, rgCons, rgNil, rgSub, rIsiX, riRng1, riRng2, slot_z, slot_s, set_z, set_s, at0, at1, at2, at3, at4, at5, at6, dX_c, dX_n, gIx_tup, gIx_lst, gEq_ii, gEq_ss, gNe_ii, gNe_ss, gAdd_ii, gSub_ii, gLt_ii, gLe_ii, gGt_ii, gGe_ii, gIsN_d, gLen_l, gMax_ii, gMin_ii, gInt_b, gInt_i, gAbs_i, gApd_last, isLst_last, boX_b, tru_l, fzL_dX, fzL_n, fzL_cd, Option.map_some, fz_d, pk_d, ifS_some, hd_int, hd_str, hd_bool, hd_none, hd_list, hd_tuple, wipeX, List.map_cons, List.map_nil, List.length_cons, List.length_nil, List.replicate_succ, List.replicate_zero, List.cons_append, List.nil_append, List.append_nil, decide_eq_true_eq, if_true, if_false, Nat.reduceAdd, Nat.reduceSub, Nat.reduceLeDiff, Nat.zero_add, Nat.sub_zero]
      refine u_dr0 ok (by decide) (by decide) fun w2 d ok b0 b1 => ?_
      simp only [startX, rAsg, rgName, rVar, rC, rBin, rD, rCl, rFz, rTb, rTr, rIf, rIfS, rRet, rRetN, rNx, rCons, rNil, rTup, rTupC, rLst, rApp, rAppF, rCall, rPar, rNeg, rNot, rAnd, rOr, rChain, rLc, riSeq, rYes, rDrop, rFor, rApd, rExt, rgTup, rgCons, rgNil, rgSub, rIsiX, riRng1, riRng2, slot_z, slot_s, set_z, set_s, at0, at1, at2, at3, at4, at5, at6, dX_c, dX_n, gIx_tup, gIx_lst, gEq_ii, gEq_ss, gNe_ii, gNe_ss, gAdd_ii, gSub_ii, gLt_ii, gLe_ii, gGt_ii, gGe_ii, gIsN_d, gLen_l, gMax_ii, gMin_ii, gInt_b, gInt_i, gAbs_i, gApd_last, isLst_last, boX_b, tru_l, fzL_dX, fzL_n, fzL_cd, Option.map_some, fz_d, pk_d, ifS_some, hd_int, hd_str, hd_bool, hd_none, hd_list, hd_tuple, wipeX, List.map_cons, List.map_nil, List.length_cons, List.length_nil, List.replicate_succ, List.replicate_zero, List.cons_append, List.nil_append, List.append_nil, decide_eq_true_eq, if_true, if_false, Nat.reduceAdd, Nat.reduceSub, Nat.reduceLeDiff, Nat.zero_add, Nat.sub_zero]
      exact ⟨by rw [List.length_map, List.length_map, sizeLine_eq]; omega, hC _ _ ⟨rest, js ++ [w2 - 1], d, rfl, by simp; omega, by simp [dX], rfl, ok⟩⟩
    · rintro acc M ⟨rest, js, d, e, ll, rfl, rfl, ok⟩
      refine ⟨trivial, ?_⟩
      simp only [startX, rAsg, rgName, rVar, rC, rBin, rD, rCl, rFz, rTb, rTr, rIf, rIfS, rRet, rRetN, rNx, rCons, rNil, rTup, rTupC, rLst, rApp, rAppF, rCall, rPar, rNeg, rNot, rAnd, rOr, rChain, rLc, riSeq, rYes, rDrop, rFor, rApd, rExt, rgTup, rgCons, rgNil, rgSub, rIsiX, riRng1, riRng2, slot_z, slot_s, set_z, set_s, at0, at1, at2, at3, at4, at5, at6, dX_c, dX_n, gIx_tup, gIx_lst, gEq_ii, gEq_ss, gNe_ii, gNe_ss, gAdd_ii, gSub_ii, gLt_ii, gLe_ii, gGt_ii, gGe_ii, gIsN_d, gLen_l, gMax_ii, gMin_ii, gInt_b, gInt_i, gAbs_i, gApd_last, isLst_last, boX_b, tru_l, fzL_dX, fzL_n, fzL_cd, Option.map_some, fz_d, pk_d, ifS_some, hd_int, hd_str, hd_bool, hd_none, hd_list, hd_tuple, wipeX, List.map_cons, List.map_nil, List.length_cons, List.length_nil, List.replicate_succ, List.replicate_zero, List.cons_append, List.nil_append, List.append_nil, decide_eq_true_eq, if_true, if_false, Nat.reduceAdd, Nat.reduceSub, Nat.reduceLeDiff, Nat.zero_add, Nat.sub_zero]
      exact ⟨s2, fin (.cov js) d ok (by show js.length ≤ 100; omega)⟩
  rw [if_neg c1]
  refine seq_step ?_
  cases td with
  | no t =>
    have gt : Gt ks t := ht
    have hv0 : ∀ (M : Sto) (P : Xv → Sto → Prop), gIx (.d (thD t)) (.d (.int 0)) M P = P (.d (.list (t.ks.map .str))) M := fun _ _ => rfl
    have hv1 : ∀ (M : Sto) (P : Xv → Sto → Prop), gIx (.d (thD t)) (.d (.int 1)) M P = P (.d (.list (t.rg.map rgD))) M := fun _ _ => rfl
    simp only [startX, rAsg, rgName, rVar, rC, rBin, rD, rCl, rFz, rTb, rTr, rIf, rIfS, rRet, rRetN, rNx, rCons, rNil, rTup, rTupC, rLst, rApp, rAppF, rCall, rPar, rNeg, rNot, rAnd, rOr, rChain, rLc, riSeq, rYes, rDrop, rFor, rApd, rExt, rgTup, rgCons, rgNil, rgSub, rIsiX, riRng1, riRng2, slot_z, slot_s, set_z, set_s, at0, at1, at2, at3, at4, at5, at6, dX_c, dX_n, gIx_tup, gIx_lst, gEq_ii, gEq_ss, gNe_ii, gNe_ss, gAdd_ii, gSub_ii, gLt_ii, gLe_ii, gGt_ii, gGe_ii, gIsN_d, gLen_l, gMax_ii, gMin_ii, gInt_b, gInt_i, gAbs_i, gApd_last, isLst_last, boX_b, tru_l, fzL_dX, fzL_n, fzL_cd, Option.map_some, fz_d, pk_d, ifS_some, hd_int, hd_str, hd_bool, hd_none, hd_list, hd_tuple, wipeX, List.map_cons, List.map_nil, List.length_cons, List.length_nil, List.replicate_succ, List.replicate_zero, List.cons_append, List.nil_append, List.append_nil, decide_eq_true_eq, if_true, if_false, Nat.reduceAdd, Nat.reduceSub, Nat.reduceLeDiff, Nat.zero_add, Nat.sub_zero, tdD, hv0, hv1, rSl, rPart, rNoP, gSl_l]
    split
    · refine ⟨s2, s2, fin (.no ⟨cutX t.ks (some 1) none, t.rg⟩) d ok ⟨fun x hx => gt.km x ((cutX_sub _ _ _).subset hx), ?_, gt.rn, gt.rl⟩⟩
      have := (cutX_sub t.ks (some 1) none).length_le
      have := gt.kl
      show (cutX t.ks (some 1) none).length ≤ 10
      omega
    · refine ⟨s2, s2, fin (.no ⟨t.ks, cutX t.rg (some 1) none⟩) d ok ⟨gt.km, gt.kl, gt.rn.sublist ((cutX_sub _ _ _).map _), ?_⟩⟩
      have := (cutX_sub t.rg (some 1) none).length_le
      have := gt.rl
      show (cutX t.rg (some 1) none).length ≤ 10
      omega
  | cov ps =>
    have l20 := h20 ps rfl
    simp only [startX, rAsg, rgName, rVar, rC, rBin, rD, rCl, rFz, rTb, rTr, rIf, rIfS, rRet, rRetN, rNx, rCons, rNil, rTup, rTupC, rLst, rApp, rAppF, rCall, rPar, rNeg, rNot, rAnd, rOr, rChain, rLc, riSeq, rYes, rDrop, rFor, rApd, rExt, rgTup, rgCons, rgNil, rgSub, rIsiX, riRng1, riRng2, slot_z, slot_s, set_z, set_s, at0, at1, at2, at3, at4, at5, at6, dX_c, dX_n, gIx_tup, gIx_lst, gEq_ii, gEq_ss, gNe_ii, gNe_ss, gAdd_ii, gSub_ii, gLt_ii, gLe_ii, gGt_ii, gGe_ii, gIsN_d, gLen_l, gMax_ii, gMin_ii, gInt_b, gInt_i, gAbs_i, gApd_last, isLst_last, boX_b, tru_l, fzL_dX, fzL_n, fzL_cd, Option.map_some, fz_d, pk_d, ifS_some, hd_int, hd_str, hd_bool, hd_none, hd_list, hd_tuple, wipeX, List.map_cons, List.map_nil, List.length_cons, List.length_nil, List.replicate_succ, List.replicate_zero, List.cons_append, List.nil_append, List.append_nil, decide_eq_true_eq, if_true, if_false, Nat.reduceAdd, Nat.reduceSub, Nat.reduceLeDiff, Nat.zero_add, Nat.sub_zero, tdD, rSl, rPart, rNoP, gSl_l]
    rw [if_neg (by simpa using nk)]
    try simp only [startX, rAsg, rgName, rVar, rC, rBin, rD, rCl, rFz, rTb, rTr, rIf, rIfS, rRet, rRetN, rNx, rCons, rNil, rTup, rTupC, rLst, rApp, rAppF, rCall, rPar, rNeg, rNot, rAnd, rOr, rChain, rLc, riSeq, rYes, rDrop, rFor, rApd, rExt, rgTup, rgCons, rgNil, rgSub, rIsiX, riRng1, riRng2, slot_z, slot_s, set_z, set_s, at0, at1, at2, at3, at4, at5, at6, dX_c, dX_n, gIx_tup, gIx_lst, gEq_ii, gEq_ss, gNe_ii, gNe_ss, gAdd_ii, gSub_ii, gLt_ii, gLe_ii, gGt_ii, gGe_ii, gIsN_d, gLen_l, gMax_ii, gMin_ii, gInt_b, gInt_i, gAbs_i, gApd_last, isLst_last, boX_b, tru_l, fzL_dX, fzL_n, fzL_cd, Option.map_some, fz_d, pk_d, ifS_some, hd_int, hd_str, hd_bool, hd_none, hd_list, hd_tuple, wipeX, List.map_cons, List.map_nil, List.length_cons, List.length_nil, List.replicate_succ, List.replicate_zero, List.cons_append, List.nil_append, List.append_nil, decide_eq_true_eq, if_true, if_false, Nat.reduceAdd, Nat.reduceSub, Nat.reduceLeDiff, Nat.zero_add, Nat.sub_zero, tdD, rSl, rPart, rNoP, gSl_l]
    split
    · refine ⟨s2, fin (.cov (cutX ps (some 1) none)) d ok ?_⟩
      have := (cutX_sub ps (some 1) none).length_le
      show (cutX ps (some 1) none).length ≤ 100
      omega
    · refine ⟨s1, ?_⟩
      rw [gAdd_ll]
      refine ⟨small (by rw [List.length_map]; show ps.length + 1 ≤ 10000; omega), ?_⟩
      rw [show ps.map PyData.int ++ [.int 0] = (ps ++ [0]).map .int by simp]
      exact ⟨s2, fin (.cov (ps ++ [0])) d ok (by show (ps ++ [0]).length ≤ 100; rw [List.length_append]; show ps.length + 1 ≤ 100; omega)⟩
end K11

set_option Elab.async false
set_option linter.all false
set_option maxRecDepth 100000
set_option maxHeartbeats 8000000
namespace K11
open PySem PySem.Spec PyProof.Rows L2 G
variable {P : Program} {w : World} {K : PySem.W.Frag} {mg : Str → Option Value} {base : Heap} {k : Nat}
/-! ### what repr asks -/
def nmOk (x : Str) : Prop := PyData.strOk x = true ∧ x.cps.size ≤ 12
theorem rp_nm {x : Str} {dp : Nat} (h : nmOk x) : Rp 12 dp (.str x) := Rp.str h.1 h.2
theorem rp_lst {α : Type} {enc : α → PyData} {xs : List α} {n w dp : Nat} (hn : xs.length ≤ n) (h : ∀ x ∈ xs, Rp w dp (enc x)) (hw : n * (w + 1) ≤ 10000) (hd : dp + 1 ≤ 8) : Rp 10000 8 (.list (xs.map enc)) := by
  refine Rp.mono (Rp.lst (RpAll.of (n := n) (by rw [List.length_map]; exact hn) fun d hd => ?_)) hw hd
  obtain ⟨x, hx, rfl⟩ := List.mem_map.mp hd
  exact h x hx
theorem rpkv_of : ∀ l : List (Key × PyData), (∀ p ∈ l, (∃ x, p.1 = .inr x ∧ nmOk x) ∧ Rp 10000 8 p.2) → RpKv (l.length * 10014) 8 (l.map fun p => (kD p.1, p.2))
  | [], _ => by rw [List.length_nil, Nat.zero_mul]; exact RpKv.nil
  | p :: l, h => by
    obtain ⟨⟨x, e, hx⟩, hv⟩ := h p List.mem_cons_self
    have t := rpkv_of l fun q hq => h q (List.mem_cons_of_mem _ hq)
    have hk : Rp 12 8 (kD p.1) := by rw [e]; exact rp_nm hx
    have := RpKv.cons hk hv t
    refine ⟨this.lv, Nat.le_trans this.wt ?_, this.dt, this.sh⟩
    rw [List.length_cons]; omega
theorem nm7_ok : ∀ x ∈ nm7, nmOk x := by
  have : ∀ x ∈ nm7, (PyData.strOk x && decide (x.cps.size ≤ 12)) = true := by decide +kernel
  intro x hx
  have := this x hx
  rw [Bool.and_eq_true, decide_eq_true_eq] at this
  exact this
theorem uvw_ok : ∀ x ∈ uvw, nmOk x := by
  have : ∀ x ∈ uvw, (PyData.strOk x && decide (x.cps.size ≤ 12)) = true := by decide +kernel
  intro x hx
  have := this x hx
  rw [Bool.and_eq_true, decide_eq_true_eq] at this
  exact this
theorem ky_ok : ∀ x ∈ ky11 ++ ky7, nmOk x := by
  have : ∀ x ∈ ky11 ++ ky7, (PyData.strOk x && decide (x.cps.size ≤ 12)) = true := by decide +kernel
  intro x hx
  have := this x hx
  rw [Bool.and_eq_true, decide_eq_true_eq] at this
  exact this
theorem rp_fo {ks : Ks} (g : Gk ks) (h7 : ∀ p ∈ ks, p.1 ∈ nm7) : Rp (20 * 10014) 9 (foD ks) := by
  have hk : Rp 10000 8 (.list (ks.map ksD)) := rp_lst (n := 7) (w := 100) (dp := 3) g.ln (fun p hp => by
    have h2 : Rp 12 2 (optS p.2) := by
      obtain ⟨x, o⟩ := p
      cases o with
      | none => exact Rp.mono (Rp.none (dp := 0)) (by omega) (by omega)
      | some q =>
        obtain ⟨i, hi, e⟩ := List.getElem_of_mem hp
        obtain ⟨j, o', _, hj⟩ := g.pa i x q (by rw [List.getElem?_eq_getElem hi, e])
        exact rp_nm (nm7_ok _ (h7 _ (List.mem_of_getElem? hj)))
    exact Rp.mono (Rp.tup (.cons (rp_nm (nm7_ok _ (h7 p hp))) (.cons h2 .nil))) (by omega) (by omega)) (by omega) (by omega)
  have hq : Rp 10000 8 (.list (uvw.map .str)) := rp_lst (n := 3) (w := 12) (dp := 3) (by decide) (fun x hx => rp_nm (uvw_ok x hx)) (by omega) (by omega)
  have he : Rp 10000 8 (.list []) := Rp.mono (Rp.lst (dp := 2) .nil) (by omega) (by omega)
  have kq : nmOk "kinds" ∧ nmOk "quantities" := by unfold nmOk; decide +kernel
  have := rpkv_of (kv0 ks ++ emp (ky11 ++ ky7)) fun p hp => by
    rcases List.mem_append.mp hp with h | h
    · rcases List.mem_cons.mp h with rfl | h
      · exact ⟨⟨_, rfl, kq.1⟩, hk⟩
      · rw [List.mem_singleton.mp h]
        exact ⟨⟨_, rfl, kq.2⟩, hq⟩
    · obtain ⟨x, hx, rfl⟩ := List.mem_map.mp h
      exact ⟨⟨x, rfl, ky_ok x hx⟩, he⟩
  have e : (kv0 ks ++ emp (ky11 ++ ky7)).length = 20 := by
    unfold kv0 emp
    rw [List.length_append, List.length_map]
    rfl
  rw [e] at this
  exact Rp.dict this
theorem rp_rgs {rg : List Rng} (h : RgB rg) (hl : rg.length ≤ 10) : Rp 10000 8 (.list (rg.map rgD)) := rp_lst (n := 10) (w := 200) (dp := 3) hl (fun r hr => by
  obtain ⟨h0, h1, h2, h3, h4⟩ := h r hr
  exact Rp.mono (Rp.tup (dp := 2) (.cons (rp_nm (uvw_ok _ h0)) (.cons (Rp.int (by omega)) (.cons (Rp.int (by omega)) .nil)))) (by omega) (by omega)) (by omega) (by omega)
theorem rp_kl {l : List Str} (h : ∀ x ∈ l, x ∈ nm7) (hl : l.length ≤ 10) : Rp 10000 8 (.list (l.map .str)) := rp_lst (n := 10) (w := 12) (dp := 3) hl (fun x hx => rp_nm (nm7_ok _ (h x hx))) (by omega) (by omega)
theorem rp_th {t : Th} (h1 : ∀ x ∈ t.ks, x ∈ nm7) (h2 : RgB t.rg) (l1 : t.ks.length ≤ 10) (l2 : t.rg.length ≤ 10) : Rp 30000 9 (thD t) :=
  Rp.mono (Rp.tup (.cons (rp_kl h1 l1) (.cons (rp_rgs h2 l2) .nil))) (by omega) (by omega)
theorem rp_all {ks : Ks} {t v : Th} (g : Gk ks) (h7 : ∀ p ∈ ks, p.1 ∈ nm7) (ht : Rp 30000 9 (thD t)) (hv : Rp 30000 9 (thD v)) : Rp 400000 10 (.list [foD ks, thD t, thD v]) :=
  Rp.mono (Rp.lst (.cons (rp_fo g h7) (.cons ht (.cons hv .nil)))) (by omega) (by omega)
section
variable {sc : List Int} {d : D3} {M : Sto} {P : Xv → Sto → Prop} {s : PyData} {ks : Ks}
theorem u_for0 (ok : DOk d) (h : ∀ (ks : Ks) (d' : D3), DOk d' → Gk ks → 0 < ks.length → (∀ p ∈ ks, p.1 ∈ nm7) → P (.d (foD ks)) (dM sc d')) : pfPre 1 pf_for [.c 0] (dM sc d) P := by
  have : pfPre 1 pf_for [.c 0] (dM sc d ++ []) P := ⟨by simp [dM], rfl, rfl, sc, d, rfl, rfl, ok, fun ks d' a b c e => ⟨rfl, rfl, rfl, h ks d' a b c e⟩⟩
  rwa [List.append_nil] at this
theorem u_near (ok : DOk d) (I : Is s ks) (g : Gk ks) {v : Th} (gv : Gt ks v) (gr : Gr v.rg) (h : ∀ (t : Th) (d' : D3), DOk d' → Gt ks t → RgB t.rg → P (.d (thD t)) (dM sc d')) : pfPre 1 pf_near [.c 0, .d s, .d (thD v)] (dM sc d) P := by
  have : pfPre 1 pf_near [.c 0, .d s, .d (thD v)] (dM sc d ++ []) P := ⟨by simp [dM], rfl, rfl, sc, d, s, ks, v, rfl, rfl, ok, I, g, gv, gr, fun t d' a b c => ⟨rfl, rfl, rfl, h t d' a b c⟩⟩
  rwa [List.append_nil] at this
theorem u_bent (ok : DOk d) (I : Is s ks) (g : Gk ks) (kp0 : 0 < ks.length) {one other : Th} {td : Td} (g1 : Gt ks one) (ht : TOk ks td) (h20 : ∀ ps, td = .cov ps → ps.length ≤ 20) (h : ∀ (td' : Td) (d' : D3), DOk d' → TOk ks td' → P (.d (tdD td')) (dM sc d')) : pfPre 1 pf_bent [.c 0, .d s, .d (thD one), .d (thD other), .d (tdD td)] (dM sc d) P := by
  have : pfPre 1 pf_bent [.c 0, .d s, .d (thD one), .d (thD other), .d (tdD td)] (dM sc d ++ []) P := ⟨by simp [dM], rfl, rfl, sc, d, s, ks, one, other, td, rfl, rfl, ok, I, g, kp0, g1, ht, h20, fun t d' a b => ⟨rfl, rfl, rfl, h t d' a b⟩⟩
  rwa [List.append_nil] at this
theorem u_covers (I : Is s ks) (g : Gk ks) {one other : Th} (g1 : Gt ks one) (g2 : Gt ks other) (h : ∀ td, Right ks one other td → P (.d (tdD td)) M) : pfD pd_covers [.d s, .d (thD one), .d (thD other)] M P := pfD3 _ _ _ _ _ _ ⟨s, ks, one, other, rfl, I, g, g1, g2, h⟩
theorem u_fault (I : Is s ks) (g : Gk ks) {one other : Th} {td : Td} (g1 : Gt ks one) (g2 : Gt ks other) (ht : TOk ks td) (h : P (.d (faultC ks one other td)) M) : pfD pd_fault [.d s, .d (thD one), .d (thD other), .d (tdD td)] M P := pfD4 _ _ _ _ _ _ _ ⟨s, ks, one, other, td, rfl, I, g, g1, g2, ht, h⟩
end
theorem sh_bools (a b : Bool) : SeqAt.shaped (.list [.bool a, .bool b]) = true := by cases a <;> cases b <;> rfl
theorem gLen_t2 (a b : PyData) (M : Sto) (P : Xv → Sto → Prop) : gLen [.d (.tuple [a, b])] M P = P (.d (.int 2)) M := rfl
theorem i1_of {t c : String} {b : Bool} (Q : Bool → Prop) (e : isiT t c = some b) : ifS (isiT t c) Q = Q b := by rw [e, ifS_some]
theorem ok_law (D : DefOk K mg "law" ["script"] (defArgs s_law) (defBody s_law) (defScope s_law)) (Z : Fx K mg base)
    (C1 : Cal P w K mg base 4 "_law_draws" ["script"] pf_drs) (C2 : Cal P w K mg base 4 "_law_forest" ["draws"] (pfPre 1 pf_for)) (C3 : Cal P w K mg base 4 "_law_ranges" ["draws"] (pfPre 1 pf_rgs)) (C4 : Cal P w K mg base 4 "_law_kinds" ["draws", "state"] (pfPre 1 pf_kinds))
    (C5 : Cal P w K mg base 4 "_law_draw" ["draws", "limit"] (pfPre 1 pf_dr)) (C6 : Cal P w K mg base 4 "_law_near" ["draws", "state", "wish"] (pfPre 1 pf_near)) (C7 : Cal P w K mg base 4 "covers" ["state", "one", "other"] (pfD pd_covers)) (C8 : Cal P w K mg base 4 "_law_parts" ["wish"] (pfD pd_parts))
    (C9 : Cal P w K mg base 4 "_law_covered" ["state", "part", "other"] (pfD pd_cov)) (C10 : Cal P w K mg base 4 "_law_fault" ["state", "one", "other", "told"] (pfD pd_fault)) (C11 : Cal P w K mg base 4 "_law_bent" ["draws", "state", "one", "other", "told"] (pfPre 1 pf_bent)) (C12 : Cal P w K mg base 4 "cover_fault" ["state", "one", "other", "told"] (pfD pd_fault)) :
    Cal P w K mg base 5 "law" ["script"] (pfLaw 63) := by
  refine Cal.mk_ (k := 4) D sc_law (sd_law Z C1 C2 C3 C4 C5 C6 C7 C8 C9 C10 C11 C12) (fun xs M R ⟨_, e, _⟩ => by rw [e]; rfl) (fun xs M R h => ?_)
  obtain ⟨sc, rfl, rfl, _, h⟩ := h
  have s0 : (0 : Nat) ≤ sizeLine := by decide
  have s1 : (1 : Nat) ≤ sizeLine := by decide
  have s2 : (2 : Nat) ≤ sizeLine := by decide
  have s3 : (3 : Nat) ≤ sizeLine := by decide
  unfold b_law
  simp only [startX, rAsg, rgName, rVar, rC, rBin, rD, rCl, rFz, rTb, rTr, rIf, rIfS, rRet, rRetN, rNx, rCons, rNil, rTup, rTupC, rLst, rApp, rAppF, rCall, rPar, rNeg, rNot, rAnd, rOr, rChain, rLc, riSeq, rYes, rDrop, rFor, rApd, rExt, rgTup, rgCons, rgNil, rgSub, rIsiX, riRng1, riRng2, slot_z, slot_s, set_z, set_s, at0, at1, at2, at3, at4, at5, at6, dX_c, dX_n, gIx_tup, gIx_lst, gEq_ii, gEq_ss, gNe_ii, gNe_ss, gAdd_ii, gSub_ii, gLt_ii, gLe_ii, gGt_ii, gGe_ii, gIsN_d, gLen_l, gMax_ii, gMin_ii, gInt_b, gInt_i, gAbs_i, gApd_last, isLst_last, boX_b, tru_l, fzL_dX, fzL_n, fzL_cd, Option.map_some, fz_d, pk_d, ifS_some, hd_int, hd_str, hd_bool, hd_none, hd_list, hd_tuple, wipeX, List.map_cons, List.map_nil, List.length_cons, List.length_nil, List.replicate_succ, List.replicate_zero, List.cons_append, List.nil_append, List.append_nil, decide_eq_true_eq, if_true, if_false, Nat.reduceAdd, Nat.reduceSub, Nat.reduceLeDiff, Nat.zero_add, Nat.sub_zero, N_law]
  refine seq_step ?_
  simp only [startX, rAsg, rgName, rVar, rC, rBin, rD, rCl, rFz, rTb, rTr, rIf, rIfS, rRet, rRetN, rNx, rCons, rNil, rTup, rTupC, rLst, rApp, rAppF, rCall, rPar, rNeg, rNot, rAnd, rOr, rChain, rLc, riSeq, rYes, rDrop, rFor, rApd, rExt, rgTup, rgCons, rgNil, rgSub, rIsiX, riRng1, riRng2, slot_z, slot_s, set_z, set_s, at0, at1, at2, at3, at4, at5, at6, dX_c, dX_n, gIx_tup, gIx_lst, gEq_ii, gEq_ss, gNe_ii, gNe_ss, gAdd_ii, gSub_ii, gLt_ii, gLe_ii, gGt_ii, gGe_ii, gIsN_d, gLen_l, gMax_ii, gMin_ii, gInt_b, gInt_i, gAbs_i, gApd_last, isLst_last, boX_b, tru_l, fzL_dX, fzL_n, fzL_cd, Option.map_some, fz_d, pk_d, ifS_some, hd_int, hd_str, hd_bool, hd_none, hd_list, hd_tuple, wipeX, List.map_cons, List.map_nil, List.length_cons, List.length_nil, List.replicate_succ, List.replicate_zero, List.cons_append, List.nil_append, List.append_nil, decide_eq_true_eq, if_true, if_false, Nat.reduceAdd, Nat.reduceSub, Nat.reduceLeDiff, Nat.zero_add, Nat.sub_zero]
  refine ⟨sc, rfl, rfl, ?_⟩
  have ok0 : DOk (0, 0, 1) := ⟨by decide, by decide⟩
  refine seq_step ?_
  simp only [startX, rAsg, rgName, rVar, rC, rBin, rD, rCl, rFz, rTb, rTr, rIf, rIfS, rRet, rRetN, rNx, rCons, rNil, rTup, rTupC, rLst, rApp, rAppF, rCall, rPar, rNeg, rNot, rAnd, rOr, rChain, rLc, riSeq, rYes, rDrop, rFor, rApd, rExt, rgTup, rgCons, rgNil, rgSub, rIsiX, riRng1, riRng2, slot_z, slot_s, set_z, set_s, at0, at1, at2, at3, at4, at5, at6, dX_c, dX_n, gIx_tup, gIx_lst, gEq_ii, gEq_ss, gNe_ii, gNe_ss, gAdd_ii, gSub_ii, gLt_ii, gLe_ii, gGt_ii, gGe_ii, gIsN_d, gLen_l, gMax_ii, gMin_ii, gInt_b, gInt_i, gAbs_i, gApd_last, isLst_last, boX_b, tru_l, fzL_dX, fzL_n, fzL_cd, Option.map_some, fz_d, pk_d, ifS_some, hd_int, hd_str, hd_bool, hd_none, hd_list, hd_tuple, wipeX, List.map_cons, List.map_nil, List.length_cons, List.length_nil, List.replicate_succ, List.replicate_zero, List.cons_append, List.nil_append, List.append_nil, decide_eq_true_eq, if_true, if_false, Nat.reduceAdd, Nat.reduceSub, Nat.reduceLeDiff, Nat.zero_add, Nat.sub_zero]
  refine u_for0 ok0 fun ks d ok g kp0 h7 => ?_
  have I := is_fo ks
  have rpf := fun (t v : Th) => rp_all (t := t) (v := v) g h7
  generalize hS : foD ks = S at I rpf ⊢
  refine seq_step ?_
  simp only [startX, rAsg, rgName, rVar, rC, rBin, rD, rCl, rFz, rTb, rTr, rIf, rIfS, rRet, rRetN, rNx, rCons, rNil, rTup, rTupC, rLst, rApp, rAppF, rCall, rPar, rNeg, rNot, rAnd, rOr, rChain, rLc, riSeq, rYes, rDrop, rFor, rApd, rExt, rgTup, rgCons, rgNil, rgSub, rIsiX, riRng1, riRng2, slot_z, slot_s, set_z, set_s, at0, at1, at2, at3, at4, at5, at6, dX_c, dX_n, gIx_tup, gIx_lst, gEq_ii, gEq_ss, gNe_ii, gNe_ss, gAdd_ii, gSub_ii, gLt_ii, gLe_ii, gGt_ii, gGe_ii, gIsN_d, gLen_l, gMax_ii, gMin_ii, gInt_b, gInt_i, gAbs_i, gApd_last, isLst_last, boX_b, tru_l, fzL_dX, fzL_n, fzL_cd, Option.map_some, fz_d, pk_d, ifS_some, hd_int, hd_str, hd_bool, hd_none, hd_list, hd_tuple, wipeX, List.map_cons, List.map_nil, List.length_cons, List.length_nil, List.replicate_succ, List.replicate_zero, List.cons_append, List.nil_append, List.append_nil, decide_eq_true_eq, if_true, if_false, Nat.reduceAdd, Nat.reduceSub, Nat.reduceLeDiff, Nat.zero_add, Nat.sub_zero]
  have n7 : ∀ x ∈ ks.map (·.1), x ∈ nm7 := fun x hx => by
    obtain ⟨p, hp, rfl⟩ := List.mem_map.mp hx
    exact h7 p hp
  refine u_kinds ok I g kp0 fun vk d ok vm vl => ?_
  refine u_rgs ok fun vr d ok gr => ?_
  simp only [startX, rAsg, rgName, rVar, rC, rBin, rD, rCl, rFz, rTb, rTr, rIf, rIfS, rRet, rRetN, rNx, rCons, rNil, rTup, rTupC, rLst, rApp, rAppF, rCall, rPar, rNeg, rNot, rAnd, rOr, rChain, rLc, riSeq, rYes, rDrop, rFor, rApd, rExt, rgTup, rgCons, rgNil, rgSub, rIsiX, riRng1, riRng2, slot_z, slot_s, set_z, set_s, at0, at1, at2, at3, at4, at5, at6, dX_c, dX_n, gIx_tup, gIx_lst, gEq_ii, gEq_ss, gNe_ii, gNe_ss, gAdd_ii, gSub_ii, gLt_ii, gLe_ii, gGt_ii, gGe_ii, gIsN_d, gLen_l, gMax_ii, gMin_ii, gInt_b, gInt_i, gAbs_i, gApd_last, isLst_last, boX_b, tru_l, fzL_dX, fzL_n, fzL_cd, Option.map_some, fz_d, pk_d, ifS_some, hd_int, hd_str, hd_bool, hd_none, hd_list, hd_tuple, wipeX, List.map_cons, List.map_nil, List.length_cons, List.length_nil, List.replicate_succ, List.replicate_zero, List.cons_append, List.nil_append, List.append_nil, decide_eq_true_eq, if_true, if_false, Nat.reduceAdd, Nat.reduceSub, Nat.reduceLeDiff, Nat.zero_add, Nat.sub_zero]
  refine ⟨s2, ?_⟩
  have lv := gr.len
  have gw : Gt ks ⟨vk, vr⟩ := ⟨vm, by show vk.length ≤ 10; omega, gr.nd, by show vr.length ≤ 10; omega⟩
  have grw : Gr (⟨vk, vr⟩ : Th).rg := gr
  have ev : PyData.tuple [.list (vk.map .str), .list (vr.map rgD)] = thD ⟨vk, vr⟩ := rfl
  rw [ev]
  generalize (⟨vk, vr⟩ : Th) = v at gw grw ⊢
  refine seq_cut (fun σ1 M1 => ∃ (t : Th) (d : D3), σ1 = [some (.d (.list (sc.map .int))), some (.c 0), some (.d S), some (.d (thD v)), some (.d (thD t)), none, none, none, none, none, none, none, none, none, none, none] ∧ M1 = dM sc d ∧ DOk d ∧ Gt ks t ∧ RgB t.rg) ?_ ?_
  · intro X hX
    simp only [startX, rAsg, rgName, rVar, rC, rBin, rD, rCl, rFz, rTb, rTr, rIf, rIfS, rRet, rRetN, rNx, rCons, rNil, rTup, rTupC, rLst, rApp, rAppF, rCall, rPar, rNeg, rNot, rAnd, rOr, rChain, rLc, riSeq, rYes, rDrop, rFor, rApd, rExt, rgTup, rgCons, rgNil, rgSub, rIsiX, riRng1, riRng2, slot_z, slot_s, set_z, set_s, at0, at1, at2, at3, at4, at5, at6, dX_c, dX_n, gIx_tup, gIx_lst, gEq_ii, gEq_ss, gNe_ii, gNe_ss, gAdd_ii, gSub_ii, gLt_ii, gLe_ii, gGt_ii, gGe_ii, gIsN_d, gLen_l, gMax_ii, gMin_ii, gInt_b, gInt_i, gAbs_i, gApd_last, isLst_last, boX_b, tru_l, fzL_dX, fzL_n, fzL_cd, Option.map_some, fz_d, pk_d, ifS_some, hd_int, hd_str, hd_bool, hd_none, hd_list, hd_tuple, wipeX, List.map_cons, List.map_nil, List.length_cons, List.length_nil, List.replicate_succ, List.replicate_zero, List.cons_append, List.nil_append, List.append_nil, decide_eq_true_eq, if_true, if_false, Nat.reduceAdd, Nat.reduceSub, Nat.reduceLeDiff, Nat.zero_add, Nat.sub_zero]
    refine u_dr0 ok (by decide) (by decide) fun w1 d ok a0 a1 => ?_
    simp only [startX, rAsg, rgName, rVar, rC, rBin, rD, rCl, rFz, rTb, rTr, rIf, rIfS, rRet, rRetN, rNx, rCons, rNil, rTup, rTupC, rLst, rApp, rAppF, rCall, rPar, rNeg, rNot, rAnd, rOr, rChain, rLc, riSeq, rYes, rDrop, rFor, rApd, rExt, rgTup, rgCons, rgNil, rgSub, rIsiX, riRng1, riRng2, slot_z, slot_s, set_z, set_s, at0, at1, at2, at3, at4, at5, at6, dX_c, dX_n, gIx_tup, gIx_lst, gEq_ii, gEq_ss, gNe_ii, gNe_ss, gAdd_ii, gSub_ii, gLt_ii, gLe_ii, gGt_ii, gGe_ii, gIsN_d, gLen_l, gMax_ii, gMin_ii, gInt_b, gInt_i, gAbs_i, gApd_last, isLst_last, boX_b, tru_l, fzL_dX, fzL_n, fzL_cd, Option.map_some, fz_d, pk_d, ifS_some, hd_int, hd_str, hd_bool, hd_none, hd_list, hd_tuple, wipeX, List.map_cons, List.map_nil, List.length_cons, List.length_nil, List.replicate_succ, List.replicate_zero, List.cons_append, List.nil_append, List.append_nil, decide_eq_true_eq, if_true, if_false, Nat.reduceAdd, Nat.reduceSub, Nat.reduceLeDiff, Nat.zero_add, Nat.sub_zero]
    split
    · exact u_near ok I g gw grw fun t d ok gt rb => hX _ _ ⟨t, d, rfl, rfl, ok, gt, rb⟩
    · refine u_kinds ok I g kp0 fun tk d ok tm tl => ?_
      refine u_rgs ok fun tr d ok gtr => ?_
      have ltr := gtr.len
      simp only [startX, rAsg, rgName, rVar, rC, rBin, rD, rCl, rFz, rTb, rTr, rIf, rIfS, rRet, rRetN, rNx, rCons, rNil, rTup, rTupC, rLst, rApp, rAppF, rCall, rPar, rNeg, rNot, rAnd, rOr, rChain, rLc, riSeq, rYes, rDrop, rFor, rApd, rExt, rgTup, rgCons, rgNil, rgSub, rIsiX, riRng1, riRng2, slot_z, slot_s, set_z, set_s, at0, at1, at2, at3, at4, at5, at6, dX_c, dX_n, gIx_tup, gIx_lst, gEq_ii, gEq_ss, gNe_ii, gNe_ss, gAdd_ii, gSub_ii, gLt_ii, gLe_ii, gGt_ii, gGe_ii, gIsN_d, gLen_l, gMax_ii, gMin_ii, gInt_b, gInt_i, gAbs_i, gApd_last, isLst_last, boX_b, tru_l, fzL_dX, fzL_n, fzL_cd, Option.map_some, fz_d, pk_d, ifS_some, hd_int, hd_str, hd_bool, hd_none, hd_list, hd_tuple, wipeX, List.map_cons, List.map_nil, List.length_cons, List.length_nil, List.replicate_succ, List.replicate_zero, List.cons_append, List.nil_append, List.append_nil, decide_eq_true_eq, if_true, if_false, Nat.reduceAdd, Nat.reduceSub, Nat.reduceLeDiff, Nat.zero_add, Nat.sub_zero]
      exact ⟨s2, hX _ _ ⟨⟨tk, tr⟩, d, rfl, rfl, ok, ⟨tm, by show tk.length ≤ 10; omega, gtr.nd, by show tr.length ≤ 10; omega⟩, gtr.rb⟩⟩
  rintro _ _ ⟨t, d, rfl, rfl, ok, gt, rb⟩
  have rp := rpf t v (rp_th (fun x hx => n7 x (gt.km x hx)) rb gt.kl gt.rl) (rp_th (fun x hx => n7 x (gw.km x hx)) grw.rb gw.kl gw.rl)
  clear rpf
  refine seq_step ?_
  simp only [startX, rAsg, rgName, rVar, rC, rBin, rD, rCl, rFz, rTb, rTr, rIf, rIfS, rRet, rRetN, rNx, rCons, rNil, rTup, rTupC, rLst, rApp, rAppF, rCall, rPar, rNeg, rNot, rAnd, rOr, rChain, rLc, riSeq, rYes, rDrop, rFor, rApd, rExt, rgTup, rgCons, rgNil, rgSub, rIsiX, riRng1, riRng2, slot_z, slot_s, set_z, set_s, at0, at1, at2, at3, at4, at5, at6, dX_c, dX_n, gIx_tup, gIx_lst, gEq_ii, gEq_ss, gNe_ii, gNe_ss, gAdd_ii, gSub_ii, gLt_ii, gLe_ii, gGt_ii, gGe_ii, gIsN_d, gLen_l, gMax_ii, gMin_ii, gInt_b, gInt_i, gAbs_i, gApd_last, isLst_last, boX_b, tru_l, fzL_dX, fzL_n, fzL_cd, Option.map_some, fz_d, pk_d, ifS_some, hd_int, hd_str, hd_bool, hd_none, hd_list, hd_tuple, wipeX, List.map_cons, List.map_nil, List.length_cons, List.length_nil, List.replicate_succ, List.replicate_zero, List.cons_append, List.nil_append, List.append_nil, decide_eq_true_eq, if_true, if_false, Nat.reduceAdd, Nat.reduceSub, Nat.reduceLeDiff, Nat.zero_add, Nat.sub_zero]
  refine ⟨s3, ?_⟩
  refine gRepr_d rp (by decide) (by decide) rfl ?_
  generalize hkept : PyData.shown (.list [S, thD t, thD v]) = kept
  refine seq_step ?_
  simp only [startX, rAsg, rgName, rVar, rC, rBin, rD, rCl, rFz, rTb, rTr, rIf, rIfS, rRet, rRetN, rNx, rCons, rNil, rTup, rTupC, rLst, rApp, rAppF, rCall, rPar, rNeg, rNot, rAnd, rOr, rChain, rLc, riSeq, rYes, rDrop, rFor, rApd, rExt, rgTup, rgCons, rgNil, rgSub, rIsiX, riRng1, riRng2, slot_z, slot_s, set_z, set_s, at0, at1, at2, at3, at4, at5, at6, dX_c, dX_n, gIx_tup, gIx_lst, gEq_ii, gEq_ss, gNe_ii, gNe_ss, gAdd_ii, gSub_ii, gLt_ii, gLe_ii, gGt_ii, gGe_ii, gIsN_d, gLen_l, gMax_ii, gMin_ii, gInt_b, gInt_i, gAbs_i, gApd_last, isLst_last, boX_b, tru_l, fzL_dX, fzL_n, fzL_cd, Option.map_some, fz_d, pk_d, ifS_some, hd_int, hd_str, hd_bool, hd_none, hd_list, hd_tuple, wipeX, List.map_cons, List.map_nil, List.length_cons, List.length_nil, List.replicate_succ, List.replicate_zero, List.cons_append, List.nil_append, List.append_nil, decide_eq_true_eq, if_true, if_false, Nat.reduceAdd, Nat.reduceSub, Nat.reduceLeDiff, Nat.zero_add, Nat.sub_zero]
  refine u_covers I g gt gw fun td hr => ?_
  have hrl : ∀ r ∈ v.rg, r.2.1 ≤ r.2.2 := fun r q => (grw.bd r q).2.2.1
  have f0 := right_none g gw hrl hr
  obtain ⟨tok, t20⟩ := right_ok gt gw hr
  have l1 := parts_len gt
  have l2 := parts_len gw
  have n1 := okN_of gt
  have n2 := okN_of gw
  refine seq_step ?_
  simp only [startX, rAsg, rgName, rVar, rC, rBin, rD, rCl, rFz, rTb, rTr, rIf, rIfS, rRet, rRetN, rNx, rCons, rNil, rTup, rTupC, rLst, rApp, rAppF, rCall, rPar, rNeg, rNot, rAnd, rOr, rChain, rLc, riSeq, rYes, rDrop, rFor, rApd, rExt, rgTup, rgCons, rgNil, rgSub, rIsiX, riRng1, riRng2, slot_z, slot_s, set_z, set_s, at0, at1, at2, at3, at4, at5, at6, dX_c, dX_n, gIx_tup, gIx_lst, gEq_ii, gEq_ss, gNe_ii, gNe_ss, gAdd_ii, gSub_ii, gLt_ii, gLe_ii, gGt_ii, gGe_ii, gIsN_d, gLen_l, gMax_ii, gMin_ii, gInt_b, gInt_i, gAbs_i, gApd_last, isLst_last, boX_b, tru_l, fzL_dX, fzL_n, fzL_cd, Option.map_some, fz_d, pk_d, ifS_some, hd_int, hd_str, hd_bool, hd_none, hd_list, hd_tuple, wipeX, List.map_cons, List.map_nil, List.length_cons, List.length_nil, List.replicate_succ, List.replicate_zero, List.cons_append, List.nil_append, List.append_nil, decide_eq_true_eq, if_true, if_false, Nat.reduceAdd, Nat.reduceSub, Nat.reduceLeDiff, Nat.zero_add, Nat.sub_zero]
  refine u_parts gt ?_
  refine lcW_map ptD (fun _ => true) (fun p => .bool ((partsOf v).any fun o => covP ks p o)) (by trivial) (partsOf t) [] (small (by simp; omega)) (fun p hp Kt Kf h1 h2 => ?_) ?_
  · simp only [startX, rAsg, rgName, rVar, rC, rBin, rD, rCl, rFz, rTb, rTr, rIf, rIfS, rRet, rRetN, rNx, rCons, rNil, rTup, rTupC, rLst, rApp, rAppF, rCall, rPar, rNeg, rNot, rAnd, rOr, rChain, rLc, riSeq, rYes, rDrop, rFor, rApd, rExt, rgTup, rgCons, rgNil, rgSub, rIsiX, riRng1, riRng2, slot_z, slot_s, set_z, set_s, at0, at1, at2, at3, at4, at5, at6, dX_c, dX_n, gIx_tup, gIx_lst, gEq_ii, gEq_ss, gNe_ii, gNe_ss, gAdd_ii, gSub_ii, gLt_ii, gLe_ii, gGt_ii, gGe_ii, gIsN_d, gLen_l, gMax_ii, gMin_ii, gInt_b, gInt_i, gAbs_i, gApd_last, isLst_last, boX_b, tru_l, fzL_dX, fzL_n, fzL_cd, Option.map_some, fz_d, pk_d, ifS_some, hd_int, hd_str, hd_bool, hd_none, hd_list, hd_tuple, wipeX, List.map_cons, List.map_nil, List.length_cons, List.length_nil, List.replicate_succ, List.replicate_zero, List.cons_append, List.nil_append, List.append_nil, decide_eq_true_eq, if_true, if_false, Nat.reduceAdd, Nat.reduceSub, Nat.reduceLeDiff, Nat.zero_add, Nat.sub_zero]
    refine u_parts gw ?_
    refine lcW_map ptD (fun _ => true) (fun o => .bool (covP ks p o)) (by trivial) (partsOf v) [] (small (by simp; omega)) (fun o ho Kt' Kf' h1' h2' => ?_) ?_
    · simp only [startX, rAsg, rgName, rVar, rC, rBin, rD, rCl, rFz, rTb, rTr, rIf, rIfS, rRet, rRetN, rNx, rCons, rNil, rTup, rTupC, rLst, rApp, rAppF, rCall, rPar, rNeg, rNot, rAnd, rOr, rChain, rLc, riSeq, rYes, rDrop, rFor, rApd, rExt, rgTup, rgCons, rgNil, rgSub, rIsiX, riRng1, riRng2, slot_z, slot_s, set_z, set_s, at0, at1, at2, at3, at4, at5, at6, dX_c, dX_n, gIx_tup, gIx_lst, gEq_ii, gEq_ss, gNe_ii, gNe_ss, gAdd_ii, gSub_ii, gLt_ii, gLe_ii, gGt_ii, gGe_ii, gIsN_d, gLen_l, gMax_ii, gMin_ii, gInt_b, gInt_i, gAbs_i, gApd_last, isLst_last, boX_b, tru_l, fzL_dX, fzL_n, fzL_cd, Option.map_some, fz_d, pk_d, ifS_some, hd_int, hd_str, hd_bool, hd_none, hd_list, hd_tuple, wipeX, List.map_cons, List.map_nil, List.length_cons, List.length_nil, List.replicate_succ, List.replicate_zero, List.cons_append, List.nil_append, List.append_nil, decide_eq_true_eq, if_true, if_false, Nat.reduceAdd, Nat.reduceSub, Nat.reduceLeDiff, Nat.zero_add, Nat.sub_zero]
      exact u_cov I g (n1 p hp) (n2 o ho) (h1' rfl)
    simp only [startX, rAsg, rgName, rVar, rC, rBin, rD, rCl, rFz, rTb, rTr, rIf, rIfS, rRet, rRetN, rNx, rCons, rNil, rTup, rTupC, rLst, rApp, rAppF, rCall, rPar, rNeg, rNot, rAnd, rOr, rChain, rLc, riSeq, rYes, rDrop, rFor, rApd, rExt, rgTup, rgCons, rgNil, rgSub, rIsiX, riRng1, riRng2, slot_z, slot_s, set_z, set_s, at0, at1, at2, at3, at4, at5, at6, dX_c, dX_n, gIx_tup, gIx_lst, gEq_ii, gEq_ss, gNe_ii, gNe_ss, gAdd_ii, gSub_ii, gLt_ii, gLe_ii, gGt_ii, gGe_ii, gIsN_d, gLen_l, gMax_ii, gMin_ii, gInt_b, gInt_i, gAbs_i, gApd_last, isLst_last, boX_b, tru_l, fzL_dX, fzL_n, fzL_cd, Option.map_some, fz_d, pk_d, ifS_some, hd_int, hd_str, hd_bool, hd_none, hd_list, hd_tuple, wipeX, List.map_cons, List.map_nil, List.length_cons, List.length_nil, List.replicate_succ, List.replicate_zero, List.cons_append, List.nil_append, List.append_nil, decide_eq_true_eq, if_true, if_false, Nat.reduceAdd, Nat.reduceSub, Nat.reduceLeDiff, Nat.zero_add, Nat.sub_zero, gAny_f]
    exact h1 rfl
  simp only [startX, rAsg, rgName, rVar, rC, rBin, rD, rCl, rFz, rTb, rTr, rIf, rIfS, rRet, rRetN, rNx, rCons, rNil, rTup, rTupC, rLst, rApp, rAppF, rCall, rPar, rNeg, rNot, rAnd, rOr, rChain, rLc, riSeq, rYes, rDrop, rFor, rApd, rExt, rgTup, rgCons, rgNil, rgSub, rIsiX, riRng1, riRng2, slot_z, slot_s, set_z, set_s, at0, at1, at2, at3, at4, at5, at6, dX_c, dX_n, gIx_tup, gIx_lst, gEq_ii, gEq_ss, gNe_ii, gNe_ss, gAdd_ii, gSub_ii, gLt_ii, gLe_ii, gGt_ii, gGe_ii, gIsN_d, gLen_l, gMax_ii, gMin_ii, gInt_b, gInt_i, gAbs_i, gApd_last, isLst_last, boX_b, tru_l, fzL_dX, fzL_n, fzL_cd, Option.map_some, fz_d, pk_d, ifS_some, hd_int, hd_str, hd_bool, hd_none, hd_list, hd_tuple, wipeX, List.map_cons, List.map_nil, List.length_cons, List.length_nil, List.replicate_succ, List.replicate_zero, List.cons_append, List.nil_append, List.append_nil, decide_eq_true_eq, if_true, if_false, Nat.reduceAdd, Nat.reduceSub, Nat.reduceLeDiff, Nat.zero_add, Nat.sub_zero, gAll_f]
  rw [show ((partsOf t).all fun p => (partsOf v).any fun o => covP ks p o) = dueV ks t v from rfl]
  refine seq_cut (fun σ1 M1 => σ1 = [some (.d (.list (sc.map .int))), some (.c 0), some (.d S), some (.d (thD v)), some (.d (thD t)), some (.d (.str kept)), some (.d (tdD td)), some (.d (.bool (dueV ks t v))), none, none, none, none, none, none, none, none] ∧ M1 = dM sc d) ?_ ?_
  · intro X hX
    cases td with
    | no z =>
      have e := due_no hr
      simp only [startX, rAsg, rgName, rVar, rC, rBin, rD, rCl, rFz, rTb, rTr, rIf, rIfS, rRet, rRetN, rNx, rCons, rNil, rTup, rTupC, rLst, rApp, rAppF, rCall, rPar, rNeg, rNot, rAnd, rOr, rChain, rLc, riSeq, rYes, rDrop, rFor, rApd, rExt, rgTup, rgCons, rgNil, rgSub, rIsiX, riRng1, riRng2, slot_z, slot_s, set_z, set_s, at0, at1, at2, at3, at4, at5, at6, dX_c, dX_n, gIx_tup, gIx_lst, gEq_ii, gEq_ss, gNe_ii, gNe_ss, gAdd_ii, gSub_ii, gLt_ii, gLe_ii, gGt_ii, gGe_ii, gIsN_d, gLen_l, gMax_ii, gMin_ii, gInt_b, gInt_i, gAbs_i, gApd_last, isLst_last, boX_b, tru_l, fzL_dX, fzL_n, fzL_cd, Option.map_some, fz_d, pk_d, ifS_some, hd_int, hd_str, hd_bool, hd_none, hd_list, hd_tuple, wipeX, List.map_cons, List.map_nil, List.length_cons, List.length_nil, List.replicate_succ, List.replicate_zero, List.cons_append, List.nil_append, List.append_nil, decide_eq_true_eq, if_true, if_false, Nat.reduceAdd, Nat.reduceSub, Nat.reduceLeDiff, Nat.zero_add, Nat.sub_zero, tdD, isi_tt, gLen_t2, tru_b, e, Bool.not_true, Bool.false_eq_true, decide_true]
      refine ⟨s3, ?_⟩
      refine gRepr_d rp (by decide) (by decide) rfl ?_
      simp only [startX, rAsg, rgName, rVar, rC, rBin, rD, rCl, rFz, rTb, rTr, rIf, rIfS, rRet, rRetN, rNx, rCons, rNil, rTup, rTupC, rLst, rApp, rAppF, rCall, rPar, rNeg, rNot, rAnd, rOr, rChain, rLc, riSeq, rYes, rDrop, rFor, rApd, rExt, rgTup, rgCons, rgNil, rgSub, rIsiX, riRng1, riRng2, slot_z, slot_s, set_z, set_s, at0, at1, at2, at3, at4, at5, at6, dX_c, dX_n, gIx_tup, gIx_lst, gEq_ii, gEq_ss, gNe_ii, gNe_ss, gAdd_ii, gSub_ii, gLt_ii, gLe_ii, gGt_ii, gGe_ii, gIsN_d, gLen_l, gMax_ii, gMin_ii, gInt_b, gInt_i, gAbs_i, gApd_last, isLst_last, boX_b, tru_l, fzL_dX, fzL_n, fzL_cd, Option.map_some, fz_d, pk_d, ifS_some, hd_int, hd_str, hd_bool, hd_none, hd_list, hd_tuple, wipeX, List.map_cons, List.map_nil, List.length_cons, List.length_nil, List.replicate_succ, List.replicate_zero, List.cons_append, List.nil_append, List.append_nil, decide_eq_true_eq, if_true, if_false, Nat.reduceAdd, Nat.reduceSub, Nat.reduceLeDiff, Nat.zero_add, Nat.sub_zero, hkept, decide_true, Bool.not_true, Bool.false_eq_true]
      exact hX _ _ ⟨by rw [e]; rfl, rfl⟩
    | cov ps =>
      have e := due_cov hr
      simp only [startX, rAsg, rgName, rVar, rC, rBin, rD, rCl, rFz, rTb, rTr, rIf, rIfS, rRet, rRetN, rNx, rCons, rNil, rTup, rTupC, rLst, rApp, rAppF, rCall, rPar, rNeg, rNot, rAnd, rOr, rChain, rLc, riSeq, rYes, rDrop, rFor, rApd, rExt, rgTup, rgCons, rgNil, rgSub, rIsiX, riRng1, riRng2, slot_z, slot_s, set_z, set_s, at0, at1, at2, at3, at4, at5, at6, dX_c, dX_n, gIx_tup, gIx_lst, gEq_ii, gEq_ss, gNe_ii, gNe_ss, gAdd_ii, gSub_ii, gLt_ii, gLe_ii, gGt_ii, gGe_ii, gIsN_d, gLen_l, gMax_ii, gMin_ii, gInt_b, gInt_i, gAbs_i, gApd_last, isLst_last, boX_b, tru_l, fzL_dX, fzL_n, fzL_cd, Option.map_some, fz_d, pk_d, ifS_some, hd_int, hd_str, hd_bool, hd_none, hd_list, hd_tuple, wipeX, List.map_cons, List.map_nil, List.length_cons, List.length_nil, List.replicate_succ, List.replicate_zero, List.cons_append, List.nil_append, List.append_nil, decide_eq_true_eq, if_true, if_false, Nat.reduceAdd, Nat.reduceSub, Nat.reduceLeDiff, Nat.zero_add, Nat.sub_zero, tdD, isi_tt, gLen_t2, tru_b, e, Bool.not_true, Bool.false_eq_true, decide_true]
      refine ⟨s3, ?_⟩
      refine gRepr_d rp (by decide) (by decide) rfl ?_
      simp only [startX, rAsg, rgName, rVar, rC, rBin, rD, rCl, rFz, rTb, rTr, rIf, rIfS, rRet, rRetN, rNx, rCons, rNil, rTup, rTupC, rLst, rApp, rAppF, rCall, rPar, rNeg, rNot, rAnd, rOr, rChain, rLc, riSeq, rYes, rDrop, rFor, rApd, rExt, rgTup, rgCons, rgNil, rgSub, rIsiX, riRng1, riRng2, slot_z, slot_s, set_z, set_s, at0, at1, at2, at3, at4, at5, at6, dX_c, dX_n, gIx_tup, gIx_lst, gEq_ii, gEq_ss, gNe_ii, gNe_ss, gAdd_ii, gSub_ii, gLt_ii, gLe_ii, gGt_ii, gGe_ii, gIsN_d, gLen_l, gMax_ii, gMin_ii, gInt_b, gInt_i, gAbs_i, gApd_last, isLst_last, boX_b, tru_l, fzL_dX, fzL_n, fzL_cd, Option.map_some, fz_d, pk_d, ifS_some, hd_int, hd_str, hd_bool, hd_none, hd_list, hd_tuple, wipeX, List.map_cons, List.map_nil, List.length_cons, List.length_nil, List.replicate_succ, List.replicate_zero, List.cons_append, List.nil_append, List.append_nil, decide_eq_true_eq, if_true, if_false, Nat.reduceAdd, Nat.reduceSub, Nat.reduceLeDiff, Nat.zero_add, Nat.sub_zero, hkept, decide_true, Bool.not_true, Bool.false_eq_true]
      exact hX _ _ ⟨by rw [e]; rfl, rfl⟩
  rintro _ _ ⟨rfl, rfl⟩
  refine seq_cut (fun σ1 M1 => σ1 = [some (.d (.list (sc.map .int))), some (.c 0), some (.d S), some (.d (thD v)), some (.d (thD t)), some (.d (.str kept)), some (.d (tdD td)), some (.d (.bool (dueV ks t v))), none, none, none, none, none, none, none, none] ∧ M1 = dM sc d) ?_ ?_
  · intro X hX
    have hF : ∀ (P : Xv → Sto → Prop), P (.d .none) (dM sc d) → pfD pd_fault [.d S, .d (thD t), .d (thD v), .d (tdD td)] (dM sc d) P := fun P q => u_fault I g gt gw tok (by rw [f0]; exact q)
    cases td with
    | no z =>
      have e := due_no hr
      simp only [startX, rAsg, rgName, rVar, rC, rBin, rD, rCl, rFz, rTb, rTr, rIf, rIfS, rRet, rRetN, rNx, rCons, rNil, rTup, rTupC, rLst, rApp, rAppF, rCall, rPar, rNeg, rNot, rAnd, rOr, rChain, rLc, riSeq, rYes, rDrop, rFor, rApd, rExt, rgTup, rgCons, rgNil, rgSub, rIsiX, riRng1, riRng2, slot_z, slot_s, set_z, set_s, at0, at1, at2, at3, at4, at5, at6, dX_c, dX_n, gIx_tup, gIx_lst, gEq_ii, gEq_ss, gNe_ii, gNe_ss, gAdd_ii, gSub_ii, gLt_ii, gLe_ii, gGt_ii, gGe_ii, gIsN_d, gLen_l, gMax_ii, gMin_ii, gInt_b, gInt_i, gAbs_i, gApd_last, isLst_last, boX_b, tru_l, fzL_dX, fzL_n, fzL_cd, Option.map_some, fz_d, pk_d, ifS_some, hd_int, hd_str, hd_bool, hd_none, hd_list, hd_tuple, wipeX, List.map_cons, List.map_nil, List.length_cons, List.length_nil, List.replicate_succ, List.replicate_zero, List.cons_append, List.nil_append, List.append_nil, decide_eq_true_eq, if_true, if_false, Nat.reduceAdd, Nat.reduceSub, Nat.reduceLeDiff, Nat.zero_add, Nat.sub_zero, tru_b, e, Bool.false_eq_true]
      refine hF _ ?_
      simp only [startX, rAsg, rgName, rVar, rC, rBin, rD, rCl, rFz, rTb, rTr, rIf, rIfS, rRet, rRetN, rNx, rCons, rNil, rTup, rTupC, rLst, rApp, rAppF, rCall, rPar, rNeg, rNot, rAnd, rOr, rChain, rLc, riSeq, rYes, rDrop, rFor, rApd, rExt, rgTup, rgCons, rgNil, rgSub, rIsiX, riRng1, riRng2, slot_z, slot_s, set_z, set_s, at0, at1, at2, at3, at4, at5, at6, dX_c, dX_n, gIx_tup, gIx_lst, gEq_ii, gEq_ss, gNe_ii, gNe_ss, gAdd_ii, gSub_ii, gLt_ii, gLe_ii, gGt_ii, gGe_ii, gIsN_d, gLen_l, gMax_ii, gMin_ii, gInt_b, gInt_i, gAbs_i, gApd_last, isLst_last, boX_b, tru_l, fzL_dX, fzL_n, fzL_cd, Option.map_some, fz_d, pk_d, ifS_some, hd_int, hd_str, hd_bool, hd_none, hd_list, hd_tuple, wipeX, List.map_cons, List.map_nil, List.length_cons, List.length_nil, List.replicate_succ, List.replicate_zero, List.cons_append, List.nil_append, List.append_nil, decide_eq_true_eq, if_true, if_false, Nat.reduceAdd, Nat.reduceSub, Nat.reduceLeDiff, Nat.zero_add, Nat.sub_zero, isN, Bool.xor_true, Bool.not_true, Bool.false_eq_true]
      exact hX _ _ ⟨by rw [e], rfl⟩
    | cov ps =>
      have e := due_cov hr
      simp only [startX, rAsg, rgName, rVar, rC, rBin, rD, rCl, rFz, rTb, rTr, rIf, rIfS, rRet, rRetN, rNx, rCons, rNil, rTup, rTupC, rLst, rApp, rAppF, rCall, rPar, rNeg, rNot, rAnd, rOr, rChain, rLc, riSeq, rYes, rDrop, rFor, rApd, rExt, rgTup, rgCons, rgNil, rgSub, rIsiX, riRng1, riRng2, slot_z, slot_s, set_z, set_s, at0, at1, at2, at3, at4, at5, at6, dX_c, dX_n, gIx_tup, gIx_lst, gEq_ii, gEq_ss, gNe_ii, gNe_ss, gAdd_ii, gSub_ii, gLt_ii, gLe_ii, gGt_ii, gGe_ii, gIsN_d, gLen_l, gMax_ii, gMin_ii, gInt_b, gInt_i, gAbs_i, gApd_last, isLst_last, boX_b, tru_l, fzL_dX, fzL_n, fzL_cd, Option.map_some, fz_d, pk_d, ifS_some, hd_int, hd_str, hd_bool, hd_none, hd_list, hd_tuple, wipeX, List.map_cons, List.map_nil, List.length_cons, List.length_nil, List.replicate_succ, List.replicate_zero, List.cons_append, List.nil_append, List.append_nil, decide_eq_true_eq, if_true, if_false, Nat.reduceAdd, Nat.reduceSub, Nat.reduceLeDiff, Nat.zero_add, Nat.sub_zero, tru_b, e, tdD, isi_ll, Bool.not_true, Bool.false_eq_true]
      refine hF _ ?_
      simp only [startX, rAsg, rgName, rVar, rC, rBin, rD, rCl, rFz, rTb, rTr, rIf, rIfS, rRet, rRetN, rNx, rCons, rNil, rTup, rTupC, rLst, rApp, rAppF, rCall, rPar, rNeg, rNot, rAnd, rOr, rChain, rLc, riSeq, rYes, rDrop, rFor, rApd, rExt, rgTup, rgCons, rgNil, rgSub, rIsiX, riRng1, riRng2, slot_z, slot_s, set_z, set_s, at0, at1, at2, at3, at4, at5, at6, dX_c, dX_n, gIx_tup, gIx_lst, gEq_ii, gEq_ss, gNe_ii, gNe_ss, gAdd_ii, gSub_ii, gLt_ii, gLe_ii, gGt_ii, gGe_ii, gIsN_d, gLen_l, gMax_ii, gMin_ii, gInt_b, gInt_i, gAbs_i, gApd_last, isLst_last, boX_b, tru_l, fzL_dX, fzL_n, fzL_cd, Option.map_some, fz_d, pk_d, ifS_some, hd_int, hd_str, hd_bool, hd_none, hd_list, hd_tuple, wipeX, List.map_cons, List.map_nil, List.length_cons, List.length_nil, List.replicate_succ, List.replicate_zero, List.cons_append, List.nil_append, List.append_nil, decide_eq_true_eq, if_true, if_false, Nat.reduceAdd, Nat.reduceSub, Nat.reduceLeDiff, Nat.zero_add, Nat.sub_zero, isN, Bool.xor_true, Bool.not_true, Bool.false_eq_true]
      exact hX _ _ ⟨by rw [e]; rfl, rfl⟩
  rintro _ _ ⟨rfl, rfl⟩
  refine seq_step ?_
  simp only [startX, rAsg, rgName, rVar, rC, rBin, rD, rCl, rFz, rTb, rTr, rIf, rIfS, rRet, rRetN, rNx, rCons, rNil, rTup, rTupC, rLst, rApp, rAppF, rCall, rPar, rNeg, rNot, rAnd, rOr, rChain, rLc, riSeq, rYes, rDrop, rFor, rApd, rExt, rgTup, rgCons, rgNil, rgSub, rIsiX, riRng1, riRng2, slot_z, slot_s, set_z, set_s, at0, at1, at2, at3, at4, at5, at6, dX_c, dX_n, gIx_tup, gIx_lst, gEq_ii, gEq_ss, gNe_ii, gNe_ss, gAdd_ii, gSub_ii, gLt_ii, gLe_ii, gGt_ii, gGe_ii, gIsN_d, gLen_l, gMax_ii, gMin_ii, gInt_b, gInt_i, gAbs_i, gApd_last, isLst_last, boX_b, tru_l, fzL_dX, fzL_n, fzL_cd, Option.map_some, fz_d, pk_d, ifS_some, hd_int, hd_str, hd_bool, hd_none, hd_list, hd_tuple, wipeX, List.map_cons, List.map_nil, List.length_cons, List.length_nil, List.replicate_succ, List.replicate_zero, List.cons_append, List.nil_append, List.append_nil, decide_eq_true_eq, if_true, if_false, Nat.reduceAdd, Nat.reduceSub, Nat.reduceLeDiff, Nat.zero_add, Nat.sub_zero]
  refine ⟨s1, ?_⟩
  refine ⟨by decide, by decide, ?_⟩
  refine lcW_inv (fun xs acc M => ∃ (m : Nat) (lo : Int) (tds : List Td) (d : D3), xs = rangeX lo m ∧ tds.length + m ≤ 4 ∧ acc = dX (tds.map tdD) ∧ (∀ z ∈ tds, TOk ks z) ∧ M = dM sc d ∧ DOk d) ?_ ?_ _ _ _ ⟨4, 0, [], d, rfl, by simp, rfl, (by intro x hx; cases hx), rfl, ok⟩
  · rintro x xs acc M ⟨m, lo, tds, d, e, ll, rfl, ht, rfl, ok⟩ C hC
    obtain ⟨m, rfl⟩ : ∃ n', m = n' + 1 := by
      cases m with
      | zero => cases e
      | succ n => exact ⟨n, rfl⟩
    rw [rangeX_succ] at e
    cases e
    refine ⟨trivial, ?_⟩
    simp only [startX, rAsg, rgName, rVar, rC, rBin, rD, rCl, rFz, rTb, rTr, rIf, rIfS, rRet, rRetN, rNx, rCons, rNil, rTup, rTupC, rLst, rApp, rAppF, rCall, rPar, rNeg, rNot, rAnd, rOr, rChain, rLc, riSeq, rYes, rDrop, rFor, rApd, rExt, rgTup, rgCons, rgNil, rgSub, rIsiX, riRng1, riRng2, slot_z, slot_s, set_z, set_s, at0, at1, at2, at3, at4, at5, at6, dX_c, dX_n, gIx_tup, gIx_lst, gEq_ii, gEq_ss, gNe_ii, gNe_ss, gAdd_ii, gSub_ii, gLt_ii, gLe_ii, gGt_ii, gGe_ii, gIsN_d, gLen_l, gMax_ii, gMin_ii, gInt_b, gInt_i, gAbs_i, gApd_last, isLst_last, boX_b, tru_l, fzL_dX, fzL_n, fzL_cd, Option.map_some, fz_d, pk_d, ifS_some, hd_int, hd_str, hd_bool, hd_none, hd_list, hd_tuple, wipeX, List.map_cons, List.map_nil, List.length_cons, List.length_nil, List.replicate_succ, List.replicate_zero, List.cons_append, List.nil_append, List.append_nil, decide_eq_true_eq, if_true, if_false, Nat.reduceAdd, Nat.reduceSub, Nat.reduceLeDiff, Nat.zero_add, Nat.sub_zero]
    refine u_bent ok I g kp0 gt tok t20 fun z d ok hz => ?_
    refine ⟨by rw [List.length_map, List.length_map, sizeLine_eq]; omega, hC _ _ ⟨m, lo + 1, tds ++ [z], d, rfl, by simp; omega, by simp [dX], fun q hq => ?_, rfl, ok⟩⟩
    rcases List.mem_append.mp hq with c | c
    · exact ht q c
    · rw [List.mem_singleton.mp c]; exact hz
  rintro acc M ⟨m, lo, tds, d, e, ll, rfl, ht, rfl, ok⟩
  refine ⟨trivial, ?_⟩
  simp only [startX, rAsg, rgName, rVar, rC, rBin, rD, rCl, rFz, rTb, rTr, rIf, rIfS, rRet, rRetN, rNx, rCons, rNil, rTup, rTupC, rLst, rApp, rAppF, rCall, rPar, rNeg, rNot, rAnd, rOr, rChain, rLc, riSeq, rYes, rDrop, rFor, rApd, rExt, rgTup, rgCons, rgNil, rgSub, rIsiX, riRng1, riRng2, slot_z, slot_s, set_z, set_s, at0, at1, at2, at3, at4, at5, at6, dX_c, dX_n, gIx_tup, gIx_lst, gEq_ii, gEq_ss, gNe_ii, gNe_ss, gAdd_ii, gSub_ii, gLt_ii, gLe_ii, gGt_ii, gGe_ii, gIsN_d, gLen_l, gMax_ii, gMin_ii, gInt_b, gInt_i, gAbs_i, gApd_last, isLst_last, boX_b, tru_l, fzL_dX, fzL_n, fzL_cd, Option.map_some, fz_d, pk_d, ifS_some, hd_int, hd_str, hd_bool, hd_none, hd_list, hd_tuple, wipeX, List.map_cons, List.map_nil, List.length_cons, List.length_nil, List.replicate_succ, List.replicate_zero, List.cons_append, List.nil_append, List.append_nil, decide_eq_true_eq, if_true, if_false, Nat.reduceAdd, Nat.reduceSub, Nat.reduceLeDiff, Nat.zero_add, Nat.sub_zero, gAdd_ll]
  refine ⟨small (by rw [List.length_map]; omega), ?_⟩
  obtain ⟨all, hall⟩ : ∃ all, td :: tds = all := ⟨_, rfl⟩
  have hok : ∀ z ∈ all, TOk ks z := fun z hz => by
    rw [← hall] at hz
    rcases List.mem_cons.mp hz with rfl | hz
    · exact tok
    · exact ht z hz
  have lall : all.length ≤ 5 ∧ 0 < all.length := by rw [← hall, List.length_cons]; omega
  rw [show tdD td :: tds.map tdD = all.map tdD by rw [← hall]; rfl]
  refine seq_step ?_
  simp only [startX, rAsg, rgName, rVar, rC, rBin, rD, rCl, rFz, rTb, rTr, rIf, rIfS, rRet, rRetN, rNx, rCons, rNil, rTup, rTupC, rLst, rApp, rAppF, rCall, rPar, rNeg, rNot, rAnd, rOr, rChain, rLc, riSeq, rYes, rDrop, rFor, rApd, rExt, rgTup, rgCons, rgNil, rgSub, rIsiX, riRng1, riRng2, slot_z, slot_s, set_z, set_s, at0, at1, at2, at3, at4, at5, at6, dX_c, dX_n, gIx_tup, gIx_lst, gEq_ii, gEq_ss, gNe_ii, gNe_ss, gAdd_ii, gSub_ii, gLt_ii, gLe_ii, gGt_ii, gGe_ii, gIsN_d, gLen_l, gMax_ii, gMin_ii, gInt_b, gInt_i, gAbs_i, gApd_last, isLst_last, boX_b, tru_l, fzL_dX, fzL_n, fzL_cd, Option.map_some, fz_d, pk_d, ifS_some, hd_int, hd_str, hd_bool, hd_none, hd_list, hd_tuple, wipeX, List.map_cons, List.map_nil, List.length_cons, List.length_nil, List.replicate_succ, List.replicate_zero, List.cons_append, List.nil_append, List.append_nil, decide_eq_true_eq, if_true, if_false, Nat.reduceAdd, Nat.reduceSub, Nat.reduceLeDiff, Nat.zero_add, Nat.sub_zero, gLen_l, List.length_map]
  refine u_dr0 ok (by omega) (by omega) fun st d ok st0 st1 => ?_
  refine seq_step ?_
  simp only [startX, rAsg, rgName, rVar, rC, rBin, rD, rCl, rFz, rTb, rTr, rIf, rIfS, rRet, rRetN, rNx, rCons, rNil, rTup, rTupC, rLst, rApp, rAppF, rCall, rPar, rNeg, rNot, rAnd, rOr, rChain, rLc, riSeq, rYes, rDrop, rFor, rApd, rExt, rgTup, rgCons, rgNil, rgSub, rIsiX, riRng1, riRng2, slot_z, slot_s, set_z, set_s, at0, at1, at2, at3, at4, at5, at6, dX_c, dX_n, gIx_tup, gIx_lst, gEq_ii, gEq_ss, gNe_ii, gNe_ss, gAdd_ii, gSub_ii, gLt_ii, gLe_ii, gGt_ii, gGe_ii, gIsN_d, gLen_l, gMax_ii, gMin_ii, gInt_b, gInt_i, gAbs_i, gApd_last, isLst_last, boX_b, tru_l, fzL_dX, fzL_n, fzL_cd, Option.map_some, fz_d, pk_d, ifS_some, hd_int, hd_str, hd_bool, hd_none, hd_list, hd_tuple, wipeX, List.map_cons, List.map_nil, List.length_cons, List.length_nil, List.replicate_succ, List.replicate_zero, List.cons_append, List.nil_append, List.append_nil, decide_eq_true_eq, if_true, if_false, Nat.reduceAdd, Nat.reduceSub, Nat.reduceLeDiff, Nat.zero_add, Nat.sub_zero, rSl, rPart, rNoP, gSl_l, gAdd_ll]
  have c1 := (cutX_sub all (some st) none).length_le
  have c2 := (cutX_sub all none (some st)).length_le
  refine ⟨small (by rw [List.length_map, List.length_map]; omega), ?_⟩
  rw [← List.map_append]
  have hok2 : ∀ z ∈ cutX all (some st) none ++ cutX all none (some st), TOk ks z := fun z hz => by
    rcases List.mem_append.mp hz with c | c
    · exact hok z ((cutX_sub _ _ _).subset c)
    · exact hok z ((cutX_sub _ _ _).subset c)
  generalize cutX all (some st) none ++ cutX all none (some st) = rot at hok2 ⊢
  try simp only [startX, rAsg, rgName, rVar, rC, rBin, rD, rCl, rFz, rTb, rTr, rIf, rIfS, rRet, rRetN, rNx, rCons, rNil, rTup, rTupC, rLst, rApp, rAppF, rCall, rPar, rNeg, rNot, rAnd, rOr, rChain, rLc, riSeq, rYes, rDrop, rFor, rApd, rExt, rgTup, rgCons, rgNil, rgSub, rIsiX, riRng1, riRng2, slot_z, slot_s, set_z, set_s, at0, at1, at2, at3, at4, at5, at6, dX_c, dX_n, gIx_tup, gIx_lst, gEq_ii, gEq_ss, gNe_ii, gNe_ss, gAdd_ii, gSub_ii, gLt_ii, gLe_ii, gGt_ii, gGe_ii, gIsN_d, gLen_l, gMax_ii, gMin_ii, gInt_b, gInt_i, gAbs_i, gApd_last, isLst_last, boX_b, tru_l, fzL_dX, fzL_n, fzL_cd, Option.map_some, fz_d, pk_d, ifS_some, hd_int, hd_str, hd_bool, hd_none, hd_list, hd_tuple, wipeX, List.map_cons, List.map_nil, List.length_cons, List.length_nil, List.replicate_succ, List.replicate_zero, List.cons_append, List.nil_append, List.append_nil, decide_eq_true_eq, if_true, if_false, Nat.reduceAdd, Nat.reduceSub, Nat.reduceLeDiff, Nat.zero_add, Nat.sub_zero, show (hdD (.list (rot.map tdD)) = .lst (dX (rot.map tdD))) from rfl]
  refine loopW_inv (fun xs σ M => ∃ (rest : List Td) (o13 o14 o15 : Option Xv), xs = dX (rest.map tdD) ∧ (∀ z ∈ rest, TOk ks z) ∧ M = dM sc d ∧
    σ = [some (.d (.list (sc.map .int))), some (.c 0), some (.d S), some (.d (thD v)), some (.d (thD t)), some (.d (.str kept)), some (.d (tdD td)), some (.d (.bool (dueV ks t v))), none, none, some (.d (.list (all.map tdD))), none, some (.d (.int st)), o13, o14, o15]) ?_ ?_ _ _ _
    ⟨rot, _, _, _, rfl, hok2, rfl, rfl⟩
  · rintro x xs σ M ⟨rest, o13, o14, o15, e, hr2, rfl, rfl⟩ C hC
    obtain ⟨z, rest, rfl⟩ : ∃ a r, rest = a :: r := by
      cases rest with
      | nil => cases e
      | cons a r => exact ⟨a, r, rfl⟩
    rw [List.map_cons, dX_c] at e
    cases e
    have hz := hr2 z List.mem_cons_self
    refine ⟨trivial, ?_⟩
    simp only [rgName, set_z, set_s]
    refine seq_step ?_
    simp only [startX, rAsg, rgName, rVar, rC, rBin, rD, rCl, rFz, rTb, rTr, rIf, rIfS, rRet, rRetN, rNx, rCons, rNil, rTup, rTupC, rLst, rApp, rAppF, rCall, rPar, rNeg, rNot, rAnd, rOr, rChain, rLc, riSeq, rYes, rDrop, rFor, rApd, rExt, rgTup, rgCons, rgNil, rgSub, rIsiX, riRng1, riRng2, slot_z, slot_s, set_z, set_s, at0, at1, at2, at3, at4, at5, at6, dX_c, dX_n, gIx_tup, gIx_lst, gEq_ii, gEq_ss, gNe_ii, gNe_ss, gAdd_ii, gSub_ii, gLt_ii, gLe_ii, gGt_ii, gGe_ii, gIsN_d, gLen_l, gMax_ii, gMin_ii, gInt_b, gInt_i, gAbs_i, gApd_last, isLst_last, boX_b, tru_l, fzL_dX, fzL_n, fzL_cd, Option.map_some, fz_d, pk_d, ifS_some, hd_int, hd_str, hd_bool, hd_none, hd_list, hd_tuple, wipeX, List.map_cons, List.map_nil, List.length_cons, List.length_nil, List.replicate_succ, List.replicate_zero, List.cons_append, List.nil_append, List.append_nil, decide_eq_true_eq, if_true, if_false, Nat.reduceAdd, Nat.reduceSub, Nat.reduceLeDiff, Nat.zero_add, Nat.sub_zero]
    refine u_fault I g gt gw hz ?_
    refine seq_step ?_
    simp only [startX, rAsg, rgName, rVar, rC, rBin, rD, rCl, rFz, rTb, rTr, rIf, rIfS, rRet, rRetN, rNx, rCons, rNil, rTup, rTupC, rLst, rApp, rAppF, rCall, rPar, rNeg, rNot, rAnd, rOr, rChain, rLc, riSeq, rYes, rDrop, rFor, rApd, rExt, rgTup, rgCons, rgNil, rgSub, rIsiX, riRng1, riRng2, slot_z, slot_s, set_z, set_s, at0, at1, at2, at3, at4, at5, at6, dX_c, dX_n, gIx_tup, gIx_lst, gEq_ii, gEq_ss, gNe_ii, gNe_ss, gAdd_ii, gSub_ii, gLt_ii, gLe_ii, gGt_ii, gGe_ii, gIsN_d, gLen_l, gMax_ii, gMin_ii, gInt_b, gInt_i, gAbs_i, gApd_last, isLst_last, boX_b, tru_l, fzL_dX, fzL_n, fzL_cd, Option.map_some, fz_d, pk_d, ifS_some, hd_int, hd_str, hd_bool, hd_none, hd_list, hd_tuple, wipeX, List.map_cons, List.map_nil, List.length_cons, List.length_nil, List.replicate_succ, List.replicate_zero, List.cons_append, List.nil_append, List.append_nil, decide_eq_true_eq, if_true, if_false, Nat.reduceAdd, Nat.reduceSub, Nat.reduceLeDiff, Nat.zero_add, Nat.sub_zero]
    refine u_fault I g gt gw hz ?_
    have sf := shaped_fault (ks := ks) (one := t) (other := v) z
    have fk := fault_kind (ks := ks) (one := t) (other := v) z
    generalize faultC ks t v z = F at sf fk ⊢
    rcases fk with rfl | ⟨ds, rfl⟩
    · simp only [startX, rAsg, rgName, rVar, rC, rBin, rD, rCl, rFz, rTb, rTr, rIf, rIfS, rRet, rRetN, rNx, rCons, rNil, rTup, rTupC, rLst, rApp, rAppF, rCall, rPar, rNeg, rNot, rAnd, rOr, rChain, rLc, riSeq, rYes, rDrop, rFor, rApd, rExt, rgTup, rgCons, rgNil, rgSub, rIsiX, riRng1, riRng2, slot_z, slot_s, set_z, set_s, at0, at1, at2, at3, at4, at5, at6, dX_c, dX_n, gIx_tup, gIx_lst, gEq_ii, gEq_ss, gNe_ii, gNe_ss, gAdd_ii, gSub_ii, gLt_ii, gLe_ii, gGt_ii, gGe_ii, gIsN_d, gLen_l, gMax_ii, gMin_ii, gInt_b, gInt_i, gAbs_i, gApd_last, isLst_last, boX_b, tru_l, fzL_dX, fzL_n, fzL_cd, Option.map_some, fz_d, pk_d, ifS_some, hd_int, hd_str, hd_bool, hd_none, hd_list, hd_tuple, wipeX, List.map_cons, List.map_nil, List.length_cons, List.length_nil, List.replicate_succ, List.replicate_zero, List.cons_append, List.nil_append, List.append_nil, decide_eq_true_eq, if_true, if_false, Nat.reduceAdd, Nat.reduceSub, Nat.reduceLeDiff, Nat.zero_add, Nat.sub_zero, isN, Bool.xor_true, Bool.xor_false, Bool.not_true, Bool.false_eq_true]
      exact hC _ _ ⟨rest, _, _, _, rfl, fun x hx => hr2 x (List.mem_cons_of_mem _ hx), rfl, rfl⟩
    · simp only [startX, rAsg, rgName, rVar, rC, rBin, rD, rCl, rFz, rTb, rTr, rIf, rIfS, rRet, rRetN, rNx, rCons, rNil, rTup, rTupC, rLst, rApp, rAppF, rCall, rPar, rNeg, rNot, rAnd, rOr, rChain, rLc, riSeq, rYes, rDrop, rFor, rApd, rExt, rgTup, rgCons, rgNil, rgSub, rIsiX, riRng1, riRng2, slot_z, slot_s, set_z, set_s, at0, at1, at2, at3, at4, at5, at6, dX_c, dX_n, gIx_tup, gIx_lst, gEq_ii, gEq_ss, gNe_ii, gNe_ss, gAdd_ii, gSub_ii, gLt_ii, gLe_ii, gGt_ii, gGe_ii, gIsN_d, gLen_l, gMax_ii, gMin_ii, gInt_b, gInt_i, gAbs_i, gApd_last, isLst_last, boX_b, tru_l, fzL_dX, fzL_n, fzL_cd, Option.map_some, fz_d, pk_d, ifS_some, hd_int, hd_str, hd_bool, hd_none, hd_list, hd_tuple, wipeX, List.map_cons, List.map_nil, List.length_cons, List.length_nil, List.replicate_succ, List.replicate_zero, List.cons_append, List.nil_append, List.append_nil, decide_eq_true_eq, if_true, if_false, Nat.reduceAdd, Nat.reduceSub, Nat.reduceLeDiff, Nat.zero_add, Nat.sub_zero, isN, isi_tt, tru_b, Bool.xor_true, Bool.xor_false, Bool.not_false, Bool.false_eq_true]
      rw [gEq_same sf]
      simp only [startX, rAsg, rgName, rVar, rC, rBin, rD, rCl, rFz, rTb, rTr, rIf, rIfS, rRet, rRetN, rNx, rCons, rNil, rTup, rTupC, rLst, rApp, rAppF, rCall, rPar, rNeg, rNot, rAnd, rOr, rChain, rLc, riSeq, rYes, rDrop, rFor, rApd, rExt, rgTup, rgCons, rgNil, rgSub, rIsiX, riRng1, riRng2, slot_z, slot_s, set_z, set_s, at0, at1, at2, at3, at4, at5, at6, dX_c, dX_n, gIx_tup, gIx_lst, gEq_ii, gEq_ss, gNe_ii, gNe_ss, gAdd_ii, gSub_ii, gLt_ii, gLe_ii, gGt_ii, gGe_ii, gIsN_d, gLen_l, gMax_ii, gMin_ii, gInt_b, gInt_i, gAbs_i, gApd_last, isLst_last, boX_b, tru_l, fzL_dX, fzL_n, fzL_cd, Option.map_some, fz_d, pk_d, ifS_some, hd_int, hd_str, hd_bool, hd_none, hd_list, hd_tuple, wipeX, List.map_cons, List.map_nil, List.length_cons, List.length_nil, List.replicate_succ, List.replicate_zero, List.cons_append, List.nil_append, List.append_nil, decide_eq_true_eq, if_true, if_false, Nat.reduceAdd, Nat.reduceSub, Nat.reduceLeDiff, Nat.zero_add, Nat.sub_zero, Bool.not_true, Bool.false_eq_true]
      exact hC _ _ ⟨rest, _, _, _, rfl, fun x hx => hr2 x (List.mem_cons_of_mem _ hx), rfl, rfl⟩
  · rintro σ M ⟨rest, o13, o14, o15, e, hr2, rfl, rfl⟩
    refine ⟨trivial, ?_⟩
    simp only [startX, rSeq, rAsg, rgName, rVar, rC, rBin, rD, rCl, rFz, rTb, rTr, rIf, rIfS, rRet, rRetN, rNx, rCons, rNil, rTup, rTupC, rLst, rApp, rAppF, rCall, rPar, rNeg, rNot, rAnd, rOr, rChain, rLc, riSeq, rYes, rDrop, rFor, rApd, rExt, rgTup, rgCons, rgNil, rgSub, rIsiX, riRng1, riRng2, slot_z, slot_s, set_z, set_s, at0, at1, at2, at3, at4, at5, at6, dX_c, dX_n, gIx_tup, gIx_lst, gEq_ii, gEq_ss, gNe_ii, gNe_ss, gAdd_ii, gSub_ii, gLt_ii, gLe_ii, gGt_ii, gGe_ii, gIsN_d, gLen_l, gMax_ii, gMin_ii, gInt_b, gInt_i, gAbs_i, gApd_last, isLst_last, boX_b, tru_l, fzL_dX, fzL_n, fzL_cd, Option.map_some, fz_d, pk_d, ifS_some, hd_int, hd_str, hd_bool, hd_none, hd_list, hd_tuple, wipeX, List.map_cons, List.map_nil, List.length_cons, List.length_nil, List.replicate_succ, List.replicate_zero, List.cons_append, List.nil_append, List.append_nil, decide_eq_true_eq, if_true, if_false, Nat.reduceAdd, Nat.reduceSub, Nat.reduceLeDiff, Nat.zero_add, Nat.sub_zero]
    refine ⟨s3, ?_⟩
    refine gRepr_d rp (by decide) (by decide) rfl ?_
    simp only [startX, rSeq, rAsg, rgName, rVar, rC, rBin, rD, rCl, rFz, rTb, rTr, rIf, rIfS, rRet, rRetN, rNx, rCons, rNil, rTup, rTupC, rLst, rApp, rAppF, rCall, rPar, rNeg, rNot, rAnd, rOr, rChain, rLc, riSeq, rYes, rDrop, rFor, rApd, rExt, rgTup, rgCons, rgNil, rgSub, rIsiX, riRng1, riRng2, slot_z, slot_s, set_z, set_s, at0, at1, at2, at3, at4, at5, at6, dX_c, dX_n, gIx_tup, gIx_lst, gEq_ii, gEq_ss, gNe_ii, gNe_ss, gAdd_ii, gSub_ii, gLt_ii, gLe_ii, gGt_ii, gGe_ii, gIsN_d, gLen_l, gMax_ii, gMin_ii, gInt_b, gInt_i, gAbs_i, gApd_last, isLst_last, boX_b, tru_l, fzL_dX, fzL_n, fzL_cd, Option.map_some, fz_d, pk_d, ifS_some, hd_int, hd_str, hd_bool, hd_none, hd_list, hd_tuple, wipeX, List.map_cons, List.map_nil, List.length_cons, List.length_nil, List.replicate_succ, List.replicate_zero, List.cons_append, List.nil_append, List.append_nil, decide_eq_true_eq, if_true, if_false, Nat.reduceAdd, Nat.reduceSub, Nat.reduceLeDiff, Nat.zero_add, Nat.sub_zero, hkept, decide_true]
    exact h _
end K11

set_option Elab.async false
set_option linter.all false
set_option maxRecDepth 100000
set_option maxHeartbeats 0
/-! The head, printed by genh.py. -/
namespace K11
open PySem PySem.Spec PyProof.Rows L2 G
def dd_is_kind : He.DefD := ⟨("is_kind", none), "is_kind", "is_kind", defArgs s_is_kind, defBody s_is_kind, defScope s_is_kind, [], []⟩
def dd_parts : He.DefD := ⟨("parts", none), "parts", "parts", defArgs s_parts, defBody s_parts, defScope s_parts, [], []⟩
def dd_meets_part : He.DefD := ⟨("meets_part", none), "meets_part", "meets_part", defArgs s_meets_part, defBody s_meets_part, defScope s_meets_part, [], []⟩
def dd_covers_part : He.DefD := ⟨("covers_part", none), "covers_part", "covers_part", defArgs s_covers_part, defBody s_covers_part, defScope s_covers_part, [], []⟩
def dd_meets : He.DefD := ⟨("meets", none), "meets", "meets", defArgs s_meets, defBody s_meets, defScope s_meets, [], []⟩
def dd_outside : He.DefD := ⟨("outside", none), "outside", "outside", defArgs s_outside, defBody s_outside, defScope s_outside, [], []⟩
def dd_covers : He.DefD := ⟨("covers", none), "covers", "covers", defArgs s_covers, defBody s_covers, defScope s_covers, [], []⟩
def dd_cover_fault : He.DefD := ⟨("cover_fault", none), "cover_fault", "cover_fault", defArgs s_cover_fault, defBody s_cover_fault, defScope s_cover_fault, [], []⟩
def dd__law_draws : He.DefD := ⟨("_law_draws", none), "_law_draws", "_law_draws", defArgs s__law_draws, defBody s__law_draws, defScope s__law_draws, [], []⟩
def dd__law_draw : He.DefD := ⟨("_law_draw", none), "_law_draw", "_law_draw", defArgs s__law_draw, defBody s__law_draw, defScope s__law_draw, [], []⟩
def dd__law_forest : He.DefD := ⟨("_law_forest", none), "_law_forest", "_law_forest", defArgs s__law_forest, defBody s__law_forest, defScope s__law_forest, [], []⟩
def dd__law_up : He.DefD := ⟨("_law_up", none), "_law_up", "_law_up", defArgs s__law_up, defBody s__law_up, defScope s__law_up, [], []⟩
def dd__law_kinds : He.DefD := ⟨("_law_kinds", none), "_law_kinds", "_law_kinds", defArgs s__law_kinds, defBody s__law_kinds, defScope s__law_kinds, [], []⟩
def dd__law_ranges : He.DefD := ⟨("_law_ranges", none), "_law_ranges", "_law_ranges", defArgs s__law_ranges, defBody s__law_ranges, defScope s__law_ranges, [], []⟩
def dd__law_part_met : He.DefD := ⟨("_law_part_met", none), "_law_part_met", "_law_part_met", defArgs s__law_part_met, defBody s__law_part_met, defScope s__law_part_met, [], []⟩
def dd__law_parts : He.DefD := ⟨("_law_parts", none), "_law_parts", "_law_parts", defArgs s__law_parts, defBody s__law_parts, defScope s__law_parts, [], []⟩
def dd__law_covered : He.DefD := ⟨("_law_covered", none), "_law_covered", "_law_covered", defArgs s__law_covered, defBody s__law_covered, defScope s__law_covered, [], []⟩
def dd__law_near : He.DefD := ⟨("_law_near", none), "_law_near", "_law_near", defArgs s__law_near, defBody s__law_near, defScope s__law_near, [], []⟩
def dd__law_met : He.DefD := ⟨("_law_met", none), "_law_met", "_law_met", defArgs s__law_met, defBody s__law_met, defScope s__law_met, [], []⟩
def dd__law_fault : He.DefD := ⟨("_law_fault", none), "_law_fault", "_law_fault", defArgs s__law_fault, defBody s__law_fault, defScope s__law_fault, [], []⟩
def dd__law_bent : He.DefD := ⟨("_law_bent", none), "_law_bent", "_law_bent", defArgs s__law_bent, defBody s__law_bent, defScope s__law_bent, [], []⟩
def dd_law : He.DefD := ⟨("law", none), "law", "law", defArgs s_law, defBody s_law, defScope s_law, [], []⟩
def dfs : List He.DefD := [dd_is_kind, dd_parts, dd_meets_part, dd_covers_part, dd_meets, dd_outside, dd_covers, dd_cover_fault, dd__law_draws, dd__law_draw, dd__law_forest, dd__law_up, dd__law_kinds, dd__law_ranges, dd__law_part_met, dd__law_parts, dd__law_covered, dd__law_near, dd__law_met, dd__law_fault, dd__law_bent, dd_law]
def fcs : List He.Fa := [.glo "is_kind", .glo "parts", .glo "meets_part", .glo "covers_part", .glo "meets", .glo "outside", .glo "covers", .glo "cover_fault", .glo "_law_draws", .glo "_law_draw", .glo "_law_forest", .glo "_law_up", .glo "_law_kinds", .glo "_law_ranges", .glo "_law_part_met", .glo "_law_parts", .glo "_law_covered", .glo "_law_near", .glo "_law_met", .glo "_law_fault", .glo "_law_bent", .glo "law", .free "all", .free "any", .free "dict", .free "enumerate", .free "int", .free "isinstance", .free "len", .free "list", .free "max", .free "min", .free "range", .free "repr", .free "set", .free "sorted", .free "tuple"]
def nm0 : List PySem.Str := ["is_kind", "parts", "meets_part", "covers_part", "meets", "outside", "covers", "cover_fault", "_law_draws", "_law_draw", "_law_forest", "_law_up", "_law_kinds", "_law_ranges", "_law_part_met", "_law_parts", "_law_covered", "_law_near", "_law_met", "_law_fault", "_law_bent"]
def nms : List PySem.Str := nm0
abbrev R : PySem.W.OpenRow := PySem.W.OpenLaw.row PySem.Challenge.rw_claimshold_k11_coverage
abbrev hk : PySem.W.Hook := He.hookD 4 fcs dfs
def ob (s : PySem.W.SharedT) : He.AlD := He.obsDG 4 fcs dfs (HandSHeadRun.getT s)
theorem ob_eq (s : PySem.W.SharedT) : ob s = hk.obs s.abs := He.obsDG_eq (HandSHeadRun.getT_eq s)
theorem run (w : World) : HandSHeadRun.RunEq R (PySem.W.view R.prog [23]) hk ob 3000 nms w := by
  intro os
  kernel_rfl
section
variable {K : PySem.W.Frag} {h base : Heap} {mg : Str → Option Value}
theorem do_is_kind (X : K.In h) (G : h.Ns mainGlobals mg) (c : He.SaysD fcs dfs K) : DefOk K mg "is_kind" ["state", "kind", "wide"] (defArgs s_is_kind) (defBody s_is_kind) (defScope s_is_kind) := by
  obtain ⟨fd, F⟩ := c.def_ 0 (d := dd_is_kind) rfl
  exact ⟨_, fd, He.glo_ok X G (c.fact 0 (f := .glo "is_kind") rfl), F, F.bindsN fun _ _ _ _ _ _ us hl => match us, hl with | [_, _, _], _ => rfl⟩
theorem do_parts (X : K.In h) (G : h.Ns mainGlobals mg) (c : He.SaysD fcs dfs K) : DefOk K mg "parts" ["wish"] (defArgs s_parts) (defBody s_parts) (defScope s_parts) := by
  obtain ⟨fd, F⟩ := c.def_ 1 (d := dd_parts) rfl
  exact ⟨_, fd, He.glo_ok X G (c.fact 1 (f := .glo "parts") rfl), F, F.bindsN fun _ _ _ _ _ _ us hl => match us, hl with | [_], _ => rfl⟩
theorem do_meets_part (X : K.In h) (G : h.Ns mainGlobals mg) (c : He.SaysD fcs dfs K) : DefOk K mg "meets_part" ["state", "thing", "part"] (defArgs s_meets_part) (defBody s_meets_part) (defScope s_meets_part) := by
  obtain ⟨fd, F⟩ := c.def_ 2 (d := dd_meets_part) rfl
  exact ⟨_, fd, He.glo_ok X G (c.fact 2 (f := .glo "meets_part") rfl), F, F.bindsN fun _ _ _ _ _ _ us hl => match us, hl with | [_, _, _], _ => rfl⟩
theorem do_covers_part (X : K.In h) (G : h.Ns mainGlobals mg) (c : He.SaysD fcs dfs K) : DefOk K mg "covers_part" ["state", "part", "other"] (defArgs s_covers_part) (defBody s_covers_part) (defScope s_covers_part) := by
  obtain ⟨fd, F⟩ := c.def_ 3 (d := dd_covers_part) rfl
  exact ⟨_, fd, He.glo_ok X G (c.fact 3 (f := .glo "covers_part") rfl), F, F.bindsN fun _ _ _ _ _ _ us hl => match us, hl with | [_, _, _], _ => rfl⟩
theorem do_meets (X : K.In h) (G : h.Ns mainGlobals mg) (c : He.SaysD fcs dfs K) : DefOk K mg "meets" ["state", "thing", "wish"] (defArgs s_meets) (defBody s_meets) (defScope s_meets) := by
  obtain ⟨fd, F⟩ := c.def_ 4 (d := dd_meets) rfl
  exact ⟨_, fd, He.glo_ok X G (c.fact 4 (f := .glo "meets") rfl), F, F.bindsN fun _ _ _ _ _ _ us hl => match us, hl with | [_, _, _], _ => rfl⟩
theorem do_outside (X : K.In h) (G : h.Ns mainGlobals mg) (c : He.SaysD fcs dfs K) : DefOk K mg "outside" ["wish", "part"] (defArgs s_outside) (defBody s_outside) (defScope s_outside) := by
  obtain ⟨fd, F⟩ := c.def_ 5 (d := dd_outside) rfl
  exact ⟨_, fd, He.glo_ok X G (c.fact 5 (f := .glo "outside") rfl), F, F.bindsN fun _ _ _ _ _ _ us hl => match us, hl with | [_, _], _ => rfl⟩
theorem do_covers (X : K.In h) (G : h.Ns mainGlobals mg) (c : He.SaysD fcs dfs K) : DefOk K mg "covers" ["state", "one", "other"] (defArgs s_covers) (defBody s_covers) (defScope s_covers) := by
  obtain ⟨fd, F⟩ := c.def_ 6 (d := dd_covers) rfl
  exact ⟨_, fd, He.glo_ok X G (c.fact 6 (f := .glo "covers") rfl), F, F.bindsN fun _ _ _ _ _ _ us hl => match us, hl with | [_, _, _], _ => rfl⟩
theorem do_cover_fault (X : K.In h) (G : h.Ns mainGlobals mg) (c : He.SaysD fcs dfs K) : DefOk K mg "cover_fault" ["state", "one", "other", "told"] (defArgs s_cover_fault) (defBody s_cover_fault) (defScope s_cover_fault) := by
  obtain ⟨fd, F⟩ := c.def_ 7 (d := dd_cover_fault) rfl
  exact ⟨_, fd, He.glo_ok X G (c.fact 7 (f := .glo "cover_fault") rfl), F, F.bindsN fun _ _ _ _ _ _ us hl => match us, hl with | [_, _, _, _], _ => rfl⟩
theorem do__law_draws (X : K.In h) (G : h.Ns mainGlobals mg) (c : He.SaysD fcs dfs K) : DefOk K mg "_law_draws" ["script"] (defArgs s__law_draws) (defBody s__law_draws) (defScope s__law_draws) := by
  obtain ⟨fd, F⟩ := c.def_ 8 (d := dd__law_draws) rfl
  exact ⟨_, fd, He.glo_ok X G (c.fact 8 (f := .glo "_law_draws") rfl), F, F.bindsN fun _ _ _ _ _ _ us hl => match us, hl with | [_], _ => rfl⟩
theorem do__law_draw (X : K.In h) (G : h.Ns mainGlobals mg) (c : He.SaysD fcs dfs K) : DefOk K mg "_law_draw" ["draws", "limit"] (defArgs s__law_draw) (defBody s__law_draw) (defScope s__law_draw) := by
  obtain ⟨fd, F⟩ := c.def_ 9 (d := dd__law_draw) rfl
  exact ⟨_, fd, He.glo_ok X G (c.fact 9 (f := .glo "_law_draw") rfl), F, F.bindsN fun _ _ _ _ _ _ us hl => match us, hl with | [_, _], _ => rfl⟩
theorem do__law_forest (X : K.In h) (G : h.Ns mainGlobals mg) (c : He.SaysD fcs dfs K) : DefOk K mg "_law_forest" ["draws"] (defArgs s__law_forest) (defBody s__law_forest) (defScope s__law_forest) := by
  obtain ⟨fd, F⟩ := c.def_ 10 (d := dd__law_forest) rfl
  exact ⟨_, fd, He.glo_ok X G (c.fact 10 (f := .glo "_law_forest") rfl), F, F.bindsN fun _ _ _ _ _ _ us hl => match us, hl with | [_], _ => rfl⟩
theorem do__law_up (X : K.In h) (G : h.Ns mainGlobals mg) (c : He.SaysD fcs dfs K) : DefOk K mg "_law_up" ["state", "name"] (defArgs s__law_up) (defBody s__law_up) (defScope s__law_up) := by
  obtain ⟨fd, F⟩ := c.def_ 11 (d := dd__law_up) rfl
  exact ⟨_, fd, He.glo_ok X G (c.fact 11 (f := .glo "_law_up") rfl), F, F.bindsN fun _ _ _ _ _ _ us hl => match us, hl with | [_, _], _ => rfl⟩
theorem do__law_kinds (X : K.In h) (G : h.Ns mainGlobals mg) (c : He.SaysD fcs dfs K) : DefOk K mg "_law_kinds" ["draws", "state"] (defArgs s__law_kinds) (defBody s__law_kinds) (defScope s__law_kinds) := by
  obtain ⟨fd, F⟩ := c.def_ 12 (d := dd__law_kinds) rfl
  exact ⟨_, fd, He.glo_ok X G (c.fact 12 (f := .glo "_law_kinds") rfl), F, F.bindsN fun _ _ _ _ _ _ us hl => match us, hl with | [_, _], _ => rfl⟩
theorem do__law_ranges (X : K.In h) (G : h.Ns mainGlobals mg) (c : He.SaysD fcs dfs K) : DefOk K mg "_law_ranges" ["draws"] (defArgs s__law_ranges) (defBody s__law_ranges) (defScope s__law_ranges) := by
  obtain ⟨fd, F⟩ := c.def_ 13 (d := dd__law_ranges) rfl
  exact ⟨_, fd, He.glo_ok X G (c.fact 13 (f := .glo "_law_ranges") rfl), F, F.bindsN fun _ _ _ _ _ _ us hl => match us, hl with | [_], _ => rfl⟩
theorem do__law_part_met (X : K.In h) (G : h.Ns mainGlobals mg) (c : He.SaysD fcs dfs K) : DefOk K mg "_law_part_met" ["state", "thing", "part"] (defArgs s__law_part_met) (defBody s__law_part_met) (defScope s__law_part_met) := by
  obtain ⟨fd, F⟩ := c.def_ 14 (d := dd__law_part_met) rfl
  exact ⟨_, fd, He.glo_ok X G (c.fact 14 (f := .glo "_law_part_met") rfl), F, F.bindsN fun _ _ _ _ _ _ us hl => match us, hl with | [_, _, _], _ => rfl⟩
theorem do__law_parts (X : K.In h) (G : h.Ns mainGlobals mg) (c : He.SaysD fcs dfs K) : DefOk K mg "_law_parts" ["wish"] (defArgs s__law_parts) (defBody s__law_parts) (defScope s__law_parts) := by
  obtain ⟨fd, F⟩ := c.def_ 15 (d := dd__law_parts) rfl
  exact ⟨_, fd, He.glo_ok X G (c.fact 15 (f := .glo "_law_parts") rfl), F, F.bindsN fun _ _ _ _ _ _ us hl => match us, hl with | [_], _ => rfl⟩
theorem do__law_covered (X : K.In h) (G : h.Ns mainGlobals mg) (c : He.SaysD fcs dfs K) : DefOk K mg "_law_covered" ["state", "part", "other"] (defArgs s__law_covered) (defBody s__law_covered) (defScope s__law_covered) := by
  obtain ⟨fd, F⟩ := c.def_ 16 (d := dd__law_covered) rfl
  exact ⟨_, fd, He.glo_ok X G (c.fact 16 (f := .glo "_law_covered") rfl), F, F.bindsN fun _ _ _ _ _ _ us hl => match us, hl with | [_, _, _], _ => rfl⟩
theorem do__law_near (X : K.In h) (G : h.Ns mainGlobals mg) (c : He.SaysD fcs dfs K) : DefOk K mg "_law_near" ["draws", "state", "wish"] (defArgs s__law_near) (defBody s__law_near) (defScope s__law_near) := by
  obtain ⟨fd, F⟩ := c.def_ 17 (d := dd__law_near) rfl
  exact ⟨_, fd, He.glo_ok X G (c.fact 17 (f := .glo "_law_near") rfl), F, F.bindsN fun _ _ _ _ _ _ us hl => match us, hl with | [_, _, _], _ => rfl⟩
theorem do__law_met (X : K.In h) (G : h.Ns mainGlobals mg) (c : He.SaysD fcs dfs K) : DefOk K mg "_law_met" ["state", "thing", "wish"] (defArgs s__law_met) (defBody s__law_met) (defScope s__law_met) := by
  obtain ⟨fd, F⟩ := c.def_ 18 (d := dd__law_met) rfl
  exact ⟨_, fd, He.glo_ok X G (c.fact 18 (f := .glo "_law_met") rfl), F, F.bindsN fun _ _ _ _ _ _ us hl => match us, hl with | [_, _, _], _ => rfl⟩
theorem do__law_fault (X : K.In h) (G : h.Ns mainGlobals mg) (c : He.SaysD fcs dfs K) : DefOk K mg "_law_fault" ["state", "one", "other", "told"] (defArgs s__law_fault) (defBody s__law_fault) (defScope s__law_fault) := by
  obtain ⟨fd, F⟩ := c.def_ 19 (d := dd__law_fault) rfl
  exact ⟨_, fd, He.glo_ok X G (c.fact 19 (f := .glo "_law_fault") rfl), F, F.bindsN fun _ _ _ _ _ _ us hl => match us, hl with | [_, _, _, _], _ => rfl⟩
theorem do__law_bent (X : K.In h) (G : h.Ns mainGlobals mg) (c : He.SaysD fcs dfs K) : DefOk K mg "_law_bent" ["draws", "state", "one", "other", "told"] (defArgs s__law_bent) (defBody s__law_bent) (defScope s__law_bent) := by
  obtain ⟨fd, F⟩ := c.def_ 20 (d := dd__law_bent) rfl
  exact ⟨_, fd, He.glo_ok X G (c.fact 20 (f := .glo "_law_bent") rfl), F, F.bindsN fun _ _ _ _ _ _ us hl => match us, hl with | [_, _, _, _, _], _ => rfl⟩
theorem do_law (X : K.In h) (G : h.Ns mainGlobals mg) (c : He.SaysD fcs dfs K) : DefOk K mg "law" ["script"] (defArgs s_law) (defBody s_law) (defScope s_law) := by
  obtain ⟨fd, F⟩ := c.def_ 21 (d := dd_law) rfl
  exact ⟨_, fd, He.glo_ok X G (c.fact 21 (f := .glo "law") rfl), F, F.bindsN fun _ _ _ _ _ _ us hl => match us, hl with | [_], _ => rfl⟩
theorem fx (X : K.In h) (G : h.Ns mainGlobals mg) (c : He.SaysD fcs dfs K) (hs : ∃ m, base.Ns sysModules m) : Fx K mg base := ⟨He.free_ok X G (c.fact 22 (f := .free "all") rfl), He.free_ok X G (c.fact 23 (f := .free "any") rfl), He.free_ok X G (c.fact 24 (f := .free "dict") rfl), He.free_ok X G (c.fact 25 (f := .free "enumerate") rfl), He.free_ok X G (c.fact 26 (f := .free "int") rfl), He.free_ok X G (c.fact 27 (f := .free "isinstance") rfl), He.free_ok X G (c.fact 28 (f := .free "len") rfl), He.free_ok X G (c.fact 29 (f := .free "list") rfl), He.free_ok X G (c.fact 30 (f := .free "max") rfl), He.free_ok X G (c.fact 31 (f := .free "min") rfl), He.free_ok X G (c.fact 32 (f := .free "range") rfl), He.free_ok X G (c.fact 33 (f := .free "repr") rfl), He.free_ok X G (c.fact 34 (f := .free "set") rfl), He.free_ok X G (c.fact 35 (f := .free "sorted") rfl), He.free_ok X G (c.fact 36 (f := .free "tuple") rfl), hs⟩
end
section
variable {P : Program} {w : World} {K : PySem.W.Frag} {h base : Heap} {mg : Str → Option Value}
theorem law_cal (X : K.In h) (G : h.Ns mainGlobals mg) (c : He.SaysD fcs dfs K) (hs : ∃ m, base.Ns sysModules m) : Cal P w K mg base 5 "law" ["script"] (pfLaw 63) := by
  have Z := fx (base := base) X G c hs
  have c_isk := ok_is_kind (P := P) (w := w) (do_is_kind X G c) Z
  have c_up := ok_up (P := P) (w := w) (do__law_up X G c) Z
  have c_parts := ok_parts (P := P) (w := w) (do_parts X G c) Z
  have c_lparts := ok_lparts (P := P) (w := w) (do__law_parts X G c) Z
  have c_met := ok_met (do_meets_part X G c) Z c_isk
  have c_lmet := ok_lmet (do__law_part_met X G c) Z c_up
  have c_meets := ok_meets (do_meets X G c) Z (c_parts.mono (by decide)) c_met
  have c_lmeets := ok_lmeets (do__law_met X G c) Z (c_lparts.mono (by decide)) c_lmet
  have c_cov := ok_cov (do_covers_part X G c) Z c_isk
  have c_lcov := ok_lcov (do__law_covered X G c) Z c_up
  have c_out := ok_out (P := P) (w := w) (do_outside X G c) Z
  have c_covers := ok_covers (do_covers X G c) Z (c_parts.mono (by decide)) c_cov (c_out.mono (by decide))
  have c_fault := ok_fault (do_cover_fault X G c) Z c_meets (c_parts.mono (by decide)) (c_cov.mono (by decide))
  have c_lfault := ok_lfault (do__law_fault X G c) Z c_lmeets (c_lparts.mono (by decide)) (c_lcov.mono (by decide))
  have c_drs := ok_draws (P := P) (w := w) (do__law_draws X G c) Z
  have c_dr := ok_draw (P := P) (w := w) (do__law_draw X G c) Z
  have c_for := ok_for (do__law_forest X G c) Z c_dr
  have c_kinds := ok_kinds (do__law_kinds X G c) Z c_dr
  have c_rgs := ok_rgs (do__law_ranges X G c) Z c_dr
  have c_near := ok_near (do__law_near X G c) Z c_up c_dr
  have c_bent := ok_bent (do__law_bent X G c) Z (c_dr.mono (by decide)) c_rgs c_kinds (c_lparts.mono (by decide))
  exact ok_law (do_law X G c) Z (c_drs.mono (by decide)) (c_for.mono (by decide)) (c_rgs.mono (by decide)) (c_kinds.mono (by decide)) (c_dr.mono (by decide)) (c_near.mono (by decide)) (c_covers.mono (by decide)) (c_lparts.mono (by decide)) (c_lcov.mono (by decide)) c_lfault (c_bent.mono (by decide)) c_fault
end

end K11
open PySem PySem.W PySem.Calls PyProof.Rows
theorem PySem.Challenge.cw_claimshold_k11_coverage_holds : PySem.Challenge.rw_claimshold_k11_coverage.Holds := by
  w_on; o_law
  refine HandSHeadRun.head_any (r := OpenLaw.row PySem.Challenge.rw_claimshold_k11_coverage) (q := view (OpenLaw.row PySem.Challenge.rw_claimshold_k11_coverage).prog [23]) (H := K11.hk) (ob := K11.ob) (M := 3000) (loose := K11.nms) (d := HandSHeadRun.topDef (OpenLaw.row PySem.Challenge.rw_claimshold_k11_coverage).prog 23) (kwd := []) K11.ob_eq
    (by kernel_rfl) (fun s => by kernel_rfl) K11.run (by kernel_rfl) (by kernel_rfl) (by kernel_rfl) (by rfl) (by first | assumption | decide +kernel) (by decide +kernel) ⟨rfl, rfl, rfl, rfl, rfl, by decide +kernel⟩ ?hw ?hc
  case hw => w_witness2
  case hc =>
    refine G.walk_G (l := PySem.Challenge.rw_claimshold_k11_coverage) (n := 63) (k := 5) (x := "script") rfl (by decide) (by kernel_rfl) ⟨rfl, by decide, by decide⟩ (by kernel_rfl) ?F
    intro w mg fa h Y G hmg0
    obtain ⟨K, KX, c⟩ := Y
    refine ⟨K, KX, fun base Kb Gb hs => ?_⟩
    have e : (HandSHeadRun.topDef (OpenLaw.row PySem.Challenge.rw_claimshold_k11_coverage).prog 23).name = ("law" : PySem.Str) := by kernel_rfl
    rw [e]
    exact K11.law_cal KX G c hs

