import PyProof.Rows.All
import Wide.All
import OpenK.AllK
import Wide.FinOn
import HandS.ForMost
import HandS.ForExc
import HandS.IsInst
import HandS.Style
import HandS.Deep
import HandS.Zip
import HandS.TupAny
import HandS.Conv
import HandS.Flow
import HandS.Text
import HandS.Remove
import HandS.CallSlots
import KE.SortData
import KE.DataCmp
import HandS.Head0
import HandS.Head1
import HandS.Head2
import HandS.HeadEnd
import HandS.HeadHook1
import HandS.TupSets
import KE.KeyNested
import KE.KDictKeyed
import HandS.ExcIs
import HandS.SetFor
import HandS.Strs
import KE.DataFind
import OpenK.KOps
import PySem.Challenge.RW_crosssums_k19_whole_cuts
set_option Elab.async false
set_option linter.all false
set_option maxRecDepth 100000
/-! # Z: a small certified language of pure Python data, over the hand layer -/
namespace Z
open PySem PySem.Spec PyProof.Rows L2

/-! ## data at a frozen part F of the abstract heap -/
mutual
def Dq (F : Hp) : PyData → V → Prop
  | .none, v => v = .non
  | .bool b, v => v = .bl b
  | .int i, v => v = .int i
  | .str x, v => v = .str x
  | .list ds, v => ∃ a vs, v = .ref a ∧ F a = some (.lst vs) ∧ DqL F ds vs
  | .tuple ds, v => ∃ a vs, v = .ref a ∧ F a = some (.tup vs) ∧ DqL F ds vs
  | .dict _, _ => False
def DqL (F : Hp) : List PyData → List V → Prop
  | [], vs => vs = []
  | d :: ds, vs => ∃ u us, vs = u :: us ∧ Dq F d u ∧ DqL F ds us
end
/-- more is frozen -/
def Sub (F F' : Hp) : Prop := ∀ a o, F a = some o → F' a = some o
theorem Sub.refl (F : Hp) : Sub F F := fun _ _ h => h
theorem Sub.trans {F G H : Hp} (a : Sub F G) (b : Sub G H) : Sub F H := fun x o h => b x o (a x o h)
mutual
theorem Dq.mono {F F' : Hp} (s : Sub F F') : ∀ (d : PyData) (v : V), Dq F d v → Dq F' d v
  | .none, _, h => by simpa [Dq] using h
  | .bool _, _, h => by simpa [Dq] using h
  | .int _, _, h => by simpa [Dq] using h
  | .str _, _, h => by simpa [Dq] using h
  | .list ds, v, h => by
    simp only [Dq] at h ⊢
    obtain ⟨a, vs, e, f, q⟩ := h
    exact ⟨a, vs, e, s _ _ f, DqL.mono s ds vs q⟩
  | .tuple ds, v, h => by
    simp only [Dq] at h ⊢
    obtain ⟨a, vs, e, f, q⟩ := h
    exact ⟨a, vs, e, s _ _ f, DqL.mono s ds vs q⟩
  | .dict _, _, h => by simpa [Dq] using h
theorem DqL.mono {F F' : Hp} (s : Sub F F') : ∀ (ds : List PyData) (vs : List V), DqL F ds vs → DqL F' ds vs
  | [], _, h => by simpa [DqL] using h
  | d :: ds, vs, h => by
    simp only [DqL] at h ⊢
    obtain ⟨u, us, e, q, r⟩ := h
    exact ⟨u, us, e, Dq.mono s d u q, DqL.mono s ds us r⟩
end
mutual
theorem Dq.dp {K : PySem.W.Frag} {F H : Hp} (s : Sub F H) : ∀ (d : PyData) (v : V), Dq F d v → Dp K H v d
  | .none, _, h => by
    simp only [Dq] at h; subst h; exact .non
  | .bool _, _, h => by
    simp only [Dq] at h; subst h; exact .bl _
  | .int _, _, h => by
    simp only [Dq] at h; subst h; exact .int _
  | .str _, _, h => by
    simp only [Dq] at h; subst h; exact .str _
  | .list ds, v, h => by
    simp only [Dq] at h
    obtain ⟨a, vs, e, f, q⟩ := h
    subst e
    exact .lst (SqL.of (s _ _ f)) (DqL.dp s ds vs q)
  | .tuple ds, v, h => by
    simp only [Dq] at h
    obtain ⟨a, vs, e, f, q⟩ := h
    subst e
    exact .tup (SqT.of (s _ _ f)) (DqL.dp s ds vs q)
  | .dict _, _, h => by simp [Dq] at h
theorem DqL.dp {K : PySem.W.Frag} {F H : Hp} (s : Sub F H) : ∀ (ds : List PyData) (vs : List V), DqL F ds vs → DpAll K H vs ds
  | [], _, h => by
    simp only [DqL] at h; subst h; exact .nil
  | d :: ds, vs, h => by
    simp only [DqL] at h
    obtain ⟨u, us, e, q, r⟩ := h
    subst e
    exact .cons (Dq.dp s d u q) (DqL.dp s ds us r)
end
section
variable {F : Hp}
theorem DqL.nil : DqL F [] [] := by simp [DqL]
theorem DqL.cons {d : PyData} {ds : List PyData} {v : V} {vs : List V} (h : Dq F d v) (t : DqL F ds vs) : DqL F (d :: ds) (v :: vs) := by
  simp only [DqL]
  exact ⟨v, vs, rfl, h, t⟩
theorem DqL.uncons {d : PyData} {ds : List PyData} {vs : List V} (h : DqL F (d :: ds) vs) : ∃ u us, vs = u :: us ∧ Dq F d u ∧ DqL F ds us := by
  simpa only [DqL] using h
theorem DqL.unnil {vs : List V} (h : DqL F [] vs) : vs = [] := by simpa only [DqL] using h
theorem DqL.len : ∀ {ds : List PyData} {vs : List V}, DqL F ds vs → vs.length = ds.length
  | [], _, h => by rw [h.unnil]; rfl
  | d :: ds, _, h => by
    obtain ⟨u, us, e, _, r⟩ := h.uncons
    rw [e, List.length_cons, List.length_cons, r.len]
theorem DqL.get : ∀ {ds : List PyData} {vs : List V} {i : Nat} {d : PyData}, DqL F ds vs → ds[i]? = some d → ∃ v, vs[i]? = some v ∧ Dq F d v
  | [], _, _, _, _, e => by simp at e
  | d :: ds, _, 0, x, h, e => by
    obtain ⟨u, us, rfl, q, _⟩ := h.uncons
    simp at e; subst e
    exact ⟨u, rfl, q⟩
  | d :: ds, _, i + 1, x, h, e => by
    obtain ⟨u, us, rfl, _, r⟩ := h.uncons
    obtain ⟨v, e1, q⟩ := DqL.get (i := i) r (by simpa using e)
    exact ⟨v, by simpa using e1, q⟩
theorem DqL.get' : ∀ {ds : List PyData} {vs : List V} {i : Nat} {v : V}, DqL F ds vs → vs[i]? = some v → ∃ d, ds[i]? = some d ∧ Dq F d v := fun {ds vs i v} h e => by
  have hl := h.len
  have hi : i < vs.length := (List.getElem?_eq_some_iff.mp e).1
  have hj : i < ds.length := by omega
  obtain ⟨v', e1, q⟩ := h.get (List.getElem?_eq_getElem hj)
  rw [e] at e1
  cases e1
  exact ⟨_, List.getElem?_eq_getElem hj, q⟩
theorem DqL.append : ∀ {ds es : List PyData} {vs us : List V}, DqL F ds vs → DqL F es us → DqL F (ds ++ es) (vs ++ us)
  | [], _, _, _, h, t => by rw [h.unnil]; exact t
  | d :: ds, _, _, _, h, t => by
    obtain ⟨u, us, rfl, q, r⟩ := h.uncons
    exact .cons q (r.append t)
theorem DqL.take : ∀ {ds : List PyData} {vs : List V} (n : Nat), DqL F ds vs → DqL F (ds.take n) (vs.take n)
  | _, _, 0, _ => by simpa using DqL.nil
  | [], _, n + 1, h => by rw [h.unnil]; simpa using DqL.nil
  | d :: ds, _, n + 1, h => by
    obtain ⟨u, us, rfl, q, r⟩ := h.uncons
    exact .cons q (r.take n)
theorem DqL.drop : ∀ {ds : List PyData} {vs : List V} (n : Nat), DqL F ds vs → DqL F (ds.drop n) (vs.drop n)
  | _, _, 0, h => by simpa using h
  | [], _, n + 1, h => by rw [h.unnil]; simpa using DqL.nil
  | d :: ds, _, n + 1, h => by
    obtain ⟨u, us, rfl, q, r⟩ := h.uncons
    simpa using r.drop n
theorem DqL.set {d : PyData} {v : V} (hd : Dq F d v) : ∀ {ds : List PyData} {vs : List V} (n : Nat), DqL F ds vs → DqL F (ds.set n d) (vs.set n v)
  | [], _, n, h => by rw [h.unnil]; simpa using DqL.nil
  | e :: ds, _, 0, h => by
    obtain ⟨u, us, rfl, q, r⟩ := h.uncons
    exact .cons hd r
  | e :: ds, _, n + 1, h => by
    obtain ⟨u, us, rfl, q, r⟩ := h.uncons
    exact .cons q (r.set hd n)
theorem DqL.reverse : ∀ {ds : List PyData} {vs : List V}, DqL F ds vs → DqL F ds.reverse vs.reverse
  | [], _, h => by rw [h.unnil]; simpa using DqL.nil
  | d :: ds, _, h => by
    obtain ⟨u, us, rfl, q, r⟩ := h.uncons
    rw [List.reverse_cons, List.reverse_cons]
    exact r.reverse.append (.cons q .nil)
theorem DqL.eraseIdx : ∀ {ds : List PyData} {vs : List V} (n : Nat), DqL F ds vs → DqL F (ds.eraseIdx n) (vs.eraseIdx n)
  | [], _, n, h => by rw [h.unnil]; simpa using DqL.nil
  | d :: ds, _, 0, h => by
    obtain ⟨u, us, rfl, q, r⟩ := h.uncons
    simpa using r
  | d :: ds, _, n + 1, h => by
    obtain ⟨u, us, rfl, q, r⟩ := h.uncons
    exact .cons q (r.eraseIdx n)
/-! ints in data -/
theorem DqL.ints : ∀ {ns : List Int} {vs : List V}, DqL F (ns.map PyData.int) vs → vs = ns.map V.int
  | [], _, h => by simpa using h.unnil
  | n :: ns, _, h => by
    obtain ⟨u, us, rfl, q, r⟩ := (show DqL F (PyData.int n :: ns.map PyData.int) _ from h).uncons
    simp only [Dq] at q
    subst q
    rw [r.ints]; rfl
theorem DqL.of_ints : ∀ (ns : List Int), DqL F (ns.map PyData.int) (ns.map V.int)
  | [] => .nil
  | n :: ns => .cons (by simp [Dq]) (DqL.of_ints ns)
theorem DqL.bls : ∀ {ns : List Bool} {vs : List V}, DqL F (ns.map PyData.bool) vs → vs = ns.map V.bl
  | [], _, h => by simpa using h.unnil
  | n :: ns, _, h => by
    obtain ⟨u, us, rfl, q, r⟩ := (show DqL F (PyData.bool n :: ns.map PyData.bool) _ from h).uncons
    simp only [Dq] at q
    subst q
    rw [r.bls]; rfl
theorem DqL.strs : ∀ {ns : List Str} {vs : List V}, DqL F (ns.map PyData.str) vs → vs = ns.map V.str
  | [], _, h => by simpa using h.unnil
  | n :: ns, _, h => by
    obtain ⟨u, us, rfl, q, r⟩ := (show DqL F (PyData.str n :: ns.map PyData.str) _ from h).uncons
    simp only [Dq] at q
    subst q
    rw [r.strs]; rfl
end
/-- the ints of data, if all are -/
def ints? : List PyData → Option (List Int)
  | [] => some []
  | .int i :: r => (ints? r).map (i :: ·)
  | _ => none
theorem ints?_eq : ∀ {ds : List PyData} {ns : List Int}, ints? ds = some ns → ds = ns.map PyData.int
  | [], ns, h => by simp [ints?] at h; subst h; rfl
  | .int i :: r, ns, h => by
    simp only [ints?, Option.map_eq_some_iff] at h
    obtain ⟨ms, e, rfl⟩ := h
    rw [ints?_eq e]; rfl
  | .none :: _, _, h => by simp [ints?] at h
  | .bool _ :: _, _, h => by simp [ints?] at h
  | .str _ :: _, _, h => by simp [ints?] at h
  | .list _ :: _, _, h => by simp [ints?] at h
  | .tuple _ :: _, _, h => by simp [ints?] at h
  | .dict _ :: _, _, h => by simp [ints?] at h
theorem ints?_map : ∀ ns : List Int, ints? (ns.map PyData.int) = some ns
  | [] => rfl
  | n :: ns => by
    show (ints? (ns.map PyData.int)).map (n :: ·) = _
    rw [ints?_map ns]; rfl
def bools? : List PyData → Option (List Bool)
  | [] => some []
  | .bool i :: r => (bools? r).map (i :: ·)
  | _ => none
theorem bools?_eq : ∀ {ds : List PyData} {ns : List Bool}, bools? ds = some ns → ds = ns.map PyData.bool
  | [], ns, h => by simp [bools?] at h; subst h; rfl
  | .bool i :: r, ns, h => by
    simp only [bools?, Option.map_eq_some_iff] at h
    obtain ⟨ms, e, rfl⟩ := h
    rw [bools?_eq e]; rfl
  | .none :: _, _, h => by simp [bools?] at h
  | .int _ :: _, _, h => by simp [bools?] at h
  | .str _ :: _, _, h => by simp [bools?] at h
  | .list _ :: _, _, h => by simp [bools?] at h
  | .tuple _ :: _, _, h => by simp [bools?] at h
  | .dict _ :: _, _, h => by simp [bools?] at h
theorem bools?_map : ∀ ns : List Bool, bools? (ns.map PyData.bool) = some ns
  | [] => rfl
  | n :: ns => by
    show (bools? (ns.map PyData.bool)).map (n :: ·) = _
    rw [bools?_map ns]; rfl

/-! ## values, results -/
/-- a value: data; an exception of the n-th class, held; the n-th thing of the world; the script; any other thing -/
inductive D where
  | p (d : PyData) | exc (n : Nat) | obj (n : Nat) | scr (ns : List Int) | opq
inductive Res (W : Type) (α : Type) where
  | ok (a : α) (w : W) | exc (n : Nat) (w : W) | bad
/-- a slot: nothing, a value, a list of one's own, a list of lists of one's own -/
inductive Sl where
  | no | v (d : D) | own (xs : List PyData) | own2 (xss : List (List PyData))
abbrev Ev := List Sl

/-! ## the world that a def may change: by a key (its addresses) -/
structure WD (W : Type) where
  Key : Type
  rel : Key → W → Hp → Hp → Prop
  fp : Key → Addr → Prop
  hd : Key → Nat → Option Addr
  stab : ∀ k w F F' H H', rel k w F H → Sub F F' → (∀ a, fp k a → H' a = H a) → rel k w F' H'
/-- no world -/
def W0 : WD Unit where
  Key := Unit
  rel := fun _ _ _ _ => True
  fp := fun _ _ => False
  hd := fun _ _ => none
  stab := fun _ _ _ _ _ _ _ _ _ => trivial

/-- an exception object of the class C at a, held -/
def ExZ (C a : Addr) : HO := .ext fun h => ∃ (oe : Obj) (vs : Array Value), h.get? a = some oe ∧ Zc (.ref C) none oe ∧ oe.data = .fields vs

/-- where one stands -/
structure Cur {W : Type} (wd : WD W) where
  k : wd.Key
  F : Hp
  w : W
  H : Hp
section
variable {W : Type} {wd : WD W}
structure Ok (c : Cur wd) : Prop where
  fh : Sub c.F c.H
  wr : wd.rel c.k c.w c.F c.H
  wf : ∀ a, wd.fp c.k a → c.F a = none ∧ c.H a ≠ none
/-- from c one came to c' -/
structure Bs (c c' : Cur wd) : Prop where
  ok : Ok c'
  ff : Sub c.F c'.F
  hh : ∀ a o, ¬ wd.fp c.k a → c.H a = some o → c'.H a = some o
  fn : ∀ a, c'.F a ≠ none → c.F a ≠ none ∨ c.H a = none
  kh : ∀ n a, wd.hd c.k n = some a → wd.hd c'.k n = some a
  kf : ∀ a, wd.fp c'.k a → wd.fp c.k a ∨ c.H a = none
  kg : ∀ a, wd.fp c.k a → wd.fp c'.k a
theorem Bs.refl {c : Cur wd} (h : Ok c) : Bs c c := ⟨h, Sub.refl _, fun _ _ _ h => h, fun _ h => .inl h, fun _ _ h => h, fun _ h => .inl h, fun _ h => h⟩
theorem none_or {α : Type} (o : Option α) : o = none ∨ ∃ x, o = some x := by
  cases o with
  | none => exact .inl rfl
  | some x => exact .inr ⟨x, rfl⟩
theorem Bs.trans {c c1 c2 : Cur wd} (o : Ok c) (a : Bs c c1) (b : Bs c1 c2) : Bs c c2 where
  ok := b.ok
  ff := a.ff.trans b.ff
  hh := fun x u n h => by
    refine b.hh x u (fun z => ?_) (a.hh x u n h)
    rcases a.kf x z with z | z
    · exact n z
    · rw [h] at z; cases z
  fn := fun x h => by
    rcases b.fn x h with z | z
    · exact a.fn x z
    · rcases none_or (c.H x) with q | ⟨u, q⟩
      · exact .inr q
      · by_cases hx : wd.fp c.k x
        · exact absurd z (a.ok.wf x (a.kg x hx)).2
        · rw [a.hh x u hx q] at z; cases z
  kh := fun n x h => b.kh n x (a.kh n x h)
  kf := fun x h => by
    rcases b.kf x h with z | z
    · exact a.kf x z
    · rcases none_or (c.H x) with q | ⟨u, q⟩
      · exact .inr q
      · by_cases hx : wd.fp c.k x
        · exact .inl hx
        · rw [a.hh x u hx q] at z; cases z
  kg := fun x h => b.kg x (a.kg x h)
/-- what a value is -/
def Dv (cls : Nat → Addr) (K : PySem.W.Frag) (c : Cur wd) : D → V → Prop
  | .p d, v => Dq c.F d v
  | .exc n, v => ∃ a, v = .ref a ∧ c.F a = some (ExZ (cls n) a)
  | .obj n, v => ∃ a, v = .ref a ∧ wd.hd c.k n = some a
  | .scr ns, v => ∃ a, v = .ref a ∧ SqL K c.F a (ns.map V.int)
  | .opq, _ => True
theorem sqL_mono {K : PySem.W.Frag} {F F' : Hp} {a : Addr} {xs : List V} (s : Sub F F') (h : SqL K F a xs) : SqL K F' a xs := by
  rcases h with (h | ⟨o, h⟩) | h
  · exact .inl (.inl (s _ _ h))
  · exact .inl (.inr ⟨o, s _ _ h⟩)
  · exact .inr h
theorem Dv.mono {cls : Nat → Addr} {K : PySem.W.Frag} {c c' : Cur wd} (b : Bs c c') : ∀ {d : D} {v : V}, Dv cls K c d v → Dv cls K c' d v
  | .p d, v, h => Dq.mono b.ff d v h
  | .exc n, v, ⟨a, e, h⟩ => ⟨a, e, b.ff _ _ h⟩
  | .obj n, v, ⟨a, e, h⟩ => ⟨a, e, b.kh _ _ h⟩
  | .scr ns, v, ⟨a, e, h⟩ => ⟨a, e, sqL_mono b.ff h⟩
  | .opq, _, _ => trivial
/-- a new frozen object -/
def Cur.put (c : Cur wd) (p : Addr) (o : HO) : Cur wd := { c with F := upd c.F p o, H := upd c.H p o }
/-- a new object, one's own -/
def Cur.lay (c : Cur wd) (p : Addr) (o : HO) : Cur wd := { c with H := upd c.H p o }
theorem sub_upd {F H : Hp} {p : Addr} {o : HO} (s : Sub F H) : Sub (upd F p o) (upd H p o) := fun a u h => by
  by_cases e : a = p
  · subst e; rw [upd_same] at h ⊢; exact h
  · rw [upd_ne e] at h ⊢; exact s _ _ h
theorem sub_new {F : Hp} {p : Addr} {o : HO} (h : F p = none) : Sub F (upd F p o) := fun a u e => by
  rw [upd_ne (ne_of_none e h)]; exact e
theorem Ok.fnone {c : Cur wd} (k : Ok c) {p : Addr} (h : c.H p = none) : c.F p = none := by
  rcases none_or (c.F p) with q | ⟨u, q⟩
  · exact q
  · rw [k.fh _ _ q] at h; cases h
theorem Ok.nofp {c : Cur wd} (k : Ok c) {p : Addr} (h : c.H p = none) : ¬ wd.fp c.k p := fun z => (k.wf p z).2 h
theorem Bs.put {c : Cur wd} (k : Ok c) {p : Addr} (o : HO) (h : c.H p = none) : Bs c (c.put p o) where
  ok := ⟨sub_upd k.fh, wd.stab _ _ _ _ _ _ k.wr (sub_new (k.fnone h)) fun a ha => upd_ne (fun e => k.nofp h (e ▸ ha)), fun a ha => by
    have hne : a ≠ p := fun e => k.nofp h (e ▸ ha)
    show upd c.F p o a = none ∧ upd c.H p o a ≠ none
    rw [upd_ne hne, upd_ne hne]
    exact k.wf a ha⟩
  ff := sub_new (k.fnone h)
  hh := fun a u _ e => by
    show upd c.H p o a = some u
    rw [upd_ne (ne_of_none e h)]; exact e
  fn := fun a ha => by
    by_cases e : a = p
    · subst e; exact .inr h
    · refine .inl fun z => ha ?_
      show upd c.F p o a = none
      rw [upd_ne e]; exact z
  kh := fun _ _ h => h
  kf := fun _ h => .inl h
  kg := fun _ h => h
theorem Bs.lay {c : Cur wd} (k : Ok c) {p : Addr} (o : HO) (h : c.H p = none) : Bs c (c.lay p o) where
  ok := ⟨fun a u e => by
      show upd c.H p o a = some u
      rw [upd_ne (ne_of_none (k.fh _ _ e) h)]; exact k.fh _ _ e, wd.stab _ _ _ _ _ _ k.wr (Sub.refl _) fun a ha => upd_ne (fun e => k.nofp h (e ▸ ha)), fun a ha => by
    have hne : a ≠ p := fun e => k.nofp h (e ▸ ha)
    show c.F a = none ∧ upd c.H p o a ≠ none
    rw [upd_ne hne]
    exact k.wf a ha⟩
  ff := Sub.refl _
  hh := fun a u _ e => by
    show upd c.H p o a = some u
    rw [upd_ne (ne_of_none e h)]; exact e
  fn := fun _ ha => .inl ha
  kh := fun _ _ h => h
  kf := fun _ h => .inl h
  kg := fun _ h => h
end
end Z

set_option Elab.async false
set_option linter.all false
set_option maxRecDepth 100000
/-! # Z2: the slots, readings by functions, expressions -/
namespace Z
open PySem PySem.Spec PyProof.Rows L2

section
variable {W : Type} {wd : WD W}
/-- an address of one's own: not frozen, not the world's, new since the entry -/
def Fre (e c : Cur wd) (a : Addr) : Prop := c.F a = none ∧ ¬ wd.fp c.k a ∧ e.H a = none
def RowsAt (c : Cur wd) (xss : List (List PyData)) (as : List Addr) : Prop :=
  as.length = xss.length ∧ ∀ (j : Nat) b xs, as[j]? = some b → xss[j]? = some xs → ∃ vs, c.H b = some (.lst vs) ∧ DqL c.F xs vs
/-- what a slot says; A: the addresses that it owns -/
def SlI (cls : Nat → Addr) (K : PySem.W.Frag) (c : Cur wd) (A : List Addr) : Sl → Option (Option V) → Prop
  | .no, _ => A = []
  | .v d, o => A = [] ∧ ∃ u, o = some (some u) ∧ Dv cls K c d u
  | .own xs, o => ∃ a vs, A = [a] ∧ o = some (some (.ref a)) ∧ c.H a = some (.lst vs) ∧ DqL c.F xs vs
  | .own2 xss, o => ∃ a as, A = a :: as ∧ o = some (some (.ref a)) ∧ c.H a = some (.lst (as.map V.ref)) ∧ RowsAt c xss as
structure Rz (cls : Nat → Addr) (K : PySem.W.Frag) (e c : Cur wd) (δ : Ev) (σ : L2.St) : Prop where
  bs : Bs e c
  len : δ.length = σ.length
  ex : ∃ o : Nat → List Addr, (∀ i s, δ[i]? = some s → SlI cls K c (o i) s σ[i]?) ∧ (∀ i, δ[i]? = none → o i = []) ∧ (∀ i j a, a ∈ o i → a ∈ o j → i = j) ∧
    (∀ i, (o i).Nodup) ∧ ∀ i a, a ∈ o i → Fre e c a ∧ c.H a ≠ none
variable {cls : Nat → Addr} {K : PySem.W.Frag} {e c c' : Cur wd} {δ : Ev} {σ : L2.St}
theorem Fre.step (b : Bs c c') {a : Addr} (f : Fre e c a) (h : c.H a ≠ none) : Fre e c' a ∧ c'.H a = c.H a := by
  obtain ⟨f1, f2, f3⟩ := f
  obtain ⟨u, hu⟩ := (none_or (c.H a)).resolve_left h
  refine ⟨⟨?_, fun z => ?_, f3⟩, (b.hh a u f2 hu).trans hu.symm⟩
  · rcases none_or (c'.F a) with q | ⟨v, q⟩
    · exact q
    · rcases b.fn a (by rw [q]; exact fun z => by cases z) with z | z
      · exact absurd f1 z
      · exact absurd z h
  · rcases b.kf a z with z | z
    · exact f2 z
    · exact h z
theorem SlI.step (b : Bs c c') {A : List Addr} (hf : ∀ a ∈ A, c'.H a = c.H a) : ∀ {s : Sl} {o : Option (Option V)}, SlI cls K c A s o → SlI cls K c' A s o
  | .no, _, h => h
  | .v d, _, ⟨h, u, e1, q⟩ => ⟨h, u, e1, q.mono b⟩
  | .own xs, _, ⟨a, vs, h, e1, e2, q⟩ => by
    refine ⟨a, vs, h, e1, ?_, DqL.mono b.ff _ _ q⟩
    rw [hf a (by rw [h]; exact List.mem_cons_self)]; exact e2
  | .own2 xss, _, ⟨a, as, h, e1, e2, ⟨l, q⟩⟩ => by
    refine ⟨a, as, h, e1, ?_, l, fun j x xs h1 h2 => ?_⟩
    · rw [hf a (by rw [h]; exact List.mem_cons_self)]; exact e2
    · obtain ⟨vs, g1, g2⟩ := q j x xs h1 h2
      refine ⟨vs, ?_, DqL.mono b.ff _ _ g2⟩
      rw [hf x (by rw [h]; exact List.mem_cons_of_mem _ (List.mem_of_getElem? h1))]; exact g1
theorem Rz.ok (r : Rz cls K e c δ σ) : Ok c := r.bs.ok
theorem Rz.step (ke : Ok e) (r : Rz cls K e c δ σ) (b : Bs c c') : Rz cls K e c' δ σ := by
  obtain ⟨o, h1, h2, h3, h4, h5⟩ := r.ex
  refine ⟨r.bs.trans ke b, r.len, o, fun i s hs => (h1 i s hs).step b fun a ha => ((h5 i a ha).1.step b (h5 i a ha).2).2, h2, h3, h4, fun i a ha => ?_⟩
  obtain ⟨f1, f2⟩ := (h5 i a ha).1.step b (h5 i a ha).2
  exact ⟨f1, by rw [f2]; exact (h5 i a ha).2⟩
/-- at the entry: the slots hold values alone -/
theorem Rz.of_vals (ke : Ok e) (hl : δ.length = σ.length) (h : ∀ (i : Nat) (s : Sl), δ[i]? = some s → s = .no ∨ ∃ d u, s = .v d ∧ σ[i]? = some (some u) ∧ Dv cls K e d u) : Rz cls K e e δ σ :=
  ⟨Bs.refl ke, hl, fun _ => [], fun i s hs => by
    rcases h i s hs with rfl | ⟨d, u, rfl, e1, q⟩
    · rfl
    · exact ⟨rfl, u, e1, q⟩, fun _ _ => rfl, fun _ _ _ h _ => (by cases h), fun _ => List.nodup_nil, fun _ _ h => (by cases h)⟩
/-- a value is put into a slot -/
theorem Rz.put {i : Nat} {d : D} {u : V} (r : Rz cls K e c δ σ) (hi : i < δ.length) (q : Dv cls K c d u) : Rz cls K e c (δ.set i (.v d)) (σ.set i (some u)) := by
  obtain ⟨o, h1, h2, h3, h4, h5⟩ := r.ex
  have hl := r.len
  refine ⟨r.bs, by simpa using hl, fun j => if j = i then [] else o j, fun j s hs => ?_, fun j hj => ?_, fun j k a hj hk => ?_, fun j => ?_, fun j a ha => ?_⟩
  · by_cases e1 : j = i
    · subst e1
      rw [List.getElem?_set_self hi] at hs
      cases hs
      simp only [if_pos]
      exact ⟨rfl, u, by rw [List.getElem?_set_self (by omega)], q⟩
    · simp only [if_neg e1]
      rw [List.getElem?_set_ne (Ne.symm e1)] at hs ⊢
      exact h1 j s hs
  · by_cases e1 : j = i
    · simp only [if_pos e1]
    · simp only [if_neg e1]
      rw [List.getElem?_set_ne (Ne.symm e1)] at hj
      exact h2 j hj
  · dsimp only at hj hk
    by_cases e1 : j = i
    · rw [if_pos e1] at hj; cases hj
    · by_cases e2 : k = i
      · rw [if_pos e2] at hk; cases hk
      · rw [if_neg e1] at hj
        rw [if_neg e2] at hk
        exact h3 j k a hj hk
  · dsimp only
    by_cases e1 : j = i
    · rw [if_pos e1]; exact List.nodup_nil
    · rw [if_neg e1]; exact h4 j
  · dsimp only at ha
    by_cases e1 : j = i
    · rw [if_pos e1] at ha; cases ha
    · rw [if_neg e1] at ha; exact h5 j a ha
/-- a slot is forgotten -/
theorem Rz.drop {i : Nat} (r : Rz cls K e c δ σ) (o' : Option V) : Rz cls K e c (δ.set i .no) (σ.set i o') := by
  obtain ⟨o, h1, h2, h3, h4, h5⟩ := r.ex
  have hl := r.len
  refine ⟨r.bs, by simpa using hl, fun j => if j = i then [] else o j, fun j s hs => ?_, fun j hj => ?_, fun j k a hj hk => ?_, fun j => ?_, fun j a ha => ?_⟩
  · by_cases e1 : j = i
    · subst e1
      have hi : j < δ.length := by
        have := (List.getElem?_eq_some_iff.mp hs).1
        simpa using this
      rw [List.getElem?_set_self hi] at hs
      cases hs
      simp only [if_pos]
      rfl
    · simp only [if_neg e1]
      rw [List.getElem?_set_ne (Ne.symm e1)] at hs ⊢
      exact h1 j s hs
  · by_cases e1 : j = i
    · simp only [if_pos e1]
    · simp only [if_neg e1]
      rw [List.getElem?_set_ne (Ne.symm e1)] at hj
      exact h2 j hj
  · dsimp only at hj hk
    by_cases e1 : j = i
    · rw [if_pos e1] at hj; cases hj
    · by_cases e2 : k = i
      · rw [if_pos e2] at hk; cases hk
      · rw [if_neg e1] at hj
        rw [if_neg e2] at hk
        exact h3 j k a hj hk
  · dsimp only
    by_cases e1 : j = i
    · rw [if_pos e1]; exact List.nodup_nil
    · rw [if_neg e1]; exact h4 j
  · dsimp only at ha
    by_cases e1 : j = i
    · rw [if_pos e1] at ha; cases ha
    · rw [if_neg e1] at ha; exact h5 j a ha
end

/-! ## readings by functions -/
abbrev XF (W : Type) := Ev → W → Res W D
def Res.bind {W α β : Type} (r : Res W α) (f : α → W → Res W β) : Res W β := match r with
  | .ok a w => f a w
  | .exc n w => .exc n w
  | .bad => .bad
section
variable {W : Type} {wd : WD W}
/-- what is wanted behind an expression -/
def after (cls : Nat → Addr) (K : PySem.W.Frag) (c : Cur wd) (σ : L2.St) (Wx : WX) (r : Res W D) (Q : VK) : Prop := match r with
  | .ok d w' => ∀ u c', c'.w = w' → Bs c c' → Dv cls K c' d u → Q u c'.H
  | .exc n w' => ∀ c', c'.w = w' → Bs c c' → Wx (.ref (cls n)) none σ c'.H
  | .bad => False
def tS (cls : Nat → Addr) (K : PySem.W.Frag) (e : Cur wd) (Wx : WX) (f : XF W) : TE := fun σ H Q => ∃ c δ, c.H = H ∧ Rz cls K e c δ σ ∧ after cls K c σ Wx (f δ c.w) Q
/-- several values -/
def DvL (cls : Nat → Addr) (K : PySem.W.Frag) (c : Cur wd) : List D → List V → Prop
  | [], vs => vs = []
  | d :: ds, vs => ∃ u us, vs = u :: us ∧ Dv cls K c d u ∧ DvL cls K c ds us
def afterL (cls : Nat → Addr) (K : PySem.W.Frag) (c : Cur wd) (σ : L2.St) (Wx : WX) (r : Res W (List D)) (Q : List V → Hp → Prop) : Prop := match r with
  | .ok ds w' => ∀ us c', c'.w = w' → Bs c c' → DvL cls K c' ds us → Q us c'.H
  | .exc n w' => ∀ c', c'.w = w' → Bs c c' → Wx (.ref (cls n)) none σ c'.H
  | .bad => False
def tSL (cls : Nat → Addr) (K : PySem.W.Frag) (e : Cur wd) (Wx : WX) (f : Ev → W → Res W (List D)) : TA := fun σ H Q => ∃ c δ, c.H = H ∧ Rz cls K e c δ σ ∧ afterL cls K c σ Wx (f δ c.w) Q
def afterB (cls : Nat → Addr) (c : Cur wd) (σ : L2.St) (Wx : WX) (r : Res W Bool) (Q : Bool → Hp → Prop) : Prop := match r with
  | .ok b w' => ∀ c', c'.w = w' → Bs c c' → Q b c'.H
  | .exc n w' => ∀ c', c'.w = w' → Bs c c' → Wx (.ref (cls n)) none σ c'.H
  | .bad => False
def tSB (cls : Nat → Addr) (K : PySem.W.Frag) (e : Cur wd) (Wx : WX) (f : Ev → W → Res W Bool) : TT := fun σ H Q => ∃ c δ, c.H = H ∧ Rz cls K e c δ σ ∧ afterB cls c σ Wx (f δ c.w) Q
end
theorem pe_imp {X : Cx} {ex : Expr} {t t' : TE} (h : PE X ex t) (i : ∀ σ H Q, t' σ H Q → t σ H Q) : PE X ex t' := ⟨fun pins s σ H Q I q => h.run pins s σ H Q I (i σ H Q q)⟩
theorem pt_imp {X : Cx} {ex : Expr} {t t' : TT} (h : PT X ex t) (i : ∀ σ H Q, t' σ H Q → t σ H Q) : PT X ex t' := ⟨fun pins s σ H Q I q => h.run pins s σ H Q I (i σ H Q q)⟩
theorem pw_imp {X : Cx} {ex : Expr} {t t' : TT} (h : PW X ex t) (i : ∀ σ H Q, t' σ H Q → t σ H Q) : PW X ex t' := ⟨fun wh pins s σ H Q I q => h.run wh pins s σ H Q I (i σ H Q q)⟩
theorem pa_imp {X : Cx} {ex : List Expr} {t t' : TA} (h : PA X ex t) (i : ∀ σ H Q, t' σ H Q → t σ H Q) : PA X ex t' := ⟨fun pos pins s σ H Q I q => h.run pos pins s σ H Q I (i σ H Q q)⟩
theorem opR_imp {X : Cx} {f : Value → Value → Sem Value} {r r' : R2} (h : OpR X f r) (i : ∀ x y H Q, r' x y H Q → r x y H Q) : OpR X f r' := fun pins s σ H x y v u Q I rx ry q => h pins s σ H x y v u Q I rx ry (i x y H Q q)
theorem ixR_imp {X : Cx} {r r' : R2} (h : IxR X r) (i : ∀ x y H Q, r' x y H Q → r x y H Q) : IxR X r' := by
  intro b pins s σ H x y v u Q I rx ry hs q
  exact h b pins s σ H x y v u Q I rx ry hs (i _ _ _ _ q)
theorem callR_imp {X : Cx} {f : Value} {r r' : List V → Hp → VK → Prop} (h : CallR X f r) (i : ∀ x H Q, r' x H Q → r x H Q) : CallR X f r' := fun pins s σ H xs us Q I ru q => h pins s σ H xs us Q I ru (i xs H Q q)

section
variable {W : Type} {wd : WD W} {cls : Nat → Addr} {K : PySem.W.Frag} {e c c' : Cur wd} {δ : Ev} {σ : L2.St} {Wx : WX}
theorem DvL.mono (b : Bs c c') : ∀ {ds : List D} {vs : List V}, DvL cls K c ds vs → DvL cls K c' ds vs
  | [], _, h => h
  | _ :: _, _, ⟨u, us, h, q, t⟩ => ⟨u, us, h, q.mono b, DvL.mono b t⟩
/-- the walk of a part: its reading, then what goes on -/
theorem after_bind {r : Res W D} {f : D → W → Res W D} {Q : VK} (k : Ok c) (h : after cls K c σ Wx (r.bind f) Q) :
    after cls K c σ Wx r fun u H' => ∃ d c', c'.H = H' ∧ Bs c c' ∧ Dv cls K c' d u ∧ after cls K c' σ Wx (f d c'.w) Q := by
  cases r with
  | bad => exact h
  | exc n w' => exact h
  | ok d w' =>
    intro u c' hw b q
    refine ⟨d, c', rfl, b, q, ?_⟩
    have h' : after cls K c σ Wx (f d w') Q := h
    rw [hw]
    cases z : f d w' with
    | bad => rw [z] at h'; exact h'
    | exc n w2 => rw [z] at h'; exact fun c2 e2 b2 => h' c2 e2 (b.trans k b2)
    | ok d2 w2 => rw [z] at h'; exact fun u2 c2 e2 b2 q2 => h' u2 c2 e2 (b.trans k b2) q2
theorem after_mono {r : Res W D} {Q Q' : VK} (h : after cls K c σ Wx r Q) (i : ∀ u c', Bs c c' → Q u c'.H → Q' u c'.H) : after cls K c σ Wx r Q' := by
  cases r with
  | bad => exact h
  | exc n w' => exact h
  | ok d w' => exact fun u c' hw b q => i u c' b (h u c' hw b q)
theorem afterL_cons {r : Res W D} {f : D → W → Res W (List D)} {Q : List V → Hp → Prop} (k : Ok c) (h : afterL cls K c σ Wx (r.bind f) Q) :
    after cls K c σ Wx r fun u H' => ∃ d c', c'.H = H' ∧ Bs c c' ∧ Dv cls K c' d u ∧ afterL cls K c' σ Wx (f d c'.w) Q := by
  cases r with
  | bad => exact h
  | exc n w' => exact h
  | ok d w' =>
    intro u c' hw b q
    refine ⟨d, c', rfl, b, q, ?_⟩
    have h' : afterL cls K c σ Wx (f d w') Q := h
    rw [hw]
    cases z : f d w' with
    | bad => rw [z] at h'; exact h'
    | exc n w2 => rw [z] at h'; exact fun c2 e2 b2 => h' c2 e2 (b.trans k b2)
    | ok d2 w2 => rw [z] at h'; exact fun u2 c2 e2 b2 q2 => h' u2 c2 e2 (b.trans k b2) q2
theorem afterL_bind {r : Res W (List D)} {f : List D → W → Res W D} {Q : VK} (k : Ok c) (h : after cls K c σ Wx (r.bind f) Q) :
    afterL cls K c σ Wx r fun us H' => ∃ ds c', c'.H = H' ∧ Bs c c' ∧ DvL cls K c' ds us ∧ after cls K c' σ Wx (f ds c'.w) Q := by
  cases r with
  | bad => exact h
  | exc n w' => exact h
  | ok d w' =>
    intro u c' hw b q
    refine ⟨d, c', rfl, b, q, ?_⟩
    have h' : after cls K c σ Wx (f d w') Q := h
    rw [hw]
    cases z : f d w' with
    | bad => rw [z] at h'; exact h'
    | exc n w2 => rw [z] at h'; exact fun c2 e2 b2 => h' c2 e2 (b.trans k b2)
    | ok d2 w2 => rw [z] at h'; exact fun u2 c2 e2 b2 q2 => h' u2 c2 e2 (b.trans k b2) q2
theorem afterB_bind {r : Res W Bool} {f : Bool → W → Res W D} {Q : VK} (k : Ok c) (h : after cls K c σ Wx (r.bind f) Q) :
    afterB cls c σ Wx r fun x H' => ∃ c', c'.H = H' ∧ Bs c c' ∧ after cls K c' σ Wx (f x c'.w) Q := by
  cases r with
  | bad => exact h
  | exc n w' => exact h
  | ok d w' =>
    intro c' hw b
    refine ⟨c', rfl, b, ?_⟩
    have h' : after cls K c σ Wx (f d w') Q := h
    rw [hw]
    cases z : f d w' with
    | bad => rw [z] at h'; exact h'
    | exc n w2 => rw [z] at h'; exact fun c2 e2 b2 => h' c2 e2 (b.trans k b2)
    | ok d2 w2 => rw [z] at h'; exact fun u2 c2 e2 b2 q2 => h' u2 c2 e2 (b.trans k b2) q2
theorem afterB_bindB {r : Res W Bool} {f : Bool → W → Res W Bool} {Q : Bool → Hp → Prop} (k : Ok c) (h : afterB cls c σ Wx (r.bind f) Q) :
    afterB cls c σ Wx r fun x H' => ∃ c', c'.H = H' ∧ Bs c c' ∧ afterB cls c' σ Wx (f x c'.w) Q := by
  cases r with
  | bad => exact h
  | exc n w' => exact h
  | ok d w' =>
    intro c' hw b
    refine ⟨c', rfl, b, ?_⟩
    have h' : afterB cls c σ Wx (f d w') Q := h
    rw [hw]
    cases z : f d w' with
    | bad => rw [z] at h'; exact h'
    | exc n w2 => rw [z] at h'; exact fun c2 e2 b2 => h' c2 e2 (b.trans k b2)
    | ok d2 w2 => rw [z] at h'; exact fun c2 e2 b2 => h' c2 e2 (b.trans k b2)
theorem after_bindB {r : Res W D} {f : D → W → Res W Bool} {Q : Bool → Hp → Prop} (k : Ok c) (h : afterB cls c σ Wx (r.bind f) Q) :
    after cls K c σ Wx r fun u H' => ∃ d c', c'.H = H' ∧ Bs c c' ∧ Dv cls K c' d u ∧ afterB cls c' σ Wx (f d c'.w) Q := by
  cases r with
  | bad => exact h
  | exc n w' => exact h
  | ok d w' =>
    intro u c' hw b q
    refine ⟨d, c', rfl, b, q, ?_⟩
    have h' : afterB cls c σ Wx (f d w') Q := h
    rw [hw]
    cases z : f d w' with
    | bad => rw [z] at h'; exact h'
    | exc n w2 => rw [z] at h'; exact fun c2 e2 b2 => h' c2 e2 (b.trans k b2)
    | ok d2 w2 => rw [z] at h'; exact fun c2 e2 b2 => h' c2 e2 (b.trans k b2)
/-- into a reading by a function -/
theorem tS_mk {f : XF W} {Q : VK} (r : Rz cls K e c δ σ) (h : after cls K c σ Wx (f δ c.w) Q) : tS cls K e Wx f σ c.H Q := ⟨c, δ, rfl, r, h⟩
end

/-! ## names, constants -/
section
variable {X : Cx} {W : Type} {wd : WD W} {cls : Nat → Addr} {e : Cur wd} {Wx : WX} {ex a b : Expr} {pos : Pos}
def xVar (i : Nat) : XF W := fun δ w => match δ[i]? with
  | some (.v d) => .ok d w
  | _ => .bad
theorem s_var {i : Nat} (h : PE X ex (tVar i)) : PE X ex (tS cls X.K e Wx (xVar (W := W) i)) := pe_imp h fun σ H Q ⟨c, δ, eH, r, q⟩ => by
  obtain ⟨o, h1, _⟩ := r.ex
  unfold xVar at q
  cases z : δ[i]? with
  | none => rw [z] at q; exact q.elim
  | some s =>
    rw [z] at q
    cases s with
    | v d =>
      obtain ⟨_, u, e1, q1⟩ := h1 i _ z
      refine ⟨u, e1, ?_⟩
      rw [← eH]
      exact q u c rfl (Bs.refl r.ok) q1
    | no => exact q.elim
    | own _ => exact q.elim
    | own2 _ => exact q.elim
/-- the name in the i-th slot -/
theorem sv (i : Nat) {x : Str} {pos : Pos} (hN : X.N[i]? = some x := by rfl) (hv : Vis X.env.scope x := by first | exact Or.inl rfl | exact Or.inr (Or.inl rfl) | exact Or.inr (Or.inr rfl)) (hd : (x == ("__debug__" : Str)) = false := by decide)
    (hcd : (x == ("__classdict__" : Str)) = false := by decide) : PE X (.Name x pos) (tS cls X.K e Wx (xVar (W := W) i)) := s_var (pe_var hN hv hd hcd)
def xC (d : D) : XF W := fun _ w => .ok d w
theorem s_const {v : V} {d : D} (h : PE X ex (tC v)) (hd : ∀ c : Cur wd, Dv cls X.K c d v) : PE X ex (tS cls X.K e Wx (xC d)) := pe_imp h fun σ H Q ⟨c, δ, eH, r, q⟩ => by
  show Q v H
  rw [← eH]
  exact q v c rfl (Bs.refl r.ok) (hd c)
def xInt (i : Int) : XF W := xC (.p (.int i))
def xBl (b : Bool) : XF W := xC (.p (.bool b))
def xNon : XF W := xC (.p .none)
def xStr (x : Str) : XF W := xC (.p (.str x))
theorem s_int {i : Int} {j : Nat} {pos : Pos} : PE X (.Constant (.int i) j pos) (tS cls X.K e Wx (xInt (W := W) i)) := s_const pe_int fun _ => by show Dq _ _ _; simp [Dq]
theorem s_bl {b : Bool} {j : Nat} {pos : Pos} : PE X (.Constant (.bool b) j pos) (tS cls X.K e Wx (xBl (W := W) b)) := s_const pe_bl fun _ => by show Dq _ _ _; simp [Dq]
theorem s_non {j : Nat} {pos : Pos} : PE X (.Constant .none j pos) (tS cls X.K e Wx (xNon (W := W))) := s_const pe_non fun _ => by show Dq _ _ _; simp [Dq]
theorem s_str {x : Str} {j : Nat} {pos : Pos} : PE X (.Constant (.str x) j pos) (tS cls X.K e Wx (xStr (W := W) x)) := s_const pe_str fun _ => by show Dq _ _ _; simp [Dq]
theorem s_globInt {x : Str} {i : Int} {t : Tok} {pos : Pos} (hm : X.mg x = some (.int i t)) (hg : Gl X x := by rfl) (hd : (x == ("__debug__" : Str)) = false := by decide) : PE X (.Name x pos) (tS cls X.K e Wx (xInt (W := W) i)) :=
  s_const (pe_glob (v := .int i) hg hm ⟨t, rfl⟩ hd) fun _ => by show Dq _ _ _; simp [Dq]
theorem s_globStr {x : Str} {i : Str} {t : Tok} {pos : Pos} (hm : X.mg x = some (.str i t)) (hg : Gl X x := by rfl) (hd : (x == ("__debug__" : Str)) = false := by decide) : PE X (.Name x pos) (tS cls X.K e Wx (xStr (W := W) i)) :=
  s_const (pe_glob (v := .str i) hg hm ⟨t, rfl⟩ hd) fun _ => by show Dq _ _ _; simp [Dq]

/-! ## operations on values -/
/-- a value's new things laid -/
def gives (cls : Nat → Addr) (K : PySem.W.Frag) (c : Cur wd) (d : Option D) (Q : VK) : Prop := ∃ x, d = some x ∧ ∀ u c', c'.w = c.w → Bs c c' → Dv cls K c' x u → Q u c'.H
def rG (cls : Nat → Addr) (K : PySem.W.Frag) (wd : WD W) (g : D → D → Option D) : R2 := fun u v H Q => ∃ (c : Cur wd) (x y : D), c.H = H ∧ Ok c ∧ Dv cls K c x u ∧ Dv cls K c y v ∧ gives cls K c (g x y) Q
def OpG (X : Cx) (cls : Nat → Addr) (wd : WD W) (f : Value → Value → Sem Value) (g : D → D → Option D) : Prop := OpR X f (rG cls X.K wd g)
def opt (o : Option D) (w : W) : Res W D := match o with
  | some d => .ok d w
  | none => .bad
theorem after_opt {K : PySem.W.Frag} {c : Cur wd} {σ : L2.St} {o : Option D} {Q : VK} (h : after cls K c σ Wx (opt o c.w) Q) : gives cls K c o Q := by
  cases o with
  | none => exact h.elim
  | some d => exact ⟨d, rfl, h⟩
def x2 (g : D → D → Option D) (f h : XF W) : XF W := fun δ w => (f δ w).bind fun x w1 => (h δ w1).bind fun y w2 => opt (g x y) w2
theorem after_two {K : PySem.W.Frag} (ke : Ok e) {c : Cur wd} {δ : Ev} {σ : L2.St} {f h : XF W} {k : D → D → W → Res W D} {Q : VK} (r : Rz cls K e c δ σ) (q : after cls K c σ Wx ((f δ c.w).bind fun x w1 => (h δ w1).bind fun y w2 => k x y w2) Q) :
    tS cls K e Wx f σ c.H fun u H1 => tS cls K e Wx h σ H1 fun v H2 => ∃ x y c2, c2.H = H2 ∧ Rz cls K e c2 δ σ ∧ Dv cls K c2 x u ∧ Dv cls K c2 y v ∧ after cls K c2 σ Wx (k x y c2.w) Q := by
  refine tS_mk r (after_mono (after_bind r.ok q) fun u c1 b1 ⟨x, c1', e1, b1', q1, q2⟩ => ?_)
  rw [← e1]
  have r1 := r.step ke b1'
  refine tS_mk r1 (after_mono (after_bind r1.ok q2) fun v c2 b2 ⟨y, c2', e2, b2', q3, q4⟩ => ?_)
  exact ⟨x, y, c2', e2, r1.step ke b2', q1.mono b2', q3, q4⟩
theorem s_bin {op : Operator} {g : D → D → Option D} {f h : XF W} (ke : Ok e) (ho : OpG X cls wd (binaryOp op) g) (ha : PE X a (tS cls X.K e Wx f)) (hb : PE X b (tS cls X.K e Wx h)) : PE X (.BinOp a op b pos) (tS cls X.K e Wx (x2 g f h)) :=
  pe_imp (pe_op ho ha hb) fun σ H Q ⟨c, δ, eH, r, q⟩ => by
    rw [← eH]
    have z := after_two (k := fun x y w => opt (g x y) w) ke r q
    obtain ⟨c0, δ0, e0, r0, q0⟩ := z
    exact ⟨c0, δ0, e0, r0, after_mono q0 fun u c1 _ ⟨c1', δ1, e1, r1, q1⟩ => ⟨c1', δ1, e1, r1, after_mono q1 fun v c2 _ ⟨x, y, c2', e2, r2, q2, q3, q4⟩ => ⟨c2', x, y, e2, r2.ok, q2, q3, after_opt q4⟩⟩⟩
theorem s_cmp {op : CmpOp} {g : D → D → Option D} {f h : XF W} (ke : Ok e) (ho : OpG X cls wd (compareOp op) g) (ha : PE X a (tS cls X.K e Wx f)) (hb : PE X b (tS cls X.K e Wx h)) (hm : behindInMarks op b = false) : PE X (.Compare a [op] [b] pos) (tS cls X.K e Wx (x2 g f h)) :=
  pe_imp (pe_cmpR ho ha hb hm) fun σ H Q ⟨c, δ, eH, r, q⟩ => by
    rw [← eH]
    have z := after_two (k := fun x y w => opt (g x y) w) ke r q
    obtain ⟨c0, δ0, e0, r0, q0⟩ := z
    exact ⟨c0, δ0, e0, r0, after_mono q0 fun u c1 _ ⟨c1', δ1, e1, r1, q1⟩ => ⟨c1', δ1, e1, r1, after_mono q1 fun v c2 _ ⟨x, y, c2', e2, r2, q2, q3, q4⟩ => ⟨c2', x, y, e2, r2.ok, q2, q3, after_opt q4⟩⟩⟩
end
end Z

set_option Elab.async false
set_option linter.all false
set_option maxRecDepth 100000
/-! # Z3: operators, tests, displays, subscripts, built-ins -/
namespace Z
open PySem PySem.Spec PyProof.Rows L2

def lim : Nat := 16777216
theorem lim_eq : lim = sizeLine := by rw [sizeLine_eq]; rfl

section
variable {X : Cx} {W : Type} {wd : WD W} {cls : Nat → Addr} {K : PySem.W.Frag}
/-! ## what an operation lays -/
theorem gives_v {c : Cur wd} {d : D} {v : V} {Q : VK} (h : gives cls K c (some d) Q) (k : Ok c) (q : Dv cls K c d v) : Q v c.H := by
  obtain ⟨x, e, h⟩ := h
  cases e
  exact h v c rfl (Bs.refl k) q
theorem gives_lst {c : Cur wd} {ds : List PyData} {vs : List V} {Q : VK} (h : gives cls K c (some (.p (.list ds))) Q) (k : Ok c) (q : DqL c.F ds vs) : ∀ p, c.H p = none → Q (.ref p) (upd c.H p (.lst vs)) := fun p hp => by
  obtain ⟨x, e, h⟩ := h
  cases e
  have b := Bs.put k (.lst vs) hp
  refine h (.ref p) (c.put p (.lst vs)) rfl b ?_
  show Dq (upd c.F p (.lst vs)) (.list ds) (.ref p)
  simp only [Dq]
  exact ⟨p, vs, rfl, upd_same, DqL.mono b.ff _ _ q⟩
theorem gives_tup {c : Cur wd} {ds : List PyData} {vs : List V} {Q : VK} (h : gives cls K c (some (.p (.tuple ds))) Q) (k : Ok c) (q : DqL c.F ds vs) : ∀ p, c.H p = none → Q (.ref p) (upd c.H p (.tup vs)) := fun p hp => by
  obtain ⟨x, e, h⟩ := h
  cases e
  have b := Bs.put k (.tup vs) hp
  refine h (.ref p) (c.put p (.tup vs)) rfl b ?_
  show Dq (upd c.F p (.tup vs)) (.tuple ds) (.ref p)
  simp only [Dq]
  exact ⟨p, vs, rfl, upd_same, DqL.mono b.ff _ _ q⟩
theorem dv_int {c : Cur wd} {i : Int} {v : V} : Dv cls K c (.p (.int i)) v ↔ v = .int i := by show Dq _ _ _ ↔ _; simp [Dq]
theorem dv_bl {c : Cur wd} {i : Bool} {v : V} : Dv cls K c (.p (.bool i)) v ↔ v = .bl i := by show Dq _ _ _ ↔ _; simp [Dq]
theorem dv_str {c : Cur wd} {i : Str} {v : V} : Dv cls K c (.p (.str i)) v ↔ v = .str i := by show Dq _ _ _ ↔ _; simp [Dq]
theorem dv_non {c : Cur wd} {v : V} : Dv cls K c (.p .none) v ↔ v = .non := by show Dq _ _ _ ↔ _; simp [Dq]
theorem dv_lst {c : Cur wd} {ds : List PyData} {v : V} : Dv cls K c (.p (.list ds)) v ↔ ∃ a vs, v = .ref a ∧ c.F a = some (.lst vs) ∧ DqL c.F ds vs := by show Dq _ _ _ ↔ _; simp [Dq]
theorem dv_tup {c : Cur wd} {ds : List PyData} {v : V} : Dv cls K c (.p (.tuple ds)) v ↔ ∃ a vs, v = .ref a ∧ c.F a = some (.tup vs) ∧ DqL c.F ds vs := by show Dq _ _ _ ↔ _; simp [Dq]

/-! ## arithmetic -/
def gI (C : Int → Int → Bool) (g : Int → Int → Int) : D → D → Option D
  | .p (.int i), .p (.int j) => if C i j = true then some (.p (.int (g i j))) else none
  | _, _ => none
theorem og_I {f : Value → Value → Sem Value} {C : Int → Int → Prop} {Cb : Int → Int → Bool} {g : Int → Int → Int} (h : OpR X f (rI C fun i j => .int (g i j))) (hc : ∀ i j, Cb i j = true → C i j) : OpG X cls wd f (gI Cb g) :=
  opR_imp h fun u v H Q ⟨c, x, y, eH, k, qx, qy, q⟩ => by
    unfold gI at q
    split at q
    · rename_i i j
      obtain rfl := dv_int.mp qx
      obtain rfl := dv_int.mp qy
      by_cases z : Cb i j = true
      · rw [if_pos z] at q
        exact ⟨i, j, rfl, rfl, hc i j z, by rw [← eH]; exact gives_v q k (dv_int.mpr rfl)⟩
      · rw [if_neg z] at q
        obtain ⟨_, e, _⟩ := q
        cases e
    · obtain ⟨_, e, _⟩ := q
      cases e
def gI0 (g : Int → Int → Int) : D → D → Option D
  | .p (.int i), .p (.int j) => some (.p (.int (g i j)))
  | _, _ => none
theorem og_I0 {f : Value → Value → Sem Value} {g : Int → Int → Int} (h : OpR X f (rI0 fun i j => .int (g i j))) : OpG X cls wd f (gI0 g) :=
  opR_imp h fun u v H Q ⟨c, x, y, eH, k, qx, qy, q⟩ => by
    unfold gI0 at q
    split at q
    · rename_i i j
      obtain rfl := dv_int.mp qx
      obtain rfl := dv_int.mp qy
      exact ⟨i, j, rfl, rfl, by rw [← eH]; exact gives_v q k (dv_int.mpr rfl)⟩
    · obtain ⟨_, e, _⟩ := q
      cases e
def gSub : D → D → Option D := gI0 fun i j => i - j
theorem og_sub : OpG X cls wd (binaryOp .Sub) gSub := og_I0 op_sub
def cDiv (i j : Int) : Bool := decide (0 < j) && decide (j < 1073741824)
def gDiv : D → D → Option D := gI cDiv fun i j => i / j
theorem og_div : OpG X cls wd (binaryOp .FloorDiv) gDiv := og_I op_fdiv fun i j h => by simp [cDiv] at h; exact h
def gMod : D → D → Option D := gI (fun _ j => decide (0 < j)) fun i j => i % j
theorem og_mod : OpG X cls wd (binaryOp .Mod) gMod := og_I op_mod fun i j h => by simpa using h
def cPow (i j : Int) : Bool := decide (0 ≤ j) && decide (j ≤ 1000000) && decide (i.natAbs < 2 ^ 64)
def gPow : D → D → Option D := gI cPow fun i j => i ^ j.toNat
theorem og_pow : OpG X cls wd (binaryOp .Pow) gPow := og_I op_pow fun i j h => by
  simp only [cPow, Bool.and_eq_true, decide_eq_true_eq] at h
  exact ⟨h.1.1, h.1.2, h.2⟩
/-! a + b -/
def gAdd : D → D → Option D
  | .p (.int i), .p (.int j) => some (.p (.int (i + j)))
  | .p (.list a), .p (.list b) => if a.length + b.length ≤ lim then some (.p (.list (a ++ b))) else none
  | .p (.tuple a), .p (.tuple b) => if a.length + b.length ≤ lim then some (.p (.tuple (a ++ b))) else none
  | .p (.str a), .p (.str b) => if a.length + b.length ≤ lim then some (.p (.str (a ++ b))) else none
  | _, _ => none
theorem og_add : OpG X cls wd (binaryOp .Add) gAdd := opR_imp (((op_add.or op_cat).or op_catA).or op_add_str) fun u v H Q ⟨c, x, y, eH, k, qx, qy, q⟩ => by
  unfold gAdd at q
  split at q
  · rename_i i j
    obtain rfl := dv_int.mp qx
    obtain rfl := dv_int.mp qy
    exact .inl (.inl (.inl ⟨i, j, rfl, rfl, by rw [← eH]; exact gives_v q k (dv_int.mpr rfl)⟩))
  · rename_i a b
    by_cases z : a.length + b.length ≤ lim
    · rw [if_pos z] at q
      obtain ⟨p, vs, rfl, h1, r1⟩ := dv_lst.mp qx
      obtain ⟨p', vs', rfl, h1', r1'⟩ := dv_lst.mp qy
      refine .inl (.inl (.inr ⟨p, p', vs, vs', rfl, rfl, ?_, ?_, ?_, ?_⟩))
      · rw [← eH]; exact k.fh _ _ h1
      · rw [← eH]; exact k.fh _ _ h1'
      · rw [r1.len, r1'.len, ← lim_eq]; exact z
      · rw [← eH]; exact gives_lst q k (r1.append r1')
    · rw [if_neg z] at q
      obtain ⟨_, e, _⟩ := q
      cases e
  · rename_i a b
    by_cases z : a.length + b.length ≤ lim
    · rw [if_pos z] at q
      obtain ⟨p, vs, rfl, h1, r1⟩ := dv_tup.mp qx
      obtain ⟨p', vs', rfl, h1', r1'⟩ := dv_tup.mp qy
      refine .inl (.inr ⟨p, p', vs, vs', rfl, rfl, ?_, ?_, ?_, ?_, ?_, ?_⟩)
      · rw [← eH]; exact SqT.of (k.fh _ _ h1)
      · rw [← eH]; exact SqT.of (k.fh _ _ h1')
      · rw [r1.len, r1'.len, ← lim_eq]; exact z
      · intro e
        subst e
        have ea : a = [] := List.length_eq_zero_iff.mp r1.len.symm
        subst ea
        rw [← eH]
        exact gives_v q k qy
      · intro _ e
        subst e
        have ea : b = [] := List.length_eq_zero_iff.mp r1'.len.symm
        subst ea
        rw [← eH]
        rw [List.append_nil] at q
        exact gives_v q k qx
      · intro _ _
        rw [← eH]; exact gives_tup q k (r1.append r1')
    · rw [if_neg z] at q
      obtain ⟨_, e, _⟩ := q
      cases e
  · rename_i a b
    by_cases z : a.length + b.length ≤ lim
    · rw [if_pos z] at q
      obtain rfl := dv_str.mp qx
      obtain rfl := dv_str.mp qy
      exact .inr ⟨a, b, rfl, rfl, by rw [← lim_eq]; exact z, by rw [← eH]; exact gives_v q k (dv_str.mpr rfl)⟩
    · rw [if_neg z] at q
      obtain ⟨_, e, _⟩ := q
      cases e
  · obtain ⟨_, e, _⟩ := q
    cases e
/-! a * b -/
def cMul (i j : Int) : Bool := (decide (-(2 ^ 64) < i) && decide (i < 2 ^ 64)) || (decide (-(2 ^ 64) < j) && decide (j < 2 ^ 64))
def gMul : D → D → Option D
  | .p (.int i), .p (.int j) => if cMul i j = true then some (.p (.int (i * j))) else none
  | .p (.list a), .p (.int j) => if j < 1000000 ∧ -1000000 < j ∧ a.length * j.toNat ≤ lim then some (.p (.list (List.replicate j.toNat a).flatten)) else none
  | _, _ => none
theorem DqL.rep {F : Hp} {ds : List PyData} {vs : List V} (h : DqL F ds vs) : ∀ n : Nat, DqL F (List.replicate n ds).flatten (List.replicate n vs).flatten
  | 0 => by simpa using DqL.nil
  | n + 1 => by
    rw [List.replicate_succ, List.replicate_succ, List.flatten_cons, List.flatten_cons]
    exact h.append (h.rep n)
theorem og_mul : OpG X cls wd (binaryOp .Mult) gMul := opR_imp (op_mul.or op_rep) fun u v H Q ⟨c, x, y, eH, k, qx, qy, q⟩ => by
  unfold gMul at q
  split at q
  · rename_i i j
    by_cases z : cMul i j = true
    · rw [if_pos z] at q
      obtain rfl := dv_int.mp qx
      obtain rfl := dv_int.mp qy
      refine .inl ⟨i, j, rfl, rfl, ?_, by rw [← eH]; exact gives_v q k (dv_int.mpr rfl)⟩
      simp only [cMul, Bool.or_eq_true, Bool.and_eq_true, decide_eq_true_eq] at z
      exact z
    · rw [if_neg z] at q
      obtain ⟨_, e, _⟩ := q
      cases e
  · rename_i a j
    by_cases z : j < 1000000 ∧ -1000000 < j ∧ a.length * j.toNat ≤ lim
    · rw [if_pos z] at q
      obtain ⟨p, vs, rfl, h1, r1⟩ := dv_lst.mp qx
      obtain rfl := dv_int.mp qy
      refine .inr ⟨p, j, vs, rfl, rfl, by rw [← eH]; exact k.fh _ _ h1, by omega, by omega, by rw [r1.len, ← lim_eq]; exact z.2.2, ?_⟩
      rw [← eH]; exact gives_lst q k (r1.rep _)
    · rw [if_neg z] at q
      obtain ⟨_, e, _⟩ := q
      cases e
  · obtain ⟨_, e, _⟩ := q
    cases e

/-! ## comparisons -/
def gB (g : Int → Int → Bool) : D → D → Option D
  | .p (.int i), .p (.int j) => some (.p (.bool (g i j)))
  | _, _ => none
theorem og_B {f : Value → Value → Sem Value} {g : Int → Int → Bool} (h : OpR X f (rI0 fun i j => .bl (g i j))) : OpG X cls wd f (gB g) :=
  opR_imp h fun u v H Q ⟨c, x, y, eH, k, qx, qy, q⟩ => by
    unfold gB at q
    split at q
    · rename_i i j
      obtain rfl := dv_int.mp qx
      obtain rfl := dv_int.mp qy
      exact ⟨i, j, rfl, rfl, by rw [← eH]; exact gives_v q k (dv_bl.mpr rfl)⟩
    · obtain ⟨_, e, _⟩ := q
      cases e
def gLt : D → D → Option D := gB fun i j => decide (i < j)
def gLe : D → D → Option D := gB fun i j => decide (i ≤ j)
def gGt : D → D → Option D := gB fun i j => decide (j < i)
def gGe : D → D → Option D := gB fun i j => decide (j ≤ i)
theorem og_lt : OpG X cls wd (compareOp .Lt) gLt := og_B op_lt
theorem og_le : OpG X cls wd (compareOp .LtE) gLe := og_B op_le
theorem og_gt : OpG X cls wd (compareOp .Gt) gGt := og_B op_gt
theorem og_ge : OpG X cls wd (compareOp .GtE) gGe := og_B op_ge
def eqOk (a b : PyData) : Bool := a.canLay0 && b.canLay0 && decide (min a.depth b.depth ≤ 64)
def gEq : D → D → Option D
  | .p a, .p b => if eqOk a b = true then some (.p (.bool (PyData.eqv a b))) else none
  | _, _ => none
def gNe : D → D → Option D
  | .p a, .p b => if eqOk a b = true then some (.p (.bool (!PyData.eqv a b))) else none
  | _, _ => none
theorem og_eq (hu : X.A.units + 64 < cLine) : OpG X cls wd (compareOp .Eq) gEq := by
  intro pins s σ H u v p p' Q I rx ry ⟨c, x, y, eH, k, qx, qy, q⟩
  unfold gEq at q
  split at q
  · rename_i a b
    by_cases z : eqOk a b = true
    · rw [if_pos z] at q
      simp only [eqOk, Bool.and_eq_true, decide_eq_true_eq] at z
      have s1 : Sub c.F H := by rw [← eH]; exact k.fh
      obtain ⟨as, r1⟩ := Dp.reads I a u p (Dq.dp s1 a u qx) rx
      obtain ⟨bs, r2⟩ := Dp.reads I b v p' (Dq.dp s1 b v qy) ry
      refine SeqAt.compareEq_reads r1 r2 z.1.1 z.1.2 (by omega) ⟨.bl _, H, I, rfl, ?_⟩
      rw [← eH]
      exact gives_v q k (dv_bl.mpr rfl)
    · rw [if_neg z] at q
      obtain ⟨_, e, _⟩ := q
      cases e
  · obtain ⟨_, e, _⟩ := q
    cases e
theorem og_ne (hu : X.A.units + 64 < cLine) : OpG X cls wd (compareOp .NotEq) gNe := by
  intro pins s σ H u v p p' Q I rx ry ⟨c, x, y, eH, k, qx, qy, q⟩
  unfold gNe at q
  split at q
  · rename_i a b
    by_cases z : eqOk a b = true
    · rw [if_pos z] at q
      simp only [eqOk, Bool.and_eq_true, decide_eq_true_eq] at z
      have s1 : Sub c.F H := by rw [← eH]; exact k.fh
      obtain ⟨as, r1⟩ := Dp.reads I a u p (Dq.dp s1 a u qx) rx
      obtain ⟨bs, r2⟩ := Dp.reads I b v p' (Dq.dp s1 b v qy) ry
      refine SeqAt.compareNe_reads r1 r2 z.1.1 z.1.2 (by omega) ⟨.bl _, H, I, rfl, ?_⟩
      rw [← eH]
      exact gives_v q k (dv_bl.mpr rfl)
    · rw [if_neg z] at q
      obtain ⟨_, e, _⟩ := q
      cases e
  · obtain ⟨_, e, _⟩ := q
    cases e
/-! x in xs -/
def inOk (a : PyData) (bs : List PyData) : Bool := a.canLay0 && PyData.canLayAll0 bs && decide (min (PyData.depthAll bs) a.depth ≤ 60)
def gIn (neg : Bool) : D → D → Option D
  | .p a, .p (.list bs) => if inOk a bs = true then some (.p (.bool (xor neg (bs.any fun z => PyData.eqv z a)))) else none
  | .p a, .p (.tuple bs) => if inOk a bs = true then some (.p (.bool (xor neg (bs.any fun z => PyData.eqv z a)))) else none
  | _, _ => none
theorem og_in (hu : X.A.units + 64 < cLine) : OpG X cls wd (compareOp .In) (gIn false) := by
  intro pins s σ H u v p p' Q I rx ry ⟨c, x, y, eH, k, qx, qy, q⟩
  unfold gIn at q
  split at q
  · rename_i a b
    by_cases z : inOk a b = true
    · rw [if_pos z] at q
      simp only [inOk, Bool.and_eq_true, decide_eq_true_eq] at z
      have s1 : Sub c.F H := by rw [← eH]; exact k.fh
      obtain ⟨as, r1⟩ := Dp.reads I a u p (Dq.dp s1 a u qx) rx
      obtain ⟨bs, r2⟩ := Dp.reads I (.list b) v p' (Dq.dp s1 _ v qy) ry
      refine SeqAt.in_list_reads r2 r1 z.1.2 z.1.1 (by omega) ⟨.bl _, H, I, rfl, ?_⟩
      rw [← eH]
      exact gives_v q k (dv_bl.mpr (by simp))
    · rw [if_neg z] at q
      obtain ⟨_, e, _⟩ := q
      cases e
  · rename_i a b
    by_cases z : inOk a b = true
    · rw [if_pos z] at q
      simp only [inOk, Bool.and_eq_true, decide_eq_true_eq] at z
      have s1 : Sub c.F H := by rw [← eH]; exact k.fh
      obtain ⟨as, r1⟩ := Dp.reads I a u p (Dq.dp s1 a u qx) rx
      obtain ⟨bs, r2⟩ := Dp.reads I (.tuple b) v p' (Dq.dp s1 _ v qy) ry
      refine SeqAt.in_tuple_reads r2 r1 z.1.2 z.1.1 (by omega) ⟨.bl _, H, I, rfl, ?_⟩
      rw [← eH]
      exact gives_v q k (dv_bl.mpr (by simp))
    · rw [if_neg z] at q
      obtain ⟨_, e, _⟩ := q
      cases e
  · obtain ⟨_, e, _⟩ := q
    cases e
theorem og_notIn (hu : X.A.units + 64 < cLine) : OpG X cls wd (compareOp .NotIn) (gIn true) := by
  intro pins s σ H u v p p' Q I rx ry ⟨c, x, y, eH, k, qx, qy, q⟩
  unfold gIn at q
  split at q
  · rename_i a b
    by_cases z : inOk a b = true
    · rw [if_pos z] at q
      simp only [inOk, Bool.and_eq_true, decide_eq_true_eq] at z
      have s1 : Sub c.F H := by rw [← eH]; exact k.fh
      obtain ⟨as, r1⟩ := Dp.reads I a u p (Dq.dp s1 a u qx) rx
      obtain ⟨bs, r2⟩ := Dp.reads I (.list b) v p' (Dq.dp s1 _ v qy) ry
      refine SeqAt.notIn_list_reads r2 r1 z.1.2 z.1.1 (by omega) ⟨.bl _, H, I, rfl, ?_⟩
      rw [← eH]
      exact gives_v q k (dv_bl.mpr (by simp))
    · rw [if_neg z] at q
      obtain ⟨_, e, _⟩ := q
      cases e
  · rename_i a b
    by_cases z : inOk a b = true
    · rw [if_pos z] at q
      simp only [inOk, Bool.and_eq_true, decide_eq_true_eq] at z
      have s1 : Sub c.F H := by rw [← eH]; exact k.fh
      obtain ⟨as, r1⟩ := Dp.reads I a u p (Dq.dp s1 a u qx) rx
      obtain ⟨bs, r2⟩ := Dp.reads I (.tuple b) v p' (Dq.dp s1 _ v qy) ry
      refine SeqAt.notIn_tuple_reads r2 r1 z.1.2 z.1.1 (by omega) ⟨.bl _, H, I, rfl, ?_⟩
      rw [← eH]
      exact gives_v q k (dv_bl.mpr (by simp))
    · rw [if_neg z] at q
      obtain ⟨_, e, _⟩ := q
      cases e
  · obtain ⟨_, e, _⟩ := q
    cases e
/-! x is None, True, False -/
def isNon : D → Option Bool
  | .p .none => some true
  | .p _ => some false
  | .exc _ => some false
  | .obj _ => some false
  | .scr _ => some false
  | .opq => none
def gIs (neg : Bool) : D → D → Option D
  | x, .p .none => (isNon x).map fun b => .p (.bool (xor neg b))
  | .p (.bool a), .p (.bool b) => some (.p (.bool (xor neg (decide (a = b)))))
  | _, _ => none
theorem isNon_eq {c : Cur wd} {x : D} {u : V} {b : Bool} (h : isNon x = some b) (q : Dv cls K c x u) : decide (u = .non) = b := by
  cases x with
  | p d =>
    have q : Dq c.F d u := q
    cases d with
    | none => simp only [Dq] at q; subst q; simpa [isNon] using h
    | bool _ => simp only [Dq] at q; subst q; simpa [isNon] using h
    | int _ => simp only [Dq] at q; subst q; simpa [isNon] using h
    | str _ => simp only [Dq] at q; subst q; simpa [isNon] using h
    | list _ => simp only [Dq] at q; obtain ⟨_, _, rfl, _⟩ := q; simpa [isNon] using h
    | tuple _ => simp only [Dq] at q; obtain ⟨_, _, rfl, _⟩ := q; simpa [isNon] using h
    | dict _ => simp [Dq] at q
  | exc n => obtain ⟨_, rfl, _⟩ := q; simpa [isNon] using h
  | obj n => obtain ⟨_, rfl, _⟩ := q; simpa [isNon] using h
  | scr n => obtain ⟨_, rfl, _⟩ := q; simpa [isNon] using h
  | opq => simp [isNon] at h
theorem og_is : OpG X cls wd (compareOp .Is) (gIs false) := opR_imp (op_isN.or op_isBl) fun u v H Q ⟨c, x, y, eH, k, qx, qy, q⟩ => by
  unfold gIs at q
  split at q
  · obtain rfl := dv_non.mp qy
    cases z : isNon x with
    | none => rw [z] at q; obtain ⟨_, e, _⟩ := q; cases e
    | some b =>
      rw [z] at q
      refine .inl ⟨rfl, ?_⟩
      rw [isNon_eq z qx, ← eH]
      exact gives_v q k (dv_bl.mpr (by simp))
  · rename_i a b
    obtain rfl := dv_bl.mp qx
    obtain rfl := dv_bl.mp qy
    refine .inr ⟨a, b, rfl, rfl, ?_⟩
    rw [← eH]
    exact gives_v q k (dv_bl.mpr (by simp))
  · obtain ⟨_, e, _⟩ := q
    cases e
theorem og_isNot : OpG X cls wd (compareOp .IsNot) (gIs true) := opR_imp (op_notN.or op_notBl) fun u v H Q ⟨c, x, y, eH, k, qx, qy, q⟩ => by
  unfold gIs at q
  split at q
  · obtain rfl := dv_non.mp qy
    cases z : isNon x with
    | none => rw [z] at q; obtain ⟨_, e, _⟩ := q; cases e
    | some b =>
      rw [z] at q
      refine .inl ⟨rfl, ?_⟩
      rw [isNon_eq z qx, ← eH]
      exact gives_v q k (dv_bl.mpr (by simp))
  · rename_i a b
    obtain rfl := dv_bl.mp qx
    obtain rfl := dv_bl.mp qy
    refine .inr ⟨a, b, rfl, rfl, ?_⟩
    rw [← eH]
    exact gives_v q k (dv_bl.mpr (by simp))
  · obtain ⟨_, e, _⟩ := q
    cases e
end

/-! ## one operand -/
section
variable {X : Cx} {W : Type} {wd : WD W} {cls : Nat → Addr} {e : Cur wd} {Wx : WX} {ex a b d : Expr} {pos : Pos} {f h g3 : XF W}
def x1 (g : D → Option D) (f : XF W) : XF W := fun δ w => (f δ w).bind fun x w1 => opt (g x) w1
theorem after_one {K : PySem.W.Frag} (ke : Ok e) {c : Cur wd} {δ : Ev} {σ : L2.St} {f : XF W} {k : D → W → Res W D} {Q : VK} (r : Rz cls K e c δ σ) (q : after cls K c σ Wx ((f δ c.w).bind k) Q) :
    tS cls K e Wx f σ c.H fun u H1 => ∃ x c2, c2.H = H1 ∧ Bs c c2 ∧ Rz cls K e c2 δ σ ∧ Dv cls K c2 x u ∧ after cls K c2 σ Wx (k x c2.w) Q :=
  tS_mk r (after_mono (after_bind r.ok q) fun u c1 b1 ⟨x, c1', e1, b1', q1, q2⟩ => ⟨x, c1', e1, b1', r.step ke b1', q1, q2⟩)
theorem tS_imp {K : PySem.W.Frag} {σ : L2.St} {H : Hp} {Q Q' : VK} (h : tS cls K e Wx f σ H Q) (i : ∀ u H', Q u H' → Q' u H') : tS cls K e Wx f σ H Q' :=
  let ⟨c, δ, e1, r, q⟩ := h
  ⟨c, δ, e1, r, after_mono q fun u c' _ => i u c'.H⟩
def gNeg : D → Option D
  | .p (.int i) => some (.p (.int (-i)))
  | _ => none
theorem s_neg (ke : Ok e) (ha : PE X a (tS cls X.K e Wx f)) : PE X (.UnaryOp .USub a pos) (tS cls X.K e Wx (x1 gNeg f)) := pe_imp (pe_un un_neg ha) fun σ H Q ⟨c, δ, eH, r, q⟩ => by
  rw [← eH]
  refine tS_imp (after_one ke r q) fun u H1 ⟨x, c2, e2, b2, r2, q2, q3⟩ => ?_
  replace q3 := after_opt q3
  unfold gNeg at q3
  split at q3
  · rename_i i
    obtain rfl := dv_int.mp q2
    exact ⟨i, rfl, by rw [← e2]; exact gives_v q3 r2.ok (dv_int.mpr rfl)⟩
  · obtain ⟨_, e, _⟩ := q3
    cases e
def gNot : D → Option D
  | .p (.bool i) => some (.p (.bool (!i)))
  | _ => none
theorem s_not (ke : Ok e) (ha : PE X a (tS cls X.K e Wx f)) : PE X (.UnaryOp .Not a pos) (tS cls X.K e Wx (x1 gNot f)) := pe_imp (pe_not ha) fun σ H Q ⟨c, δ, eH, r, q⟩ => by
  rw [← eH]
  refine tS_imp (after_one ke r q) fun u H1 ⟨x, c2, e2, b2, r2, q2, q3⟩ => ?_
  replace q3 := after_opt q3
  unfold gNot at q3
  split at q3
  · rename_i i
    obtain rfl := dv_bl.mp q2
    exact ⟨i, rfl, by rw [← e2]; exact gives_v q3 r2.ok (dv_bl.mpr rfl)⟩
  · obtain ⟨_, e, _⟩ := q3
    cases e

/-! ## tests -/
def optB (o : Option Bool) (w : W) : Res W Bool := match o with
  | some d => .ok d w
  | none => .bad
/-- a truth value -/
def asB : D → Option Bool
  | .p (.bool b) => some b
  | _ => none
/-- any value's truth -/
def truth : D → Option Bool
  | .p .none => some false
  | .p (.bool b) => some b
  | .p (.int i) => some (i != 0)
  | .p (.list xs) => some (!xs.isEmpty)
  | .p (.tuple xs) => some (!xs.isEmpty)
  | .p (.str x) => if x.length ≤ lim then some ((x.length : Int) != 0) else none
  | _ => none
def xB (g : D → Option Bool) (f : XF W) : Ev → W → Res W Bool := fun δ w => (f δ w).bind fun x w1 => optB (g x) w1
theorem after_optB {K : PySem.W.Frag} {c : Cur wd} {σ : L2.St} {o : Option Bool} {Q : Bool → Hp → Prop} (k : Ok c) (h : afterB cls c σ Wx (optB o c.w) Q) : ∃ b, o = some b ∧ Q b c.H := by
  cases o with
  | none => exact h.elim
  | some d => exact ⟨d, rfl, h c rfl (Bs.refl k)⟩
theorem after_oneB {K : PySem.W.Frag} (ke : Ok e) {c : Cur wd} {δ : Ev} {σ : L2.St} {f : XF W} {k : D → W → Res W Bool} {Q : Bool → Hp → Prop} (r : Rz cls K e c δ σ) (q : afterB cls c σ Wx ((f δ c.w).bind k) Q) :
    tS cls K e Wx f σ c.H fun u H1 => ∃ x c2, c2.H = H1 ∧ Bs c c2 ∧ Rz cls K e c2 δ σ ∧ Dv cls K c2 x u ∧ afterB cls c2 σ Wx (k x c2.w) Q :=
  tS_mk r (after_mono (after_bindB r.ok q) fun u c1 b1 ⟨x, c1', e1, b1', q1, q2⟩ => ⟨x, c1', e1, b1', r.step ke b1', q1, q2⟩)
theorem truV_of {K : PySem.W.Frag} {c : Cur wd} {x : D} {u : V} {b : Bool} (k : Ok c) (h : truth x = some b) (q : Dv cls K c x u) : TruV K u c.H b := by
  cases x with
  | p d =>
    have q : Dq c.F d u := q
    cases d with
    | none => simp only [Dq] at q; subst q; simp [truth] at h; exact h
    | bool _ => simp only [Dq] at q; subst q; simp [truth] at h; exact h.symm
    | int _ => simp only [Dq] at q; subst q; simp [truth] at h; exact h.symm
    | str y =>
      simp only [Dq] at q; subst q
      unfold truth at h
      dsimp only at h
      by_cases z : y.length ≤ lim
      · rw [if_pos z] at h
        exact ⟨by rw [← lim_eq]; exact z, (Option.some.inj h).symm⟩
      · rw [if_neg z] at h; cases h
    | list xs =>
      simp only [Dq] at q; obtain ⟨p, vs, rfl, h1, r1⟩ := q
      simp only [truth, Option.some.injEq] at h
      refine .inl ⟨vs, SqL.of (k.fh _ _ h1), ?_⟩
      rw [← h]
      have := r1.len
      cases xs <;> cases vs <;> simp_all
    | tuple xs =>
      simp only [Dq] at q; obtain ⟨p, vs, rfl, h1, r1⟩ := q
      simp only [truth, Option.some.injEq] at h
      refine .inr (.inl ⟨vs, SqT.of (k.fh _ _ h1), ?_⟩)
      rw [← h]
      have := r1.len
      cases xs <;> cases vs <;> simp_all
    | dict _ => simp [Dq] at q
  | exc n => simp [truth] at h
  | obj n => simp [truth] at h
  | scr n => simp [truth] at h
  | opq => simp [truth] at h
/-- an expression whose test is its value's truth -/
theorem st_val (ke : Ok e) (ha : PE X a (tS cls X.K e Wx f)) (he : ∀ whole, isTrue a X.env whole = (do let v ← whole; standAt a.pos; holding [v] (truthy v)) := by intro _; rfl) : PT X a (tSB cls X.K e Wx (xB truth f)) :=
  pt_imp (pt_truth ha he) fun σ H Q ⟨c, δ, eH, r, q⟩ => by
    rw [← eH]
    refine tS_imp (after_oneB (K := X.K) ke r q) fun u H1 ⟨x, c2, e2, b2, r2, q2, q3⟩ => ?_
    obtain ⟨b, hb, q4⟩ := after_optB (K := X.K) r2.ok q3
    rw [← e2]
    exact ⟨b, truV_of r2.ok hb q2, q4⟩
theorem asB_eq {K : PySem.W.Frag} {c : Cur wd} {x : D} {u : V} {b : Bool} (h : asB x = some b) (q : Dv cls K c x u) : u = .bl b := by
  unfold asB at h
  split at h
  · cases h; exact dv_bl.mp q
  · cases h
theorem gives_B {K : PySem.W.Frag} {c : Cur wd} {σ : L2.St} {o : Option D} {Q : Bool → Hp → Prop} (h : afterB cls c σ Wx ((opt o c.w).bind fun z w3 => optB (asB z) w3) Q) : gives cls K c o fun z H3 => ∃ k, z = .bl k ∧ Q k H3 := by
  cases o with
  | none => exact h.elim
  | some d =>
    refine ⟨d, rfl, fun u c' hw b q => ?_⟩
    have h' : afterB cls c σ Wx (optB (asB d) c.w) Q := h
    cases z : asB d with
    | none => rw [z] at h'; exact h'.elim
    | some k =>
      rw [z] at h'
      exact ⟨k, asB_eq z q, h' c' hw b⟩
theorem xB_x2 {g : D → D → Option D} {k : D → Option Bool} {δ : Ev} {w : W} : xB k (x2 g f h) δ w = ((f δ w).bind fun x w1 => (h δ w1).bind fun y w2 => (opt (g x y) w2).bind fun z w3 => optB (k z) w3) := by
  unfold xB x2
  cases f δ w with
  | bad => rfl
  | exc _ _ => rfl
  | ok x w1 =>
    dsimp only [Res.bind]
    cases h δ w1 with
    | bad => rfl
    | exc _ _ => rfl
    | ok y w2 => rfl
/-- a comparison as a test -/
theorem st_cmp {op : CmpOp} {g : D → D → Option D} (ke : Ok e) (ho : OpG X cls wd (compareOp op) g) (ha : PE X a (tS cls X.K e Wx f)) (hb : PE X b (tS cls X.K e Wx h)) (hm : behindInMarks op b = false) : PT X (.Compare a [op] [b] pos) (tSB cls X.K e Wx (xB asB (x2 g f h))) :=
  pt_imp (pt_cmpR ho ha hb hm) fun σ H Q ⟨c, δ, eH, r, q⟩ => by
    rw [← eH]
    rw [xB_x2] at q
    show tS cls X.K e Wx f σ c.H _
    refine tS_imp (after_oneB (K := X.K) ke r q) fun u H1 ⟨x, c2, e2, b2, r2, q2, q3⟩ => ?_
    rw [← e2]
    refine tS_imp (after_oneB (K := X.K) ke r2 q3) fun v H2 ⟨y, c3, e3, b3, r3, q4, q5⟩ => ?_
    exact ⟨c3, x, y, e3, r3.ok, q2.mono b3, q4, gives_B q5⟩
/-! ## a < b < c -/
def xChain (g g' : D → D → Option D) (f h k : XF W) : XF W := fun δ w => (f δ w).bind fun x w1 => (h δ w1).bind fun y w2 => match (g x y).bind asB with
  | some true => (k δ w2).bind fun z w3 => opt (g' y z) w3
  | some false => .ok (.p (.bool false)) w2
  | none => .bad
theorem s_chain {op op' : CmpOp} {g g' : D → D → Option D} {k : XF W} (ke : Ok e) (ho : OpG X cls wd (compareOp op) g) (ho' : OpG X cls wd (compareOp op') g') (ha : PE X a (tS cls X.K e Wx f)) (hb : PE X b (tS cls X.K e Wx h)) (hd : PE X d (tS cls X.K e Wx k))
    (hm : lastMarks [op, op'] [b, d] = false := by with_unfolding_all rfl) : PE X (.Compare a [op, op'] [b, d] pos) (tS cls X.K e Wx (xChain g g' f h k)) :=
  pe_imp (pe_chain ho ho' ha hb hd hm) fun σ H Q ⟨c, δ, eH, r, q⟩ => by
    rw [← eH]
    show tS cls X.K e Wx f σ c.H _
    refine tS_imp (after_one (K := X.K) ke r q) fun u H1 ⟨x, c2, e2, b2, r2, q2, q3⟩ => ?_
    rw [← e2]
    refine tS_imp (after_one (K := X.K) ke r2 q3) fun v H2 ⟨y, c3, e3, b3, r3, q4, q5⟩ => ?_
    refine ⟨c3, x, y, e3, r3.ok, q2.mono b3, q4, ?_⟩
    cases z : g x y with
    | none => rw [z] at q5; exact q5.elim
    | some t =>
      rw [z] at q5
      dsimp only [Option.bind] at q5
      refine ⟨t, rfl, fun u' c' hw b' q' => ?_⟩
      cases z2 : asB t with
      | none => rw [z2] at q5; exact q5.elim
      | some t2 =>
        rw [z2] at q5
        refine ⟨t2, asB_eq z2 q', ?_⟩
        cases t2 with
        | false =>
          rw [if_neg Bool.false_ne_true]
          exact q5 _ c' hw b' (dv_bl.mpr rfl)
        | true =>
          rw [if_pos rfl]
          have r4 := r3.step ke b'
          have q6 : after cls X.K c' σ Wx ((k δ c'.w).bind fun z w3 => opt (g' y z) w3) Q := by
            rw [hw]
            have q5 : after cls X.K c3 σ Wx ((k δ c3.w).bind fun z w3 => opt (g' y z) w3) Q := q5
            cases z3 : ((k δ c3.w).bind fun z w3 => opt (g' y z) w3) with
            | bad => rw [z3] at q5; exact q5
            | exc n w2 => rw [z3] at q5; exact fun c2 e2 b2 => q5 c2 e2 (b'.trans r3.ok b2)
            | ok d2 w2 => rw [z3] at q5; exact fun u2 c2 e2 b2 q2 => q5 u2 c2 e2 (b'.trans r3.ok b2) q2
          refine tS_imp (after_one (K := X.K) ke r4 q6) fun w' H4 ⟨z4, c5, e5, b5, r5, q7, q8⟩ => ?_
          exact ⟨c5, y, z4, e5, r5.ok, (q4.mono b').mono b5, q7, after_opt q8⟩
/-- any bool-valued comparison chain as a test -/
theorem st_chain {op op' : CmpOp} {g g' : D → D → Option D} {k : XF W} (ke : Ok e) (ho : OpG X cls wd (compareOp op) g) (ho' : OpG X cls wd (compareOp op') g') (ha : PE X a (tS cls X.K e Wx f)) (hb : PE X b (tS cls X.K e Wx h)) (hd : PE X d (tS cls X.K e Wx k))
    (hm : lastMarks [op, op'] [b, d] = false := by with_unfolding_all rfl) : PT X (.Compare a [op, op'] [b, d] pos) (tSB cls X.K e Wx (xB asB (xChain g g' f h k))) :=
  pt_imp (pt_chain ho ho' ha hb hd hm) fun σ H Q ⟨c, δ, eH, r, q⟩ => by
    rw [← eH]
    have q' : afterB cls c σ Wx ((f δ c.w).bind fun x w1 => (h δ w1).bind fun y w2 => match (g x y).bind asB with
        | some true => (k δ w2).bind fun z w3 => (opt (g' y z) w3).bind fun z w4 => optB (asB z) w4
        | some false => .ok false w2
        | none => .bad) Q := by
      unfold xB xChain at q
      cases z1 : f δ c.w with
      | bad => rw [z1] at q; exact q
      | exc _ _ => rw [z1] at q; exact q
      | ok x w1 =>
        rw [z1] at q
        dsimp only [Res.bind] at q ⊢
        cases z2 : h δ w1 with
        | bad => rw [z2] at q; exact q
        | exc _ _ => rw [z2] at q; exact q
        | ok y w2 =>
          rw [z2] at q
          dsimp only at q ⊢
          cases z3 : (g x y).bind asB with
          | none => rw [z3] at q; exact q
          | some t =>
            rw [z3] at q
            cases t with
            | false => exact q
            | true =>
              dsimp only at q ⊢
              cases z4 : k δ w2 with
              | bad => rw [z4] at q; exact q
              | exc _ _ => rw [z4] at q; exact q
              | ok z w3 => rw [z4] at q; exact q
    show tS cls X.K e Wx f σ c.H _
    refine tS_imp (after_oneB (K := X.K) ke r q') fun u H1 ⟨x, c2, e2, b2, r2, q2, q3⟩ => ?_
    rw [← e2]
    refine tS_imp (after_oneB (K := X.K) ke r2 q3) fun v H2 ⟨y, c3, e3, b3, r3, q4, q5⟩ => ?_
    refine ⟨c3, x, y, e3, r3.ok, q2.mono b3, q4, ?_⟩
    cases z : g x y with
    | none => rw [z] at q5; exact q5.elim
    | some t =>
      rw [z] at q5
      dsimp only [Option.bind] at q5
      refine ⟨t, rfl, fun u' c' hw b' q' => ?_⟩
      cases z2 : asB t with
      | none => rw [z2] at q5; exact q5.elim
      | some t2 =>
        rw [z2] at q5
        refine ⟨t2, asB_eq z2 q', ?_⟩
        cases t2 with
        | false =>
          rw [if_neg Bool.false_ne_true]
          exact ⟨false, rfl, q5 c' hw b'⟩
        | true =>
          rw [if_pos rfl]
          have r4 := r3.step ke b'
          have q6 : afterB cls c' σ Wx ((k δ c'.w).bind fun z w3 => (opt (g' y z) w3).bind fun z w4 => optB (asB z) w4) Q := by
            rw [hw]
            have q5 : afterB cls c3 σ Wx ((k δ c3.w).bind fun z w3 => (opt (g' y z) w3).bind fun z w4 => optB (asB z) w4) Q := q5
            cases z3 : ((k δ c3.w).bind fun z w3 => (opt (g' y z) w3).bind fun z w4 => optB (asB z) w4) with
            | bad => rw [z3] at q5; exact q5
            | exc n w2 => rw [z3] at q5; exact fun c2 e2 b2 => q5 c2 e2 (b'.trans r3.ok b2)
            | ok d2 w2 => rw [z3] at q5; exact fun c2 e2 b2 => q5 c2 e2 (b'.trans r3.ok b2)
          refine tS_imp (after_oneB (K := X.K) ke r4 q6) fun w' H4 ⟨z4, c5, e5, b5, r5, q7, q8⟩ => ?_
          exact ⟨c5, y, z4, e5, r5.ok, (q4.mono b').mono b5, q7, gives_B q8⟩

/-! ## and, or, not; a if t else b -/
abbrev XB (W : Type) := Ev → W → Res W Bool
variable {t u : XB W} {rest : List Expr}
theorem afterB_mono {c : Cur wd} {σ : L2.St} {r : Res W Bool} {Q Q' : Bool → Hp → Prop} (h : afterB cls c σ Wx r Q) (i : ∀ u c', Bs c c' → Q u c'.H → Q' u c'.H) : afterB cls c σ Wx r Q' := by
  cases r with
  | bad => exact h
  | exc n w' => exact h
  | ok d w' => exact fun c' hw b => i d c' b (h c' hw b)
theorem tSB_imp {K : PySem.W.Frag} {σ : L2.St} {H : Hp} {Q Q' : Bool → Hp → Prop} (h : tSB cls K e Wx t σ H Q) (i : ∀ u H', Q u H' → Q' u H') : tSB cls K e Wx t σ H Q' :=
  let ⟨c, δ, e1, r, q⟩ := h
  ⟨c, δ, e1, r, afterB_mono q fun u c' _ => i u c'.H⟩
theorem after_testB {K : PySem.W.Frag} (ke : Ok e) {c : Cur wd} {δ : Ev} {σ : L2.St} {k : Bool → W → Res W Bool} {Q : Bool → Hp → Prop} (r : Rz cls K e c δ σ) (q : afterB cls c σ Wx ((t δ c.w).bind k) Q) :
    tSB cls K e Wx t σ c.H fun x H1 => ∃ c2, c2.H = H1 ∧ Rz cls K e c2 δ σ ∧ afterB cls c2 σ Wx (k x c2.w) Q :=
  ⟨c, δ, rfl, r, afterB_mono (afterB_bindB r.ok q) fun _ _ _ ⟨c1', e1, b1', q2⟩ => ⟨c1', e1, r.step ke b1', q2⟩⟩
theorem after_test {K : PySem.W.Frag} (ke : Ok e) {c : Cur wd} {δ : Ev} {σ : L2.St} {k : Bool → W → Res W D} {Q : VK} (r : Rz cls K e c δ σ) (q : after cls K c σ Wx ((t δ c.w).bind k) Q) :
    tSB cls K e Wx t σ c.H fun x H1 => ∃ c2, c2.H = H1 ∧ Rz cls K e c2 δ σ ∧ after cls K c2 σ Wx (k x c2.w) Q :=
  ⟨c, δ, rfl, r, afterB_mono (afterB_bind (K := K) r.ok q) fun _ _ _ ⟨c1', e1, b1', q2⟩ => ⟨c1', e1, r.step ke b1', q2⟩⟩
def bAnd (t u : XB W) : XB W := fun δ w => (t δ w).bind fun x w1 => if x = true then u δ w1 else .ok false w1
def bOr (t u : XB W) : XB W := fun δ w => (t δ w).bind fun x w1 => if x = true then .ok true w1 else u δ w1
def bNot (t : XB W) : XB W := fun δ w => (t δ w).bind fun x w1 => .ok (!x) w1
theorem sw_and (ke : Ok e) (ha : PT X a (tSB cls X.K e Wx t)) (hb : PW X (.BoolOp .And (b :: rest) pos) (tSB cls X.K e Wx u)) : PW X (.BoolOp .And (a :: b :: rest) pos) (tSB cls X.K e Wx (bAnd t u)) :=
  pw_imp (pw_and ha hb) fun σ H Q ⟨c, δ, eH, r, q⟩ => by
    rw [← eH]
    refine tSB_imp (after_testB (K := X.K) ke r q) fun x H1 ⟨c2, e2, r2, q2⟩ => ?_
    rw [← e2]
    cases x with
    | true => rw [if_pos rfl]; exact ⟨c2, δ, rfl, r2, q2⟩
    | false => rw [if_neg Bool.false_ne_true]; exact q2 c2 rfl (Bs.refl r2.ok)
theorem sw_or (ke : Ok e) (ha : PT X a (tSB cls X.K e Wx t)) (hb : PW X (.BoolOp .Or (b :: rest) pos) (tSB cls X.K e Wx u)) : PW X (.BoolOp .Or (a :: b :: rest) pos) (tSB cls X.K e Wx (bOr t u)) :=
  pw_imp (pw_or ha hb) fun σ H Q ⟨c, δ, eH, r, q⟩ => by
    rw [← eH]
    refine tSB_imp (after_testB (K := X.K) ke r q) fun x H1 ⟨c2, e2, r2, q2⟩ => ?_
    rw [← e2]
    cases x with
    | true => rw [if_pos rfl]; exact q2 c2 rfl (Bs.refl r2.ok)
    | false => rw [if_neg Bool.false_ne_true]; exact ⟨c2, δ, rfl, r2, q2⟩
theorem st_not (ke : Ok e) (ha : PT X a (tSB cls X.K e Wx t)) : PT X (.UnaryOp .Not a pos) (tSB cls X.K e Wx (bNot t)) :=
  pt_imp (pt_not ha) fun σ H Q ⟨c, δ, eH, r, q⟩ => by
    rw [← eH]
    refine tSB_imp (after_testB (K := X.K) ke r q) fun x H1 ⟨c2, e2, r2, q2⟩ => ?_
    rw [← e2]
    exact q2 c2 rfl (Bs.refl r2.ok)
def xAnd (f h : XF W) : XF W := fun δ w => (f δ w).bind fun x w1 => match asB x with
  | some true => h δ w1
  | some false => .ok (.p (.bool false)) w1
  | none => .bad
def xOr (f h : XF W) : XF W := fun δ w => (f δ w).bind fun x w1 => match asB x with
  | some true => .ok (.p (.bool true)) w1
  | some false => h δ w1
  | none => .bad
theorem s_and (ke : Ok e) (ha : PE X a (tS cls X.K e Wx f)) (hb : PE X (.BoolOp .And (b :: rest) pos) (tS cls X.K e Wx h)) : PE X (.BoolOp .And (a :: b :: rest) pos) (tS cls X.K e Wx (xAnd f h)) :=
  pe_imp (pe_and ha hb) fun σ H Q ⟨c, δ, eH, r, q⟩ => by
    rw [← eH]
    refine tS_imp (after_one (K := X.K) ke r q) fun u H1 ⟨x, c2, e2, b2, r2, q2, q3⟩ => ?_
    rw [← e2]
    cases z : asB x with
    | none => rw [z] at q3; exact q3.elim
    | some k =>
      rw [z] at q3
      refine ⟨k, asB_eq z q2, ?_⟩
      cases k with
      | true => rw [if_pos rfl]; exact ⟨c2, δ, rfl, r2, q3⟩
      | false => rw [if_neg Bool.false_ne_true]; exact q3 _ c2 rfl (Bs.refl r2.ok) (dv_bl.mpr rfl)
theorem s_or (ke : Ok e) (ha : PE X a (tS cls X.K e Wx f)) (hb : PE X (.BoolOp .Or (b :: rest) pos) (tS cls X.K e Wx h)) : PE X (.BoolOp .Or (a :: b :: rest) pos) (tS cls X.K e Wx (xOr f h)) :=
  pe_imp (pe_or ha hb) fun σ H Q ⟨c, δ, eH, r, q⟩ => by
    rw [← eH]
    refine tS_imp (after_one (K := X.K) ke r q) fun u H1 ⟨x, c2, e2, b2, r2, q2, q3⟩ => ?_
    rw [← e2]
    cases z : asB x with
    | none => rw [z] at q3; exact q3.elim
    | some k =>
      rw [z] at q3
      refine ⟨k, asB_eq z q2, ?_⟩
      cases k with
      | true => rw [if_pos rfl]; exact q3 _ c2 rfl (Bs.refl r2.ok) (dv_bl.mpr rfl)
      | false => rw [if_neg Bool.false_ne_true]; exact ⟨c2, δ, rfl, r2, q3⟩
def xIf (t : XB W) (f h : XF W) : XF W := fun δ w => (t δ w).bind fun x w1 => if x = true then f δ w1 else h δ w1
theorem s_if (ke : Ok e) (hc : PT X d (tSB cls X.K e Wx t)) (ha : PE X a (tS cls X.K e Wx f)) (hb : PE X b (tS cls X.K e Wx h)) : PE X (.IfExp d a b pos) (tS cls X.K e Wx (xIf t f h)) :=
  pe_imp (pe_ifExp hc ha hb) fun σ H Q ⟨c, δ, eH, r, q⟩ => by
    rw [← eH]
    refine tSB_imp (after_test (K := X.K) ke r q) fun x H1 ⟨c2, e2, r2, q2⟩ => ?_
    rw [← e2]
    cases x with
    | true => rw [if_pos rfl]; exact ⟨c2, δ, rfl, r2, q2⟩
    | false => rw [if_neg Bool.false_ne_true]; exact ⟨c2, δ, rfl, r2, q2⟩

/-! ## lists of expressions; displays -/
abbrev XL (W : Type) := Ev → W → Res W (List D)
variable {fl : XL W} {es : List Expr}
theorem afterL_mono {K : PySem.W.Frag} {c : Cur wd} {σ : L2.St} {r : Res W (List D)} {Q Q' : List V → Hp → Prop} (h : afterL cls K c σ Wx r Q) (i : ∀ u c', Bs c c' → Q u c'.H → Q' u c'.H) : afterL cls K c σ Wx r Q' := by
  cases r with
  | bad => exact h
  | exc n w' => exact h
  | ok d w' => exact fun u c' hw b q => i u c' b (h u c' hw b q)
def lNil : XL W := fun _ w => .ok [] w
def lCons (f : XF W) (fl : XL W) : XL W := fun δ w => (f δ w).bind fun x w1 => (fl δ w1).bind fun xs w2 => .ok (x :: xs) w2
theorem sa_nil : PA X [] (tSL cls X.K e Wx (lNil (W := W))) := pa_imp pa_nil fun σ H Q ⟨c, δ, eH, r, q⟩ => by
  rw [← eH]
  exact q [] c rfl (Bs.refl r.ok) rfl
theorem sa_cons (ke : Ok e) (ha : PE X a (tS cls X.K e Wx f)) (hr : PA X es (tSL cls X.K e Wx fl)) (hs : starEach (a :: es) X.env = (false, eval a X.env) :: starEach es X.env := by rfl) : PA X (a :: es) (tSL cls X.K e Wx (lCons f fl)) :=
  pa_imp (pa_cons ha hr hs) fun σ H Q ⟨c, δ, eH, r, q⟩ => by
    rw [← eH]
    refine ⟨c, δ, rfl, r, after_mono (afterL_cons (K := X.K) r.ok q) fun u c1 b1 ⟨x, c2, e2, b2, q2, q3⟩ => ?_⟩
    rw [← e2]
    have r2 := r.step ke b2
    refine ⟨c2, δ, rfl, r2, ?_⟩
    cases z : fl δ c2.w with
    | bad => rw [z] at q3; exact q3
    | exc n w' => rw [z] at q3; exact q3
    | ok xs w' =>
      rw [z] at q3
      exact fun us c3 hw b3 q4 => q3 (u :: us) c3 hw b3 ⟨u, us, rfl, q2.mono b3, q4⟩
def allP : List D → Option (List PyData)
  | [] => some []
  | .p d :: r => (allP r).map (d :: ·)
  | _ => none
theorem allP_dq {K : PySem.W.Frag} {c : Cur wd} : ∀ {ds : List D} {vs : List V} {ps : List PyData}, allP ds = some ps → DvL cls K c ds vs → DqL c.F ps vs
  | [], vs, ps, h, q => by
    simp only [allP, Option.some.injEq] at h
    subst h
    have q : vs = [] := q
    subst q
    exact .nil
  | .p d :: r, vs, ps, h, ⟨u, us, e1, q1, q2⟩ => by
    simp only [allP, Option.map_eq_some_iff] at h
    obtain ⟨rs, hr, rfl⟩ := h
    subst e1
    exact .cons q1 (allP_dq hr q2)
  | .exc _ :: _, _, _, h, _ => by simp [allP] at h
  | .obj _ :: _, _, _, h, _ => by simp [allP] at h
  | .scr _ :: _, _, _, h, _ => by simp [allP] at h
  | .opq :: _, _, _, h, _ => by simp [allP] at h
/-- the values that a form gives -/
def xN (g : List D → Option D) (fl : XL W) : XF W := fun δ w => (fl δ w).bind fun xs w1 => opt (g xs) w1
theorem after_args {K : PySem.W.Frag} (ke : Ok e) {c : Cur wd} {δ : Ev} {σ : L2.St} {k : List D → W → Res W D} {Q : VK} (r : Rz cls K e c δ σ) (q : after cls K c σ Wx ((fl δ c.w).bind k) Q) :
    tSL cls K e Wx fl σ c.H fun us H1 => ∃ ds c2, c2.H = H1 ∧ Rz cls K e c2 δ σ ∧ DvL cls K c2 ds us ∧ after cls K c2 σ Wx (k ds c2.w) Q :=
  ⟨c, δ, rfl, r, afterL_mono (afterL_bind r.ok q) fun _ _ _ ⟨ds, c1', e1, b1', q1, q2⟩ => ⟨ds, c1', e1, r.step ke b1', q1, q2⟩⟩
theorem tSL_imp {K : PySem.W.Frag} {σ : L2.St} {H : Hp} {Q Q' : List V → Hp → Prop} (h : tSL cls K e Wx fl σ H Q) (i : ∀ u H', Q u H' → Q' u H') : tSL cls K e Wx fl σ H Q' :=
  let ⟨c, δ, e1, r, q⟩ := h
  ⟨c, δ, e1, r, afterL_mono q fun u c' _ => i u c'.H⟩
def gList (ds : List D) : Option D := (allP ds).bind fun ps => if ps.length ≤ lim then some (.p (.list ps)) else none
def gTupD (ds : List D) : Option D := (allP ds).bind fun ps => if ps.length ≤ lim then some (.p (.tuple ps)) else none
theorem s_list (ke : Ok e) (h : PA X es (tSL cls X.K e Wx fl)) : PE X (.List es pos) (tS cls X.K e Wx (xN gList fl)) := pe_imp (pe_lst h) fun σ H Q ⟨c, δ, eH, r, q⟩ => by
  rw [← eH]
  refine tSL_imp (after_args (K := X.K) ke r q) fun us H1 ⟨ds, c2, e2, r2, q2, q3⟩ => ?_
  replace q3 := after_opt q3
  unfold gList at q3
  cases z : allP ds with
  | none => rw [z] at q3; obtain ⟨_, e, _⟩ := q3; cases e
  | some ps =>
    rw [z] at q3
    dsimp only [Option.bind] at q3
    by_cases z2 : ps.length ≤ lim
    · rw [if_pos z2] at q3
      have q4 := allP_dq z q2
      rw [← e2]
      exact ⟨by rw [q4.len, ← lim_eq]; exact z2, gives_lst q3 r2.ok q4⟩
    · rw [if_neg z2] at q3; obtain ⟨_, e, _⟩ := q3; cases e
theorem s_tup {x1} (ke : Ok e) (h : PA X es (tSL cls X.K e Wx fl)) : PE X (.Tuple es x1 pos) (tS cls X.K e Wx (xN gTupD fl)) := pe_imp (pe_tup h) fun σ H Q ⟨c, δ, eH, r, q⟩ => by
  rw [← eH]
  refine tSL_imp (after_args (K := X.K) ke r q) fun us H1 ⟨ds, c2, e2, r2, q2, q3⟩ => ?_
  replace q3 := after_opt q3
  unfold gTupD at q3
  cases z : allP ds with
  | none => rw [z] at q3; obtain ⟨_, e, _⟩ := q3; cases e
  | some ps =>
    rw [z] at q3
    dsimp only [Option.bind] at q3
    by_cases z2 : ps.length ≤ lim
    · rw [if_pos z2] at q3
      have q4 := allP_dq z q2
      rw [← e2]
      exact ⟨by rw [q4.len, ← lim_eq]; exact z2, gives_tup q3 r2.ok q4⟩
    · rw [if_neg z2] at q3; obtain ⟨_, e, _⟩ := q3; cases e

/-! ## subscripts -/
def gIx : D → D → Option D
  | .p (.list xs), .p (.int i) => (atI xs i).map .p
  | .p (.tuple xs), .p (.int i) => (atI xs i).map .p
  | .p (.str z), .p (.int i) => if z.length ≤ lim then (atI z.cps.toList i).map fun c => .p (.str ⟨#[c]⟩) else none
  | _, _ => none
theorem atI_dq {F : Hp} {ds : List PyData} {vs : List V} {i : Int} {d : PyData} (h : DqL F ds vs) (e : atI ds i = some d) : ∃ v, atI vs i = some v ∧ Dq F d v := by
  unfold atI at e ⊢
  rw [h.len]
  cases z : ixN ds.length i with
  | none => rw [z] at e; cases e
  | some j =>
    rw [z] at e
    exact h.get e
theorem s_ix (ke : Ok e) (ha : PE X a (tS cls X.K e Wx f)) (hb : PE X b (tS cls X.K e Wx h)) (hs : PlainIx b := by exact fun _ _ => rfl) : PE X (.Subscript a b pos) (tS cls X.K e Wx (x2 gIx f h)) := by
  have ho : IxR X (rG cls X.K wd gIx) := ixR_imp ix_seq fun u v H Q ⟨c, x, y, eH, k, qx, qy, q⟩ => by
    unfold gIx at q
    split at q
    · rename_i xs i
      obtain ⟨p, vs, rfl, h1, r1⟩ := dv_lst.mp qx
      obtain rfl := dv_int.mp qy
      cases z : atI xs i with
      | none => rw [z] at q; obtain ⟨_, e, _⟩ := q; cases e
      | some d =>
        rw [z] at q
        obtain ⟨v, e1, q1⟩ := atI_dq r1 z
        exact .inl ⟨p, vs, i, v, rfl, rfl, by rw [← eH]; exact SqL.of (k.fh _ _ h1), e1, by rw [← eH]; exact gives_v q k q1⟩
    · rename_i xs i
      obtain ⟨p, vs, rfl, h1, r1⟩ := dv_tup.mp qx
      obtain rfl := dv_int.mp qy
      cases z : atI xs i with
      | none => rw [z] at q; obtain ⟨_, e, _⟩ := q; cases e
      | some d =>
        rw [z] at q
        obtain ⟨v, e1, q1⟩ := atI_dq r1 z
        exact .inr (.inl ⟨p, vs, i, v, rfl, rfl, by rw [← eH]; exact SqT.of (k.fh _ _ h1), e1, by rw [← eH]; exact gives_v q k q1⟩)
    · rename_i z i
      obtain rfl := dv_str.mp qx
      obtain rfl := dv_int.mp qy
      by_cases hz : z.length ≤ lim
      · rw [if_pos hz] at q
        cases z2 : atI z.cps.toList i with
        | none => rw [z2] at q; obtain ⟨_, e, _⟩ := q; cases e
        | some d =>
          rw [z2] at q
          exact .inr (.inr ⟨z, i, d, rfl, rfl, by rw [← lim_eq]; exact hz, z2, by rw [← eH]; exact gives_v q k (dv_str.mpr rfl)⟩)
      · rw [if_neg hz] at q; obtain ⟨_, e, _⟩ := q; cases e
    · obtain ⟨_, e, _⟩ := q
      cases e
  exact pe_imp (pe_ix ho ha hb hs) fun σ H Q ⟨c, δ, eH, r, q⟩ => by
    rw [← eH]
    refine tS_imp (after_one (K := X.K) ke r q) fun u H1 ⟨x, c2, e2, b2, r2, q2, q3⟩ => ?_
    rw [← e2]
    refine tS_imp (after_one (K := X.K) ke r2 q3) fun v H2 ⟨y, c3, e3, b3, r3, q4, q5⟩ => ?_
    exact ⟨c3, x, y, e3, r3.ok, q2.mono b3, q4, after_opt q5⟩
end
end Z

set_option Elab.async false
set_option linter.all false
set_option maxRecDepth 100000
/-! # Z4: slices, calls of built-ins -/
namespace Z
open PySem PySem.Spec PyProof.Rows L2

section
variable {X : Cx} {W : Type} {wd : WD W} {cls : Nat → Addr} {e : Cur wd} {Wx : WX} {ex a b d : Expr} {pos : Pos} {f h : XF W} {fl : XL W} {es : List Expr}
/-! ## xs[lo:hi] -/
def oInt : D → Option (Option Int)
  | .p (.int i) => some (some i)
  | _ => none
def oEv (o : Option (XF W)) : Ev → W → Res W (Option Int) := fun δ w => match o with
  | none => .ok none w
  | some f => (f δ w).bind fun x w1 => match oInt x with
    | some i => .ok i w1
    | none => .bad
def PoZ (X : Cx) (cls : Nat → Addr) (e : Cur wd) (Wx : WX) : Option Expr → Option (XF W) → Prop
  | none, none => True
  | some ex, some f => PE X ex (tS cls X.K e Wx f)
  | _, _ => False
def tPo (cls : Nat → Addr) (K : PySem.W.Frag) (e : Cur wd) (Wx : WX) (o : Option (XF W)) : TO := match o with
  | none => tNoPart
  | some f => tPart (tS cls K e Wx f)
theorem po_of {o : Option (XF W)} {ox : Option Expr} (h : PoZ X cls e Wx ox o) : PO X ox (tPo cls X.K e Wx o) := by
  cases ox with
  | none =>
    cases o with
    | none => exact po_none
    | some f => exact h.elim
  | some x =>
    cases o with
    | none => exact h.elim
    | some f => exact po_some h
theorem after_part {K : PySem.W.Frag} (ke : Ok e) {c : Cur wd} {δ : Ev} {σ : L2.St} {o : Option (XF W)} {k : Option Int → W → Res W D} {Q : VK} (r : Rz cls K e c δ σ) (q : after cls K c σ Wx ((oEv o δ c.w).bind k) Q) :
    tPo cls K e Wx o σ c.H fun l H1 => ∃ c2, c2.H = H1 ∧ Bs c c2 ∧ Rz cls K e c2 δ σ ∧ after cls K c2 σ Wx (k l c2.w) Q := by
  cases o with
  | none => exact ⟨c, rfl, Bs.refl r.ok, r, q⟩
  | some f =>
    have q' : after cls K c σ Wx ((f δ c.w).bind fun x w1 => match oInt x with
        | some i => k i w1
        | none => .bad) Q := by
      have q : after cls K c σ Wx (((f δ c.w).bind fun x w1 => match oInt x with
        | some i => .ok i w1
        | none => .bad).bind k) Q := q
      cases z : f δ c.w with
      | bad => rw [z] at q; exact q
      | exc _ _ => rw [z] at q; exact q
      | ok x w1 =>
        rw [z] at q
        dsimp only [Res.bind] at q ⊢
        cases z2 : oInt x with
        | none => rw [z2] at q; exact q
        | some i => rw [z2] at q; exact q
    show tS cls K e Wx f σ c.H _
    refine tS_imp (after_one (K := K) ke r q') fun u H1 ⟨x, c2, e2, b2, r2, q2, q3⟩ => ?_
    unfold oInt at q3
    split at q3
    · rename_i i h
      split at h
      · cases h
        obtain rfl := dv_int.mp q2
        exact ⟨_, rfl, c2, e2, b2, r2, q3⟩
      · cases h
    · exact q3.elim
def cutP (xs : List PyData) (lo hi : Option Int) : List PyData := (xs.drop (HT.sIx xs.length 0 lo)).take (HT.sIx xs.length xs.length hi - HT.sIx xs.length 0 lo)
def gSl : D → Option Int → Option Int → Option D
  | .p (.list xs), lo, hi => some (.p (.list (cutP xs lo hi)))
  | .p (.tuple xs), lo, hi => some (.p (.tuple (cutP xs lo hi)))
  | .p (.str z), lo, hi => if z.length ≤ lim then some (.p (.str (cutS z lo hi))) else none
  | _, _, _ => none
def xSl (lo hi : Option (XF W)) (f : XF W) : XF W := fun δ w => (f δ w).bind fun x w1 => (oEv lo δ w1).bind fun l w2 => (oEv hi δ w2).bind fun u w3 => opt (gSl x l u) w3
theorem cut_dq {F : Hp} {ds : List PyData} {vs : List V} {lo hi : Option Int} (h : DqL F ds vs) : DqL F (cutP ds lo hi) (cutV vs lo hi) := by
  unfold cutP cutV
  rw [h.len]
  exact (h.drop _).take _
theorem cut_whole {ds : List PyData} {lo hi : Option Int} (h : HT.sIx ds.length 0 lo = 0 ∧ HT.sIx ds.length ds.length hi = ds.length) : cutP ds lo hi = ds := by
  unfold cutP
  rw [h.1, h.2]
  simp
theorem s_slice {lo hi : Option (XF W)} {el eh : Option Expr} {p2 : Pos} (ke : Ok e) (ha : PE X a (tS cls X.K e Wx f)) (hl : PoZ X cls e Wx el lo) (hh : PoZ X cls e Wx eh hi) : PE X (.Subscript a (.Slice el eh none p2) pos) (tS cls X.K e Wx (xSl lo hi f)) :=
  pe_imp (pe_slice ((sl_list.or sl_tupA).or sl_str) ha (po_of hl) (po_of hh)) fun σ H Q ⟨c, δ, eH, r, q⟩ => by
    rw [← eH]
    refine tS_imp (after_one (K := X.K) ke r q) fun u H1 ⟨x, c2, e2, b2, r2, q2, q3⟩ => ?_
    rw [← e2]
    have zz := after_part (K := X.K) ke r2 q3
    have mono : ∀ {o : Option (XF W)} {σ H} {Q Q' : Option Int → Hp → Prop}, tPo cls X.K e Wx o σ H Q → (∀ l H', Q l H' → Q' l H') → tPo cls X.K e Wx o σ H Q' := fun {o σ H Q Q'} h i => by
      cases o with
      | none => exact i _ _ h
      | some f => exact tS_imp h fun u H' ⟨j, e1, q⟩ => ⟨j, e1, i _ _ q⟩
    refine mono zz fun l H2 ⟨c3, e3, b3, r3, q4⟩ => ?_
    rw [← e3]
    refine mono (after_part (K := X.K) ke r3 q4) fun u' H3 ⟨c4, e4, b4, r4, q5⟩ => ?_
    rw [← e4]
    replace q5 := after_opt q5
    have q6 := (q2.mono b3).mono b4
    have k := r4.ok
    unfold gSl at q5
    split at q5
    · obtain ⟨p, vs, rfl, h1, r1⟩ := dv_lst.mp q6
      exact .inl (.inl ⟨p, vs, rfl, SqL.of (k.fh _ _ h1), gives_lst q5 k (cut_dq r1)⟩)
    · rename_i xs _ _
      obtain ⟨p, vs, rfl, h1, r1⟩ := dv_tup.mp q6
      refine .inl (.inr ⟨p, vs, rfl, SqT.of (k.fh _ _ h1), fun hw => ?_, fun _ => gives_tup q5 k (cut_dq r1)⟩)
      rw [r1.len] at hw
      rw [cut_whole hw] at q5
      exact gives_v q5 k q6
    · rename_i z _ _
      obtain rfl := dv_str.mp q6
      by_cases hz : z.length ≤ lim
      · rw [if_pos hz] at q5
        exact .inr ⟨z, rfl, by rw [← lim_eq]; exact hz, gives_v q5 k (dv_str.mpr rfl)⟩
      · rw [if_neg hz] at q5; obtain ⟨_, e, _⟩ := q5; cases e
    · obtain ⟨_, e, _⟩ := q5; cases e
def gRev : D → Option D
  | .p (.list xs) => some (.p (.list xs.reverse))
  | _ => none
theorem s_rev {k : Nat} {p1 p2 p3 : Pos} (ke : Ok e) (ha : PE X a (tS cls X.K e Wx f)) : PE X (.Subscript a (.Slice none none (some (.UnaryOp .USub (.Constant (.int 1) k p1) p2)) p3) pos) (tS cls X.K e Wx (x1 gRev f)) :=
  pe_imp (pe_revL ha) fun σ H Q ⟨c, δ, eH, r, q⟩ => by
    rw [← eH]
    refine tS_imp (after_one ke r q) fun u H1 ⟨x, c2, e2, b2, r2, q2, q3⟩ => ?_
    replace q3 := after_opt q3
    unfold gRev at q3
    split at q3
    · obtain ⟨p, vs, rfl, h1, r1⟩ := dv_lst.mp q2
      rw [← e2]
      exact ⟨p, vs, rfl, SqL.of (r2.ok.fh _ _ h1), gives_lst q3 r2.ok r1.reverse⟩
    · obtain ⟨_, e, _⟩ := q3; cases e

/-! ## calls of built-ins -/
def rC (cls : Nat → Addr) (K : PySem.W.Frag) (wd : WD W) (g : List D → Option D) : List V → Hp → VK → Prop := fun vs H Q => ∃ (c : Cur wd) (ds : List D), c.H = H ∧ Ok c ∧ DvL cls K c ds vs ∧ gives cls K c (g ds) Q
def CallG (X : Cx) (cls : Nat → Addr) (wd : WD W) (f : Value) (g : List D → Option D) : Prop := CallR X f (rC cls X.K wd g)
theorem s_callB {x : Str} {id : String} {g : List D → Option D} {p : Pos} (ke : Ok e) (hc : CallG X cls wd (.builtin id) g) (hm : X.mg x = none) (hv : bootBuiltins x = some (.builtin id)) (ha : PA X (a :: es) (tSL cls X.K e Wx fl)) (hg : Gl X x := by rfl)
    (hn : x ≠ "__name__" := by decide) (hdb : (x == ("__debug__" : Str)) = false := by decide)
    (he : starEach (a :: es) X.env = (false, eval a X.env) :: starEach es X.env := by rfl) (hpl : (backTo pos (starEach es X.env)).any (·.1) = false := by rfl) : PE X (.Call (.Name x p) (a :: es) [] pos) (tS cls X.K e Wx (xN g fl)) :=
  pe_imp (pe_callB hc hg hm hv ha hn hdb he hpl) fun σ H Q ⟨c, δ, eH, r, q⟩ => by
    rw [← eH]
    exact tSL_imp (after_args (K := X.K) ke r q) fun us H1 ⟨ds, c2, e2, r2, q2, q3⟩ => ⟨c2, ds, e2, r2.ok, q2, after_opt q3⟩
theorem s_callTy {x : Str} {id : String} {g : List D → Option D} {p : Pos} (ke : Ok e) (hc : CallG X cls wd (.type id) g) (hm : X.mg x = none) (hv : bootBuiltins x = some (.type id)) (ha : PA X (a :: es) (tSL cls X.K e Wx fl)) (hg : Gl X x := by rfl)
    (hn : x ≠ "__name__" := by decide) (hdb : (x == ("__debug__" : Str)) = false := by decide)
    (he : starEach (a :: es) X.env = (false, eval a X.env) :: starEach es X.env := by rfl) (hpl : (backTo pos (starEach es X.env)).any (·.1) = false := by rfl) : PE X (.Call (.Name x p) (a :: es) [] pos) (tS cls X.K e Wx (xN g fl)) :=
  pe_imp (pe_callTy hc hg hm hv ha hn hdb he hpl) fun σ H Q ⟨c, δ, eH, r, q⟩ => by
    rw [← eH]
    exact tSL_imp (after_args (K := X.K) ke r q) fun us H1 ⟨ds, c2, e2, r2, q2, q3⟩ => ⟨c2, ds, e2, r2.ok, q2, after_opt q3⟩
theorem gives_no {K : PySem.W.Frag} {c : Cur wd} {Q : VK} {P : Prop} (h : gives cls K c none Q) : P := by
  obtain ⟨_, e, _⟩ := h
  cases e
theorem DvL.one {K : PySem.W.Frag} {c : Cur wd} {x : D} {vs : List V} (h : DvL cls K c [x] vs) : ∃ u, vs = [u] ∧ Dv cls K c x u := by
  obtain ⟨u, us, e1, q, t⟩ := h
  have t : us = [] := t
  subst t
  exact ⟨u, e1, q⟩
theorem DvL.two {K : PySem.W.Frag} {c : Cur wd} {x y : D} {vs : List V} (h : DvL cls K c [x, y] vs) : ∃ u v, vs = [u, v] ∧ Dv cls K c x u ∧ Dv cls K c y v := by
  obtain ⟨u, us, e1, q, t⟩ := h
  obtain ⟨v, rfl, q2⟩ := DvL.one t
  exact ⟨u, v, e1, q, q2⟩
/-! len -/
def gLen : List D → Option D
  | [.p (.list xs)] => some (.p (.int xs.length))
  | [.p (.tuple xs)] => some (.p (.int xs.length))
  | [.p (.str x)] => if x.length ≤ lim then some (.p (.int x.length)) else none
  | _ => none
theorem cg_len : CallG X cls wd (.builtin "len") gLen := callR_imp call_len fun vs H Q ⟨c, ds, eH, k, qs, q⟩ => by
  unfold gLen at q
  split at q
  · obtain ⟨u, rfl, q1⟩ := qs.one
    obtain ⟨p, vs, rfl, h1, r1⟩ := dv_lst.mp q1
    refine ⟨_, _, rfl, .inl ⟨vs, by rw [← eH]; exact SqL.of (k.fh _ _ h1), rfl⟩, ?_⟩
    rw [r1.len, ← eH]
    exact gives_v q k (dv_int.mpr rfl)
  · obtain ⟨u, rfl, q1⟩ := qs.one
    obtain ⟨p, vs, rfl, h1, r1⟩ := dv_tup.mp q1
    refine ⟨_, _, rfl, .inr ⟨vs, by rw [← eH]; exact SqT.of (k.fh _ _ h1), rfl⟩, ?_⟩
    rw [r1.len, ← eH]
    exact gives_v q k (dv_int.mpr rfl)
  · rename_i x
    obtain ⟨u, rfl, q1⟩ := qs.one
    obtain rfl := dv_str.mp q1
    by_cases z : x.length ≤ lim
    · rw [if_pos z] at q
      refine ⟨_, _, rfl, ⟨by rw [← lim_eq]; exact z, rfl⟩, ?_⟩
      rw [← eH]
      exact gives_v q k (dv_int.mpr rfl)
    · rw [if_neg z] at q; exact gives_no q
  · exact gives_no q
/-! sum, max, min of a list -/
def gSum : List D → Option D
  | [.p (.list xs)] => (ints? xs).map fun ns => .p (.int ns.sum)
  | _ => none
theorem ints_list {K : PySem.W.Frag} {c : Cur wd} {xs : List PyData} {ns : List Int} {u : V} (k : Ok c) (z : ints? xs = some ns) (q : Dv cls K c (.p (.list xs)) u) : ∃ p, u = .ref p ∧ SqL K c.H p (ns.map V.int) := by
  obtain ⟨p, vs, rfl, h1, r1⟩ := dv_lst.mp q
  rw [ints?_eq z] at r1
  rw [r1.ints] at h1
  exact ⟨p, rfl, SqL.of (k.fh _ _ h1)⟩
theorem cg_sum (hc : X.calm = true) : CallG X cls wd (.builtin "sum") gSum := callR_imp (cr_sum hc) fun vs H Q ⟨c, ds, eH, k, qs, q⟩ => by
  unfold gSum at q
  split at q
  · rename_i xs
    obtain ⟨u, rfl, q1⟩ := qs.one
    cases z : ints? xs with
    | none => rw [z] at q; exact gives_no q
    | some ns =>
      rw [z] at q
      obtain ⟨p, rfl, h1⟩ := ints_list k z q1
      exact ⟨p, ns, rfl, by rw [← eH]; exact h1, by rw [← eH]; exact gives_v q k (dv_int.mpr rfl)⟩
  · exact gives_no q
def lmax : List Int → Int
  | [] => 0
  | [x] => x
  | x :: y :: r => max x (lmax (y :: r))
def lmin : List Int → Int
  | [] => 0
  | [x] => x
  | x :: y :: r => min x (lmin (y :: r))
theorem lmax_mem : ∀ {l : List Int}, l ≠ [] → lmax l ∈ l ∧ ∀ y ∈ l, y ≤ lmax l
  | [], h => absurd rfl h
  | [x], _ => ⟨List.mem_singleton.mpr rfl, fun y hy => by simp at hy; subst hy; simp [lmax]⟩
  | x :: y :: r, _ => by
    obtain ⟨h1, h2⟩ := lmax_mem (l := y :: r) (by simp)
    simp only [lmax]
    refine ⟨?_, fun z hz => ?_⟩
    · by_cases hx : x ≤ lmax (y :: r)
      · rw [Int.max_eq_right hx]; exact List.mem_cons_of_mem _ h1
      · rw [Int.max_eq_left (by omega)]; exact List.mem_cons_self
    · rcases List.mem_cons.mp hz with rfl | hz
      · omega
      · have := h2 z hz; omega
theorem lmin_mem : ∀ {l : List Int}, l ≠ [] → lmin l ∈ l ∧ ∀ y ∈ l, lmin l ≤ y
  | [], h => absurd rfl h
  | [x], _ => ⟨List.mem_singleton.mpr rfl, fun y hy => by simp at hy; subst hy; simp [lmin]⟩
  | x :: y :: r, _ => by
    obtain ⟨h1, h2⟩ := lmin_mem (l := y :: r) (by simp)
    simp only [lmin]
    refine ⟨?_, fun z hz => ?_⟩
    · by_cases hx : x ≤ lmin (y :: r)
      · rw [Int.min_eq_left hx]; exact List.mem_cons_self
      · rw [Int.min_eq_right (by omega)]; exact List.mem_cons_of_mem _ h1
    · rcases List.mem_cons.mp hz with rfl | hz
      · omega
      · have := h2 z hz; omega
def gMax : List D → Option D
  | [.p (.list xs)] => (ints? xs).bind fun ns => if ns = [] then none else some (.p (.int (lmax ns)))
  | [.p (.int i), .p (.int j)] => some (.p (.int (if j > i then j else i)))
  | _ => none
def gMin : List D → Option D
  | [.p (.list xs)] => (ints? xs).bind fun ns => if ns = [] then none else some (.p (.int (lmin ns)))
  | [.p (.int i), .p (.int j)] => some (.p (.int (if j < i then j else i)))
  | [.p (.int a), .p (.int b), .p (.int c)] => some (.p (.int (if b < a then (if c < b then c else b) else (if c < a then c else a))))
  | _ => none
theorem cg_max (hc : X.calm = true) : CallG X cls wd (.builtin "max") gMax := callR_imp ((cr_max hc).or (call_max2 hc)) fun vs H Q ⟨c, ds, eH, k, qs, q⟩ => by
  unfold gMax at q
  split at q
  · rename_i xs
    obtain ⟨u, rfl, q1⟩ := qs.one
    cases z : ints? xs with
    | none => rw [z] at q; exact gives_no q
    | some ns =>
      rw [z] at q
      dsimp only [Option.bind] at q
      by_cases hn : ns = []
      · rw [if_pos hn] at q; exact gives_no q
      · rw [if_neg hn] at q
        obtain ⟨p, rfl, h1⟩ := ints_list k z q1
        refine .inl ⟨p, ns, rfl, by rw [← eH]; exact h1, List.length_pos_iff.mpr hn, fun m hm hy => ?_⟩
        obtain ⟨g1, g2⟩ := lmax_mem hn
        have e : m = lmax ns := Int.le_antisymm (g2 m hm) (hy _ g1)
        subst e
        rw [← eH]; exact gives_v q k (dv_int.mpr rfl)
  · rename_i i j
    obtain ⟨u, v, rfl, q1, q2⟩ := qs.two
    obtain rfl := dv_int.mp q1
    obtain rfl := dv_int.mp q2
    exact .inr ⟨i, j, rfl, by rw [← eH]; exact gives_v q k (dv_int.mpr rfl)⟩
  · exact gives_no q
theorem call_min3 (hc : X.calm = true) : CallR X (.builtin "min") (fun xs H Q => ∃ i j k, xs = [.int i, .int j, .int k] ∧ Q (.int (if j < i then (if k < j then k else j) else (if k < i then k else i))) H) := by
  intro pins s σ H xs us Q I r h
  obtain ⟨i, j, k, rfl, q⟩ := h
  cases r with
  | cons r1 r =>
    cases r with
    | cons r2 r =>
      cases r with
      | cons r3 r =>
        cases r
        obtain ⟨t1, rfl⟩ := r1
        obtain ⟨t2, rfl⟩ := r2
        obtain ⟨t3, rfl⟩ := r3
        refine min_three_ints (I.ok.hd hc) fun h' tk kk => ⟨_, H, I.kept kk, ?_, q⟩
        by_cases a1 : j < i
        · rw [if_pos a1, if_pos a1]
          by_cases a2 : k < j
          · rw [if_pos a2, if_pos a2]; exact ⟨_, rfl⟩
          · rw [if_neg a2, if_neg a2]; exact ⟨_, rfl⟩
        · rw [if_neg a1, if_neg a1]
          by_cases a2 : k < i
          · rw [if_pos a2, if_pos a2]; exact ⟨_, rfl⟩
          · rw [if_neg a2, if_neg a2]; exact ⟨_, rfl⟩
theorem cg_min (hc : X.calm = true) : CallG X cls wd (.builtin "min") gMin := callR_imp (((cr_min hc).or (call_min2 hc)).or (call_min3 hc)) fun vs H Q ⟨c, ds, eH, k, qs, q⟩ => by
  unfold gMin at q
  split at q
  · rename_i xs
    obtain ⟨u, rfl, q1⟩ := qs.one
    cases z : ints? xs with
    | none => rw [z] at q; exact gives_no q
    | some ns =>
      rw [z] at q
      dsimp only [Option.bind] at q
      by_cases hn : ns = []
      · rw [if_pos hn] at q; exact gives_no q
      · rw [if_neg hn] at q
        obtain ⟨p, rfl, h1⟩ := ints_list k z q1
        refine .inl (.inl ⟨p, ns, rfl, by rw [← eH]; exact h1, List.length_pos_iff.mpr hn, fun m hm hy => ?_⟩)
        obtain ⟨g1, g2⟩ := lmin_mem hn
        have e : m = lmin ns := Int.le_antisymm (hy _ g1) (g2 m hm)
        subst e
        rw [← eH]; exact gives_v q k (dv_int.mpr rfl)
  · rename_i i j
    obtain ⟨u, v, rfl, q1, q2⟩ := qs.two
    obtain rfl := dv_int.mp q1
    obtain rfl := dv_int.mp q2
    exact .inl (.inr ⟨i, j, rfl, by rw [← eH]; exact gives_v q k (dv_int.mpr rfl)⟩)
  · rename_i i j l
    obtain ⟨u, us, rfl, q1, qs⟩ := qs
    obtain ⟨v, w, rfl, q2, q3⟩ := qs.two
    obtain rfl := dv_int.mp q1
    obtain rfl := dv_int.mp q2
    obtain rfl := dv_int.mp q3
    exact .inr ⟨i, j, l, rfl, by rw [← eH]; exact gives_v q k (dv_int.mpr rfl)⟩
  · exact gives_no q
/-! any, all: of truth values; any of ints -/
theorem truth_ints {prog : Program} {w : World} {A : Around} {ns : List Int} {its : List Value} (r : Vals (ns.map V.int) its) :
    TruthOf prog w A (fun i v => its.toArray[i]? = some v) (fun i => (ns.map (· != 0)).getD i false) := fun i v s Q E hv hq => by
  have hv' : its[i]? = some v := by simpa using hv
  have hl : (ns.map V.int).length = its.length := r.length
  have hi : i < its.length := (List.getElem?_eq_some_iff.mp hv').1
  have hi2 : i < ns.length := by rw [List.length_map] at hl; omega
  obtain ⟨u, hu, ru⟩ := r.get (i := i) (x := V.int ns[i]) (by simp [hi2])
  rw [hv'] at hu
  cases hu
  obtain ⟨t, rfl⟩ := ru
  have hg : (ns.map (· != 0)).getD i false = (ns[i] != 0) := by simp [List.getD_eq_getElem?_getD, hi2]
  have hq' : Q ((ns.map (· != 0)).getD i false) s := hq
  rw [hg] at hq'
  exact PySem.P.truthy_int hq'
theorem cr_anyI (hc : X.calm = true) : CallR X (.builtin "any") (fun vs H Q => ∃ (p : Addr) (ns : List Int), vs = [V.ref p] ∧ SqL X.K H p (ns.map V.int) ∧ Q (.bl ((ns.map (· != 0)).any id)) H) := by
  intro pins s σ H vs us Q I r h
  obtain ⟨p, ns, rfl, hs, q⟩ := h
  obtain ⟨its, rv, hl, _⟩ := I.list hs
  rw [Vals.ref1 r]
  have hlen : its.length = ns.length := by rw [← rv.length]; simp
  refine call_any_walk (iter_any hl.isList fun s₂ e2 st hne => ?_)
  subst e2
  refine ⟨_, _, _, _, _, _, _, rfl, Walks.list (A := X.A.in1) (I.ok.hd hc) _ p hne its.toArray, st, truth_ints rv, fun h' tk hk => ?_⟩
  refine ⟨.bl _, H, I.kept fun b o eo => hk b o (fun hmem => ?_) (Heap.get?_push_of_some _ eo), ?_, q⟩
  · rcases List.mem_cons.mp hmem with e1 | hmem
    · exact absurd (e1 ▸ Heap.lt_size eo) (Nat.lt_irrefl _)
    · cases hmem
  · show Value.bool _ = Value.bool _
    rw [← L2.any_range, List.size_toArray, hlen, List.length_map]
theorem cr_anyT (hc : X.calm = true) : CallR X (.builtin "any") (fun vs H Q => ∃ (p : Addr) (ns : List Int), vs = [V.ref p] ∧ SqT X.K H p (ns.map V.int) ∧ Q (.bl ((ns.map (· != 0)).any id)) H) := by
  intro pins s σ H vs us Q I r h
  obtain ⟨p, ns, rfl, hs, q⟩ := h
  obtain ⟨its, rv, hl, _⟩ := I.tuple hs
  rw [Vals.ref1 r]
  have hlen : its.length = ns.length := by rw [← rv.length]; simp
  have ht : s.heap.IsTuple p its.toArray := hl
  have hlt : p < s.heap.objs.size := by obtain ⟨_, e, _⟩ := ht; exact Heap.lt_size e
  refine call_any_walk (wpAny_pyIter_tuple ht ?_)
  refine ⟨_, _, _, _, _, _, _, rfl, Walks.tuple (A := X.A.in1) (I.ok.hd hc) s.heap.objs.size p (Nat.ne_of_lt hlt) its.toArray, ⟨⟨_, Heap.get?_push_size _ rfl, rfl, rfl⟩, ht.push _⟩, truth_ints rv, fun h' tk hk => ?_⟩
  refine ⟨.bl _, H, I.kept fun b o eo => hk b o (fun hmem => ?_) (Heap.get?_push_of_some _ eo), ?_, q⟩
  · rcases List.mem_cons.mp hmem with e1 | hmem
    · exact absurd (e1 ▸ Heap.lt_size eo) (Nat.lt_irrefl _)
    · cases hmem
  · show Value.bool _ = Value.bool _
    rw [← L2.any_range, List.size_toArray, hlen, List.length_map]
def gAny : List D → Option D
  | [.p (.list xs)] => match bools? xs with
    | some bs => some (.p (.bool (bs.any id)))
    | none => (ints? xs).map fun ns => .p (.bool (ns.any (· != 0)))
  | [.p (.tuple xs)] => (ints? xs).map fun ns => .p (.bool (ns.any (· != 0)))
  | _ => none
def gAll : List D → Option D
  | [.p (.list xs)] => (bools? xs).map fun bs => .p (.bool (bs.all id))
  | _ => none
theorem bools_list {K : PySem.W.Frag} {c : Cur wd} {xs : List PyData} {ns : List Bool} {u : V} (k : Ok c) (z : bools? xs = some ns) (q : Dv cls K c (.p (.list xs)) u) : ∃ p, u = .ref p ∧ SqL K c.H p (ns.map V.bl) := by
  obtain ⟨p, vs, rfl, h1, r1⟩ := dv_lst.mp q
  rw [bools?_eq z] at r1
  rw [r1.bls] at h1
  exact ⟨p, rfl, SqL.of (k.fh _ _ h1)⟩
theorem cg_any (hc : X.calm = true) : CallG X cls wd (.builtin "any") gAny := callR_imp (((cr_any hc).or (cr_anyI hc)).or (cr_anyT hc)) fun vs H Q ⟨c, ds, eH, k, qs, q⟩ => by
  unfold gAny at q
  split at q
  · rename_i xs
    obtain ⟨u, rfl, q1⟩ := qs.one
    cases z : bools? xs with
    | some bs =>
      rw [z] at q
      obtain ⟨p, rfl, h1⟩ := bools_list k z q1
      exact .inl (.inl ⟨p, bs, rfl, by rw [← eH]; exact h1, by rw [← eH]; exact gives_v q k (dv_bl.mpr rfl)⟩)
    | none =>
      rw [z] at q
      dsimp only at q
      cases z2 : ints? xs with
      | none => rw [z2] at q; exact gives_no q
      | some ns =>
        rw [z2] at q
        obtain ⟨p, rfl, h1⟩ := ints_list k z2 q1
        exact .inl (.inr ⟨p, ns, rfl, by rw [← eH]; exact h1, by rw [← eH]; exact gives_v q k (dv_bl.mpr (by simp [List.any_map, Function.comp_def]))⟩)
  · rename_i xs
    obtain ⟨u, rfl, q1⟩ := qs.one
    cases z2 : ints? xs with
    | none => rw [z2] at q; exact gives_no q
    | some ns =>
      rw [z2] at q
      obtain ⟨p, vs, rfl, h1, r1⟩ := dv_tup.mp q1
      rw [ints?_eq z2] at r1
      rw [r1.ints] at h1
      exact .inr ⟨p, ns, rfl, by rw [← eH]; exact SqT.of (k.fh _ _ h1), by rw [← eH]; exact gives_v q k (dv_bl.mpr (by simp [List.any_map, Function.comp_def]))⟩
  · exact gives_no q
theorem cg_all (hc : X.calm = true) : CallG X cls wd (.builtin "all") gAll := callR_imp (cr_all hc) fun vs H Q ⟨c, ds, eH, k, qs, q⟩ => by
  unfold gAll at q
  split at q
  · rename_i xs
    obtain ⟨u, rfl, q1⟩ := qs.one
    cases z : bools? xs with
    | none => rw [z] at q; exact gives_no q
    | some ns =>
      rw [z] at q
      obtain ⟨p, rfl, h1⟩ := bools_list k z q1
      exact ⟨p, ns, rfl, by rw [← eH]; exact h1, by rw [← eH]; exact gives_v q k (dv_bl.mpr rfl)⟩
  · exact gives_no q
/-! list(xs), tuple(xs), str(n) -/
def gListOf : List D → Option D
  | [.p (.list xs)] => some (.p (.list xs))
  | [.p (.tuple xs)] => some (.p (.list xs))
  | _ => none
def gTupOf : List D → Option D
  | [.p (.list xs)] => some (.p (.tuple xs))
  | [.p (.tuple xs)] => some (.p (.tuple xs))
  | _ => none
theorem cg_list : CallG X cls wd (.type "list") gListOf := callR_imp call_list_of fun vs H Q ⟨c, ds, eH, k, qs, q⟩ => by
  unfold gListOf at q
  split at q
  · obtain ⟨u, rfl, q1⟩ := qs.one
    obtain ⟨p, vs, rfl, h1, r1⟩ := dv_lst.mp q1
    rw [← eH]
    exact ⟨p, vs, rfl, .inl (SqL.of (k.fh _ _ h1)), gives_lst q k r1⟩
  · obtain ⟨u, rfl, q1⟩ := qs.one
    obtain ⟨p, vs, rfl, h1, r1⟩ := dv_tup.mp q1
    rw [← eH]
    exact ⟨p, vs, rfl, .inr (SqT.of (k.fh _ _ h1)), gives_lst q k r1⟩
  · exact gives_no q
theorem cg_tuple : CallG X cls wd (.type "tuple") gTupOf := callR_imp call_tuple_of fun vs H Q ⟨c, ds, eH, k, qs, q⟩ => by
  unfold gTupOf at q
  split at q
  · obtain ⟨u, rfl, q1⟩ := qs.one
    obtain ⟨p, vs, rfl, h1, r1⟩ := dv_lst.mp q1
    rw [← eH]
    exact ⟨p, vs, rfl, .inl ⟨SqL.of (k.fh _ _ h1), gives_tup q k r1⟩⟩
  · obtain ⟨u, rfl, q1⟩ := qs.one
    obtain ⟨p, vs, rfl, h1, r1⟩ := dv_tup.mp q1
    rw [← eH]
    exact ⟨p, vs, rfl, .inr ⟨SqT.of (k.fh _ _ h1), gives_v q k (dv_tup.mpr ⟨p, vs, rfl, h1, r1⟩)⟩⟩
  · exact gives_no q
def gStr : List D → Option D
  | [.p (.int i)] => if i.natAbs < 1000000 then some (.p (.str (toString i))) else none
  | _ => none
theorem cg_str : CallG X cls wd (.type "str") gStr := callR_imp call_str_int fun vs H Q ⟨c, ds, eH, k, qs, q⟩ => by
  unfold gStr at q
  split at q
  · rename_i i
    obtain ⟨u, rfl, q1⟩ := qs.one
    obtain rfl := dv_int.mp q1
    by_cases z : i.natAbs < 1000000
    · rw [if_pos z] at q
      refine ⟨i, rfl, ?_, by rw [← eH]; exact gives_v q k (dv_str.mpr rfl)⟩
      have h1 : i.natAbs.log2 ≤ i.natAbs := Nat.log2_le_self _
      by_cases h0 : i.natAbs = 0
      · rw [h0]; decide
      · have := (Nat.log2_lt h0 (k := 20)).mpr (by omega)
        omega
    · rw [if_neg z] at q; exact gives_no q
  · exact gives_no q
/-! list(range(n)), tuple(range(n)), list(range(a, b)) -/
def gRg (tup : Bool) (a b : Int) : Option D := if 0 ≤ a ∧ a ≤ 16777216 ∧ 0 ≤ b ∧ b ≤ 16777216 then
    (let l := (List.range (b - a).toNat).map fun (i : Nat) => PyData.int (a + (i : Int))
     some (.p (if tup then .tuple l else .list l))) else none
theorem dq_rg {F : Hp} (a b : Int) : DqL F ((List.range (b - a).toNat).map fun (i : Nat) => PyData.int (a + (i : Int))) (rgV a b) := by
  have h : ∀ l : List Nat, DqL F (l.map fun (i : Nat) => PyData.int (a + (i : Int))) (l.map fun (i : Nat) => V.int (a + (i : Int))) := fun l => by
    induction l with
    | nil => exact .nil
    | cons x r ih => exact .cons (by simp [Dq]) ih
  exact h _
def asI : D → Option Int
  | .p (.int i) => some i
  | _ => none
theorem asI_eq {K : PySem.W.Frag} {c : Cur wd} {x : D} {u : V} {i : Int} (h : asI x = some i) (q : Dv cls K c x u) : u = .int i := by
  unfold asI at h
  split at h
  · cases h; exact dv_int.mp q
  · cases h
def gRg1 (tup : Bool) (x : D) : Option D := (asI x).bind fun n => gRg tup 0 n
def gRg2 (tup : Bool) (x y : D) : Option D := (asI x).bind fun m => (asI y).bind fun n => gRg tup m n
theorem rg_list {K : PySem.W.Frag} {c : Cur wd} {m n : Int} {Q : VK} (k : Ok c) (q : gives cls K c (gRg false m n) Q) : RgOk m n ∧ ∀ p, c.H p = none → Q (.ref p) (upd c.H p (.lst (rgV m n))) := by
  unfold gRg at q
  by_cases z : 0 ≤ m ∧ m ≤ 16777216 ∧ 0 ≤ n ∧ n ≤ 16777216
  · rw [if_pos z] at q
    exact ⟨RgOk.of_le z.1 z.2.2.2 z.2.1 z.2.2.1, gives_lst q k (dq_rg m n)⟩
  · rw [if_neg z] at q; exact gives_no q
theorem rg_tup {K : PySem.W.Frag} {c : Cur wd} {m n : Int} {Q : VK} (k : Ok c) (q : gives cls K c (gRg true m n) Q) : RgOk m n ∧ ∀ p, c.H p = none → Q (.ref p) (upd c.H p (.tup (rgV m n))) := by
  unfold gRg at q
  by_cases z : 0 ≤ m ∧ m ≤ 16777216 ∧ 0 ≤ n ∧ n ≤ 16777216
  · rw [if_pos z] at q
    exact ⟨RgOk.of_le z.1 z.2.2.2 z.2.1 z.2.2.1, gives_tup q k (dq_rg m n)⟩
  · rw [if_neg z] at q; exact gives_no q
theorem s_listRg1 {p pos p' pos' : Pos} (ke : Ok e) (hc : X.calm = true) (hm : X.mg "list" = none) (hm' : X.mg "range" = none) (ha : PE X a (tS cls X.K e Wx f)) (hg : Gl X "list" := by rfl) (hg' : Gl X "range" := by rfl)
    (na : starEach [.Call (.Name "range" p') [a] [] pos'] X.env = (false, eval (.Call (.Name "range" p') [a] [] pos') X.env) :: starEach [] X.env := by rfl) (na' : starEach [a] X.env = (false, eval a X.env) :: starEach [] X.env := by rfl) :
    PE X (.Call (.Name "list" p) [.Call (.Name "range" p') [a] [] pos'] [] pos) (tS cls X.K e Wx (x1 (gRg1 false) f)) :=
  pe_imp (pe_listRg hc hg hm (prg_1 hg' hm' ha na') na) fun σ H Q ⟨c, δ, eH, r, q⟩ => by
    rw [← eH]
    refine tS_imp (after_one ke r q) fun u H1 ⟨x, c2, e2, b2, r2, q2, q3⟩ => ?_
    replace q3 := after_opt q3
    unfold gRg1 at q3
    cases z : asI x with
    | none => rw [z] at q3; exact gives_no q3
    | some n =>
      rw [z] at q3
      rw [← e2]
      exact ⟨n, asI_eq z q2, rg_list r2.ok q3⟩
theorem s_tupRg1 {p pos p' pos' : Pos} (ke : Ok e) (hc : X.calm = true) (hm : X.mg "tuple" = none) (hm' : X.mg "range" = none) (ha : PE X a (tS cls X.K e Wx f)) (hg : Gl X "tuple" := by rfl) (hg' : Gl X "range" := by rfl)
    (na : starEach [.Call (.Name "range" p') [a] [] pos'] X.env = (false, eval (.Call (.Name "range" p') [a] [] pos') X.env) :: starEach [] X.env := by rfl) (na' : starEach [a] X.env = (false, eval a X.env) :: starEach [] X.env := by rfl) :
    PE X (.Call (.Name "tuple" p) [.Call (.Name "range" p') [a] [] pos'] [] pos) (tS cls X.K e Wx (x1 (gRg1 true) f)) :=
  pe_imp (pe_tupRg hc hg hm (prg_1 hg' hm' ha na') na) fun σ H Q ⟨c, δ, eH, r, q⟩ => by
    rw [← eH]
    refine tS_imp (after_one ke r q) fun u H1 ⟨x, c2, e2, b2, r2, q2, q3⟩ => ?_
    replace q3 := after_opt q3
    unfold gRg1 at q3
    cases z : asI x with
    | none => rw [z] at q3; exact gives_no q3
    | some n =>
      rw [z] at q3
      rw [← e2]
      exact ⟨n, asI_eq z q2, rg_tup r2.ok q3⟩
theorem s_listRg2 {p pos p' pos' : Pos} (ke : Ok e) (hc : X.calm = true) (hm : X.mg "list" = none) (hm' : X.mg "range" = none) (ha : PE X a (tS cls X.K e Wx f)) (hb : PE X b (tS cls X.K e Wx h)) (hg : Gl X "list" := by rfl) (hg' : Gl X "range" := by rfl)
    (na : starEach [.Call (.Name "range" p') [a, b] [] pos'] X.env = (false, eval (.Call (.Name "range" p') [a, b] [] pos') X.env) :: starEach [] X.env := by rfl) (na' : starEach [a, b] X.env = (false, eval a X.env) :: starEach [b] X.env := by rfl)
    (na2 : starEach [b] X.env = (false, eval b X.env) :: starEach [] X.env := by rfl) (np : (backTo pos' (starEach [b] X.env)).any (·.1) = false := by rfl) :
    PE X (.Call (.Name "list" p) [.Call (.Name "range" p') [a, b] [] pos'] [] pos) (tS cls X.K e Wx (x2 (gRg2 false) f h)) :=
  pe_imp (pe_listRg hc hg hm (prg_2 hg' hm' ha hb na' (nb := na2) (hp := np)) na) fun σ H Q ⟨c, δ, eH, r, q⟩ => by
    rw [← eH]
    show tS cls X.K e Wx f σ c.H _
    refine tS_imp (after_one ke r q) fun u H1 ⟨x, c2, e2, b2, r2, q2, q3⟩ => ?_
    rw [← e2]
    refine tS_imp (after_one (K := X.K) ke r2 q3) fun v H2 ⟨y, c3, e3, b3, r3, q4, q5⟩ => ?_
    replace q5 := after_opt q5
    unfold gRg2 at q5
    cases z : asI x with
    | none => rw [z] at q5; exact gives_no q5
    | some m =>
      rw [z] at q5
      dsimp only [Option.bind] at q5
      cases z2 : asI y with
      | none => rw [z2] at q5; exact gives_no q5
      | some n =>
        rw [z2] at q5
        rw [← e3]
        exact ⟨m, n, asI_eq z (q2.mono b3), asI_eq z2 q4, rg_list r3.ok q5⟩
/-! isinstance(x, T), T a built-in class -/
def pyTy : D → Option String
  | .p .none => some "NoneType"
  | .p (.bool _) => some "bool"
  | .p (.int _) => some "int"
  | .p (.str _) => some "str"
  | .p (.list _) => some "list"
  | .p (.tuple _) => some "tuple"
  | _ => none
theorem tyx {K : PySem.W.Frag} {c : Cur wd} {x : D} {u : V} {T : String} (k : Ok c) (h : pyTy x = some T) (q : Dv cls K c x u) : TyX K c.H u (.type T) := by
  unfold pyTy at h
  split at h
  · cases h; obtain rfl := dv_non.mp q; exact .base .non
  · cases h; obtain rfl := dv_bl.mp q; exact .base (.bl _)
  · cases h; obtain rfl := dv_int.mp q; exact .base (.int _)
  · cases h; obtain rfl := dv_str.mp q; exact .base (.str _)
  · cases h; obtain ⟨p, vs, rfl, h1, _⟩ := dv_lst.mp q; exact .base (.lst (k.fh _ _ h1))
  · cases h; obtain ⟨p, vs, rfl, h1, _⟩ := dv_tup.mp q; exact .base (.tup (k.fh _ _ h1))
  · cases h
/-- is T the type, or one that it stands under -/
def tyIs (T S : String) : Bool := T == S || (T == "bool" && S == "int")
def goodTy (S : String) : Bool := S == "int" || S == "bool" || S == "list" || S == "tuple" || S == "str"
theorem tyIs_kit {T S : String} (hT : T = "NoneType" ∨ T = "bool" ∨ T = "int" ∨ T = "str" ∨ T = "list" ∨ T = "tuple") (hS : S = "int" ∨ S = "bool" ∨ S = "list" ∨ S = "tuple" ∨ S = "str") : kitB T S = some (tyIs T S) := by
  rcases hT with rfl | rfl | rfl | rfl | rfl | rfl <;> rcases hS with rfl | rfl | rfl | rfl | rfl <;> decide +kernel
def gIsi (S : String) (x : D) : Option D := (pyTy x).map fun T => .p (.bool (tyIs T S))
theorem pyTy_is {x : D} {T : String} (h : pyTy x = some T) : T = "NoneType" ∨ T = "bool" ∨ T = "int" ∨ T = "str" ∨ T = "list" ∨ T = "tuple" := by
  unfold pyTy at h
  split at h <;> first | (cases h; simp; done) | cases h
theorem s_isi {S : String} {xs : Str} {p p2 pos : Pos} (ke : Ok e) (hS : S = "int" ∨ S = "bool" ∨ S = "list" ∨ S = "tuple" ∨ S = "str") (hm : X.mg "isinstance" = none) (hms : X.mg xs = none) (hvs : bootBuiltins xs = some (.type S)) (ha : PE X a (tS cls X.K e Wx f))
    (hg : Gl X "isinstance" := by rfl) (hgs : Gl X xs := by rfl) (hns : xs ≠ "__name__" := by decide) (hds : (xs == ("__debug__" : Str)) = false := by decide)
    (hv : bootBuiltins "isinstance" = some (.builtin "isinstance") := by decide +kernel)
    (he : starEach [a, .Name xs p2] X.env = (false, eval a X.env) :: starEach [.Name xs p2] X.env := by rfl) (he2 : starEach [.Name xs p2] X.env = (false, eval (.Name xs p2) X.env) :: starEach [] X.env := by rfl)
    (hpl : (backTo pos (starEach [.Name xs p2] X.env)).any (·.1) = false := by rfl) :
    PE X (.Call (.Name "isinstance" p) [a, .Name xs p2] [] pos) (tS cls X.K e Wx (x1 (gIsi S) f)) :=
  pe_imp (pe_callB call_isi hg hm hv (pa_cons ha (pa_cons (pe_bltn (v := .ty S) hgs hms hvs rfl hns hds) pa_nil he2) he) (by decide) (by decide) he hpl) fun σ H Q ⟨c, δ, eH, r, q⟩ => by
    rw [← eH]
    show tS cls X.K e Wx f σ c.H _
    refine tS_imp (after_one ke r q) fun u H1 ⟨x, c2, e2, b2, r2, q2, q3⟩ => ?_
    replace q3 := after_opt q3
    unfold gIsi at q3
    cases z : pyTy x with
    | none => rw [z] at q3; exact gives_no q3
    | some T =>
      rw [z] at q3
      rw [← e2]
      exact ⟨u, .ty S, .type T, .type S, tyIs T S, rfl, .ty S, tyx r2.ok z q2, kit_ty (tyIs_kit (pyTy_is z) hS), gives_v q3 r2.ok (dv_bl.mpr rfl)⟩
end
end Z

set_option Elab.async false
set_option linter.all false
set_option maxRecDepth 100000
/-! # Z5: what is walked; targets; list comprehensions -/
namespace Z
open PySem PySem.Spec PyProof.Rows L2

/-! ## targets -/
abbrev TZ := PyData → Ev → Option Ev
section
variable {X : Cx} {W : Type} {wd : WD W} {cls : Nat → Addr} {e : Cur wd} {Wx : WX} {tg ex a b d : Expr} {pos : Pos} {f h : XF W} {fl : XL W} {es : List Expr}
/-- a target's reading does what tz says -/
def TgOk (cls : Nat → Addr) (K : PySem.W.Frag) (e : Cur wd) (g : TG) (tz : TZ) : Prop :=
  ∀ (c : Cur wd) (δ δ' : Ev) (σ : L2.St) (d : PyData) (v : V) (Q : L2.St → Hp → Prop), Rz cls K e c δ σ → Dq c.F d v → tz d δ = some δ' → (∀ σ', Rz cls K e c δ' σ' → Q σ' c.H) → g v σ c.H Q
def TgsOk (cls : Nat → Addr) (K : PySem.W.Frag) (e : Cur wd) (g : TGs) (tz : List PyData → Ev → Option Ev) : Prop :=
  ∀ (c : Cur wd) (δ δ' : Ev) (σ : L2.St) (ds : List PyData) (vs : List V) (Q : L2.St → Hp → Prop), Rz cls K e c δ σ → DqL c.F ds vs → tz ds δ = some δ' → (∀ σ', Rz cls K e c δ' σ' → Q σ' c.H) → g vs σ c.H Q
def zN (i : Nat) : TZ := fun d δ => if i < δ.length then some (δ.set i (.v (.p d))) else none
def zNil : List PyData → Ev → Option Ev := fun ds δ => if ds = [] then some δ else none
def zCons (t : TZ) (u : List PyData → Ev → Option Ev) : List PyData → Ev → Option Ev := fun ds δ => match ds with
  | d :: r => (t d δ).bind (u r)
  | [] => none
def zT (n : Nat) (u : List PyData → Ev → Option Ev) : TZ := fun d δ => match d with
  | .tuple ds => if ds.length = n then u ds δ else none
  | _ => none
def zL (n : Nat) (u : List PyData → Ev → Option Ev) : TZ := fun d δ => match d with
  | .list ds => if ds.length = n then u ds δ else none
  | _ => none
theorem tg_name {i : Nat} : TgOk cls X.K e (gName i) (zN i) := fun c δ δ' σ d v Q r q z k => by
  unfold zN at z
  by_cases hi : i < δ.length
  · rw [if_pos hi] at z
    cases z
    exact k _ (r.put hi q)
  · rw [if_neg hi] at z; cases z
theorem tgs_nil : TgsOk cls X.K e gNil zNil := fun c δ δ' σ ds vs Q r q z k => by
  unfold zNil at z
  by_cases hi : ds = []
  · rw [if_pos hi] at z
    cases z
    subst hi
    exact ⟨q.unnil, k _ r⟩
  · rw [if_neg hi] at z; cases z
theorem tgs_cons {g : TG} {gs : TGs} {t : TZ} {u : List PyData → Ev → Option Ev} (h1 : TgOk cls X.K e g t) (h2 : TgsOk cls X.K e gs u) : TgsOk cls X.K e (gCons g gs) (zCons t u) := fun c δ δ' σ ds vs Q r q z k => by
  cases ds with
  | nil => cases z
  | cons d ds =>
    obtain ⟨v, us, rfl, q1, q2⟩ := q.uncons
    have z : (t d δ).bind (u ds) = some δ' := z
    cases z1 : t d δ with
    | none => rw [z1] at z; cases z
    | some δ1 =>
      rw [z1] at z
      exact ⟨v, us, rfl, h1 c δ δ1 σ d v _ r q1 z1 fun σ1 r1 => h2 c δ1 δ' σ1 ds us Q r1 q2 z k⟩
theorem tg_tup {n : Nat} {gs : TGs} {u : List PyData → Ev → Option Ev} (h : TgsOk cls X.K e gs u) : TgOk cls X.K e (gTup X.K n gs) (zT n u) := fun c δ δ' σ d v Q r q z k => by
  cases d with
  | tuple ds =>
    have z : (if ds.length = n then u ds δ else none) = some δ' := z
    by_cases hi : ds.length = n
    · rw [if_pos hi] at z
      simp only [Dq] at q
      obtain ⟨p, vs, rfl, h1, r1⟩ := q
      exact ⟨p, vs, rfl, SqT.of (r.ok.fh _ _ h1), by rw [r1.len]; exact hi, h c δ δ' σ ds vs Q r r1 z k⟩
    · rw [if_neg hi] at z; cases z
  | _ => cases z

/-! ## what is walked -/
/-- J walks these items, as long as P holds of the state -/
def JOk (J : It) (P : Cur wd → Prop) (items : List PyData) : Prop :=
  (∀ i (c : Cur wd), P c → i < items.length → J.go i c.H) ∧ (∀ i (c : Cur wd), P c → items.length ≤ i → J.stop i c.H) ∧
    ∀ i (c : Cur wd) x H' d, P c → J.yld i c.H x H' → items[i]? = some d → ∃ c' : Cur wd, c'.H = H' ∧ c'.w = c.w ∧ Bs c c' ∧ Dq c'.F d x
abbrev XI (W : Type) := Ev → W → Res W (List PyData)
def afterI (cls : Nat → Addr) (c : Cur wd) (σ : L2.St) (Wx : WX) (r : Res W (List PyData)) (P : Cur wd → Cur wd → Prop) (R : It → Hp → Prop) : Prop := match r with
  | .ok items w' => ∀ J c', c'.w = w' → Bs c c' → JOk J (P c') items → R J c'.H
  | .exc n w' => ∀ c', c'.w = w' → Bs c c' → Wx (.ref (cls n)) none σ c'.H
  | .bad => False
/-- what is walked stands frozen -/
def keepF (c c' : Cur wd) : Prop := Ok c' ∧ Sub c.F c'.F
/-- what is walked is not changed meanwhile -/
def keepB (c c' : Cur wd) : Prop := Bs c c'
def tSI (cls : Nat → Addr) (K : PySem.W.Frag) (e : Cur wd) (Wx : WX) (P : Cur wd → Cur wd → Prop) (it : XI W) : TI := fun σ H R => ∃ c δ, c.H = H ∧ Rz cls K e c δ σ ∧ afterI cls c σ Wx (it δ c.w) P R
theorem pi_imp {wi wi' : TI} (hi : PI X tg ex wi) (i : ∀ σ H R, wi' σ H R → wi σ H R) : PI X tg ex wi' := ⟨fun pins s σ H R I q => hi.run pins s σ H R I (i σ H R q)⟩
theorem pi_strong {it : XI W} (h : PI X tg ex (tSI cls X.K e Wx keepF it)) : PI X tg ex (tSI cls X.K e Wx keepB it) := pi_imp h fun σ H R ⟨c, δ, eH, r, q⟩ => by
  refine ⟨c, δ, eH, r, ?_⟩
  cases z : it δ c.w with
  | bad => rw [z] at q; exact q
  | exc n w' => rw [z] at q; exact q
  | ok items w' =>
    rw [z] at q
    intro J c' hw b ⟨j1, j2, j3⟩
    exact q J c' hw b ⟨fun i c2 p => j1 i c2 ⟨p.ok, p.ff⟩, fun i c2 p => j2 i c2 ⟨p.ok, p.ff⟩, fun i c2 x H' d p => j3 i c2 x H' d ⟨p.ok, p.ff⟩⟩
/-- a walked thing out of a value -/
def iOf (g : D → Option (List PyData)) (f : XF W) : XI W := fun δ w => (f δ w).bind fun x w1 => match g x with
  | some l => .ok l w1
  | none => .bad
theorem after_it {K : PySem.W.Frag} (ke : Ok e) {c : Cur wd} {δ : Ev} {σ : L2.St} {g : D → Option (List PyData)} {P : Cur wd → Cur wd → Prop} {R : It → Hp → Prop} (r : Rz cls K e c δ σ) (q : afterI cls c σ Wx (iOf g f δ c.w) P R) :
    tS cls K e Wx f σ c.H fun u H1 => ∃ x c2 l, c2.H = H1 ∧ Rz cls K e c2 δ σ ∧ Dv cls K c2 x u ∧ g x = some l ∧ ∀ J, JOk J (P c2) l → R J c2.H := by
  refine tS_mk r ?_
  unfold iOf at q
  cases z : f δ c.w with
  | bad => rw [z] at q; exact q
  | exc n w' => rw [z] at q; exact q
  | ok x w' =>
    rw [z] at q
    dsimp only [Res.bind] at q
    cases z2 : g x with
    | none => rw [z2] at q; exact q.elim
    | some l =>
      rw [z2] at q
      exact fun u c2 hw b q2 => ⟨x, c2, l, rfl, r.step ke b, q2, z2, fun J hJ => q J c2 hw b hJ⟩
def lstOf : D → Option (List PyData)
  | .p (.list xs) => some xs
  | _ => none
def tupOf : D → Option (List PyData)
  | .p (.tuple xs) => some xs
  | _ => none
theorem jok_list {K : PySem.W.Frag} {c2 : Cur wd} {p : Addr} {xs : List PyData} {vs : List V} (h1 : c2.F p = some (.lst vs)) (r1 : DqL c2.F xs vs) : JOk (Itl K p) (keepF c2) xs := by
  refine ⟨fun i c ⟨k, s⟩ hi => ?_, fun i c ⟨k, s⟩ hi => ⟨vs, SqL.of (k.fh _ _ (s _ _ h1)), by rw [r1.len]; exact hi⟩, fun i c x H' d ⟨k, s⟩ hy hd => ?_⟩
  · obtain ⟨v, e1, _⟩ := r1.get (List.getElem?_eq_getElem hi)
    exact ⟨vs, v, SqL.of (k.fh _ _ (s _ _ h1)), e1⟩
  · obtain ⟨rfl, hx⟩ := hy
    obtain ⟨v, e1, q⟩ := r1.get hd
    have e2 := hx vs (SqL.of (k.fh _ _ (s _ _ h1)))
    rw [e1] at e2
    cases e2
    exact ⟨c, rfl, rfl, Bs.refl k, Dq.mono s _ _ q⟩
theorem jok_tup {K : PySem.W.Frag} {c2 : Cur wd} {p : Addr} {xs : List PyData} {vs : List V} (h1 : c2.F p = some (.tup vs)) (r1 : DqL c2.F xs vs) : JOk (Itt K p) (keepF c2) xs := by
  refine ⟨fun i c ⟨k, s⟩ hi => ?_, fun i c ⟨k, s⟩ hi => ⟨vs, SqT.of (k.fh _ _ (s _ _ h1)), by rw [r1.len]; exact hi⟩, fun i c x H' d ⟨k, s⟩ hy hd => ?_⟩
  · obtain ⟨v, e1, _⟩ := r1.get (List.getElem?_eq_getElem hi)
    exact ⟨vs, v, SqT.of (k.fh _ _ (s _ _ h1)), e1⟩
  · obtain ⟨rfl, hx⟩ := hy
    obtain ⟨v, e1, q⟩ := r1.get hd
    have e2 := hx vs (SqT.of (k.fh _ _ (s _ _ h1)))
    rw [e1] at e2
    cases e2
    exact ⟨c, rfl, rfl, Bs.refl k, Dq.mono s _ _ q⟩
/-- a list -/
theorem si_list (ke : Ok e) (ha : PE X a (tS cls X.K e Wx f)) : PI X tg a (tSI cls X.K e Wx keepF (iOf lstOf f)) := pi_imp (pi_list ha) fun σ H R ⟨c, δ, eH, r, q⟩ => by
  rw [← eH]
  refine tS_imp (after_it ke r q) fun u H1 ⟨x, c2, l, e2, r2, q2, hl, k⟩ => ?_
  unfold lstOf at hl
  split at hl
  · cases hl
    obtain ⟨p, vs, rfl, h1, r1⟩ := dv_lst.mp q2
    rw [← e2]
    exact ⟨p, rfl, ⟨vs, SqL.of (r2.ok.fh _ _ h1)⟩, k _ (jok_list h1 r1)⟩
  · cases hl
/-- a tuple -/
theorem si_tup (ke : Ok e) (ha : PE X a (tS cls X.K e Wx f)) : PI X tg a (tSI cls X.K e Wx keepF (iOf tupOf f)) := pi_imp (pi_tup ha) fun σ H R ⟨c, δ, eH, r, q⟩ => by
  rw [← eH]
  refine tS_imp (after_it ke r q) fun u H1 ⟨x, c2, l, e2, r2, q2, hl, k⟩ => ?_
  unfold tupOf at hl
  split at hl
  · cases hl
    obtain ⟨p, vs, rfl, h1, r1⟩ := dv_tup.mp q2
    rw [← e2]
    exact ⟨p, rfl, ⟨vs, SqT.of (r2.ok.fh _ _ h1)⟩, k _ (jok_tup h1 r1)⟩
  · cases hl
/-! range(n), range(a, b) -/
def rgL (m n : Int) : List PyData := (List.range (n - m).toNat).map fun (i : Nat) => PyData.int (m + (i : Int))
theorem jok_rg {c2 : Cur wd} {m n : Int} : JOk (Itr m (n - m).toNat) (keepF c2) (rgL m n) := by
  have hl : (rgL m n).length = (n - m).toNat := by simp [rgL]
  refine ⟨fun i c _ hi => by rw [hl] at hi; exact hi, fun i c _ hi => by rw [hl] at hi; exact hi, fun i c x H' d ⟨k, s⟩ hy hd => ?_⟩
  obtain ⟨rfl, rfl⟩ := hy
  have hi : i < (n - m).toNat := by
    have := (List.getElem?_eq_some_iff.mp hd).1
    omega
  have e1 : d = .int (m + (i : Int)) := by
    unfold rgL at hd
    rw [List.getElem?_map, List.getElem?_range hi] at hd
    simpa using hd.symm
  subst e1
  exact ⟨c, rfl, rfl, Bs.refl k, by simp [Dq]⟩
def rgOf1 (x : D) : Option (List PyData) := (asI x).bind fun n => if -1000000000 ≤ n ∧ n ≤ 1000000000 then some (rgL 0 n) else none
theorem si_range1 {p pos : Pos} (ke : Ok e) (hm : X.mg "range" = none) (ha : PE X a (tS cls X.K e Wx f)) (hg : Gl X "range" := by rfl) (hs : starEach [a] X.env = [(false, eval a X.env)] := by rfl) (hs2 : starEach [a] X.env = (false, eval a X.env) :: starEach [] X.env := by rfl) :
    PI X tg (.Call (.Name "range" p) [a] [] pos) (tSI cls X.K e Wx keepF (iOf rgOf1 f)) := pi_imp (pi_range1 hg hm (pa_cons ha pa_nil hs2) hs) fun σ H R ⟨c, δ, eH, r, q⟩ => by
  rw [← eH]
  show tS cls X.K e Wx f σ c.H _
  refine tS_imp (after_it ke r q) fun u H1 ⟨x, c2, l, e2, r2, q2, hl, k⟩ => ?_
  unfold rgOf1 at hl
  cases z : asI x with
  | none => rw [z] at hl; cases hl
  | some n =>
    rw [z] at hl
    dsimp only [Option.bind] at hl
    by_cases zz : -1000000000 ≤ n ∧ n ≤ 1000000000
    · rw [if_pos zz] at hl
      cases hl
      rw [← e2]
      refine ⟨n, by rw [asI_eq z q2], by omega, by omega, ?_⟩
      have := jok_rg (c2 := c2) (m := 0) (n := n)
      rw [Int.sub_zero] at this
      exact k _ this
    · rw [if_neg zz] at hl; cases hl
/-! enumerate(list) -/
def enL (i : Nat) : List PyData → List PyData
  | [] => []
  | x :: r => .tuple [.int (i : Int), x] :: enL (i + 1) r
theorem enL_len : ∀ (l : List PyData) (i : Nat), (enL i l).length = l.length
  | [], _ => rfl
  | x :: r, i => by
    show (enL (i + 1) r).length + 1 = r.length + 1
    rw [enL_len r]
theorem enL_get : ∀ (l : List PyData) (i j : Nat) (d : PyData), (enL i l)[j]? = some d → ∃ x, l[j]? = some x ∧ d = .tuple [.int ((i + j : Nat) : Int), x]
  | [], _, _, _, h => by simp [enL] at h
  | x :: r, i, 0, d, h => by
    simp [enL] at h
    exact ⟨x, rfl, by rw [← h]; simp⟩
  | x :: r, i, j + 1, d, h => by
    obtain ⟨y, h1, h2⟩ := enL_get r (i + 1) j d (by simpa [enL] using h)
    exact ⟨y, by simpa using h1, by rw [h2, show i + 1 + j = i + (j + 1) by omega]⟩
theorem jok_enum {K : PySem.W.Frag} {c2 : Cur wd} {p : Addr} {xs : List PyData} {vs : List V} (h1 : c2.F p = some (.lst vs)) (r1 : DqL c2.F xs vs) : JOk (Ite K p) (keepF c2) (enL 0 xs) := by
  refine ⟨fun i c ⟨k, s⟩ hi => ?_, fun i c ⟨k, s⟩ hi => ⟨vs, SqL.of (k.fh _ _ (s _ _ h1)), by rw [enL_len] at hi; rw [r1.len]; exact hi⟩, fun i c x H' d ⟨k, s⟩ hy hd => ?_⟩
  · rw [enL_len] at hi
    obtain ⟨v, e1, _⟩ := r1.get (List.getElem?_eq_getElem hi)
    exact ⟨vs, v, SqL.of (k.fh _ _ (s _ _ h1)), e1⟩
  · obtain ⟨T, v, rfl, hT, rfl, hx⟩ := hy
    obtain ⟨y, g1, rfl⟩ := enL_get xs 0 i d hd
    obtain ⟨v', e1, q⟩ := r1.get g1
    have e2 := hx vs (SqL.of (k.fh _ _ (s _ _ h1)))
    rw [e1] at e2
    cases e2
    have b := Bs.put k (.tup [.int (i : Nat), v]) hT
    refine ⟨c.put T (.tup [.int (i : Nat), v]), rfl, rfl, b, ?_⟩
    simp only [Dq]
    exact ⟨T, _, rfl, upd_same, .cons (by simp [Dq]) (.cons (Dq.mono (s.trans b.ff) _ _ q) .nil)⟩
def enOf : D → Option (List PyData)
  | .p (.list xs) => some (enL 0 xs)
  | _ => none
theorem si_enum {p pos tpos : Pos} {elts : List Expr} {kk : Nat} (ke : Ok e) (hm : X.mg "enumerate" = none) (ha : PE X a (tS cls X.K e Wx f)) (hg : Gl X "enumerate" := by rfl) (hs : starEach [a] X.env = [(false, eval a X.env)] := by rfl) (hs2 : starEach [a] X.env = (false, eval a X.env) :: starEach [] X.env := by rfl) :
    PI X (.Tuple elts kk tpos) (.Call (.Name "enumerate" p) [a] [] pos) (tSI cls X.K e Wx keepF (iOf enOf f)) := pi_imp (pi_enum hg hm (pa_cons ha pa_nil hs2) hs) fun σ H R ⟨c, δ, eH, r, q⟩ => by
  rw [← eH]
  show tS cls X.K e Wx f σ c.H _
  refine tS_imp (after_it ke r q) fun u H1 ⟨x, c2, l, e2, r2, q2, hl, k⟩ => ?_
  unfold enOf at hl
  split at hl
  · cases hl
    obtain ⟨p, vs, rfl, h1, r1⟩ := dv_lst.mp q2
    rw [← e2]
    exact ⟨p, vs, rfl, SqL.of (r2.ok.fh _ _ h1), k _ (jok_enum h1 r1)⟩
  · cases hl
/-! zip(xs, ys) -/
def zipL : List PyData → List PyData → List PyData
  | x :: xs, y :: ys => .tuple [x, y] :: zipL xs ys
  | _, _ => []
theorem zipL_get : ∀ (xs ys : List PyData) (j : Nat) (d : PyData), (zipL xs ys)[j]? = some d → ∃ x y, xs[j]? = some x ∧ ys[j]? = some y ∧ d = .tuple [x, y]
  | [], _, _, _, h => by simp [zipL] at h
  | _ :: _, [], _, _, h => by simp [zipL] at h
  | x :: xs, y :: ys, 0, d, h => by
    simp [zipL] at h
    exact ⟨x, y, rfl, rfl, h.symm⟩
  | x :: xs, y :: ys, j + 1, d, h => by
    obtain ⟨x', y', h1, h2, h3⟩ := zipL_get xs ys j d (by simpa [zipL] using h)
    exact ⟨x', y', by simpa using h1, by simpa using h2, h3⟩
theorem zipL_len : ∀ (xs ys : List PyData), (zipL xs ys).length = min xs.length ys.length
  | [], _ => by simp [zipL]
  | _ :: _, [] => by simp [zipL]
  | x :: xs, y :: ys => by
    show (zipL xs ys).length + 1 = min (xs.length + 1) (ys.length + 1)
    rw [zipL_len xs ys]; omega
def zpOf (x y : D) : Option (List PyData) := match x, y with
  | .p (.list xs), .p (.list ys) => some (zipL xs ys)
  | .p (.tuple xs), .p (.tuple ys) => some (zipL xs ys)
  | _, _ => none
def iOf2 (g : D → D → Option (List PyData)) (f h : XF W) : XI W := fun δ w => (f δ w).bind fun x w1 => (h δ w1).bind fun y w2 => match g x y with
  | some l => .ok l w2
  | none => .bad
theorem si_zip {p pos tpos : Pos} {elts : List Expr} {kk : Nat} (ke : Ok e) (hm : X.mg "zip" = none) (ha : PE X a (tS cls X.K e Wx f)) (hb : PE X b (tS cls X.K e Wx h)) (hg : Gl X "zip" := by rfl)
    (hs : starEach [a, b] X.env = (false, eval a X.env) :: starEach [b] X.env := by rfl) (hs2 : starEach [b] X.env = (false, eval b X.env) :: starEach [] X.env := by rfl) (hpl : (backTo pos (starEach [b] X.env)).any (·.1) = false := by rfl) :
    PI X (.Tuple elts kk tpos) (.Call (.Name "zip" p) [a, b] [] pos) (tSI cls X.K e Wx keepF (iOf2 zpOf f h)) := pi_imp (RZ.pi_zipA hg hm (pa_cons ha (pa_cons hb pa_nil hs2) hs) hs hpl) fun σ H R ⟨c, δ, eH, r, q⟩ => by
  rw [← eH]
  show tS cls X.K e Wx f σ c.H _
  refine tS_mk r ?_
  unfold iOf2 at q
  cases z : f δ c.w with
  | bad => rw [z] at q; exact q
  | exc n w' => rw [z] at q; exact q
  | ok x w' =>
    rw [z] at q
    dsimp only [Res.bind] at q
    intro u c1 hw b1 q1
    show tS cls X.K e Wx h σ c1.H _
    have r1 := r.step ke b1
    refine tS_mk r1 ?_
    rw [hw]
    cases z2 : h δ w' with
    | bad => rw [z2] at q; exact q
    | exc n w2 => rw [z2] at q; exact fun c2 hw2 b2 => q c2 hw2 (b1.trans r.ok b2)
    | ok y w2 =>
      rw [z2] at q
      dsimp only at q
      intro v c2 hw2 b2 q2
      have q1' := q1.mono b2
      have k2 := b2.ok
      unfold zpOf at q
      split at q
      · rename_i l hl
        split at hl
        · rename_i xs ys
          cases hl
          obtain ⟨p, vs, rfl, h1, r1⟩ := dv_lst.mp q1'
          obtain ⟨p', vs', rfl, h1', r1'⟩ := dv_lst.mp q2
          refine ⟨p, p', vs, vs', rfl, .inl ⟨SqL.of (k2.fh _ _ h1), SqL.of (k2.fh _ _ h1'), q _ c2 hw2 (b1.trans r.ok b2) ?_⟩⟩
          refine ⟨fun i c ⟨k, s⟩ hi => ?_, fun i c ⟨k, s⟩ hi => ⟨vs, vs', SqL.of (k.fh _ _ (s _ _ h1)), SqL.of (k.fh _ _ (s _ _ h1')), ?_⟩, fun i c x H' d ⟨k, s⟩ hy hd => ?_⟩
          · rw [zipL_len] at hi
            obtain ⟨v, e1, _⟩ := r1.get (List.getElem?_eq_getElem (show i < xs.length by omega))
            obtain ⟨v', e1', _⟩ := r1'.get (List.getElem?_eq_getElem (show i < ys.length by omega))
            exact ⟨vs, vs', v, v', SqL.of (k.fh _ _ (s _ _ h1)), SqL.of (k.fh _ _ (s _ _ h1')), e1, e1'⟩
          · rw [zipL_len] at hi; rw [r1.len, r1'.len]; omega
          · obtain ⟨T, x1, x2, rfl, hT, rfl, hx1, hx2⟩ := hy
            obtain ⟨y1, y2, g1, g2, rfl⟩ := zipL_get xs ys i d hd
            obtain ⟨v, e1, qv⟩ := r1.get g1
            obtain ⟨v', e1', qv'⟩ := r1'.get g2
            have e2 := hx1 vs (SqL.of (k.fh _ _ (s _ _ h1)))
            rw [e1] at e2
            cases e2
            have e3 := hx2 vs' (SqL.of (k.fh _ _ (s _ _ h1')))
            rw [e1'] at e3
            cases e3
            have b := Bs.put k (.tup [x1, x2]) hT
            refine ⟨c.put T (.tup [x1, x2]), rfl, rfl, b, ?_⟩
            simp only [Dq]
            exact ⟨T, _, rfl, upd_same, .cons (Dq.mono (s.trans b.ff) _ _ qv) (.cons (Dq.mono (s.trans b.ff) _ _ qv') .nil)⟩
        · rename_i xs ys
          cases hl
          obtain ⟨p, vs, rfl, h1, r1⟩ := dv_tup.mp q1'
          obtain ⟨p', vs', rfl, h1', r1'⟩ := dv_tup.mp q2
          refine ⟨p, p', vs, vs', rfl, .inr ⟨SqT.of (k2.fh _ _ h1), SqT.of (k2.fh _ _ h1'), q _ c2 hw2 (b1.trans r.ok b2) ?_⟩⟩
          refine ⟨fun i c ⟨k, s⟩ hi => ?_, fun i c ⟨k, s⟩ hi => ⟨vs, vs', SqT.of (k.fh _ _ (s _ _ h1)), SqT.of (k.fh _ _ (s _ _ h1')), ?_⟩, fun i c x H' d ⟨k, s⟩ hy hd => ?_⟩
          · rw [zipL_len] at hi
            obtain ⟨v, e1, _⟩ := r1.get (List.getElem?_eq_getElem (show i < xs.length by omega))
            obtain ⟨v', e1', _⟩ := r1'.get (List.getElem?_eq_getElem (show i < ys.length by omega))
            exact ⟨vs, vs', v, v', SqT.of (k.fh _ _ (s _ _ h1)), SqT.of (k.fh _ _ (s _ _ h1')), e1, e1'⟩
          · rw [zipL_len] at hi; rw [r1.len, r1'.len]; omega
          · obtain ⟨T, x1, x2, rfl, hT, rfl, hx1, hx2⟩ := hy
            obtain ⟨y1, y2, g1, g2, rfl⟩ := zipL_get xs ys i d hd
            obtain ⟨v, e1, qv⟩ := r1.get g1
            obtain ⟨v', e1', qv'⟩ := r1'.get g2
            have e2 := hx1 vs (SqT.of (k.fh _ _ (s _ _ h1)))
            rw [e1] at e2
            cases e2
            have e3 := hx2 vs' (SqT.of (k.fh _ _ (s _ _ h1')))
            rw [e1'] at e3
            cases e3
            have b := Bs.put k (.tup [x1, x2]) hT
            refine ⟨c.put T (.tup [x1, x2]), rfl, rfl, b, ?_⟩
            simp only [Dq]
            exact ⟨T, _, rfl, upd_same, .cons (Dq.mono (s.trans b.ff) _ _ qv) (.cons (Dq.mono (s.trans b.ff) _ _ qv') .nil)⟩
        · cases hl
      · exact q.elim
/-! a text, sign by sign -/
def sgnL (x : Str) : List PyData := x.cps.toList.map fun c => PyData.str ⟨#[c]⟩
def sgOf : D → Option (List PyData)
  | .p (.str x) => some (sgnL x)
  | _ => none
theorem si_str (ke : Ok e) (ha : PE X a (tS cls X.K e Wx f)) : PI X tg a (tSI cls X.K e Wx keepF (iOf sgOf f)) := pi_imp (pi_str ha) fun σ H R ⟨c, δ, eH, r, q⟩ => by
  rw [← eH]
  refine tS_imp (after_it ke r q) fun u H1 ⟨x, c2, l, e2, r2, q2, hl, k⟩ => ?_
  unfold sgOf at hl
  split at hl
  · rename_i z
    cases hl
    obtain rfl := dv_str.mp q2
    rw [← e2]
    have hlen : (sgnL z).length = z.cps.size := by simp [sgnL]
    refine ⟨z, rfl, k _ ⟨fun i c _ hi => by rw [hlen] at hi; exact hi, fun i c _ hi => by rw [hlen] at hi; exact hi, fun i c x H' d ⟨k, s⟩ hy hd => ?_⟩⟩
    obtain ⟨rfl, ch, hc, rfl⟩ := hy
    refine ⟨c, rfl, rfl, Bs.refl k, ?_⟩
    have e1 : d = .str ⟨#[ch]⟩ := by
      unfold sgnL at hd
      rw [List.getElem?_map, Array.getElem?_toList, hc] at hd
      simpa using hd.symm
    subst e1
    simp [Dq]
  · cases hl

/-! ## comprehensions -/
def wipeZ (δ : Ev) : List Nat → Ev
  | [] => δ
  | v :: vs => (wipeZ δ vs).set v .no
theorem Rz.wipe {K : PySem.W.Frag} {c : Cur wd} {δ : Ev} {σ : L2.St} (r : Rz cls K e c δ σ) : ∀ vs : List Nat, Rz cls K e c (wipeZ δ vs) (wipe σ vs)
  | [] => r
  | v :: vs => (r.wipe vs).drop none
/-- no exception within -/
def Res.calm {α : Type} (r : Res W α) : Res W α := match r with
  | .exc _ _ => .bad
  | r => r
def asP : D → Option PyData
  | .p d => some d
  | _ => none
def lcGo (tz : TZ) (t : XB W) (f : XF W) (δ : Ev) : List PyData → W → Res W (List PyData)
  | [], w => .ok [] w
  | x :: r, w => match tz x δ with
    | none => .bad
    | some δ1 => (t δ1 w).calm.bind fun b w1 => if b = true then (f δ1 w1).calm.bind fun y w2 => match asP y with
        | some d => (lcGo tz t f δ r w2).bind fun ys w3 => .ok (d :: ys) w3
        | none => .bad
      else lcGo tz t f δ r w1
def xLc (it : XI W) (tz : TZ) (t : XB W) (f : XF W) (vs : List Nat) : XF W := fun δ w => (it δ w).bind fun items w1 => if items.length ≤ lim then (lcGo tz t f (wipeZ δ vs) items w1).bind fun ys w2 => .ok (.p (.list ys)) w2 else .bad
def bYes : XB W := fun _ w => .ok true w
theorem calm_B {K : PySem.W.Frag} {c : Cur wd} {σ : L2.St} {r : Res W Bool} {k : Bool → W → Res W (List PyData)} {ys : List PyData} {wf : W} (h : r.calm.bind k = .ok ys wf) : ∃ b w1, r = .ok b w1 ∧ k b w1 = .ok ys wf := by
  cases r with
  | ok b w1 => exact ⟨b, w1, rfl, h⟩
  | exc n w => cases h
  | bad => cases h
theorem calm_D {r : Res W D} {k : D → W → Res W (List PyData)} {ys : List PyData} {wf : W} (h : r.calm.bind k = .ok ys wf) : ∃ b w1, r = .ok b w1 ∧ k b w1 = .ok ys wf := by
  cases r with
  | ok b w1 => exact ⟨b, w1, rfl, h⟩
  | exc n w => cases h
  | bad => cases h
theorem calm_L {r : Res W (List PyData)} {k : List PyData → W → Res W (List PyData)} {ys : List PyData} {wf : W} (h : r.bind k = .ok ys wf) : ∃ b w1, r = .ok b w1 ∧ k b w1 = .ok ys wf := by
  cases r with
  | ok b w1 => exact ⟨b, w1, rfl, h⟩
  | exc n w => cases h
  | bad => cases h
/-- no exception is asked for within -/
abbrev W00 : WX := fun _ _ _ _ => False
/-- what a comprehension is to lay: a new list at D0, one's own, of these data -/
def fresh (c0 c : Cur wd) (D0 : Addr) (ys : List PyData) : Prop := Fre c0 c D0 ∧ ∃ vs, c.H D0 = some (.lst vs) ∧ DqL c.F ys vs
theorem fresh.put {c0 c : Cur wd} {D0 : Addr} {ys : List PyData} (k0 : Ok c0) (b : Bs c0 c) (h : fresh c0 c D0 ys) : ∃ c' : Cur wd, c'.H = c.H ∧ c'.w = c.w ∧ Bs c0 c' ∧ Dq c'.F (.list ys) (.ref D0) := by
  obtain ⟨⟨f1, f2, f3⟩, vs, g1, g2⟩ := h
  have s1 : Sub c.F (upd c.F D0 (.lst vs)) := sub_new f1
  refine ⟨{ c with F := upd c.F D0 (.lst vs) }, rfl, rfl, ⟨⟨fun x o q => ?_, wd.stab _ _ _ _ _ _ b.ok.wr s1 fun _ _ => rfl, fun x hx => ⟨?_, (b.ok.wf x hx).2⟩⟩, b.ff.trans s1, b.hh, fun x hx => ?_, b.kh, b.kf, b.kg⟩, ?_⟩
  · have q : upd c.F D0 (.lst vs) x = some o := q
    by_cases e1 : x = D0
    · subst e1; rw [upd_same] at q; cases q; exact g1
    · rw [upd_ne e1] at q; exact b.ok.fh _ _ q
  · show upd c.F D0 (.lst vs) x = none
    rw [upd_ne (fun z => f2 (by rw [← z]; exact hx))]
    exact (b.ok.wf x hx).1
  · by_cases e1 : x = D0
    · subst e1; exact .inr f3
    · refine b.fn x fun z => hx ?_
      show upd c.F D0 (.lst vs) x = none
      rw [upd_ne e1]; exact z
  · simp only [Dq]
    exact ⟨D0, vs, rfl, upd_same, DqL.mono s1 _ _ g2⟩
/-- the comprehension's own reading: a new list is laid -/
theorem lc_walk {K : PySem.W.Frag} (ke : Ok e) {J : It} {items : List PyData} {tz : TZ} {g : TG} {t : XB W} {f : XF W} {vs : List Nat} {c0 : Cur wd} {δ : Ev} {σ : L2.St} {Q : VK} {ys : List PyData} {wf : W}
    (r0 : Rz cls K e c0 δ σ) (hl : items.length ≤ lim) (hJ : JOk J (keepB c0) items) (hg : TgOk cls K e g tz) (hz : lcGo tz t f (wipeZ δ vs) items c0.w = .ok ys wf)
    (hw : ∀ (d : PyData) (δ1 : Ev) (σ2 : L2.St) (c : Cur wd), tz d (wipeZ δ vs) = some δ1 → True)
    (hq : ∀ D0 c, c.w = wf → Bs c0 c → fresh c0 c D0 ys → Q (.ref D0) c.H) (hwipe : ∀ x H' (R : L2.St → Hp → Prop), g x (wipe σ vs) H' R → g x (wipe σ vs) H' fun σ2 H2 => wipe σ2 vs = wipe σ vs ∧ R σ2 H2) :
    ∀ D0, c0.H D0 = none → ∃ Wv : Nat → Nat → Hp → Prop, (∃ m, Wv 0 m (upd c0.H D0 (.lst []))) ∧ ∀ i m H, Wv i m H →
      (J.stop i H ∧ Q (.ref D0) H) ∨ (J.go i H ∧ ∃ Nx : Hp → Prop, (∀ H', Nx H' → ∃ m', m' < m ∧ Wv (i + 1) m' H') ∧ ∀ x H', J.yld i H x H' → g x (wipe σ vs) H' fun σ2 H2 => wipe σ2 vs = wipe σ vs ∧ tSB cls K e W00 t σ2 H2 fun b H3 =>
        if b = true then tS cls K e W00 f σ2 H3 fun y H4 => ∃ acc, H4 D0 = some (.lst acc) ∧ acc.length < sizeLine ∧ Nx (upd H4 D0 (.lst (acc ++ [y]))) else Nx H3) := by
  intro D0 hD0
  have k0 : Ok c0 := r0.ok
  -- the state between two turns
  let In : Nat → Hp → Prop := fun i H => ∃ (c : Cur wd) (acc rest zs : List PyData), c.H = H ∧ Bs c0 c ∧ fresh c0 c D0 acc ∧ acc.length ≤ i ∧ items.drop i = rest ∧ lcGo tz t f (wipeZ δ vs) rest c.w = .ok zs wf ∧ acc ++ zs = ys
  refine ⟨fun i m H => m = items.length - i ∧ i ≤ items.length ∧ In i H, ⟨items.length, by simp, Nat.zero_le _, ?_⟩, ?_⟩
  · refine ⟨c0.lay D0 (.lst []), [], items, ys, rfl, Bs.lay k0 _ hD0, ⟨⟨k0.fnone hD0, k0.nofp hD0, hD0⟩, [], upd_same, .nil⟩, Nat.zero_le _, rfl, hz, rfl⟩
  · rintro i m H ⟨rfl, hi, c, acc, rest, zs, rfl, b, hf, hai, hr, hgo, hys⟩
    by_cases hlt : i < items.length
    · refine .inr ⟨hJ.1 i c b hlt, In (i + 1), fun H' q => ⟨items.length - (i + 1), by omega, rfl, hlt, q⟩, fun x H' hy => hwipe x H' _ ?_⟩
      have hd : items[i]? = some items[i] := List.getElem?_eq_getElem hlt
      have hrest : rest = items[i] :: items.drop (i + 1) := by rw [← hr]; exact List.drop_eq_getElem_cons hlt
      obtain ⟨c1, rfl, hw1, b1, q1⟩ := hJ.2.2 i c x H' _ b hy hd
      rw [hrest] at hgo
      have hgo : (match tz items[i] (wipeZ δ vs) with
        | none => Res.bad
        | some δ1 => (t δ1 c.w).calm.bind fun b w1 => if b = true then (f δ1 w1).calm.bind fun y w2 => match asP y with
            | some d => (lcGo tz t f (wipeZ δ vs) (items.drop (i + 1)) w2).bind fun ys w3 => .ok (d :: ys) w3
            | none => .bad
          else lcGo tz t f (wipeZ δ vs) (items.drop (i + 1)) w1) = Res.ok zs wf := hgo
      cases htz : tz items[i] (wipeZ δ vs) with
      | none => rw [htz] at hgo; cases hgo
      | some δ1 =>
        rw [htz] at hgo
        dsimp only at hgo
        rw [← hw1] at hgo
        obtain ⟨bb, w1, ht, hgo⟩ := calm_B (K := K) (c := c1) (σ := σ) hgo
        have b01 := b.trans k0 b1
        have rw1 : Rz cls K e c1 (wipeZ δ vs) (wipe σ vs) := (r0.step ke b01).wipe vs
        have hf1 : fresh c0 c1 D0 acc := by
          obtain ⟨f1, us, g1, g2⟩ := hf
          obtain ⟨f2, e2⟩ := f1.step b1 (by rw [g1]; exact fun z => by cases z)
          exact ⟨f2, us, by rw [e2]; exact g1, DqL.mono b1.ff _ _ g2⟩
        refine hg c1 _ δ1 _ items[i] x _ rw1 q1 htz fun σ2 r2 => ⟨c1, δ1, rfl, r2, ?_⟩
        rw [ht]
        intro c2 hw2 b2
        have b02 := b01.trans k0 b2
        have hf2 : fresh c0 c2 D0 acc := by
          obtain ⟨f1, us, g1, g2⟩ := hf1
          obtain ⟨f2, e2⟩ := f1.step b2 (by rw [g1]; exact fun z => by cases z)
          exact ⟨f2, us, by rw [e2]; exact g1, DqL.mono b2.ff _ _ g2⟩
        cases bb with
        | false =>
          rw [if_neg Bool.false_ne_true] at hgo ⊢
          rw [← hw2] at hgo
          exact ⟨c2, acc, _, zs, rfl, b02, hf2, by omega, rfl, hgo, hys⟩
        | true =>
          rw [if_pos rfl] at hgo ⊢
          obtain ⟨y, w2, hfy, hgo⟩ := calm_D hgo
          rw [← hw2] at hfy
          have r3 := r2.step ke b2
          refine ⟨c2, δ1, rfl, r3, ?_⟩
          rw [hfy]
          intro u c3 hw3 b3 q3
          cases hp : asP y with
          | none => rw [hp] at hgo; cases hgo
          | some d =>
            rw [hp] at hgo
            obtain ⟨zs', w3, hgo', hgo2⟩ := calm_L hgo
            cases hgo2
            obtain ⟨⟨f1, f2, f3⟩, us, g1, g2⟩ := hf2
            obtain ⟨⟨f1', f2', f3'⟩, e3⟩ := Fre.step b3 (⟨f1, f2, f3⟩ : Fre c0 c2 D0) (by rw [g1]; exact fun z => by cases z)
            have g3 : c3.H D0 = some (.lst us) := by rw [e3]; exact g1
            have g4 := DqL.mono b3.ff _ _ g2
            have qd : Dq c3.F d u := by
              cases y with
              | p d' => cases hp; exact q3
              | _ => cases hp
            have b03 := b02.trans k0 b3
            refine ⟨us, g3, by rw [g4.len, ← lim_eq]; omega, ?_⟩
            refine ⟨c3.lay D0 (.lst (us ++ [u])), acc ++ [d], items.drop (i + 1), zs', rfl, ?_, ⟨⟨f1', f2', f3'⟩, us ++ [u], upd_same, g4.append (.cons qd .nil)⟩, by rw [List.length_append]; simp; omega, rfl, by rw [← hw3] at hgo'; exact hgo', by rw [List.append_assoc]; exact hys⟩
            -- the list grows
            refine ⟨⟨fun a o h => ?_, wd.stab _ _ _ _ _ _ b03.ok.wr (Sub.refl _) fun a ha => upd_ne fun (z : a = D0) => f2' (z ▸ ha), fun a ha => ⟨(b03.ok.wf a ha).1, ?_⟩⟩, b03.ff, fun a o h1 h2 => ?_, b03.fn, b03.kh, b03.kf, b03.kg⟩
            · show upd c3.H D0 _ a = some o
              rw [upd_ne (ne_of_none h f1')]; exact b03.ok.fh _ _ h
            · show upd c3.H D0 _ a ≠ none
              rw [upd_ne fun (z : a = D0) => f2' (z ▸ ha)]
              exact (b03.ok.wf a ha).2
            · show upd c3.H D0 _ a = some o
              rw [upd_ne (ne_of_none h2 f3')]; exact b03.hh _ _ h1 h2
    · have hil : i = items.length := by omega
      subst hil
      have hrest : rest = [] := by rw [← hr]; exact List.drop_length
      subst hrest
      cases hgo
      rw [List.append_nil] at hys
      subst hys
      exact .inl ⟨hJ.2.1 _ c b (Nat.le_refl _), hq D0 c rfl b hf⟩

/-! a target changes the block's own slots alone -/
def Outs (σ σ2 : L2.St) (vs : List Nat) : Prop := σ2.length = σ.length ∧ ∀ j, j ∉ vs → σ2[j]? = σ[j]?
theorem wipe_at (σ : L2.St) : ∀ (vs : List Nat) (j : Nat), (wipe σ vs)[j]? = if j ∈ vs then (if j < σ.length then some none else none) else σ[j]?
  | [], j => by simp [wipe]
  | v :: vs, j => by
    unfold wipe
    by_cases e1 : v = j
    · subst e1
      rw [if_pos List.mem_cons_self]
      by_cases hv : v < σ.length
      · rw [List.getElem?_set_self (by rw [wipe_length]; exact hv), if_pos hv]
      · rw [List.getElem?_eq_none (by rw [List.length_set, wipe_length]; omega), if_neg hv]
    · rw [List.getElem?_set_ne e1, wipe_at σ vs j]
      by_cases e2 : j ∈ vs
      · rw [if_pos e2, if_pos (List.mem_cons_of_mem _ e2)]
      · rw [if_neg e2, if_neg (by simp only [List.mem_cons, not_or]; exact ⟨fun z => e1 z.symm, e2⟩)]
theorem wipe_outs {σ σ2 : L2.St} {vs : List Nat} (h : Outs (wipe σ vs) σ2 vs) : wipe σ2 vs = wipe σ vs := by
  obtain ⟨h1, h2⟩ := h
  rw [wipe_length] at h1
  refine List.ext_getElem? fun j => ?_
  rw [wipe_at, wipe_at]
  by_cases e1 : j ∈ vs
  · rw [if_pos e1, if_pos e1, h1]
  · rw [if_neg e1, if_neg e1, h2 j e1, wipe_at, if_neg e1]
def TgIn (g : TG) (vs : List Nat) : Prop := ∀ x σ H (R : L2.St → Hp → Prop), g x σ H R → g x σ H fun σ2 H2 => Outs σ σ2 vs ∧ R σ2 H2
def TgsIn (g : TGs) (vs : List Nat) : Prop := ∀ x σ H (R : L2.St → Hp → Prop), g x σ H R → g x σ H fun σ2 H2 => Outs σ σ2 vs ∧ R σ2 H2
theorem ti_name {i : Nat} {vs : List Nat} (h : i ∈ vs) : TgIn (gName i) vs := fun x σ H R q => ⟨⟨List.length_set, fun j hj => List.getElem?_set_ne fun (z : i = j) => hj (z ▸ h)⟩, q⟩
theorem tis_nil {vs : List Nat} : TgsIn gNil vs := fun x σ H R ⟨e1, q⟩ => ⟨e1, ⟨rfl, fun _ _ => rfl⟩, q⟩
theorem gCons_mono {g : TG} {gs : TGs} {vs : List Nat} (h1 : TgIn g vs) (h2 : TgsIn gs vs) (mono : ∀ x σ H (R R' : L2.St → Hp → Prop), g x σ H R → (∀ a b, R a b → R' a b) → g x σ H R') (mono2 : ∀ x σ H (R R' : L2.St → Hp → Prop), gs x σ H R → (∀ a b, R a b → R' a b) → gs x σ H R') : TgsIn (gCons g gs) vs :=
  fun x σ H R ⟨v, r, e1, q⟩ => ⟨v, r, e1, mono _ _ _ _ _ (h1 _ _ _ _ q) fun σ1 H1 ⟨o1, q1⟩ => mono2 _ _ _ _ _ (h2 _ _ _ _ q1) fun σ2 H2 ⟨o2, q2⟩ => ⟨⟨o2.1.trans o1.1, fun j hj => (o2.2 j hj).trans (o1.2 j hj)⟩, q2⟩⟩
def TgMono (g : TG) : Prop := ∀ x σ H (R R' : L2.St → Hp → Prop), g x σ H R → (∀ a b, R a b → R' a b) → g x σ H R'
def TgsMono (g : TGs) : Prop := ∀ x σ H (R R' : L2.St → Hp → Prop), g x σ H R → (∀ a b, R a b → R' a b) → g x σ H R'
/-- a target: what it does, and where -/
def T3 (cls : Nat → Addr) (K : PySem.W.Frag) (e : Cur wd) (g : TG) (tz : TZ) (vs : List Nat) : Prop := TgOk cls K e g tz ∧ TgIn g vs ∧ TgMono g
def T3s (cls : Nat → Addr) (K : PySem.W.Frag) (e : Cur wd) (g : TGs) (tz : List PyData → Ev → Option Ev) (vs : List Nat) : Prop := TgsOk cls K e g tz ∧ TgsIn g vs ∧ TgsMono g
theorem t3_name {i : Nat} {vs : List Nat} (h : i ∈ vs := by decide) : T3 cls X.K e (gName i) (zN i) vs := ⟨tg_name, ti_name h, fun _ _ _ _ _ q k => k _ _ q⟩
theorem t3_nil {vs : List Nat} : T3s cls X.K e gNil zNil vs := ⟨tgs_nil, tis_nil, fun _ _ _ _ _ ⟨e1, q⟩ k => ⟨e1, k _ _ q⟩⟩
theorem t3_cons {g : TG} {gs : TGs} {t : TZ} {u : List PyData → Ev → Option Ev} {vs : List Nat} (h1 : T3 cls X.K e g t vs) (h2 : T3s cls X.K e gs u vs) : T3s cls X.K e (gCons g gs) (zCons t u) vs :=
  ⟨tgs_cons h1.1 h2.1, gCons_mono h1.2.1 h2.2.1 h1.2.2 h2.2.2, fun x σ H R R' ⟨v, r, e1, q⟩ k => ⟨v, r, e1, h1.2.2 _ _ _ _ _ q fun a b q1 => h2.2.2 _ _ _ _ _ q1 k⟩⟩
theorem t3_tup {n : Nat} {gs : TGs} {u : List PyData → Ev → Option Ev} {vs : List Nat} (h : T3s cls X.K e gs u vs) : T3 cls X.K e (L2.gTup X.K n gs) (zT n u) vs :=
  ⟨tg_tup h.1, fun x σ H R ⟨a, xs, e1, e2, e3, q⟩ => ⟨a, xs, e1, e2, e3, h.2.1 _ _ _ _ q⟩, fun x σ H R R' ⟨a, xs, e1, e2, e3, q⟩ k => ⟨a, xs, e1, e2, e3, h.2.2 _ _ _ _ _ q k⟩⟩
/-- [elt for tg in iter if ..] as a value -/
theorem lc_imp {it : XI W} {g : TG} {tz : TZ} {t : XB W} {f : XF W} {vs : List Nat} {K : PySem.W.Frag} (ke : Ok e) (h3 : T3 cls K e g tz vs) (σ : L2.St) (H : Hp) (Q : VK) (q : tS cls K e Wx (xLc it tz t f vs) σ H Q) :
    tLc (tSI cls K e Wx keepB it) g (tSB cls K e W00 t) (tS cls K e W00 f) vs σ H Q := by
  obtain ⟨c, δ, eH, r, q⟩ := q
  refine ⟨c, δ, eH, r, ?_⟩
  unfold xLc at q
  cases z : it δ c.w with
  | bad => rw [z] at q; exact q
  | exc n w' => rw [z] at q; exact q
  | ok items w1 =>
    rw [z] at q
    dsimp only [Res.bind] at q
    by_cases hl : items.length ≤ lim
    · rw [if_pos hl] at q
      cases z2 : lcGo tz t f (wipeZ δ vs) items w1 with
      | bad => rw [z2] at q; exact q.elim
      | exc n w' =>
        -- lcGo raises nothing
        exfalso
        have no : ∀ (l : List PyData) (w : W) (n : Nat) (w' : W), lcGo tz t f (wipeZ δ vs) l w ≠ .exc n w' := by
          intro l
          induction l with
          | nil => intro w n w' h; cases h
          | cons x l ih =>
            intro w n w' h
            unfold lcGo at h
            cases h1 : tz x (wipeZ δ vs) with
            | none => rw [h1] at h; cases h
            | some δ1 =>
              rw [h1] at h
              dsimp only at h
              cases h2 : t δ1 w with
              | bad => rw [h2] at h; cases h
              | exc _ _ => rw [h2] at h; cases h
              | ok bb w2 =>
                rw [h2] at h
                dsimp only [Res.calm, Res.bind] at h
                cases bb with
                | false => rw [if_neg Bool.false_ne_true] at h; exact ih _ _ _ h
                | true =>
                  rw [if_pos rfl] at h
                  cases h3 : f δ1 w2 with
                  | bad => rw [h3] at h; cases h
                  | exc _ _ => rw [h3] at h; cases h
                  | ok y w3 =>
                    rw [h3] at h
                    dsimp only at h
                    cases h4 : asP y with
                    | none => rw [h4] at h; cases h
                    | some d =>
                      rw [h4] at h
                      dsimp only at h
                      cases h5 : lcGo tz t f (wipeZ δ vs) l w3 with
                      | bad => rw [h5] at h; cases h
                      | exc _ _ => exact ih _ _ _ h5
                      | ok _ _ => rw [h5] at h; cases h
        exact no _ _ _ _ z2
      | ok ys wf =>
        rw [z2] at q
        intro J c' hw b hJ
        have r' := r.step ke b
        rw [← hw] at z2
        refine lc_walk ke r' hl hJ h3.1 z2 (fun _ _ _ _ _ => trivial) (fun D0 c2 hw2 b2 hf => ?_) fun x H' R hg => h3.2.2 _ _ _ _ _ (h3.2.1 _ _ _ _ hg) fun σ2 H2 ⟨o, k⟩ => ⟨wipe_outs o, k⟩
        obtain ⟨c3, e3, w3, b3, q3⟩ := hf.put b.ok b2
        rw [← e3]
        exact q (.ref D0) c3 (by rw [w3, hw2]) (b.trans r.ok b3) q3
    · rw [if_neg hl] at q; exact q.elim
theorem sts_nil : PTs X [] (tSB cls X.K e Wx (bYes (W := W))) := ⟨fun pins s σ H Q I ⟨c, δ, eH, r, q⟩ => pts_nil.run pins s σ H Q I (by rw [← eH]; exact q c rfl (Bs.refl r.ok))⟩
theorem s_lc {elt iter : Expr} {ifs : List Expr} {scope : Scope} {own : List (Str × Nat)} {it : XI W} {g : TG} {tz : TZ} {t : XB W} (ke : Ok e) (hc : X.calm = true) (hN : X.N.Nodup) (hi : PI X tg iter (tSI cls X.K e Wx keepB it)) (ok : BlkOk X.N X.env.scope scope own)
    (hg : ∀ (s : Shared) (H : Hp) (C : Addr) (cl : List (Str × Addr)) (fp : List Addr), PG (X.blk s H scope (compEnvC scope cl C X.env) fp) tg g) (h3 : T3 cls X.K e g tz (own.map (·.2)))
    (ht : ∀ (s : Shared) (H : Hp) (C : Addr) (cl : List (Str × Addr)) (fp : List Addr), PTs (X.blk s H scope (compEnvC scope cl C X.env) fp) ifs (tSB cls X.K e W00 t))
    (he : ∀ (s : Shared) (H : Hp) (C : Addr) (cl : List (Str × Addr)) (fp : List Addr), PE (X.blk s H scope (compEnvC scope cl C X.env) fp) elt (tS cls X.K e W00 f)) (hs : ∀ x, foldedSetIterable iter X.env x = pure x := by intro _; rfl) :
    PE X (.ListComp elt [⟨tg, iter, ifs, 0⟩] scope pos) (tS cls X.K e Wx (xLc it tz t f (own.map (·.2)))) :=
  pe_imp (pe_lc hc hN hi ok hg ht he hs) fun σ H Q q => lc_imp ke h3 σ H Q q
end
end Z

set_option Elab.async false
set_option linter.all false
set_option maxRecDepth 100000
/-! # Z6: statements -/
namespace Z
open PySem PySem.Spec PyProof.Rows L2

inductive SRes (W : Type) where
  | nx (δ : Ev) (w : W) | rt (d : D) (w : W) | bk (δ : Ev) (w : W) | ct (δ : Ev) (w : W) | exc (n : Nat) (δ : Ev) (w : W) | bad
abbrev SF (W : Type) := Ev → W → SRes W
section
variable {W : Type} {wd : WD W}
def afterS (cls : Nat → Addr) (K : PySem.W.Frag) (e c : Cur wd) (Wx : WX) (r : SRes W) (Dn : Ends) : Prop := match r with
  | .nx δ' w' => ∀ σ' c', c'.w = w' → Sub c.F c'.F → Rz cls K e c' δ' σ' → Dn.nx σ' c'.H
  | .rt d w' => ∀ u c', c'.w = w' → Bs e c' → Dv cls K c' d u → Dn.rt u c'.H
  | .bk δ' w' => ∀ σ' c', c'.w = w' → Sub c.F c'.F → Rz cls K e c' δ' σ' → Dn.bk σ' c'.H
  | .ct δ' w' => ∀ σ' c', c'.w = w' → Sub c.F c'.F → Rz cls K e c' δ' σ' → Dn.ct σ' c'.H
  | .exc n δ' w' => ∀ σ' c', c'.w = w' → Sub c.F c'.F → Rz cls K e c' δ' σ' → Wx (.ref (cls n)) none σ' c'.H
  | .bad => False
def tSS (cls : Nat → Addr) (K : PySem.W.Frag) (e : Cur wd) (Wx : WX) (f : SF W) : TS := fun Dn σ H => ∃ c δ, c.H = H ∧ Rz cls K e c δ σ ∧ afterS cls K e c Wx (f δ c.w) Dn
variable {cls : Nat → Addr} {K : PySem.W.Frag} {e c c1 : Cur wd} {Wx : WX} {Dn Dn' : Ends} {r : SRes W}
/-- later on the same is wanted -/
theorem afterS_later (s : Sub c.F c1.F) (h : afterS cls K e c Wx r Dn) : afterS cls K e c1 Wx r Dn := by
  cases r with
  | nx δ' w' => exact fun σ' c' hw s' r' => h σ' c' hw (s.trans s') r'
  | rt d w' => exact h
  | bk δ' w' => exact fun σ' c' hw s' r' => h σ' c' hw (s.trans s') r'
  | ct δ' w' => exact fun σ' c' hw s' r' => h σ' c' hw (s.trans s') r'
  | exc n δ' w' => exact fun σ' c' hw s' r' => h σ' c' hw (s.trans s') r'
  | bad => exact h
end
theorem ps_imp {X : Cx} {st : Stmt} {t t' : TS} (h : PS X st t) (i : ∀ D σ H, t' D σ H → t D σ H) : PS X st t' := ⟨fun pins s σ H D I q => h.run pins s σ H D I (i D σ H q)⟩
theorem pss_imp {X : Cx} {st : List Stmt} {t t' : TS} (h : PSs X st t) (i : ∀ D σ H, t' D σ H → t D σ H) : PSs X st t' := ⟨fun pins s σ H D I q => h.run pins s σ H D I (i D σ H q)⟩

/-! ## slots of one's own -/
section
variable {W : Type} {wd : WD W} {cls : Nat → Addr} {K : PySem.W.Frag} {e c c' : Cur wd} {δ : Ev} {σ : L2.St}
/-- a slot gets new things, laid since c -/
theorem Rz.putNew {i : Nat} {s : Sl} {u : V} {A : List Addr} (ke : Ok e) (r : Rz cls K e c δ σ) (b : Bs c c') (hi : i < δ.length) (hs : SlI cls K c' A s (some (some u))) (hn : A.Nodup) (hA : ∀ a ∈ A, Fre c c' a ∧ c'.H a ≠ none) :
    Rz cls K e c' (δ.set i s) (σ.set i (some u)) := by
  have r1 := r.step ke b
  obtain ⟨o, h1, h2, h3, h4, h5⟩ := r.ex
  have hl := r.len
  have eH : ∀ a, c.H a = none → e.H a = none := fun a h => by
    rcases none_or (e.H a) with q | ⟨x, q⟩
    · exact q
    · by_cases hx : wd.fp e.k a
      · exact absurd h (r.ok.wf a (r.bs.kg a hx)).2
      · rw [r.bs.hh a x hx q] at h; cases h
  have dis : ∀ j a, a ∈ A → a ∈ o j → False := fun j a ha hj => (h5 j a hj).2 (hA a ha).1.2.2
  refine ⟨r1.bs, by simpa using hl, fun j => if j = i then A else o j, fun j t ht => ?_, fun j hj => ?_, fun j k a hj hk => ?_, fun j => ?_, fun j a ha => ?_⟩
  · by_cases e1 : j = i
    · subst e1
      rw [List.getElem?_set_self hi] at ht
      cases ht
      simp only [if_pos]
      rw [List.getElem?_set_self (by omega)]
      exact hs
    · simp only [if_neg e1]
      rw [List.getElem?_set_ne (Ne.symm e1)] at ht ⊢
      exact (h1 j t ht).step b fun a ha => ((h5 j a ha).1.step b (h5 j a ha).2).2
  · by_cases e1 : j = i
    · subst e1; rw [List.getElem?_set_self hi] at hj; cases hj
    · simp only [if_neg e1]
      rw [List.getElem?_set_ne (Ne.symm e1)] at hj
      exact h2 j hj
  · dsimp only at hj hk
    by_cases e1 : j = i
    · by_cases e2 : k = i
      · rw [e1, e2]
      · rw [if_pos e1] at hj; rw [if_neg e2] at hk; exact (dis k a hj hk).elim
    · by_cases e2 : k = i
      · rw [if_neg e1] at hj; rw [if_pos e2] at hk; exact (dis j a hk hj).elim
      · rw [if_neg e1] at hj; rw [if_neg e2] at hk; exact h3 j k a hj hk
  · dsimp only
    by_cases e1 : j = i
    · rw [if_pos e1]; exact hn
    · rw [if_neg e1]; exact h4 j
  · dsimp only at ha
    by_cases e1 : j = i
    · rw [if_pos e1] at ha
      obtain ⟨⟨f1, f2, f3⟩, f4⟩ := hA a ha
      exact ⟨⟨f1, f2, eH a f3⟩, f4⟩
    · rw [if_neg e1] at ha
      obtain ⟨f1, f2⟩ := (h5 j a ha).1.step b (h5 j a ha).2
      exact ⟨f1, by rw [f2]; exact (h5 j a ha).2⟩
/-- one's own object at a changes -/
theorem Rz.write {i : Nat} {s s' : Sl} {a : Addr} {ob : HO} (r : Rz cls K e c δ σ) (hs : δ[i]? = some s)
    (hb : ∀ o : Nat → List Addr, SlI cls K c (o i) s σ[i]? → a ∈ o i ∧ ((o i).Nodup → SlI cls K { c with H := upd c.H a ob } (o i) s' σ[i]?)) : Rz cls K e { c with H := upd c.H a ob } (δ.set i s') σ := by
  obtain ⟨o, h1, h2, h3, h4, h5⟩ := r.ex
  obtain ⟨ha, hs'⟩ := hb o (h1 i s hs)
  replace hs' := hs' (h4 i)
  obtain ⟨⟨f1, f2, f3⟩, f4⟩ := h5 i a ha
  have hi : i < δ.length := (List.getElem?_eq_some_iff.mp hs).1
  have off : ∀ j x, j ≠ i → x ∈ o j → x ≠ a := fun j x hj hx z => hj (h3 j i x hx (z ▸ ha))
  refine ⟨⟨⟨fun x u q => ?_, wd.stab _ _ _ _ _ _ r.ok.wr (Sub.refl _) fun x hx => upd_ne fun (z : x = a) => f2 (z ▸ hx), fun x hx => ⟨(r.ok.wf x hx).1, ?_⟩⟩, r.bs.ff, fun x u n q => ?_, r.bs.fn, r.bs.kh, r.bs.kf, r.bs.kg⟩, by rw [List.length_set]; exact r.len, o, fun j t ht => ?_, fun j hj => ?_, h3, h4, fun j x hx => ?_⟩
  · show upd c.H a ob x = some u
    rw [upd_ne (ne_of_none q f1)]; exact r.ok.fh _ _ q
  · show upd c.H a ob x ≠ none
    rw [upd_ne fun (z : x = a) => f2 (z ▸ hx)]
    exact (r.ok.wf x hx).2
  · show upd c.H a ob x = some u
    rw [upd_ne (ne_of_none q f3)]; exact r.bs.hh _ _ n q
  · by_cases e1 : j = i
    · subst e1
      rw [List.getElem?_set_self hi] at ht
      cases ht
      exact hs'
    · rw [List.getElem?_set_ne (Ne.symm e1)] at ht
      have q := h1 j t ht
      have eq : ∀ x ∈ o j, upd c.H a ob x = c.H x := fun x hx => upd_ne (off j x e1 hx)
      cases t with
      | no => exact q
      | v d =>
        obtain ⟨q1, u, q2, q3⟩ := q
        refine ⟨q1, u, q2, ?_⟩
        cases d with
        | p d => exact q3
        | exc n => exact q3
        | obj n => exact q3
        | scr n => exact q3
        | opq => trivial
      | own xs =>
        obtain ⟨p, vs, q1, q2, q3, q4⟩ := q
        refine ⟨p, vs, q1, q2, ?_, q4⟩
        rw [← q3]; exact eq p (by rw [q1]; exact List.mem_cons_self)
      | own2 xss =>
        obtain ⟨p, as, q1, q2, q3, ql, q4⟩ := q
        refine ⟨p, as, q1, q2, ?_, ql, fun m b xs g1 g2 => ?_⟩
        · rw [← q3]; exact eq p (by rw [q1]; exact List.mem_cons_self)
        · obtain ⟨vs, g3, g4⟩ := q4 m b xs g1 g2
          refine ⟨vs, ?_, g4⟩
          rw [← g3]; exact eq b (by rw [q1]; exact List.mem_cons_of_mem _ (List.mem_of_getElem? g1))
  · by_cases e1 : j = i
    · subst e1; rw [List.getElem?_set_self hi] at hj; cases hj
    · rw [List.getElem?_set_ne (Ne.symm e1)] at hj; exact h2 j hj
  · obtain ⟨g1, g2⟩ := h5 j x hx
    refine ⟨g1, ?_⟩
    show upd c.H a ob x ≠ none
    by_cases e1 : x = a
    · rw [e1, upd_same]; exact fun z => by cases z
    · rw [upd_ne e1]; exact g2
/-- .. a list -/
theorem Rz.own {i : Nat} {xs : List PyData} (r : Rz cls K e c δ σ) (hs : δ[i]? = some (.own xs)) : ∃ a vs, σ[i]? = some (some (.ref a)) ∧ c.H a = some (.lst vs) ∧ DqL c.F xs vs ∧ c.F a = none ∧
    ∀ ys us, DqL c.F ys us → Rz cls K e { c with H := upd c.H a (.lst us) } (δ.set i (.own ys)) σ := by
  obtain ⟨o, h1, h2, h3, h4, h5⟩ := r.ex
  obtain ⟨a, vs, q1, q2, q3, q4⟩ := h1 i _ hs
  refine ⟨a, vs, q2, q3, q4, (h5 i a (by rw [q1]; exact List.mem_cons_self)).1.1, fun ys us h => r.write (s' := .own ys) hs fun o' ⟨a', vs', g1, g2, g3, g4⟩ => ?_⟩
  have ea : a' = a := by rw [q2] at g2; cases g2; rfl
  subst ea
  exact ⟨by rw [g1]; exact List.mem_cons_self, fun _ => ⟨a', us, g1, g2, upd_same, h⟩⟩
/-- .. a row of a list of lists -/
theorem Rz.own2 {i : Nat} {xss : List (List PyData)} (r : Rz cls K e c δ σ) (hs : δ[i]? = some (.own2 xss)) : ∃ a as, σ[i]? = some (some (.ref a)) ∧ c.H a = some (.lst (as.map V.ref)) ∧ c.F a = none ∧ RowsAt c xss as ∧
    ∀ (k : Nat) (b : Addr), as[k]? = some b → c.F b = none ∧ ∀ ys us, DqL c.F ys us → Rz cls K e { c with H := upd c.H b (.lst us) } (δ.set i (.own2 (xss.set k ys))) σ := by
  obtain ⟨o, h1, h2, h3, h4, h5⟩ := r.ex
  obtain ⟨a, as, q1, q2, q3, ql, q4⟩ := h1 i _ hs
  refine ⟨a, as, q2, q3, (h5 i a (by rw [q1]; exact List.mem_cons_self)).1.1, ⟨ql, q4⟩, fun k b hb => ⟨(h5 i b (by rw [q1]; exact List.mem_cons_of_mem _ (List.mem_of_getElem? hb))).1.1, fun ys us h => r.write (s' := .own2 (xss.set k ys)) hs fun o' ⟨a', as', g1, g2, g3, gl, g4⟩ => ?_⟩⟩
  have ea : a' = a := by rw [q2] at g2; cases g2; rfl
  subst ea
  have eas : as' = as := by
    rw [q3] at g3
    have := HO.lst.inj (Option.some.inj g3)
    exact (List.map_inj_right (fun x y h => V.ref.inj h)).mp this.symm
  subst eas
  refine ⟨by rw [g1]; exact List.mem_cons_of_mem _ (List.mem_of_getElem? hb), fun nd => ?_⟩
  rw [g1] at nd
  have hab : a' ≠ b := fun z => (List.nodup_cons.mp nd).1 (z ▸ List.mem_of_getElem? hb)
  have ndA := (List.nodup_cons.mp nd).2
  refine ⟨a', as', g1, g2, ?_, by rw [List.length_set]; exact gl, fun m x xs h1' h2' => ?_⟩
  · show upd c.H b _ a' = _
    rw [upd_ne hab]; exact g3
  · by_cases e1 : m = k
    · subst e1
      rw [hb] at h1'
      cases h1'
      have hm : m < xss.length := by
        have := (List.getElem?_eq_some_iff.mp hb).1
        omega
      rw [List.getElem?_set_self hm] at h2'
      cases h2'
      exact ⟨us, upd_same, h⟩
    · rw [List.getElem?_set_ne (Ne.symm e1)] at h2'
      obtain ⟨vs, f1, f2⟩ := g4 m x xs h1' h2'
      refine ⟨vs, ?_, f2⟩
      show upd c.H b _ x = _
      rw [upd_ne]
      · exact f1
      · intro z
        subst z
        have i1 := (List.getElem?_eq_some_iff.mp h1')
        have i2 := (List.getElem?_eq_some_iff.mp hb)
        obtain ⟨l1, v1⟩ := i1
        obtain ⟨l2, v2⟩ := i2
        exact e1 ((List.getElem_inj ndA).mp (v1.trans v2.symm))
/-- what a slot owns is frozen -/
theorem Rz.frzG {i : Nat} {s : Sl} {d : D} (r : Rz cls K e c δ σ) (hs : δ[i]? = some s)
    (hv : ∀ (A : List Addr) (c' : Cur wd), SlI cls K c A s σ[i]? → Sub c.F c'.F → (∀ a ∈ A, c'.F a = c.H a) → ∃ u, σ[i]? = some (some u) ∧ Dv cls K c' d u) :
    ∃ c' : Cur wd, c'.H = c.H ∧ c'.w = c.w ∧ Sub c.F c'.F ∧ c'.k = c.k ∧ Rz cls K e c' (δ.set i (.v d)) σ := by
  obtain ⟨o, h1, h2, h3, h4, h5⟩ := r.ex
  have hi : i < δ.length := (List.getElem?_eq_some_iff.mp hs).1
  generalize hF : (fun x => if x ∈ o i then c.H x else c.F x : Hp) = F'
  have fin : ∀ x, x ∈ o i → F' x = c.H x := fun x hx => by rw [← hF]; simp only [if_pos hx]
  have fout : ∀ x, x ∉ o i → F' x = c.F x := fun x hx => by rw [← hF]; simp only [if_neg hx]
  have s1 : Sub c.F F' := fun x u q => by
    by_cases hx : x ∈ o i
    · rw [(h5 i x hx).1.1] at q; cases q
    · rw [fout x hx]; exact q
  obtain ⟨u, hu, hd⟩ := hv (o i) { c with F := F' } (h1 i s hs) s1 fin
  refine ⟨{ c with F := F' }, rfl, rfl, s1, rfl, ⟨⟨fun x v q => ?_, wd.stab _ _ _ _ _ _ r.ok.wr s1 fun _ _ => rfl, fun x hx => ⟨?_, (r.ok.wf x hx).2⟩⟩, r.bs.ff.trans s1, r.bs.hh, fun x hx => ?_, r.bs.kh, r.bs.kf, r.bs.kg⟩, by rw [List.length_set]; exact r.len, fun j => if j = i then [] else o j, fun j t ht => ?_, fun j hj => ?_, fun j k x hj hk => ?_, fun j => ?_, fun j x hx => ?_⟩
  · have q : F' x = some v := q
    by_cases hx : x ∈ o i
    · rw [fin x hx] at q; exact q
    · rw [fout x hx] at q; exact r.ok.fh _ _ q
  · show F' x = none
    by_cases hx' : x ∈ o i
    · exact absurd hx (h5 i x hx').1.2.1
    · rw [fout x hx']; exact (r.ok.wf x hx).1
  · by_cases hx' : x ∈ o i
    · exact .inr (h5 i x hx').1.2.2
    · refine r.bs.fn x fun z => hx ?_
      show F' x = none
      rw [fout x hx']; exact z
  · by_cases e1 : j = i
    · subst e1
      rw [List.getElem?_set_self hi] at ht
      cases ht
      simp only [if_pos]
      exact ⟨rfl, u, hu, hd⟩
    · simp only [if_neg e1]
      rw [List.getElem?_set_ne (Ne.symm e1)] at ht
      have q := h1 j t ht
      cases t with
      | no => exact q
      | v d =>
        obtain ⟨g1, u, g2, g3⟩ := q
        refine ⟨g1, u, g2, ?_⟩
        cases d with
        | p d => exact Dq.mono s1 _ _ g3
        | exc n => obtain ⟨y, g4, g5⟩ := g3; exact ⟨y, g4, s1 _ _ g5⟩
        | obj n => exact g3
        | scr n => obtain ⟨y, g4, g5⟩ := g3; exact ⟨y, g4, sqL_mono s1 g5⟩
        | opq => trivial
      | own ys =>
        obtain ⟨p, us, g1, g2, g3, g4⟩ := q
        exact ⟨p, us, g1, g2, g3, DqL.mono s1 _ _ g4⟩
      | own2 yss =>
        obtain ⟨p, as, g1, g2, g3, gl, g4⟩ := q
        refine ⟨p, as, g1, g2, g3, gl, fun m b zs k1 k2 => ?_⟩
        obtain ⟨us, k3, k4⟩ := g4 m b zs k1 k2
        exact ⟨us, k3, DqL.mono s1 _ _ k4⟩
  · by_cases e1 : j = i
    · simp only [if_pos e1]
    · simp only [if_neg e1]
      rw [List.getElem?_set_ne (Ne.symm e1)] at hj
      exact h2 j hj
  · dsimp only at hj hk
    by_cases e1 : j = i
    · rw [if_pos e1] at hj; cases hj
    · by_cases e2 : k = i
      · rw [if_pos e2] at hk; cases hk
      · rw [if_neg e1] at hj; rw [if_neg e2] at hk; exact h3 j k x hj hk
  · dsimp only
    by_cases e1 : j = i
    · rw [if_pos e1]; exact List.nodup_nil
    · rw [if_neg e1]; exact h4 j
  · dsimp only at hx
    by_cases e1 : j = i
    · rw [if_pos e1] at hx; cases hx
    · rw [if_neg e1] at hx
      obtain ⟨⟨g1, g2, g3⟩, g4⟩ := h5 j x hx
      refine ⟨⟨?_, g2, g3⟩, g4⟩
      show F' x = none
      rw [fout x fun z => e1 (h3 j i x hx z)]
      exact g1
/-- a list of one's own is frozen -/
theorem Rz.frz {i : Nat} {xs : List PyData} (r : Rz cls K e c δ σ) (hs : δ[i]? = some (.own xs)) : ∃ c' : Cur wd, c'.H = c.H ∧ c'.w = c.w ∧ Sub c.F c'.F ∧ c'.k = c.k ∧ Rz cls K e c' (δ.set i (.v (.p (.list xs)))) σ :=
  r.frzG hs fun A c' ⟨a, vs, q1, q2, q3, q4⟩ s hA => ⟨.ref a, q2, by
    show Dq c'.F _ _
    simp only [Dq]
    exact ⟨a, vs, rfl, by rw [hA a (by rw [q1]; exact List.mem_cons_self)]; exact q3, DqL.mono s _ _ q4⟩⟩
theorem rows_dq {F : Hp} {c : Cur wd} (s : Sub c.F F) : ∀ {xss : List (List PyData)} {as : List Addr}, RowsAt c xss as → (∀ a ∈ as, F a = c.H a) → DqL F (xss.map .list) (as.map .ref)
  | [], as, ⟨l, _⟩, _ => by
    cases List.length_eq_zero_iff.mp l
    exact .nil
  | xs :: xss, [], ⟨l, _⟩, _ => by simp at l
  | xs :: xss, a :: as, ⟨l, q⟩, h => by
    obtain ⟨vs, q1, q2⟩ := q 0 a xs rfl rfl
    refine .cons ?_ (rows_dq s ⟨by simpa using l, fun j b ys h1 h2 => q (j + 1) b ys (by simpa using h1) (by simpa using h2)⟩ fun b hb => h b (List.mem_cons_of_mem _ hb))
    simp only [Dq]
    exact ⟨a, vs, rfl, by rw [h a List.mem_cons_self]; exact q1, DqL.mono s _ _ q2⟩
/-- .. a list of lists -/
theorem Rz.frz2 {i : Nat} {xss : List (List PyData)} (r : Rz cls K e c δ σ) (hs : δ[i]? = some (.own2 xss)) : ∃ c' : Cur wd, c'.H = c.H ∧ c'.w = c.w ∧ Sub c.F c'.F ∧ c'.k = c.k ∧ Rz cls K e c' (δ.set i (.v (.p (.list (xss.map .list))))) σ :=
  r.frzG hs fun A c' ⟨a, as, q1, q2, q3, q4⟩ s hA => ⟨.ref a, q2, by
    show Dq c'.F _ _
    simp only [Dq]
    exact ⟨a, _, rfl, by rw [hA a (by rw [q1]; exact List.mem_cons_self)]; exact q3, rows_dq s q4 fun b hb => hA b (by rw [q1]; exact List.mem_cons_of_mem _ hb)⟩⟩
end
end Z

set_option Elab.async false
set_option linter.all false
set_option maxRecDepth 100000
/-! # Z7: rules of statements -/
namespace Z
open PySem PySem.Spec PyProof.Rows L2

abbrev XS (W : Type) := Ev → W → Res W Sl
section
variable {W : Type} {wd : WD W}
def afterX (cls : Nat → Addr) (K : PySem.W.Frag) (c : Cur wd) (σ : L2.St) (Wx : WX) (r : Res W Sl) (Q : VK) : Prop := match r with
  | .ok s w' => ∀ u c' A, c'.w = w' → Bs c c' → SlI cls K c' A s (some (some u)) → A.Nodup → (∀ a ∈ A, Fre c c' a ∧ c'.H a ≠ none) → Q u c'.H
  | .exc n w' => ∀ c', c'.w = w' → Bs c c' → Wx (.ref (cls n)) none σ c'.H
  | .bad => False
def tSX (cls : Nat → Addr) (K : PySem.W.Frag) (e : Cur wd) (Wx : WX) (f : XS W) : TE := fun σ H Q => ∃ c δ, c.H = H ∧ Rz cls K e c δ σ ∧ afterX cls K c σ Wx (f δ c.w) Q
end
section
variable {X : Cx} {W : Type} {wd : WD W} {cls : Nat → Addr} {e : Cur wd} {Wx : WX} {tg ex a b d : Expr} {pos pos' : Pos} {f h : XF W} {fl : XL W} {es : List Expr} {g gs : XS W} {t : XB W} {st : Stmt} {sts : List Stmt}
def xV (f : XF W) : XS W := fun δ w => (f δ w).bind fun d w1 => .ok (.v d) w1
theorem x_v (ha : PE X a (tS cls X.K e Wx f)) : PE X a (tSX cls X.K e Wx (xV f)) := pe_imp ha fun σ H Q ⟨c, δ, eH, r, q⟩ => by
  refine ⟨c, δ, eH, r, ?_⟩
  unfold xV at q
  cases z : f δ c.w with
  | bad => rw [z] at q; exact q
  | exc n w => rw [z] at q; exact q
  | ok x w' =>
    rw [z] at q
    exact fun u c' hw b q' => q u c' [] hw b ⟨rfl, u, rfl, q'⟩ List.nodup_nil fun _ h => by cases h
/-- [a, b, ..], one's own -/
def xOwn (fl : XL W) : XS W := fun δ w => (fl δ w).bind fun xs w1 => match allP xs with
  | some ps => if ps.length ≤ lim then .ok (.own ps) w1 else .bad
  | none => .bad
theorem gives_own {K : PySem.W.Frag} {c : Cur wd} {σ : L2.St} {ds : List PyData} {vs : List V} {Q : VK} (h : afterX cls K c σ Wx (.ok (.own ds) c.w) Q) (k : Ok c) (q : DqL c.F ds vs) : ∀ p, c.H p = none → Q (.ref p) (upd c.H p (.lst vs)) := fun p hp => by
  have b := Bs.lay k (.lst vs) hp
  exact h (.ref p) (c.lay p (.lst vs)) [p] rfl b ⟨p, vs, rfl, rfl, upd_same, q⟩ (List.nodup_cons.mpr ⟨by simp, List.nodup_nil⟩) fun a ha => by
    simp at ha; subst ha
    exact ⟨⟨k.fnone hp, k.nofp hp, hp⟩, by show upd c.H a _ a ≠ none; rw [upd_same]; exact fun z => by cases z⟩
theorem x_own (ke : Ok e) (h : PA X es (tSL cls X.K e Wx fl)) : PE X (.List es pos) (tSX cls X.K e Wx (xOwn fl)) := pe_imp (pe_lst h) fun σ H Q ⟨c, δ, eH, r, q⟩ => by
  rw [← eH]
  unfold xOwn at q
  refine ⟨c, δ, rfl, r, ?_⟩
  cases z : fl δ c.w with
  | bad => rw [z] at q; exact q
  | exc n w => rw [z] at q; exact q
  | ok xs w' =>
    rw [z] at q
    dsimp only [Res.bind] at q
    intro us c' hw b q2
    cases z2 : allP xs with
    | none => rw [z2] at q; exact q.elim
    | some ps =>
      rw [z2] at q
      dsimp only at q
      by_cases z3 : ps.length ≤ lim
      · rw [if_pos z3] at q
        have q3 := allP_dq z2 q2
        refine ⟨by rw [q3.len, ← lim_eq]; exact z3, fun p hp => ?_⟩
        have k := b.ok
        have b2 := Bs.lay k (.lst us) hp
        refine q (.ref p) (c'.lay p (.lst us)) [p] hw (b.trans r.ok b2) ⟨p, us, rfl, rfl, upd_same, q3⟩ (List.nodup_cons.mpr ⟨by simp, List.nodup_nil⟩) fun a ha => ?_
        simp at ha; subst ha
        refine ⟨⟨k.fnone hp, k.nofp hp, ?_⟩, by show upd c'.H a _ a ≠ none; rw [upd_same]; exact fun z => by cases z⟩
        rcases none_or (c.H a) with q | ⟨u, q⟩
        · exact q
        · by_cases hx : wd.fp c.k a
          · exact absurd hp (k.wf a (b.kg a hx)).2
          · rw [b.hh a u hx q] at hp; cases hp
      · rw [if_neg z3] at q; exact q.elim
/-- a comprehension, one's own -/
def xLcO (it : XI W) (tz : TZ) (t : XB W) (f : XF W) (vs : List Nat) : XS W := fun δ w => (it δ w).bind fun items w1 => if items.length ≤ lim then match lcGo tz t f (wipeZ δ vs) items w1 with
    | .ok ys w2 => .ok (.own ys) w2
    | _ => .bad
  else .bad
theorem lc_impX {it : XI W} {g : TG} {tz : TZ} {vs : List Nat} {K : PySem.W.Frag} (ke : Ok e) (h3 : T3 cls K e g tz vs) (σ : L2.St) (H : Hp) (Q : VK) (q : tSX cls K e Wx (xLcO it tz t f vs) σ H Q) :
    tLc (tSI cls K e Wx keepB it) g (tSB cls K e W00 t) (tS cls K e W00 f) vs σ H Q := by
  obtain ⟨c, δ, eH, r, q⟩ := q
  refine ⟨c, δ, eH, r, ?_⟩
  unfold xLcO at q
  cases z : it δ c.w with
  | bad => rw [z] at q; exact q
  | exc n w' => rw [z] at q; exact q
  | ok items w1 =>
    rw [z] at q
    dsimp only [Res.bind] at q
    by_cases hl : items.length ≤ lim
    · rw [if_pos hl] at q
      cases z2 : lcGo tz t f (wipeZ δ vs) items w1 with
      | bad => rw [z2] at q; exact q.elim
      | exc n w' => rw [z2] at q; exact q.elim
      | ok ys wf =>
        rw [z2] at q
        intro J c' hw b hJ
        have r' := r.step ke b
        rw [← hw] at z2
        refine lc_walk ke r' hl hJ h3.1 z2 (fun _ _ _ _ _ => trivial) (fun D0 c2 hw2 b2 hf => ?_) fun x H' R hg => h3.2.2 _ _ _ _ _ (h3.2.1 _ _ _ _ hg) fun σ2 H2 ⟨o, k⟩ => ⟨wipe_outs o, k⟩
        obtain ⟨⟨f1, f2, f3⟩, us, g1, g2⟩ := hf
        refine q (.ref D0) c2 [D0] hw2 (b.trans r.ok b2) ⟨D0, us, rfl, rfl, g1, g2⟩ (List.nodup_cons.mpr ⟨by simp, List.nodup_nil⟩) fun a ha => ?_
        simp at ha; subst ha
        refine ⟨⟨f1, f2, ?_⟩, by rw [g1]; exact fun z => by cases z⟩
        rcases none_or (c.H a) with q | ⟨u, q⟩
        · exact q
        · by_cases hx : wd.fp c.k a
          · exact absurd f3 (b.ok.wf a (b.kg a hx)).2
          · rw [b.hh a u hx q] at f3; cases f3
    · rw [if_neg hl] at q; exact q.elim
theorem x_lcO {elt iter : Expr} {ifs : List Expr} {scope : Scope} {own : List (Str × Nat)} {it : XI W} {g : TG} {tz : TZ} {t : XB W} (ke : Ok e) (hc : X.calm = true) (hN : X.N.Nodup) (hi : PI X tg iter (tSI cls X.K e Wx keepB it)) (ok : BlkOk X.N X.env.scope scope own)
    (hg : ∀ (s : Shared) (H : Hp) (C : Addr) (cl : List (Str × Addr)) (fp : List Addr), PG (X.blk s H scope (compEnvC scope cl C X.env) fp) tg g) (h3 : T3 cls X.K e g tz (own.map (·.2)))
    (ht : ∀ (s : Shared) (H : Hp) (C : Addr) (cl : List (Str × Addr)) (fp : List Addr), PTs (X.blk s H scope (compEnvC scope cl C X.env) fp) ifs (tSB cls X.K e W00 t))
    (he : ∀ (s : Shared) (H : Hp) (C : Addr) (cl : List (Str × Addr)) (fp : List Addr), PE (X.blk s H scope (compEnvC scope cl C X.env) fp) elt (tS cls X.K e W00 f)) (hs : ∀ x, foldedSetIterable iter X.env x = pure x := by intro _; rfl) :
    PE X (.ListComp elt [⟨tg, iter, ifs, 0⟩] scope pos) (tSX cls X.K e Wx (xLcO it tz t f (own.map (·.2)))) :=
  pe_imp (pe_lc hc hN hi ok hg ht he hs) fun σ H Q q => lc_impX ke h3 σ H Q q

/-! ## assignments -/
def sSet (i : Nat) (g : XS W) : SF W := fun δ w => match g δ w with
  | .ok s w' => if i < δ.length then .nx (δ.set i s) w' else .bad
  | .exc n w' => .exc n δ w'
  | .bad => .bad
theorem set_imp {K : PySem.W.Frag} {i : Nat} (ke : Ok e) (D : Ends) (σ : L2.St) (H : Hp) (q : tSS cls K e Wx (sSet i g) D σ H) : tAsg (tSX cls K e Wx g) (gName i) D σ H := by
  obtain ⟨c, δ, eH, r, q⟩ := q
  refine ⟨c, δ, eH, r, ?_⟩
  unfold sSet at q
  cases z : g δ c.w with
  | bad => rw [z] at q; exact q
  | exc n w => rw [z] at q; exact fun c' hw b => q σ c' hw b.ff (r.step ke b)
  | ok s w' =>
    rw [z] at q
    dsimp only at q
    by_cases hi : i < δ.length
    · rw [if_pos hi] at q
      exact fun u c' A hw b hs hn hA => q _ c' hw b.ff (r.putNew ke b hi hs hn hA)
    · rw [if_neg hi] at q; exact q.elim
theorem ss_set {i : Nat} {x : Str} {pos' : Pos} (ke : Ok e) (hN : X.N.Nodup) (hi : X.N[i]? = some x) (hx : Loc X.env.scope x) (he : PE X ex (tSX cls X.K e Wx g)) (hs : swapsWith ex (some (.Name x pos')) pos.line X.env = pure false := by rfl)
    (hf : X.fn x = true ∨ X.env.scope.names.lookup x = some .local := by first | exact .inl rfl | exact .inr rfl | assumption) : PS X (.Assign [.Name x pos'] ex pos) (tSS cls X.K e Wx (sSet i g)) :=
  ps_imp (ps_set hN hi hx he hs hf) fun D σ H q => set_imp ke D σ H q
/-- x = [.. for ..] -/
theorem ss_setLc {i : Nat} {y : Str} {py : Pos} {elt iter : Expr} {ifs : List Expr} {scope : Scope} {own : List (Str × Nat)} {spos : Pos} {it : XI W} {g : TG} {tz : TZ} {t : XB W} (ke : Ok e) (hc : X.calm = true) (hN : X.N.Nodup) (hy : X.N[i]? = some y) (hyl : X.env.scope.names.lookup y = some .local)
    (hsw : swapsWith (.ListComp elt [⟨tg, iter, ifs, 0⟩] scope pos) (some (.Name y py)) spos.line X.env = pure true) (hi : PI X tg iter (tSI cls X.K e Wx keepB it)) (ok : BlkOk X.N X.env.scope scope own)
    (hg : ∀ (s : Shared) (H : Hp) (C : Addr) (cl : List (Str × Addr)) (fp : List Addr), PG (X.blk s H scope (compEnvC scope cl C X.env) fp) tg g) (h3 : T3 cls X.K e g tz (own.map (·.2)))
    (ht : ∀ (s : Shared) (H : Hp) (C : Addr) (cl : List (Str × Addr)) (fp : List Addr), PTs (X.blk s H scope (compEnvC scope cl C X.env) fp) ifs (tSB cls X.K e W00 t))
    (he : ∀ (s : Shared) (H : Hp) (C : Addr) (cl : List (Str × Addr)) (fp : List Addr), PE (X.blk s H scope (compEnvC scope cl C X.env) fp) elt (tS cls X.K e W00 f)) (hs : ∀ x, foldedSetIterable iter X.env x = pure x := by intro _; rfl) :
    PS X (.Assign [.Name y py] (.ListComp elt [⟨tg, iter, ifs, 0⟩] scope pos) spos) (tSS cls X.K e Wx (sSet i (xV (xLc it tz t f (own.map (·.2)))))) :=
  ps_imp (ps_setLc hc hN hy hyl hsw hi ok hg ht he hs) fun D σ H q => by
    obtain ⟨c, δ, eH, r, q⟩ := set_imp ke D σ H q
    refine lc_imp (Wx := Wx) ke h3 σ H _ ⟨c, δ, eH, r, ?_⟩
    unfold xV at q
    cases z : xLc it tz t f (own.map (·.2)) δ c.w with
    | bad => rw [z] at q; exact q
    | exc n w => rw [z] at q; exact q
    | ok x w' =>
      rw [z] at q
      exact fun u c' hw b q' => q u c' [] hw b ⟨rfl, u, rfl, q'⟩ List.nodup_nil fun _ h => by cases h
theorem ss_setLcO {i : Nat} {y : Str} {py : Pos} {elt iter : Expr} {ifs : List Expr} {scope : Scope} {own : List (Str × Nat)} {spos : Pos} {it : XI W} {g : TG} {tz : TZ} {t : XB W} (ke : Ok e) (hc : X.calm = true) (hN : X.N.Nodup) (hy : X.N[i]? = some y) (hyl : X.env.scope.names.lookup y = some .local)
    (hsw : swapsWith (.ListComp elt [⟨tg, iter, ifs, 0⟩] scope pos) (some (.Name y py)) spos.line X.env = pure true) (hi : PI X tg iter (tSI cls X.K e Wx keepB it)) (ok : BlkOk X.N X.env.scope scope own)
    (hg : ∀ (s : Shared) (H : Hp) (C : Addr) (cl : List (Str × Addr)) (fp : List Addr), PG (X.blk s H scope (compEnvC scope cl C X.env) fp) tg g) (h3 : T3 cls X.K e g tz (own.map (·.2)))
    (ht : ∀ (s : Shared) (H : Hp) (C : Addr) (cl : List (Str × Addr)) (fp : List Addr), PTs (X.blk s H scope (compEnvC scope cl C X.env) fp) ifs (tSB cls X.K e W00 t))
    (he : ∀ (s : Shared) (H : Hp) (C : Addr) (cl : List (Str × Addr)) (fp : List Addr), PE (X.blk s H scope (compEnvC scope cl C X.env) fp) elt (tS cls X.K e W00 f)) (hs : ∀ x, foldedSetIterable iter X.env x = pure x := by intro _; rfl) :
    PS X (.Assign [.Name y py] (.ListComp elt [⟨tg, iter, ifs, 0⟩] scope pos) spos) (tSS cls X.K e Wx (sSet i (xLcO it tz t f (own.map (·.2))))) :=
  ps_imp (ps_setLc hc hN hy hyl hsw hi ok hg ht he hs) fun D σ H q => lc_impX ke h3 σ H _ (set_imp ke D σ H q)
/-- a, b = e1, e2 -/
def sPar2 (i j : Nat) (g gs : XS W) : SF W := fun δ w => match g δ w with
  | .ok s w1 => match gs δ w1 with
    | .ok s2 w2 => if i < δ.length ∧ j < δ.length then .nx ((δ.set i s).set j s2) w2 else .bad
    | .exc n w' => .exc n δ w'
    | .bad => .bad
  | .exc n w' => .exc n δ w'
  | .bad => .bad
theorem ss_par2 {i j : Nat} {x y : Str} {px py pt : Pos} {kt k2 pt2} (ke : Ok e) (hc : X.calm = true) (hN : X.N.Nodup) (hi : X.N[i]? = some x) (hj : X.N[j]? = some y) (hij : i ≠ j)
    (hx : X.env.scope.names.lookup x = some .local) (hy : X.env.scope.names.lookup y = some .local) (ha : PE X a (tSX cls X.K e Wx g)) (hb : PE X b (tSX cls X.K e Wx gs))
    (hw : swappedStores [.Tuple [.Name x px, .Name y py] kt pt] (.Tuple [a, b] k2 pt2) X.env = pure (some [x, y]) := by rfl) (hs : swapsWithSole [.Tuple [.Name x px, .Name y py] kt pt] (.Tuple [a, b] k2 pt2) pos.line X.env = pure false := by rfl)
    (h1 : starEach [a, b] X.env = (false, eval a X.env) :: starEach [b] X.env := by rfl) (h2 : starEach [b] X.env = (false, eval b X.env) :: starEach [] X.env := by rfl) :
    PS X (.Assign [.Tuple [.Name x px, .Name y py] kt pt] (.Tuple [a, b] k2 pt2) pos) (tSS cls X.K e Wx (sPar2 i j g gs)) :=
  ps_imp (ps_par hc hN hi hj hij hx hy (pa_cons ha (pa_cons hb pa_nil h2) h1) hw hs) fun D σ H q => by
    obtain ⟨c, δ, eH, r, q⟩ := q
    refine ⟨c, δ, eH, r, ?_⟩
    unfold sPar2 at q
    cases z : g δ c.w with
    | bad => rw [z] at q; exact q
    | exc n w => rw [z] at q; exact fun c' hw b => q σ c' hw b.ff (r.step ke b)
    | ok s w1 =>
      rw [z] at q
      dsimp only at q
      intro u c1 A hw1 b1 hs1 hn1 hA1
      have r1 := r.step ke b1
      refine ⟨c1, δ, rfl, r1, ?_⟩
      rw [hw1]
      cases z2 : gs δ w1 with
      | bad => rw [z2] at q; exact q
      | exc n w => rw [z2] at q; exact fun c' hw b => q σ c' hw (b1.ff.trans b.ff) (r1.step ke b)
      | ok s2 w2 =>
        rw [z2] at q
        dsimp only at q
        by_cases hh : i < δ.length ∧ j < δ.length
        · rw [if_pos hh] at q
          intro v c2 A2 hw2 b2 hs2 hn2 hA2
          refine ⟨u, v, rfl, q _ c2 hw2 (b1.ff.trans b2.ff) ?_⟩
          exact (r.putNew ke b1 hh.1 hs1 hn1 hA1).putNew ke b2 (by rw [List.length_set]; exact hh.2) hs2 hn2 hA2
        · rw [if_neg hh] at q; exact q.elim
def sPar3 (i j l : Nat) (g gs gt : XS W) : SF W := fun δ w => match g δ w with
  | .ok s w1 => match gs δ w1 with
    | .ok s2 w2 => match gt δ w2 with
      | .ok s3 w3 => if i < δ.length ∧ j < δ.length ∧ l < δ.length then .nx (((δ.set i s).set j s2).set l s3) w3 else .bad
      | .exc n w' => .exc n δ w'
      | .bad => .bad
    | .exc n w' => .exc n δ w'
    | .bad => .bad
  | .exc n w' => .exc n δ w'
  | .bad => .bad
theorem ss_par3 {i j l : Nat} {x y z : Str} {gt : XS W} {px py pz pt : Pos} {kt k2 pt2} (ke : Ok e) (hc : X.calm = true) (hN : X.N.Nodup) (hi : X.N[i]? = some x) (hj : X.N[j]? = some y) (hl : X.N[l]? = some z) (hij : i ≠ j) (hil : i ≠ l) (hjl : j ≠ l)
    (hx : X.env.scope.names.lookup x = some .local) (hy : X.env.scope.names.lookup y = some .local) (hz : X.env.scope.names.lookup z = some .local) (ha : PE X a (tSX cls X.K e Wx g)) (hb : PE X b (tSX cls X.K e Wx gs)) (hd : PE X d (tSX cls X.K e Wx gt))
    (hw : swappedStores [.Tuple [.Name x px, .Name y py, .Name z pz] kt pt] (.Tuple [a, b, d] k2 pt2) X.env = pure (some [x, y, z]) := by rfl)
    (hs : swapsWithSole [.Tuple [.Name x px, .Name y py, .Name z pz] kt pt] (.Tuple [a, b, d] k2 pt2) pos.line X.env = pure false := by rfl)
    (h1 : starEach [a, b, d] X.env = (false, eval a X.env) :: starEach [b, d] X.env := by rfl) (h2 : starEach [b, d] X.env = (false, eval b X.env) :: starEach [d] X.env := by rfl) (h3 : starEach [d] X.env = (false, eval d X.env) :: starEach [] X.env := by rfl) :
    PS X (.Assign [.Tuple [.Name x px, .Name y py, .Name z pz] kt pt] (.Tuple [a, b, d] k2 pt2) pos) (tSS cls X.K e Wx (sPar3 i j l g gs gt)) :=
  ps_imp (ps_par3 hc hN hi hj hl hij hil hjl hx hy hz (pa_cons ha (pa_cons hb (pa_cons hd pa_nil h3) h2) h1) hw hs) fun D σ H q => by
    obtain ⟨c, δ, eH, r, q⟩ := q
    refine ⟨c, δ, eH, r, ?_⟩
    unfold sPar3 at q
    cases z : g δ c.w with
    | bad => rw [z] at q; exact q
    | exc n w => rw [z] at q; exact fun c' hw b => q σ c' hw b.ff (r.step ke b)
    | ok s w1 =>
      rw [z] at q
      dsimp only at q
      intro u c1 A hw1 b1 hs1 hn1 hA1
      have r1 := r.step ke b1
      refine ⟨c1, δ, rfl, r1, ?_⟩
      rw [hw1]
      cases z2 : gs δ w1 with
      | bad => rw [z2] at q; exact q
      | exc n w => rw [z2] at q; exact fun c' hw b => q σ c' hw (b1.ff.trans b.ff) (r1.step ke b)
      | ok s2 w2 =>
        rw [z2] at q
        dsimp only at q
        intro v c2 A2 hw2 b2 hs2 hn2 hA2
        have r2 := r1.step ke b2
        refine ⟨c2, δ, rfl, r2, ?_⟩
        rw [hw2]
        cases z3 : gt δ w2 with
        | bad => rw [z3] at q; exact q
        | exc n w => rw [z3] at q; exact fun c' hw b => q σ c' hw ((b1.ff.trans b2.ff).trans b.ff) (r2.step ke b)
        | ok s3 w3 =>
          rw [z3] at q
          dsimp only at q
          by_cases hh : i < δ.length ∧ j < δ.length ∧ l < δ.length
          · rw [if_pos hh] at q
            intro v3 c3 A3 hw3 b3 hs3 hn3 hA3
            refine ⟨u, v, v3, rfl, q _ c3 hw3 ((b1.ff.trans b2.ff).trans b3.ff) ?_⟩
            exact ((r.putNew ke b1 hh.1 hs1 hn1 hA1).putNew ke b2 (by rw [List.length_set]; exact hh.2.1) hs2 hn2 hA2).putNew ke b3 (by rw [List.length_set, List.length_set]; exact hh.2.2) hs3 hn3 hA3
          · rw [if_neg hh] at q; exact q.elim
/-- target = e, e a value of data -/
def sAsg (tz : TZ) (f : XF W) : SF W := fun δ w => match f δ w with
  | .ok x w' => match (asP x).bind fun d => tz d δ with
    | some δ' => .nx δ' w'
    | none => .bad
  | .exc n w' => .exc n δ w'
  | .bad => .bad
theorem asP_dq {c : Cur wd} {x : D} {p : PyData} {K : PySem.W.Frag} {u : V} (h : asP x = some p) (q : Dv cls K c x u) : Dq c.F p u := by
  cases x with
  | p d => cases h; exact q
  | _ => cases h
theorem ss_asg {g : TG} {tz : TZ} {vs : List Nat} (ke : Ok e) (he : PE X ex (tS cls X.K e Wx f)) (hg : PG X tg g) (h3 : T3 cls X.K e g tz vs) (hs : swapsWithSole [tg] ex pos.line X.env = pure false := by rfl) (hw : swappedStores [tg] ex X.env = pure none := by rfl)
    (h1 : (assignEach [tg] X.env).map (·.2) = [assign tg X.env] := by rfl) : PS X (.Assign [tg] ex pos) (tSS cls X.K e Wx (sAsg tz f)) :=
  ps_imp (ps_asg he hg hs hw h1) fun D σ H ⟨c, δ, eH, r, q⟩ => by
    refine ⟨c, δ, eH, r, ?_⟩
    unfold sAsg at q
    cases z : f δ c.w with
    | bad => rw [z] at q; exact q
    | exc n w => rw [z] at q; exact fun c' hw b => q σ c' hw b.ff (r.step ke b)
    | ok x w' =>
      rw [z] at q
      dsimp only at q
      intro u c' hw b q'
      cases z2 : asP x with
      | none => rw [z2] at q; exact q.elim
      | some p =>
        rw [z2] at q
        dsimp only [Option.bind] at q
        cases z3 : tz p δ with
        | none => rw [z3] at q; exact q.elim
        | some δ' =>
          rw [z3] at q
          exact h3.1 c' δ δ' σ p u _ (r.step ke b) (asP_dq z2 q') z3 fun σ' r' => q σ' c' hw b.ff r'
/-- n += e, n -= e -/
def sAug (i : Nat) (op : Int → Int → Int) (f : XF W) : SF W := fun δ w => match δ[i]? with
  | some (.v (.p (.int m))) => match f δ w with
    | .ok x w' => match asI x with
      | some n => .nx (δ.set i (.v (.p (.int (op m n))))) w'
      | none => .bad
    | .exc n w' => .exc n δ w'
    | .bad => .bad
  | _ => .bad
theorem ss_aug {i : Nat} {x : Str} {op : Operator} {g : Int → Int → Int} {pos' : Pos} (ke : Ok e) (hN : X.N.Nodup) (hi : X.N[i]? = some x) (hx : Loc X.env.scope x) (he : PE X ex (tS cls X.K e Wx f)) (ho : PIp X op (ipI g)) (hf : X.fn x = true ∨ X.env.scope.names.lookup x = some .local := by first | exact .inl rfl | exact .inr rfl | assumption) :
    PS X (.AugAssign (.Name x pos') op ex pos) (tSS cls X.K e Wx (sAug i g f)) := ps_imp (ps_aug hN hi hx he ho hf) fun D σ H ⟨c, δ, eH, r, q⟩ => by
  unfold sAug at q
  split at q
  · rename_i m hm
    obtain ⟨o, h1, _⟩ := id r.ex
    obtain ⟨_, u, e1, q1⟩ := h1 i _ hm
    have hi' : i < δ.length := (List.getElem?_eq_some_iff.mp hm).1
    refine ⟨u, e1, c, δ, eH, r, ?_⟩
    cases z : f δ c.w with
    | bad => rw [z] at q; exact q
    | exc n w => rw [z] at q; exact fun c' hw b => q σ c' hw b.ff (r.step ke b)
    | ok x w' =>
      rw [z] at q
      dsimp only at q
      intro v c' hw b q'
      cases z2 : asI x with
      | none => rw [z2] at q; exact q.elim
      | some n =>
        rw [z2] at q
        refine ⟨m, n, dv_int.mp q1, asI_eq z2 q', ?_⟩
        exact q _ c' hw b.ff ((r.step ke b).put hi' (dv_int.mpr rfl))
  · exact q.elim
/-- xs += e, xs one's own -/
def sExt (i : Nat) (f : XF W) : SF W := fun δ w => match δ[i]? with
  | some (.own xs) => match f δ w with
    | .ok x w' => match lstOf x with
      | some ys => if xs.length + ys.length ≤ lim then .nx (δ.set i (.own (xs ++ ys))) w' else .bad
      | none => .bad
    | .exc n w' => .exc n δ w'
    | .bad => .bad
  | _ => .bad
theorem lstOf_eq {K : PySem.W.Frag} {c : Cur wd} {x : D} {ys : List PyData} {u : V} (h : lstOf x = some ys) (q : Dv cls K c x u) : ∃ p vs, u = .ref p ∧ c.F p = some (.lst vs) ∧ DqL c.F ys vs := by
  unfold lstOf at h
  split at h
  · cases h; exact dv_lst.mp q
  · cases h
theorem ss_ext {i : Nat} {x : Str} {pos' : Pos} (ke : Ok e) (hN : X.N.Nodup) (hi : X.N[i]? = some x) (hx : Loc X.env.scope x) (he : PE X ex (tS cls X.K e Wx f)) (hf : X.fn x = true ∨ X.env.scope.names.lookup x = some .local := by first | exact .inl rfl | exact .inr rfl | assumption) :
    PS X (.AugAssign (.Name x pos') .Add ex pos) (tSS cls X.K e Wx (sExt i f)) := ps_imp (ps_aug hN hi hx he iop_ext hf) fun D σ H ⟨c, δ, eH, r, q⟩ => by
  unfold sExt at q
  split at q
  · rename_i xs hm
    obtain ⟨a0, vs0, e1, _, _, _, _⟩ := r.own hm
    refine ⟨.ref a0, e1, c, δ, eH, r, ?_⟩
    cases z : f δ c.w with
    | bad => rw [z] at q; exact q
    | exc n w => rw [z] at q; exact fun c' hw b => q σ c' hw b.ff (r.step ke b)
    | ok x w' =>
      rw [z] at q
      dsimp only at q
      intro v c' hw b q'
      cases z2 : lstOf x with
      | none => rw [z2] at q; exact q.elim
      | some ys =>
        rw [z2] at q
        dsimp only at q
        by_cases z3 : xs.length + ys.length ≤ lim
        · rw [if_pos z3] at q
          obtain ⟨p, us, rfl, g1, g2⟩ := lstOf_eq z2 q'
          have r' := r.step ke b
          obtain ⟨a1, vs1, e1', g3, g4, g5, k⟩ := r'.own hm
          have ea : a1 = a0 := by rw [e1] at e1'; cases e1'; rfl
          subst ea
          refine ⟨a1, p, vs1, us, rfl, rfl, g3, r'.ok.fh _ _ g1, by rw [g4.len, g2.len, ← lim_eq]; exact z3, ?_⟩
          have r2 := k (xs ++ ys) (vs1 ++ us) (g4.append g2)
          have es : σ.set i (some (.ref a1)) = σ := by
            refine List.ext_getElem? fun j => ?_
            by_cases ej : j = i
            · subst ej
              rw [List.getElem?_set_self (by have := (List.getElem?_eq_some_iff.mp e1').1; exact this)]; exact e1'.symm
            · rw [List.getElem?_set_ne (Ne.symm ej)]
          show D.nx (σ.set i (some (.ref a1))) _
          rw [es]
          exact q σ { c' with H := upd c'.H a1 (.lst (vs1 ++ us)) } hw b.ff r2
        · rw [if_neg z3] at q; exact q.elim
  · exact q.elim
end
end Z

set_option Elab.async false
set_option linter.all false
set_option maxRecDepth 100000
/-! # Z8: stores into lists of one's own, blocks, loops -/
namespace Z
open PySem PySem.Spec PyProof.Rows L2
section
variable {X : Cx} {W : Type} {wd : WD W} {cls : Nat → Addr} {e : Cur wd} {Wx : WX} {tg ex a b d o : Expr} {pos pos' : Pos} {f h k : XF W} {fl : XL W} {es : List Expr} {g gs : XS W} {t : XB W} {st : Stmt} {sts sts' : List Stmt} {sf sg : SF W}
/-- the name of an own list -/
theorem var_own {K : PySem.W.Frag} {i : Nat} {xs : List PyData} {c : Cur wd} {δ : Ev} {σ : L2.St} {Q : VK} (r : Rz cls K e c δ σ) (hm : δ[i]? = some (.own xs)) (q : ∀ p vs, σ[i]? = some (some (.ref p)) → c.H p = some (.lst vs) → DqL c.F xs vs → Q (.ref p) c.H) : tVar i σ c.H Q := by
  obtain ⟨p, vs, e1, g1, g2, _⟩ := r.own hm
  exact ⟨.ref p, e1, q p vs e1 g1 g2⟩
/-! xs.append(e) -/
def sApp (i : Nat) (f : XF W) : SF W := fun δ w => match δ[i]? with
  | some (.own xs) => match f δ w with
    | .ok x w' => match asP x with
      | some p => if xs.length < lim then .nx (δ.set i (.own (xs ++ [p]))) w' else .bad
      | none => .bad
    | .exc n w' => .exc n δ w'
    | .bad => .bad
  | _ => .bad
theorem ss_app {i : Nat} {to : TE} {apos cpos : Pos} (ke : Ok e) (ho : PE X o (tVar i)) (ha : PE X a (tS cls X.K e Wx f))
    (hbase : attributeBase o "append" X.env (eval o X.env) = eval o X.env := by rfl)
    (hfew : ((backTo cpos (starEach (a :: []) X.env)).all (fun x => !x.1) && (backToKw cpos (keywordEach [] X.env)).all (fun x => x.1.isSome)
      && decide ((a :: []).length + ([] : List Keyword).length + (if ([] : List Keyword).isEmpty then 0 else 1) < 30)) = true := by rfl)
    (hline : (apos.endLine == cpos.line) = true := by rfl) (hs : starEach (a :: []) X.env = (false, eval a X.env) :: starEach [] X.env := by rfl) (hplain : (backTo cpos (starEach [] X.env)).any (·.1) = false := by rfl)
    (hsw : swapsWith (.Call (.Attribute o "append" apos) (a :: []) [] cpos) none pos.line X.env = pure false := by rfl) :
    PS X (.Expr (.Call (.Attribute o "append" apos) (a :: []) [] cpos) pos) (tSS cls X.K e Wx (sApp i f)) :=
  ps_imp (ps_expr (pe_bm PySem.F.plainAttrs_list PySem.F.slot_list_append PySem.F.type_list_append mt_append ho (pa_cons ha pa_nil hs) hbase hfew hline hs hplain) hsw) fun D σ H ⟨c, δ, eH, r, q⟩ => by
    rw [← eH]
    unfold sApp at q
    split at q
    · rename_i xs0 hm
      unfold tDrop tBM
      refine var_own r hm fun p vs e1 g1 g2 => ⟨.inl ⟨rfl, vs, SqL.of g1⟩, ?_⟩
      refine ⟨c, δ, rfl, r, ?_⟩
      cases z : f δ c.w with
      | bad => rw [z] at q; exact q
      | exc n w => rw [z] at q; exact fun c' hw b => q σ c' hw b.ff (r.step ke b)
      | ok x w' =>
        rw [z] at q
        dsimp only at q
        intro u c' hw b q'
        cases z2 : asP x with
        | none => rw [z2] at q; exact q.elim
        | some d =>
          rw [z2] at q
          dsimp only at q
          by_cases z3 : xs0.length < lim
          · rw [if_pos z3] at q
            have r' := r.step ke b
            obtain ⟨a1, vs1, e1', g3, g4, g5, kk⟩ := r'.own hm
            have ea : a1 = p := by rw [e1] at e1'; cases e1'; rfl
            subst ea
            exact ⟨a1, vs1, u, rfl, rfl, g3, by rw [g4.len, ← lim_eq]; exact z3, q σ { c' with H := upd c'.H a1 (.lst (vs1 ++ [u])) } hw b.ff (kk (xs0 ++ [d]) (vs1 ++ [u]) (g4.append (.cons (asP_dq z2 q') .nil)))⟩
          · rw [if_neg z3] at q; exact q.elim
    · exact q.elim
/-! xs[k] = e -/
def sSetI (i : Nat) (k f : XF W) : SF W := fun δ w => match δ[i]? with
  | some (.own xs) => match f δ w with
    | .ok x w1 => match k δ w1 with
      | .ok y w2 => match asP x, (asI y).bind (ixN xs.length) with
        | some p, some j => .nx (δ.set i (.own (xs.set j p))) w2
        | _, _ => .bad
      | .exc n w' => .exc n δ w'
      | .bad => .bad
    | .exc n w' => .exc n δ w'
    | .bad => .bad
  | _ => .bad
theorem ss_setI {i : Nat} {spos : Pos} (ke : Ok e) (ho : PE X o (tVar i)) (hk : PE X b (tS cls X.K e Wx k)) (hv : PE X ex (tS cls X.K e Wx f))
    (ha : ∀ v, assign (.Subscript o b spos) X.env v = (do
      let ov ← holding [v] (eval o X.env)
      let iv ← holding [v, ov] (eval b X.env)
      standAt spos
      holding [v, ov, iv] (setItem ov iv v)
      release [v, ov, iv] []) := by intro _; rfl)
    (hs : swapsWithSole [.Subscript o b spos] ex pos.line X.env = pure false := by rfl) (hw : swappedStores [.Subscript o b spos] ex X.env = pure none := by rfl)
    (h1 : (assignEach [.Subscript o b spos] X.env).map (·.2) = [assign (.Subscript o b spos) X.env] := by rfl) :
    PS X (.Assign [.Subscript o b spos] ex pos) (tSS cls X.K e Wx (sSetI i k f)) :=
  ps_imp (ps_asg hv (pg_sub ho hk set_list ha) hs hw h1) fun D σ H ⟨c, δ, eH, r, q⟩ => by
    refine ⟨c, δ, eH, r, ?_⟩
    unfold sSetI at q
    split at q
    · rename_i xs hm
      cases z : f δ c.w with
      | bad => rw [z] at q; exact q
      | exc n w => rw [z] at q; exact fun c' hw b => q σ c' hw b.ff (r.step ke b)
      | ok x w1 =>
        rw [z] at q
        dsimp only at q
        intro u c1 hw1 b1 q1
        have r1 := r.step ke b1
        refine var_own r1 hm fun p vs e1 g1 g2 => ⟨c1, δ, rfl, r1, ?_⟩
        rw [hw1]
        cases z2 : k δ w1 with
        | bad => rw [z2] at q; exact q
        | exc n w => rw [z2] at q; exact fun c' hw b => q σ c' hw (b1.ff.trans b.ff) (r1.step ke b)
        | ok y w2 =>
          rw [z2] at q
          dsimp only at q
          intro v c2 hw2 b2 q2
          split at q
          · rename_i p' j hp hj
            cases hy : asI y with
            | none => rw [hy] at hj; cases hj
            | some m =>
              rw [hy] at hj
              have r2 := r1.step ke b2
              obtain ⟨a1, vs1, e1', g3, g4, g5, kk⟩ := r2.own hm
              have ea : a1 = p := by rw [e1] at e1'; cases e1'; rfl
              subst ea
              refine ⟨a1, vs1, m, j, rfl, asI_eq hy q2, g3, by rw [g4.len]; exact hj, ?_⟩
              exact q σ { c2 with H := upd c2.H a1 (.lst (vs1.set j u)) } hw2 (b1.ff.trans b2.ff) (kk _ _ (g4.set (asP_dq hp (q1.mono b2)) j))
          · exact q.elim
    · exact q.elim
/-! xs[k][m] = e, xs a list of lists -/
def sSetII (i : Nat) (k h f : XF W) : SF W := fun δ w => match δ[i]? with
  | some (.own2 xss) => match f δ w with
    | .ok x w1 => match k δ w1 with
      | .ok y w2 => match (asI y).bind (ixN xss.length) with
        | some j => match h δ w2 with
          | .ok z w3 => match asP x, (asI z).bind (ixN (xss.getD j []).length) with
            | some p, some l => .nx (δ.set i (.own2 (xss.set j ((xss.getD j []).set l p)))) w3
            | _, _ => .bad
          | .exc n w' => .exc n δ w'
          | .bad => .bad
        | none => .bad
      | .exc n w' => .exc n δ w'
      | .bad => .bad
    | .exc n w' => .exc n δ w'
    | .bad => .bad
  | _ => .bad
theorem ixN_lt {n : Nat} {m : Int} {j : Nat} (h : ixN n m = some j) : j < n := (ixN_seq h).2.1
theorem ss_setII {i : Nat} {spos : Pos} {p2 : Pos} (ke : Ok e) (ho : PE X o (tVar i)) (hk : PE X b (tS cls X.K e Wx k)) (hh : PE X d (tS cls X.K e Wx h)) (hv : PE X ex (tS cls X.K e Wx f)) (hpl : PlainIx b := by exact fun _ _ => rfl)
    (ha : ∀ v, assign (.Subscript (.Subscript o b p2) d spos) X.env v = (do
      let ov ← holding [v] (eval (.Subscript o b p2) X.env)
      let iv ← holding [v, ov] (eval d X.env)
      standAt spos
      holding [v, ov, iv] (setItem ov iv v)
      release [v, ov, iv] []) := by intro _; rfl)
    (hs : swapsWithSole [.Subscript (.Subscript o b p2) d spos] ex pos.line X.env = pure false := by rfl) (hw : swappedStores [.Subscript (.Subscript o b p2) d spos] ex X.env = pure none := by rfl)
    (h1 : (assignEach [.Subscript (.Subscript o b p2) d spos] X.env).map (·.2) = [assign (.Subscript (.Subscript o b p2) d spos) X.env] := by rfl) :
    PS X (.Assign [.Subscript (.Subscript o b p2) d spos] ex pos) (tSS cls X.K e Wx (sSetII i k h f)) :=
  ps_imp (ps_asg hv (pg_sub (pe_ix ix_list ho hk hpl) hh set_list ha) hs hw h1) fun D σ H ⟨c, δ, eH, r, q⟩ => by
    refine ⟨c, δ, eH, r, ?_⟩
    unfold sSetII at q
    split at q
    · rename_i xss hm
      cases z : f δ c.w with
      | bad => rw [z] at q; exact q
      | exc n w => rw [z] at q; exact fun c' hw b => q σ c' hw b.ff (r.step ke b)
      | ok x w1 =>
        rw [z] at q
        dsimp only at q
        intro u c1 hw1 b1 q1
        have r1 := r.step ke b1
        obtain ⟨p, as, e1, g1, g2, g3, _⟩ := r1.own2 hm
        refine ⟨.ref p, e1, c1, δ, rfl, r1, ?_⟩
        rw [hw1]
        cases z2 : k δ w1 with
        | bad => rw [z2] at q; exact q
        | exc n w => rw [z2] at q; exact fun c' hw b => q σ c' hw (b1.ff.trans b.ff) (r1.step ke b)
        | ok y w2 =>
          rw [z2] at q
          dsimp only at q
          intro v c2 hw2 b2 q2
          have r2 := r1.step ke b2
          cases hy : asI y with
          | none => rw [hy] at q; exact q.elim
          | some m =>
            rw [hy] at q
            dsimp only [Option.bind] at q
            cases hj : ixN xss.length m with
            | none => rw [hj] at q; exact q.elim
            | some j =>
              rw [hj] at q
              dsimp only at q
              obtain ⟨p', as', e1', g1', g2', g3', kk⟩ := r2.own2 hm
              have ep : p' = p := by rw [e1] at e1'; cases e1'; rfl
              subst ep
              have hjl : j < as'.length := by rw [g3'.1]; exact ixN_lt hj
              have hb : as'[j]? = some as'[j] := List.getElem?_eq_getElem hjl
              have hat : atI (as'.map V.ref) m = some (.ref as'[j]) := by
                unfold atI
                rw [List.length_map, g3'.1, hj]
                simp [hjl]
              refine ⟨p', _, m, _, rfl, asI_eq hy q2, SqL.of g1', hat, c2, δ, rfl, r2, ?_⟩
              rw [hw2]
              cases z3 : h δ w2 with
              | bad => rw [z3] at q; exact q
              | exc n w => rw [z3] at q; exact fun c' hw b => q σ c' hw ((b1.ff.trans b2.ff).trans b.ff) (r2.step ke b)
              | ok zz w3 =>
                rw [z3] at q
                dsimp only at q
                intro v3 c3 hw3 b3 q3
                split at q
                · rename_i pp l hp hl
                  cases hz : asI zz with
                  | none => rw [hz] at hl; cases hl
                  | some mm =>
                    rw [hz] at hl
                    have r3 := r2.step ke b3
                    obtain ⟨p3, as3, e3, g31, g32, g33, kk3⟩ := r3.own2 hm
                    have ep3 : p3 = p' := by rw [e1'] at e3; cases e3; rfl
                    subst ep3
                    have eas : as3 = as' := by
                      have hx := b3.hh p3 _ (fun zfp => ?_) g1'
                      · rw [g31] at hx
                        exact (List.map_inj_right (fun x y h => V.ref.inj h)).mp (HO.lst.inj (Option.some.inj hx))
                      · obtain ⟨oo, w1', _, _, _, w5⟩ := r2.ex
                        obtain ⟨a9, as9, q91, q92, _⟩ := w1' i _ hm
                        have : a9 = p3 := by rw [e1'] at q92; cases q92; rfl
                        subst this
                        exact (w5 i a9 (by rw [q91]; exact List.mem_cons_self)).1.2.1 zfp
                    subst eas
                    have hxs : xss[j]? = some (xss.getD j []) := by
                      have := ixN_lt hj
                      rw [List.getD_eq_getElem?_getD, List.getElem?_eq_getElem this]; rfl
                    obtain ⟨us, k1, k2⟩ := g33.2 j _ _ hb hxs
                    refine ⟨as3[j], us, mm, l, rfl, asI_eq hz q3, k1, by rw [k2.len]; exact hl, ?_⟩
                    exact q σ { c3 with H := upd c3.H as3[j] (.lst (us.set l u)) } hw3 ((b1.ff.trans b2.ff).trans b3.ff) ((kk3 j _ hb).2 _ _ (k2.set (asP_dq hp ((q1.mono b2).mono b3)) l))
                · exact q.elim
    · exact q.elim

/-! ## blocks -/
def sNil : SF W := fun δ w => .nx δ w
def sSeq (sf sg : SF W) : SF W := fun δ w => match sf δ w with
  | .nx δ' w' => sg δ' w'
  | r => r
theorem ss_nil : PSs X [] (tSS cls X.K e Wx (sNil (W := W))) := pss_imp pss_nil fun D σ H ⟨c, δ, eH, r, q⟩ => by
  rw [← eH]; exact q σ c rfl (Sub.refl _) r
theorem ss_cons (h1 : PS X st (tSS cls X.K e Wx sf)) (h2 : PSs X sts (tSS cls X.K e Wx sg)) : PSs X (st :: sts) (tSS cls X.K e Wx (sSeq sf sg)) :=
  pss_imp (pss_cons h1 h2) fun D σ H ⟨c, δ, eH, r, q⟩ => by
    refine ⟨c, δ, eH, r, ?_⟩
    unfold sSeq at q
    cases z : sf δ c.w with
    | nx δ' w' =>
      rw [z] at q
      intro σ' c' hw s r'
      refine ⟨c', δ', rfl, r', ?_⟩
      rw [hw]
      exact afterS_later s q
    | rt d w' => rw [z] at q; exact q
    | bk δ' w' => rw [z] at q; exact q
    | ct δ' w' => rw [z] at q; exact q
    | exc n δ' w' => rw [z] at q; exact q
    | bad => rw [z] at q; exact q
theorem ss_one (h1 : PS X st (tSS cls X.K e Wx sf)) : PSs X [st] (tSS cls X.K e Wx sf) := pss_one h1
/-- a list of one's own is frozen, then the rest -/
def sFrz (i : Nat) (sf : SF W) : SF W := fun δ w => match δ[i]? with
  | some (.own xs) => sf (δ.set i (.v (.p (.list xs)))) w
  | some (.own2 xss) => sf (δ.set i (.v (.p (.list (xss.map .list))))) w
  | _ => .bad
theorem frz_imp {i : Nat} {K : PySem.W.Frag} {D : Ends} {σ : L2.St} {H : Hp} (q : tSS cls K e Wx (sFrz i sf) D σ H) : tSS cls K e Wx sf D σ H := by
  obtain ⟨c, δ, eH, r, q⟩ := q
  unfold sFrz at q
  split at q
  · rename_i xs hm
    obtain ⟨c', e1, e2, s, _, r'⟩ := r.frz hm
    refine ⟨c', _, e1.trans eH, r', ?_⟩
    rw [e2]
    exact afterS_later s q
  · rename_i xs hm
    obtain ⟨c', e1, e2, s, _, r'⟩ := r.frz2 hm
    refine ⟨c', _, e1.trans eH, r', ?_⟩
    rw [e2]
    exact afterS_later s q
  · exact q.elim
theorem ss_frz {i : Nat} (h : PSs X sts (tSS cls X.K e Wx sf)) : PSs X sts (tSS cls X.K e Wx (sFrz i sf)) := pss_imp h fun D σ H q => frz_imp q
theorem ss_frz1 {i : Nat} (h : PS X st (tSS cls X.K e Wx sf)) : PS X st (tSS cls X.K e Wx (sFrz i sf)) := ps_imp h fun D σ H q => frz_imp q
def sDrop (f : XF W) : SF W := fun δ w => match f δ w with
  | .ok _ w' => .nx δ w'
  | .exc n w' => .exc n δ w'
  | .bad => .bad
theorem ss_expr (ke : Ok e) (he : PE X ex (tS cls X.K e Wx f)) (hs : swapsWith ex none pos.line X.env = pure false := by rfl) : PS X (.Expr ex pos) (tSS cls X.K e Wx (sDrop f)) :=
  ps_imp (ps_expr he hs) fun D σ H ⟨c, δ, eH, r, q⟩ => by
    refine ⟨c, δ, eH, r, ?_⟩
    unfold sDrop at q
    cases z : f δ c.w with
    | bad => rw [z] at q; exact q
    | exc n w => rw [z] at q; exact fun c' hw b => q σ c' hw b.ff (r.step ke b)
    | ok x w1 => rw [z] at q; exact fun u c' hw b _ => q σ c' hw b.ff (r.step ke b)
def sRet (f : XF W) : SF W := fun δ w => match f δ w with
  | .ok d w' => .rt d w'
  | .exc n w' => .exc n δ w'
  | .bad => .bad
theorem ss_ret (ke : Ok e) (he : PE X ex (tS cls X.K e Wx f)) : PS X (.Return (some ex) pos) (tSS cls X.K e Wx (sRet f)) :=
  ps_imp (ps_ret he) fun D σ H ⟨c, δ, eH, r, q⟩ => by
    refine ⟨c, δ, eH, r, ?_⟩
    unfold sRet at q
    cases z : f δ c.w with
    | bad => rw [z] at q; exact q
    | exc n w => rw [z] at q; exact fun c' hw b => q σ c' hw b.ff (r.step ke b)
    | ok x w1 => rw [z] at q; exact fun u c' hw b q' => q u c' hw (r.bs.trans ke b) q'
def sIf (t : XB W) (sf sg : SF W) : SF W := fun δ w => match t δ w with
  | .ok true w' => sf δ w'
  | .ok false w' => sg δ w'
  | .exc n w' => .exc n δ w'
  | .bad => .bad
theorem ss_if (ke : Ok e) (hc : PT X ex (tSB cls X.K e Wx t)) (ha : PSs X sts (tSS cls X.K e Wx sf)) (hb : PSs X sts' (tSS cls X.K e Wx sg)) : PS X (.If ex sts sts' pos) (tSS cls X.K e Wx (sIf t sf sg)) :=
  ps_imp (ps_if hc ha hb) fun D σ H ⟨c, δ, eH, r, q⟩ => by
    refine ⟨c, δ, eH, r, ?_⟩
    unfold sIf at q
    cases z : t δ c.w with
    | bad => rw [z] at q; exact q
    | exc n w => rw [z] at q; exact fun c' hw b => q σ c' hw b.ff (r.step ke b)
    | ok x w1 =>
      rw [z] at q
      intro c' hw b
      have r' := r.step ke b
      cases x with
      | true =>
        rw [if_pos rfl]
        refine ⟨c', δ, rfl, r', ?_⟩
        rw [hw]; exact afterS_later b.ff q
      | false =>
        rw [if_neg Bool.false_ne_true]
        refine ⟨c', δ, rfl, r', ?_⟩
        rw [hw]; exact afterS_later b.ff q
def sBrk : SF W := fun δ w => .bk δ w
def sCnt : SF W := fun δ w => .ct δ w
theorem ss_brk : PS X (.Break pos) (tSS cls X.K e Wx (sBrk (W := W))) := ps_imp ps_break fun D σ H ⟨c, δ, eH, r, q⟩ => by
  rw [← eH]; exact q σ c rfl (Sub.refl _) r
theorem ss_cnt : PS X (.Continue pos) (tSS cls X.K e Wx (sCnt (W := W))) := ps_imp ps_continue fun D σ H ⟨c, δ, eH, r, q⟩ => by
  rw [← eH]; exact q σ c rfl (Sub.refl _) r
theorem ss_pass : PS X (.Pass pos) (tSS cls X.K e Wx (sNil (W := W))) := ps_imp ps_pass fun D σ H ⟨c, δ, eH, r, q⟩ => by
  rw [← eH]; exact q σ c rfl (Sub.refl _) r

/-! ## for -/
def forGo (tz : TZ) (body : SF W) : List PyData → Ev → W → SRes W
  | [], δ, w => .nx δ w
  | x :: l, δ, w => match tz x δ with
    | none => .bad
    | some δ1 => match body δ1 w with
      | .nx δ2 w2 => forGo tz body l δ2 w2
      | .ct δ2 w2 => forGo tz body l δ2 w2
      | .bk δ2 w2 => .nx δ2 w2
      | r => r
def sFor (it : XI W) (tz : TZ) (body : SF W) : SF W := fun δ w => match it δ w with
  | .ok items w1 => forGo tz body items δ w1
  | .exc n w' => .exc n δ w'
  | .bad => .bad
theorem ss_for {iter : Expr} {it : XI W} {gg : TG} {tz : TZ} {vs : List Nat} (ke : Ok e) (hp : PassesOwn (model X.prog X.w) X.A X.env X.xe) (hc : X.calm = true) (hi : PI X tg iter (tSI cls X.K e Wx keepF it)) (hg : PG X tg gg) (h3 : T3 cls X.K e gg tz vs) (hb : PSs X sts (tSS cls X.K e Wx sf))
    (hs : ∀ x, foldedSetIterable iter X.env x = pure x := by intro _; rfl) : PS X (.For tg iter sts [] pos) (tSS cls X.K e Wx (sFor it tz sf)) :=
  ps_imp (ps_for hp hc hi hg hb hs) fun D σ H ⟨c, δ, eH, r, q⟩ => by
    refine ⟨c, δ, eH, r, ?_⟩
    unfold sFor at q
    cases z : it δ c.w with
    | bad => rw [z] at q; exact q
    | exc n w => rw [z] at q; exact fun c' hw b => q σ c' hw b.ff (r.step ke b)
    | ok items w1 =>
      rw [z] at q
      intro J c1 hw1 b1 ⟨j1, j2, j3⟩
      have r1 := r.step ke b1
      -- between two turns
      let In : List PyData → L2.St → Hp → Prop := fun rest σ H => ∃ c2 δ2, c2.H = H ∧ Rz cls X.K e c2 δ2 σ ∧ Sub c1.F c2.F ∧ afterS cls X.K e c2 Wx (forGo tz sf rest δ2 c2.w) D
      refine ⟨fun i m σ H => m = items.length - i ∧ i ≤ items.length ∧ In (items.drop i) σ H, ⟨items.length, by simp, Nat.zero_le _, c1, δ, rfl, r1, Sub.refl _, ?_⟩, ?_⟩
      · rw [hw1]; exact afterS_later b1.ff q
      · rintro i m σ2 H2 ⟨rfl, hi, c2, δ2, rfl, r2, s2, q2⟩
        by_cases hlt : i < items.length
        · refine .inr ⟨j1 i c2 ⟨r2.ok, s2⟩ hlt, In (items.drop (i + 1)), fun σ' H' k => ⟨items.length - (i + 1), by omega, rfl, hlt, k⟩, fun x H' hy => ?_⟩
          obtain ⟨c3, rfl, hw3, b3, q3⟩ := j3 i c2 x H' _ ⟨r2.ok, s2⟩ hy (List.getElem?_eq_getElem hlt)
          have r3 := r2.step ke b3
          rw [List.drop_eq_getElem_cons hlt] at q2
          unfold forGo at q2
          cases z2 : tz items[i] δ2 with
          | none => rw [z2] at q2; exact q2.elim
          | some δ3 =>
            rw [z2] at q2
            dsimp only at q2
            refine h3.1 c3 δ2 δ3 σ2 _ x _ r3 q3 z2 fun σ3 r4 => ⟨c3, δ3, rfl, r4, ?_⟩
            rw [hw3]
            have q2 := afterS_later b3.ff q2
            cases z3 : sf δ3 c2.w with
            | nx δ4 w4 =>
              rw [z3] at q2
              exact fun σ' c' hw s r' => ⟨c', δ4, rfl, r', (s2.trans b3.ff).trans s, by rw [hw]; exact afterS_later s q2⟩
            | ct δ4 w4 =>
              rw [z3] at q2
              exact fun σ' c' hw s r' => ⟨c', δ4, rfl, r', (s2.trans b3.ff).trans s, by rw [hw]; exact afterS_later s q2⟩
            | bk δ4 w4 => rw [z3] at q2; exact q2
            | rt d w' => rw [z3] at q2; exact q2
            | exc n δ' w' => rw [z3] at q2; exact q2
            | bad => rw [z3] at q2; exact q2
        · have e1 : i = items.length := by omega
          subst e1
          rw [List.drop_length] at q2
          exact .inl ⟨j2 _ c2 ⟨r2.ok, s2⟩ (Nat.le_refl _), q2 σ2 c2 rfl (Sub.refl _) r2⟩

/-! ## while, by fuel -/
def whileGo (t : XB W) (body : SF W) : Nat → Ev → W → SRes W
  | 0, _, _ => .bad
  | n + 1, δ, w => match t δ w with
    | .ok true w1 => match body δ w1 with
      | .nx δ2 w2 => whileGo t body n δ2 w2
      | .ct δ2 w2 => whileGo t body n δ2 w2
      | .bk δ2 w2 => .nx δ2 w2
      | r => r
    | .ok false w1 => .nx δ w1
    | .exc m w' => .exc m δ w'
    | .bad => .bad
theorem ss_while {n : Nat} (ke : Ok e) (hp : PassesOwn (model X.prog X.w) X.A X.env X.xe) (hc : PT X ex (tSB cls X.K e Wx t)) (hb : PSs X sts (tSS cls X.K e Wx sf)) : PS X (.While ex sts [] pos) (tSS cls X.K e Wx (whileGo t sf n)) :=
  ps_imp (ps_while hp hc hb) fun D σ H ⟨c, δ, eH, r, q⟩ => by
    refine ⟨fun m σ H => ∃ c δ, c.H = H ∧ Rz cls X.K e c δ σ ∧ afterS cls X.K e c Wx (whileGo t sf m δ c.w) D, ⟨n, c, δ, eH, r, q⟩, ?_⟩
    rintro m σ2 H2 ⟨c2, δ2, rfl, r2, q2⟩
    cases m with
    | zero => exact q2.elim
    | succ m =>
      unfold whileGo at q2
      refine ⟨c2, δ2, rfl, r2, ?_⟩
      cases z : t δ2 c2.w with
      | bad => rw [z] at q2; exact q2
      | exc n w => rw [z] at q2; exact fun c' hw b => q2 σ2 c' hw b.ff (r2.step ke b)
      | ok x w1 =>
        rw [z] at q2
        intro c3 hw3 b3
        have r3 := r2.step ke b3
        cases x with
        | false => rw [if_neg Bool.false_ne_true]; exact q2 σ2 c3 hw3 b3.ff r3
        | true =>
          rw [if_pos rfl]
          dsimp only at q2
          refine ⟨fun σ' H' => ∃ c δ, c.H = H' ∧ Rz cls X.K e c δ σ' ∧ afterS cls X.K e c Wx (whileGo t sf m δ c.w) D, fun σ' H' k => ⟨m, Nat.lt_succ_self m, k⟩, c3, δ2, rfl, r3, ?_⟩
          rw [hw3]
          have q2 := afterS_later b3.ff q2
          cases z3 : sf δ2 w1 with
          | nx δ4 w4 =>
            rw [z3] at q2
            exact fun σ' c' hw s r' => ⟨c', δ4, rfl, r', by rw [hw]; exact afterS_later s q2⟩
          | ct δ4 w4 =>
            rw [z3] at q2
            exact fun σ' c' hw s r' => ⟨c', δ4, rfl, r', by rw [hw]; exact afterS_later s q2⟩
          | bk δ4 w4 => rw [z3] at q2; exact q2
          | rt d w' => rw [z3] at q2; exact q2
          | exc n δ' w' => rw [z3] at q2; exact q2
          | bad => rw [z3] at q2; exact q2
end
end Z

set_option Elab.async false
set_option linter.all false
set_option maxRecDepth 100000
/-! # Z9: defs, calls, raise -/
namespace Z
open PySem PySem.Spec PyProof.Rows L2
abbrev FZ (W : Type) := List D → W → Res W D
section
variable {W : Type} {wd : WD W}
def afterF (cls : Nat → Addr) (K : PySem.W.Frag) (c : Cur wd) (r : Res W D) (Q : VK) (E : XK) : Prop := match r with
  | .ok d w' => ∀ u c', c'.w = w' → Bs c c' → Dv cls K c' d u → Q u c'.H
  | .exc n w' => ∀ c', c'.w = w' → Bs c c' → E (.ref (cls n)) none c'.H
  | .bad => False
/-- a def keeps what the function says -/
def spZ (cls : Nat → Addr) (K : PySem.W.Frag) (wd : WD W) (n : Nat) (f : FZ W) : Sp := fun vs H Q E => ∃ (c : Cur wd) (ds : List D), c.H = H ∧ Ok c ∧ DvL cls K c ds vs ∧ ds.length = n ∧ afterF cls K c (f ds c.w) Q E
theorem DvL.len {cls : Nat → Addr} {K : PySem.W.Frag} {c : Cur wd} : ∀ {ds : List D} {vs : List V}, DvL cls K c ds vs → vs.length = ds.length
  | [], vs, h => by
    have h : vs = [] := h
    rw [h]; rfl
  | d :: ds, vs, ⟨u, us, e1, _, t⟩ => by rw [e1, List.length_cons, List.length_cons, t.len]
theorem DvL.get {cls : Nat → Addr} {K : PySem.W.Frag} {c : Cur wd} : ∀ {ds : List D} {vs : List V} {i : Nat} {d : D}, DvL cls K c ds vs → ds[i]? = some d → ∃ u, vs[i]? = some u ∧ Dv cls K c d u
  | [], _, _, _, _, e => by simp at e
  | d :: ds, vs, 0, x, ⟨u, us, e1, q, _⟩, e => by
    simp at e; subst e; subst e1
    exact ⟨u, rfl, q⟩
  | d :: ds, vs, i + 1, x, ⟨u, us, e1, _, t⟩, e => by
    subst e1
    obtain ⟨v, h1, h2⟩ := DvL.get (i := i) t (by simpa using e)
    exact ⟨v, by simpa using h1, h2⟩
/-- a def's function, by its body's -/
def runZ (n : Nat) (sf : SF W) : FZ W := fun ds w => match sf (ds.map .v ++ List.replicate (n - ds.length) .no) w with
  | .nx _ w' => .ok (.p .none) w'
  | .rt d w' => .ok d w'
  | .exc m _ w' => .exc m w'
  | _ => .bad
theorem rz_start {cls : Nat → Addr} {K : PySem.W.Frag} {c : Cur wd} {N : List Str} {ds : List D} {vs : List V} (k : Ok c) (h : DvL cls K c ds vs) : Rz cls K c c (ds.map Sl.v ++ List.replicate (N.length - ds.length) .no) (L2.start N vs) := by
  have hl := h.len
  refine Rz.of_vals k (by unfold L2.start; simp [hl]) fun i s hs => ?_
  by_cases hi : i < ds.length
  · rw [List.getElem?_append_left (by simpa using hi), List.getElem?_map] at hs
    rw [List.getElem?_eq_getElem hi] at hs
    have hs : Sl.v ds[i] = s := by simpa using hs
    obtain ⟨u, e1, q⟩ := h.get (List.getElem?_eq_getElem hi)
    refine .inr ⟨ds[i], u, hs.symm, ?_, q⟩
    unfold L2.start
    rw [List.getElem?_append_left (by simpa [hl] using hi), List.getElem?_map, e1]; rfl
  · rw [List.getElem?_append_right (by simpa using Nat.le_of_not_lt hi), List.getElem?_replicate] at hs
    split at hs
    · exact .inl (Option.some.inj hs).symm
    · cases hs
end
section
variable {P : Program} {w : World} {K : PySem.W.Frag} {mg : Str → Option Value} {base : Heap} {W : Type} {wd : WD W} {cls : Nat → Addr}
abbrev WxE (E : XK) : WX := fun c d _ H => E c d H
/-- THE RULE for a def -/
theorem okZ {x qual : Str} {st : Stmt} {f : Addr} {fd : FuncData} {N ps : List Str} {k : Nat} {sf : SF W} (F : Fun K x qual st f fd) (S : FnScope N ps (defScope st))
    (hb : ∀ (cdv : Value) (A : Around) (outer : List Env) (s : Shared) (H : Hp) (E : XK) (e : Cur wd), Ok e → Room k (A.deeper (envOfC qual (defScope st) s.heap.objs.size f cdv)) →
      PSs (cxOf (L2.CX P w) P w K mg base N qual (defScope st) f cdv A outer s H E) (defBody st) (tSS cls K e (WxE E) sf)) :
    FnOk P w K mg base (L2.CX P w) (k + 1) f fd ps (spZ cls K wd ps.length (runZ N.length sf)) := by
  refine F.okX S (fun vs H Q E ⟨c, ds, _, _, h, hl, _⟩ => h.len.trans hl) (fun cdv A outer s H vs Q E hr ⟨c, ds, eH, kc, h, hl, q⟩ => ⟨_, hb cdv A outer s H E c kc hr, ?_⟩)
  refine ⟨c, _, eH, rz_start (N := N) kc h, ?_⟩
  unfold runZ at q
  cases z : sf (ds.map Sl.v ++ List.replicate (N.length - ds.length) .no) c.w with
  | nx δ' w' => rw [z] at q; exact fun σ' c' hw s r => q .non c' hw r.bs (dv_non.mpr rfl)
  | rt d w' => rw [z] at q; exact fun u c' hw b q' => q u c' hw b q'
  | bk δ' w' => rw [z] at q; exact q.elim
  | ct δ' w' => rw [z] at q; exact q.elim
  | exc n δ' w' => rw [z] at q; exact fun σ' c' hw s r => q c' hw r.bs
  | bad => rw [z] at q; exact q
end
section
variable {X : Cx} {W : Type} {wd : WD W} {cls : Nat → Addr} {e : Cur wd} {Wx : WX} {a : Expr} {pos p : Pos} {fl : XL W} {es : List Expr} {f : Addr} {fd : FuncData} {ps : List Str} {k n : Nat} {fz : FZ W} {x : Str}
def xCall (fz : FZ W) (fl : XL W) : XF W := fun δ w => (fl δ w).bind fz
theorem callS_imp {K : PySem.W.Frag} {σ : L2.St} {H : Hp} {Q : VK} (ke : Ok e) (hn : ∀ δ w ds w', fl δ w = .ok ds w' → ds.length = n) (q : tS cls K e Wx (xCall fz fl) σ H Q) : tCallS (spZ cls K wd n fz) (WE Wx) (tSL cls K e Wx fl) σ H Q := by
  obtain ⟨c, δ, eH, r, q⟩ := q
  rw [← eH]
  refine ⟨c, δ, rfl, r, ?_⟩
  unfold xCall at q
  cases z : fl δ c.w with
  | bad => rw [z] at q; exact q
  | exc n w => rw [z] at q; exact q
  | ok ds w1 =>
    rw [z] at q
    dsimp only [Res.bind] at q
    intro us c1 hw b1 q1
    refine ⟨c1, ds, rfl, b1.ok, q1, hn _ _ _ _ z, ?_⟩
    rw [hw]
    cases z2 : fz ds w1 with
    | bad => rw [z2] at q; exact q
    | exc m w2 => rw [z2] at q; exact fun c' hw' b' => q c' hw' (b1.trans r.ok b')
    | ok d w2 => rw [z2] at q; exact fun u c' hw' b' q' => q u c' hw' (b1.trans r.ok b') q'
/-- how many values a list of forms gives -/
def LenIs (fl : XL W) (n : Nat) : Prop := ∀ δ w ds w', fl δ w = .ok ds w' → ds.length = n
theorem ln_nil : LenIs (lNil (W := W)) 0 := fun δ w ds w' h => by cases h; rfl
theorem ln_cons {f : XF W} {n : Nat} (h : LenIs fl n) : LenIs (lCons f fl) (n + 1) := fun δ w ds w' z => by
  unfold lCons at z
  cases z1 : f δ w with
  | bad => rw [z1] at z; cases z
  | exc _ _ => rw [z1] at z; cases z
  | ok x w1 =>
    rw [z1] at z
    dsimp only [Res.bind] at z
    cases z2 : fl δ w1 with
    | bad => rw [z2] at z; cases z
    | exc _ _ => rw [z2] at z; cases z
    | ok xs w2 =>
      rw [z2] at z
      cases z
      rw [List.length_cons, h _ _ _ _ z2]
theorem s_call (ke : Ok e) (F : FnOk X.prog X.w X.K X.mg X.base (L2.CX X.prog X.w) k f fd ps (spZ cls X.K wd n fz)) (hr : Room k X.A) (hm : X.mg x = some (.ref f)) (hk : PySem.W.keepIn X.K (.ref f) = true) (hb : Binds X.K fd ps []) (tk : Takes X Wx)
    (ha : PA X (a :: es) (tSL cls X.K e Wx fl)) (hn : LenIs fl n) (hg : Gl X x := by rfl) (hdb : (x == ("__debug__" : Str)) = false := by decide) (he : starEach (a :: es) X.env = (false, eval a X.env) :: starEach es X.env := by rfl)
    (hpl : (backTo pos (starEach es X.env)).any (·.1) = false := by rfl) : PE X (.Call (.Name x p) (a :: es) [] pos) (tS cls X.K e Wx (xCall fz fl)) :=
  pe_imp (pe_callS F hr hg hm hk hb (fun σ => passAt tk σ) ha hdb he hpl) fun σ H Q q => callS_imp ke hn q
/-! a def that knows no world, called in one -/
def noObj : D → Bool
  | .obj _ => false
  | _ => true
def liftZ (fz : FZ Unit) : FZ W := fun ds w => if ds.all noObj = true then match fz ds () with
    | .ok d _ => .ok d w
    | .exc n _ => .exc n w
    | .bad => .bad
  else .bad
def cu (c : Cur wd) : Cur W0 := ⟨(), c.F, (), c.H⟩
theorem cu_ok {c : Cur wd} (k : Ok c) : Ok (cu c) := ⟨k.fh, trivial, fun _ h => h.elim⟩
theorem cu_bs {c : Cur wd} {c' : Cur W0} (k : Ok c) (b : Bs (cu c) c') : Bs c ⟨c.k, c'.F, c.w, c'.H⟩ where
  ok := ⟨b.ok.fh, wd.stab _ _ _ _ _ _ k.wr b.ff fun a ha => by
      obtain ⟨u, hu⟩ := (none_or (c.H a)).resolve_left (k.wf a ha).2
      show c'.H a = c.H a
      rw [hu]; exact b.hh a u (fun z => z) hu, fun a ha => by
      obtain ⟨h1, h2⟩ := k.wf a ha
      refine ⟨?_, fun z => ?_⟩
      · rcases none_or (c'.F a) with q | ⟨v, q⟩
        · exact q
        · rcases b.fn a (by rw [q]; exact fun z => by cases z) with z | z
          · exact absurd h1 z
          · exact absurd z h2
      · obtain ⟨u, hu⟩ := (none_or (c.H a)).resolve_left h2
        have := b.hh a u (fun z => z) hu
        have z : c'.H a = none := z
        rw [z] at this; cases this⟩
  ff := b.ff
  hh := fun a o _ h => b.hh a o (fun z => z) h
  fn := b.fn
  kh := fun _ _ h => h
  kf := fun _ h => .inl h
  kg := fun _ h => h
theorem cu_dv {K : PySem.W.Frag} {c : Cur wd} {d : D} {v : V} (hn : noObj d = true) (h : Dv cls K c d v) : Dv cls K (cu c) d v := by
  cases d with
  | p d => exact h
  | exc n => exact h
  | obj n => cases hn
  | scr ns => exact h
  | opq => trivial
theorem dv_cu {K : PySem.W.Frag} {c : Cur wd} {c' : Cur W0} {d : D} {v : V} (h : Dv cls K c' d v) : Dv cls K (⟨c.k, c'.F, c.w, c'.H⟩ : Cur wd) d v := by
  cases d with
  | p d => exact h
  | exc n => exact h
  | obj n => obtain ⟨_, _, z⟩ := h; cases z
  | scr ns => exact h
  | opq => trivial
theorem cu_dvl {K : PySem.W.Frag} {c : Cur wd} : ∀ {ds : List D} {vs : List V}, ds.all noObj = true → DvL cls K c ds vs → DvL cls K (cu c) ds vs
  | [], _, _, h => h
  | d :: ds, vs, hn, ⟨u, us, e1, q, t⟩ => by
    rw [List.all_cons, Bool.and_eq_true] at hn
    exact ⟨u, us, e1, cu_dv hn.1 q, cu_dvl hn.2 t⟩
/-- its promise, in the world -/
theorem sp_lift {K : PySem.W.Frag} {f0 : FZ Unit} (vs : List V) (H : Hp) (Q : VK) (E : XK) (h : spZ cls K wd n (liftZ f0) vs H Q E) : spZ cls K W0 n f0 vs H Q E := by
  obtain ⟨c, ds, eH, k, q, hl, h⟩ := h
  unfold liftZ at h
  by_cases hn : ds.all noObj = true
  · rw [if_pos hn] at h
    refine ⟨cu c, ds, eH, cu_ok k, cu_dvl hn q, hl, ?_⟩
    show afterF cls K (cu c) (f0 ds ()) Q E
    cases z : f0 ds () with
    | bad => rw [z] at h; exact h
    | exc m w => rw [z] at h; exact fun c' _ b => h ⟨c.k, c'.F, c.w, c'.H⟩ rfl (cu_bs k b)
    | ok d w => rw [z] at h; exact fun u c' _ b q' => h u ⟨c.k, c'.F, c.w, c'.H⟩ rfl (cu_bs k b) (dv_cu q')
  · rw [if_neg hn] at h; exact h.elim
theorem fn_lift {P : Program} {w : World} {K : PySem.W.Frag} {mg : Str → Option Value} {base : Heap} {CX : CXT} {f0 : FZ Unit} (F : FnOk P w K mg base CX k f fd ps (spZ cls K W0 n f0)) : FnOk P w K mg base CX k f fd ps (spZ cls K wd n (liftZ f0)) :=
  F.imp fun vs H Q E h => sp_lift vs H Q E h

/-! ## raise -/
/-- what the top tells of an exception class of its own over ValueError -/
structure ExC (K : PySem.W.Frag) (mg : Str → Option Value) (x : Str) (C : Addr) : Prop where
  gC : mg x = some (.ref C)
  xC : PySem.W.excIn K C [.type "ValueError", .type "Exception", .type "BaseException", .type "object"] "ValueError.__new__" = true
  kC : PySem.W.keepIn K (.ref C) = true
  bC : PySem.W.subIn K (.ref C) (.type "BaseException") = some true
  tC : PySem.W.typeIn K (.ref C) = some (.type "type")
def sRaise (n : Nat) : SF W := fun δ w => .exc n δ w
theorem ss_raise {m : Str} {j n : Nat} {p p2 pos pos' : Pos} (hc : X.calm = true) (tk : Takes X Wx) (T : ExC X.K X.mg x (cls n)) (hg : Gl X x := by rfl) (hdb : (x == ("__debug__" : Str)) = false := by decide) :
    PS X (.Raise (some (.Call (.Name x p) [.Constant (.str m) j p2] [] pos)) none pos') (tSS cls X.K e Wx (sRaise (W := W) n)) :=
  ps_imp (ps_raise hc tk (pmk_own PySem.F.excBase_ValueError T.xC T.gC T.kC (raises_own T.bC T.tC) hg hdb)) fun D σ H ⟨c, δ, eH, r, q⟩ => by
    rw [← eH]
    exact q σ c rfl (Sub.refl _) r
end
end Z

set_option Elab.async false
set_option linter.all false
set_option maxRecDepth 100000
/-! # Z10: what is read of a list of one's own; defs by their names -/
namespace Z
open PySem PySem.Spec PyProof.Rows L2
section
variable {X : Cx} {W : Type} {wd : WD W} {cls : Nat → Addr} {e : Cur wd} {Wx : WX} {tg ex a b d o : Expr} {pos pos' : Pos} {f h k : XF W} {i : Nat}
/-! walked -/
def iOwn (i : Nat) : XI W := fun δ w => match δ[i]? with
  | some (.own xs) => .ok xs w
  | _ => .bad
theorem own_nofp {K : PySem.W.Frag} {c : Cur wd} {δ : Ev} {σ : L2.St} {xs : List PyData} {p : Addr} (r : Rz cls K e c δ σ) (hm : δ[i]? = some (.own xs)) (hp : σ[i]? = some (some (.ref p))) : ¬ wd.fp c.k p := fun z => by
  obtain ⟨oo, w1, _, _, _, w5⟩ := r.ex
  obtain ⟨a9, vs9, q91, q92, _⟩ := w1 i _ hm
  have : a9 = p := by rw [hp] at q92; cases q92; rfl
  subst this
  exact (w5 i a9 (by rw [q91]; exact List.mem_cons_self)).1.2.1 z
theorem si_own (ke : Ok e) (ho : PE X o (tVar i)) : PI X tg o (tSI cls X.K e Wx keepB (iOwn (W := W) i)) := pi_imp (pi_list ho) fun σ H R ⟨c, δ, eH, r, q⟩ => by
  rw [← eH]
  unfold iOwn at q
  split at q
  · rename_i xs hm
    refine var_own r hm fun p vs e1 g1 g2 => ⟨p, rfl, ⟨vs, SqL.of g1⟩, q _ c rfl (Bs.refl r.ok) ?_⟩
    have hfp := own_nofp r hm e1
    refine ⟨fun j c' b hj => ?_, fun j c' b hj => ⟨vs, SqL.of (b.hh _ _ hfp g1), by rw [g2.len]; exact hj⟩, fun j c' x H' dd b hy hd => ?_⟩
    · obtain ⟨v, e2, _⟩ := g2.get (List.getElem?_eq_getElem hj)
      exact ⟨vs, v, SqL.of (b.hh _ _ hfp g1), e2⟩
    · obtain ⟨rfl, hx⟩ := hy
      obtain ⟨v, e2, qv⟩ := g2.get hd
      have e3 := hx vs (SqL.of (b.hh _ _ hfp g1))
      rw [e2] at e3
      cases e3
      exact ⟨c', rfl, rfl, Bs.refl b.ok, Dq.mono b.ff _ _ qv⟩
  · exact q.elim
/-! an item -/
def xIxO (i : Nat) (f : XF W) : XF W := fun δ w => match δ[i]? with
  | some (.own xs) => (f δ w).bind fun y w1 => opt (((asI y).bind (atI xs)).map .p) w1
  | _ => .bad
theorem s_ixO (ke : Ok e) (ho : PE X o (tVar i)) (hb : PE X b (tS cls X.K e Wx f)) (hs : PlainIx b := by exact fun _ _ => rfl) : PE X (.Subscript o b pos) (tS cls X.K e Wx (xIxO i f)) :=
  pe_imp (pe_ix ix_list ho hb hs) fun σ H Q ⟨c, δ, eH, r, q⟩ => by
    rw [← eH]
    unfold xIxO at q
    split at q
    · rename_i xs hm
      show tVar i σ c.H _
      refine var_own r hm fun p vs e1 g1 g2 => tS_imp (after_one (K := X.K) ke r q) fun v H2 ⟨y, c3, e3, b3, r3, q4, q5⟩ => ?_
      replace q5 := after_opt q5
      cases hy : asI y with
      | none => rw [hy] at q5; exact gives_no q5
      | some m =>
        rw [hy] at q5
        dsimp only [Option.bind] at q5
        cases hat : atI xs m with
        | none => rw [hat] at q5; exact gives_no q5
        | some dd =>
          rw [hat] at q5
          obtain ⟨v', k1, k2⟩ := atI_dq g2 hat
          have hfp := own_nofp r hm e1
          rw [← e3]
          exact ⟨p, vs, m, v', rfl, asI_eq hy q4, SqL.of (b3.hh _ _ hfp g1), k1, gives_v q5 r3.ok (Dq.mono b3.ff _ _ k2)⟩
    · exact q.elim
/-! xs[k][m], a list of lists -/
def xIxOO (i : Nat) (k f : XF W) : XF W := fun δ w => match δ[i]? with
  | some (.own2 xss) => (k δ w).bind fun y w1 => match (asI y).bind (atI xss) with
    | some xs => (f δ w1).bind fun z w2 => opt (((asI z).bind (atI xs)).map .p) w2
    | none => .bad
  | _ => .bad
theorem s_ixOO {p2 : Pos} (ke : Ok e) (ho : PE X o (tVar i)) (hb : PE X b (tS cls X.K e Wx k)) (hd : PE X d (tS cls X.K e Wx f)) (hs : PlainIx b := by exact fun _ _ => rfl) (hs2 : PlainIx d := by exact fun _ _ => rfl) :
    PE X (.Subscript (.Subscript o b p2) d pos) (tS cls X.K e Wx (xIxOO i k f)) :=
  pe_imp (pe_ix ix_list (pe_ix ix_list ho hb hs) hd hs2) fun σ H Q ⟨c, δ, eH, r, q⟩ => by
    rw [← eH]
    unfold xIxOO at q
    split at q
    · rename_i xss hm
      obtain ⟨p, as, e1, g1, g2, g3, _⟩ := r.own2 hm
      refine ⟨.ref p, e1, ?_⟩
      refine tS_imp (after_one (K := X.K) ke r q) fun v H2 ⟨y, c3, e3, b3, r3, q4, q5⟩ => ?_
      cases hy : asI y with
      | none => rw [hy] at q5; exact q5.elim
      | some m =>
        rw [hy] at q5
        dsimp only [Option.bind] at q5
        cases hat : atI xss m with
        | none => rw [hat] at q5; exact q5.elim
        | some xs =>
          rw [hat] at q5
          dsimp only at q5
          obtain ⟨p', as', e1', g1', g2', g3', _⟩ := r3.own2 hm
          have ep : p' = p := by rw [e1] at e1'; cases e1'; rfl
          subst ep
          unfold atI at hat
          cases hj : ixN xss.length m with
          | none => rw [hj] at hat; cases hat
          | some j =>
            rw [hj] at hat
            have hat : xss[j]? = some xs := hat
            have hjl : j < as'.length := by rw [g3'.1]; exact ixN_lt hj
            obtain ⟨us, k1, k2⟩ := g3'.2 j as'[j] xs (List.getElem?_eq_getElem hjl) hat
            rw [← e3]
            refine ⟨p', _, m, .ref as'[j], rfl, asI_eq hy q4, SqL.of g1', ?_, ?_⟩
            · unfold atI
              rw [List.length_map, g3'.1, hj]
              simp [hjl]
            · refine tS_imp (after_one (K := X.K) ke r3 q5) fun v2 H4 ⟨z, c5, e5, b5, r5, q6, q7⟩ => ?_
              replace q7 := after_opt q7
              cases hz : asI z with
              | none => rw [hz] at q7; exact gives_no q7
              | some mm =>
                rw [hz] at q7
                dsimp only [Option.bind] at q7
                cases hat2 : atI xs mm with
                | none => rw [hat2] at q7; exact gives_no q7
                | some dd =>
                  rw [hat2] at q7
                  obtain ⟨v', l1, l2⟩ := atI_dq k2 hat2
                  have hfp : ¬ wd.fp c3.k as'[j] := fun zz => by
                    obtain ⟨oo, w1, _, _, _, w5⟩ := r3.ex
                    obtain ⟨a9, as9, q91, q92, q93, _⟩ := w1 i _ hm
                    have e9 : a9 = p' := by rw [e1'] at q92; cases q92; rfl
                    subst e9
                    rw [g1'] at q93
                    have eas : as' = as9 := (List.map_inj_right (fun x y h => V.ref.inj h)).mp (HO.lst.inj (Option.some.inj q93))
                    exact (w5 i as'[j] (by rw [q91, ← eas]; exact List.mem_cons_of_mem _ (List.getElem_mem hjl))).1.2.1 zz
                  rw [← e5]
                  exact ⟨as'[j], us, mm, v', rfl, asI_eq hz q6, SqL.of (b5.hh _ _ hfp k1), l1, gives_v q7 r5.ok (Dq.mono b5.ff _ _ l2)⟩
    · exact q.elim
/-! len(xs) -/
def xLenO (i : Nat) : XF W := fun δ w => match δ[i]? with
  | some (.own xs) => .ok (.p (.int xs.length)) w
  | _ => .bad
theorem s_lenO {p : Pos} (ke : Ok e) (hm : X.mg "len" = none) (ho : PE X o (tVar i)) (hg : Gl X "len" := by rfl)
    (he : starEach (o :: []) X.env = (false, eval o X.env) :: starEach [] X.env := by rfl) (hpl : (backTo pos (starEach [] X.env)).any (·.1) = false := by rfl) : PE X (.Call (.Name "len" p) [o] [] pos) (tS cls X.K e Wx (xLenO (W := W) i)) :=
  pe_imp (pe_callB call_len hg hm PySem.boot_len (pa_cons ho pa_nil he) (by decide) (by decide) he hpl) fun σ H Q ⟨c, δ, eH, r, q⟩ => by
    rw [← eH]
    unfold xLenO at q
    split at q
    · rename_i xs hm
      show tVar i σ c.H _
      refine var_own r hm fun p vs e1 g1 g2 => ⟨_, _, rfl, .inl ⟨vs, SqL.of g1, rfl⟩, ?_⟩
      rw [g2.len]
      exact q _ c rfl (Bs.refl r.ok) (dv_int.mpr rfl)
    · exact q.elim
/-! xs == e, xs != e -/
def xCmpO (i : Nat) (g : D → D → Option D) (f : XF W) : XF W := fun δ w => match δ[i]? with
  | some (.own xs) => (f δ w).bind fun y w1 => opt (g (.p (.list xs)) y) w1
  | _ => .bad
theorem cmpO {op : CmpOp} {g : D → D → Option D} {bb : PyData → PyData → Bool} (ke : Ok e) (hg : ∀ x y, g x y = match x, y with | .p a, .p b => if eqOk a b = true then some (.p (.bool (bb a b))) else none | _, _ => none)
    (rule : ∀ (s : Shared) (u v : Value) (da db : PyData) (as bs : List Addr) (Q : Value → Shared → Prop), Reads s.heap u da as → Reads s.heap v db bs → PyData.canLay0 da = true → PyData.canLay0 db = true → X.A.units + min da.depth db.depth < cLine → Q (.bool (bb da db)) s → wpAny (model X.prog X.w) X.A (compareOp op u v) Q X.xe s)
    (hu : X.A.units + 64 < cLine) (ho : PE X o (tVar i)) (hb : PE X b (tS cls X.K e Wx f)) : PC X op o b (tS cls X.K e Wx (xCmpO i g f)) := ⟨fun pins s σ H Q I ⟨c, δ, eH, r, q⟩ => by
  subst eH
  unfold xCmpO at q
  split at q
  · rename_i xs hm
    have h1 : tVar i σ c.H fun u H' => H' = c.H ∧ ∃ p vs, u = .ref p ∧ σ[i]? = some (some (.ref p)) ∧ c.H p = some (.lst vs) ∧ DqL c.F xs vs := var_own r hm fun p vs e1 g1 g2 => ⟨rfl, p, vs, rfl, e1, g1, g2⟩
    refine thn (ho.run pins s σ c.H _ I h1) fun u s1 ⟨x, H1, I1, r1, e1, p, vs, ex, ep, g1, g2⟩ => ?_
    subst e1 ex
    refine thn (hb.run pins s1 σ c.H _ I1 (after_one (K := X.K) ke r q)) fun v s2 ⟨y, H2, I2, r2, yd, c3, e3, b3, r3, q4, q5⟩ => ?_
    subst e3
    replace q5 := after_opt q5
    rw [hg] at q5
    cases yd with
    | p db =>
      dsimp only at q5
      by_cases z : eqOk (.list xs) db = true
      · rw [if_pos z] at q5
        simp only [eqOk, Bool.and_eq_true, decide_eq_true_eq] at z
        have hfp := own_nofp r hm ep
        have g1' := b3.hh _ _ hfp g1
        obtain ⟨as, k1⟩ := Dp.reads I2 (.list xs) (.ref p) u (.lst (SqL.of g1') (DqL.dp r3.ok.fh _ _ (DqL.mono b3.ff _ _ g2))) r1
        obtain ⟨bs, k2⟩ := Dp.reads I2 db y v (Dq.dp r3.ok.fh db y q4) r2
        exact rule s2 u v _ _ _ _ _ k1 k2 z.1.1 z.1.2 (by omega) ⟨.bl _, c3.H, I2, rfl, gives_v q5 r3.ok (dv_bl.mpr rfl)⟩
      · rw [if_neg z] at q5; exact gives_no q5
    | _ => exact gives_no q5
  · exact q.elim⟩
theorem s_neO (ke : Ok e) (hu : X.A.units + 64 < cLine) (ho : PE X o (tVar i)) (hb : PE X b (tS cls X.K e Wx f)) : PE X (.Compare o [.NotEq] [b] pos) (tS cls X.K e Wx (xCmpO i gNe f)) :=
  pe_cmp (cmpO (g := gNe) (bb := fun a b => !PyData.eqv a b) ke (fun x y => by cases x <;> cases y <;> rfl) (fun s u v da db as bs Q h1 h2 h3 h4 h5 h6 => SeqAt.compareNe_reads h1 h2 h3 h4 h5 h6) hu ho hb)
theorem st_neO (ke : Ok e) (hu : X.A.units + 64 < cLine) (ho : PE X o (tVar i)) (hb : PE X b (tS cls X.K e Wx f)) : PT X (.Compare o [.NotEq] [b] pos) (tSB cls X.K e Wx (xB asB (xCmpO i gNe f))) :=
  pt_imp (pt_cmp (cmpO (g := gNe) (bb := fun a b => !PyData.eqv a b) (f := f) ke (fun x y => by cases x <;> cases y <;> rfl) (fun s u v da db as bs Q h1 h2 h3 h4 h5 h6 => SeqAt.compareNe_reads h1 h2 h3 h4 h5 h6) hu ho hb)) fun σ H Q ⟨c, δ, eH, r, q⟩ => by
    rw [← eH]
    exact tS_imp (after_oneB (K := X.K) ke r q) fun u H1 ⟨x, c2, e2, b2, r2, q2, q3⟩ => by
      obtain ⟨bb, hb, q4⟩ := after_optB (K := X.K) r2.ok q3
      exact ⟨bb, asB_eq hb q2, by rw [← e2]; exact q4⟩
/-! xs = xs[lo:hi], the slice one's own -/
def xSlO (i : Nat) (lo hi : Option (XF W)) : XS W := fun δ w => match δ[i]? with
  | some (.own xs) => (oEv lo δ w).bind fun l w2 => (oEv hi δ w2).bind fun u w3 => .ok (.own (cutP xs l u)) w3
  | _ => .bad
/-! ## a def of the text, by its name -/
end
/-- where the def x stands, its text -/
def Df (K : PySem.W.Frag) (mg : Str → Option Value) (x : Str) (st : Stmt) : Prop := ∃ f fd, mg x = some (.ref f) ∧ Fun K x x st f fd
/-- the def x keeps what fz says -/
def Kp (P : Program) (w : World) (K : PySem.W.Frag) (mg : Str → Option Value) (base : Heap) {W : Type} (cls : Nat → Addr) (wd : WD W) (x : Str) (k n : Nat) (fz : FZ W) : Prop :=
  ∃ f fd ps, mg x = some (.ref f) ∧ PySem.W.keepIn K (.ref f) = true ∧ Binds K fd ps [] ∧ FnOk P w K mg base (L2.CX P w) k f fd ps (spZ cls K wd n fz)
section
variable {P : Program} {w : World} {K : PySem.W.Frag} {mg : Str → Option Value} {base : Heap} {W : Type} {wd : WD W} {cls : Nat → Addr} {x : Str} {k n : Nat}
theorem Kp.lift {f0 : FZ Unit} (h : Kp P w K mg base cls W0 x k n f0) : Kp P w K mg base cls wd x k n (liftZ f0) := by
  obtain ⟨f, fd, ps, h1, h2, h3, h4⟩ := h
  exact ⟨f, fd, ps, h1, h2, h3, fn_lift h4⟩
theorem kpZ {st : Stmt} {N ps : List Str} {sf : SF W} (D : Df K mg x st) (S : FnScope N ps (defScope st))
    (bs : ∀ (kV doc pm : Value) (an : Option Addr) (cdv ct : Value) (us : List Value), us.length = ps.length → bindArgs (PySem.W.fnOf x x (defArgs st) (defBody st) (defScope st) .none kV doc pm an cdv ct) ⟨us, []⟩ = pure (ps.zip us))
    (hb : ∀ (f : Addr) (cdv : Value) (A : Around) (outer : List Env) (s : Shared) (H : Hp) (E : XK) (e : Cur wd), Ok e → Room k (A.deeper (envOfC x (defScope st) s.heap.objs.size f cdv)) →
      PSs (cxOf (L2.CX P w) P w K mg base N x (defScope st) f cdv A outer s H E) (defBody st) (tSS cls K e (WxE E) sf)) : Kp P w K mg base cls wd x (k + 1) ps.length (runZ N.length sf) := by
  obtain ⟨f, fd, h1, F⟩ := D
  exact ⟨f, fd, ps, h1, F.kp, F.binds bs, okZ F S (hb f)⟩
end
section
variable {X : Cx} {W : Type} {wd : WD W} {cls : Nat → Addr} {e : Cur wd} {Wx : WX} {a : Expr} {pos p : Pos} {fl : XL W} {es : List Expr} {k n : Nat} {fz : FZ W} {x : Str}
theorem s_callK (ke : Ok e) (F : Kp X.prog X.w X.K X.mg X.base cls wd x k n fz) (hr : Room k X.A) (tk : Takes X Wx) (ha : PA X (a :: es) (tSL cls X.K e Wx fl)) (hn : LenIs fl n) (hg : Gl X x := by rfl) (hdb : (x == ("__debug__" : Str)) = false := by decide)
    (he : starEach (a :: es) X.env = (false, eval a X.env) :: starEach es X.env := by rfl) (hpl : (backTo pos (starEach es X.env)).any (·.1) = false := by rfl) : PE X (.Call (.Name x p) (a :: es) [] pos) (tS cls X.K e Wx (xCall fz fl)) := by
  obtain ⟨f, fd, ps, h1, h2, h3, h4⟩ := F
  exact s_call ke h4 hr h1 h2 h3 tk ha hn hg hdb he hpl
end
/-- the built-ins that the text calls stand as they are -/
structure Bt (mg : Str → Option Value) : Prop where
  len : mg "len" = none
  range : mg "range" = none
  isi : mg "isinstance" = none
  sum : mg "sum" = none
  tuple : mg "tuple" = none
  list : mg "list" = none
  all : mg "all" = none
  any : mg "any" = none
  enum : mg "enumerate" = none
  zip : mg "zip" = none
  sorted : mg "sorted" = none
  min : mg "min" = none
  max : mg "max" = none
  set : mg "set" = none
  str : mg "str" = none
  int : mg "int" = none
  bool : mg "bool" = none
  verr : mg "ValueError" = none
end Z

set_option Elab.async false
set_option linter.all false
set_option maxRecDepth 100000
/-! # Z11: small things that the printed terms use -/
namespace Z
open PySem PySem.Spec PyProof.Rows L2
theorem bt_len : bootBuiltins "len" = some (.builtin "len") := by decide +kernel
theorem bt_sum : bootBuiltins "sum" = some (.builtin "sum") := by decide +kernel
theorem bt_all : bootBuiltins "all" = some (.builtin "all") := by decide +kernel
theorem bt_any : bootBuiltins "any" = some (.builtin "any") := by decide +kernel
theorem bt_min : bootBuiltins "min" = some (.builtin "min") := by decide +kernel
theorem bt_max : bootBuiltins "max" = some (.builtin "max") := by decide +kernel
theorem bt_sorted : bootBuiltins "sorted" = some (.builtin "sorted") := by decide +kernel
theorem bt_list : bootBuiltins "list" = some (.type "list") := by decide +kernel
theorem bt_tuple : bootBuiltins "tuple" = some (.type "tuple") := by decide +kernel
theorem bt_int : bootBuiltins "int" = some (.type "int") := by decide +kernel
theorem bt_str : bootBuiltins "str" = some (.type "str") := by decide +kernel
theorem bt_bool : bootBuiltins "bool" = some (.type "bool") := by decide +kernel
section
variable {X : Cx} {W : Type} {wd : WD W} {cls : Nat → Addr} {e : Cur wd} {Wx : WX} {tg ex a b d o : Expr} {pos pos' : Pos} {f h k : XF W} {i : Nat}
theorem s_one {op} (h : PE X a (tS cls X.K e Wx f)) : PE X (.BoolOp op [a] pos) (tS cls X.K e Wx f) := pe_one h
/-- a list, a tuple, a text -/
def seqOf : D → Option (List PyData)
  | .p (.list xs) => some xs
  | .p (.tuple xs) => some xs
  | .p (.str x) => some (sgnL x)
  | _ => none
theorem si_seq (ke : Ok e) (ha : PE X a (tS cls X.K e Wx f)) : PI X tg a (tSI cls X.K e Wx keepF (iOf seqOf f)) := ⟨fun pins s σ H R I ⟨c, δ, eH, r, q⟩ => by
  have key : ∀ g : D → Option (List PyData), (∀ x w', f δ c.w = .ok x w' → g x = seqOf x) → tSI cls X.K e Wx keepF (iOf g f) σ H R := fun g hg => by
    refine ⟨c, δ, eH, r, ?_⟩
    unfold iOf at q ⊢
    cases z : f δ c.w with
    | bad => rw [z] at q; exact q
    | exc n w' => rw [z] at q; exact q
    | ok x w' =>
      rw [z] at q
      dsimp only [Res.bind] at q ⊢
      rw [hg x w' z]; exact q
  cases z : f δ c.w with
  | bad => exact (si_list ke ha).run pins s σ H R I (key lstOf fun x w' h => by rw [z] at h; cases h)
  | exc n w' => exact (si_list ke ha).run pins s σ H R I (key lstOf fun x w' h => by rw [z] at h; cases h)
  | ok x w' =>
    by_cases h1 : ∃ xs, x = .p (.tuple xs)
    · obtain ⟨xs, rfl⟩ := h1
      exact (si_tup ke ha).run pins s σ H R I (key tupOf fun x w' h => by rw [z] at h; cases h; rfl)
    · by_cases h2 : ∃ xs, x = .p (.str xs)
      · obtain ⟨xs, rfl⟩ := h2
        exact (si_str ke ha).run pins s σ H R I (key sgOf fun x w' h => by rw [z] at h; cases h; rfl)
      · refine (si_list ke ha).run pins s σ H R I (key lstOf fun y w' h => ?_)
        rw [z] at h
        cases h
        cases x with
        | p d =>
          cases d with
          | tuple xs => exact absurd ⟨xs, rfl⟩ h1
          | str xs => exact absurd ⟨xs, rfl⟩ h2
          | _ => rfl
        | _ => rfl⟩
end
end Z

set_option Elab.async false
set_option linter.all false
set_option maxRecDepth 100000
/-! # Z12: the draws, a world -/
namespace Z
open PySem PySem.Spec PyProof.Rows L2
/-- the world's thing at p is changed -/
theorem Rz.wset {W : Type} {wd : WD W} {cls : Nat → Addr} {K : PySem.W.Frag} {e c : Cur wd} {δ : Ev} {σ : L2.St} {p : Addr} {ob : HO} {w' : W} (r : Rz cls K e c δ σ) (hf : wd.fp c.k p) (hr : wd.rel c.k w' c.F (upd c.H p ob)) : Rz cls K e { c with w := w', H := upd c.H p ob } δ σ := by
  obtain ⟨o, h1, h2, h3, h4, h5⟩ := r.ex
  have hF := (r.ok.wf p hf)
  have off : ∀ j x, x ∈ o j → x ≠ p := fun j x hx z => (h5 j x hx).1.2.1 (z ▸ hf)
  have eold : ¬ wd.fp e.k p → e.H p = none := fun z => (r.bs.kf p hf).resolve_left z
  refine ⟨⟨⟨fun x u q => ?_, hr, fun x hx => ⟨(r.ok.wf x hx).1, ?_⟩⟩, r.bs.ff, fun x u n q => ?_, r.bs.fn, r.bs.kh, r.bs.kf, r.bs.kg⟩, r.len, o, fun j t ht => ?_, h2, h3, h4, fun j x hx => ?_⟩
  · show upd c.H p ob x = some u
    rw [upd_ne (ne_of_none q hF.1)]; exact r.ok.fh _ _ q
  · show upd c.H p ob x ≠ none
    by_cases z : x = p
    · rw [z, upd_same]; exact fun z => by cases z
    · rw [upd_ne z]; exact (r.ok.wf x hx).2
  · show upd c.H p ob x = some u
    have : x ≠ p := fun z => by
      subst z
      rw [eold n] at q; cases q
    rw [upd_ne this]; exact r.bs.hh _ _ n q
  · have q := h1 j t ht
    have eq : ∀ x ∈ o j, upd c.H p ob x = c.H x := fun x hx => upd_ne (off j x hx)
    cases t with
    | no => exact q
    | v d =>
      obtain ⟨q1, u, q2, q3⟩ := q
      refine ⟨q1, u, q2, ?_⟩
      cases d <;> exact q3
    | own xs =>
      obtain ⟨a, vs, g1, g2, g3, g4⟩ := q
      exact ⟨a, vs, g1, g2, (eq a (by rw [g1]; exact List.mem_cons_self)).trans g3, g4⟩
    | own2 xss =>
      obtain ⟨a, as, g1, g2, g3, g4, g5⟩ := q
      refine ⟨a, as, g1, g2, (eq a (by rw [g1]; exact List.mem_cons_self)).trans g3, g4, fun j' b xs k1 k2 => ?_⟩
      obtain ⟨vs, k3, k4⟩ := g5 j' b xs k1 k2
      exact ⟨vs, (eq b (by rw [g1]; exact List.mem_cons_of_mem _ (List.mem_of_getElem? k1))).trans k3, k4⟩
  · obtain ⟨f1, f2⟩ := h5 j x hx
    refine ⟨f1, ?_⟩
    show upd c.H p ob x ≠ none
    rw [upd_ne (off j x hx)]; exact f2
abbrev Wd := Option (List Int × Int)
def wRel : Option (Addr × Addr) → Wd → Hp → Prop
  | none, none, _ => True
  | some (a, b), some (ns, n), H => H a = some (.lst [.ref b, .int n]) ∧ H b = some (.lst (ns.map V.int))
  | _, _, _ => False
def wFp : Option (Addr × Addr) → Addr → Prop
  | none, _ => False
  | some (a, b), x => x = a ∨ x = b
def wHd : Option (Addr × Addr) → Nat → Option Addr
  | some (a, _), 0 => some a
  | some (_, b), 1 => some b
  | _, _ => none
def WW : WD Wd where
  Key := Option (Addr × Addr)
  rel := fun k w _ H => wRel k w H
  fp := wFp
  hd := wHd
  stab := fun k w _ _ H H' h _ q => by
    cases k with
    | none => cases w with
      | none => trivial
      | some p => exact h.elim
    | some ab =>
      obtain ⟨a, b⟩ := ab
      cases w with
      | none => exact h.elim
      | some p =>
        obtain ⟨ns, n⟩ := p
        exact ⟨(q a (.inl rfl)).trans h.1, (q b (.inr rfl)).trans h.2⟩
section
variable {X : Cx} {cls : Nat → Addr} {e : Cur WW} {Wx : WX} {tg ex a b d o : Expr} {pos pos' : Pos} {f h k fo : XF Wd} {i : Nat}
theorem dv_obj0 {K : PySem.W.Frag} {c : Cur WW} {v : V} (h : Dv cls K c (.obj 0) v) : ∃ a b, v = .ref a ∧ c.k = some (a, b) := by
  obtain ⟨a, e1, h⟩ := h
  have h : wHd c.k 0 = some a := h
  cases z : c.k with
  | none => rw [z] at h; cases h
  | some ab =>
    rw [z] at h
    cases h
    exact ⟨_, ab.2, e1, rfl⟩
theorem dv_obj1 {K : PySem.W.Frag} {c : Cur WW} {v : V} (h : Dv cls K c (.obj 1) v) : ∃ a b, v = .ref b ∧ c.k = some (a, b) := by
  obtain ⟨a, e1, h⟩ := h
  have h : wHd c.k 1 = some a := h
  cases z : c.k with
  | none => rw [z] at h; cases h
  | some ab =>
    rw [z] at h
    cases h
    exact ⟨ab.1, _, e1, rfl⟩
theorem ok_w {c : Cur WW} {a b : Addr} {ns : List Int} {n : Int} (k : Ok c) (h1 : c.k = some (a, b)) (h2 : c.w = some (ns, n)) : c.H a = some (.lst [.ref b, .int n]) ∧ c.H b = some (.lst (ns.map V.int)) := by
  have := k.wr
  rw [h1, h2] at this
  exact this
/-! an item of a thing of the world -/
def gIxW (x y : D) (w : Wd) : Option D := match x, y, w with
  | .obj 0, .p (.int i), some (ns, n) => if i = 0 then some (.obj 1) else if i = 1 then some (.p (.int n)) else none
  | .obj 1, .p (.int i), some (ns, n) => (atI ns i).map fun m => .p (.int m)
  | _, _, _ => none
def xIxW (f h : XF Wd) : XF Wd := fun δ w => (f δ w).bind fun x w1 => (h δ w1).bind fun y w2 => opt (gIxW x y w2) w2
theorem atI_map {ns : List Int} {i m : Int} (h : atI ns i = some m) : atI (ns.map V.int) i = some (.int m) := by
  unfold atI at h ⊢
  rw [List.length_map]
  cases z : ixN ns.length i with
  | none => rw [z] at h; cases h
  | some j =>
    rw [z] at h
    have h : ns[j]? = some m := h
    show (ns.map V.int)[j]? = _
    rw [List.getElem?_map, h]; rfl
theorem s_ixW (ke : Ok e) (ha : PE X a (tS cls X.K e Wx f)) (hb : PE X b (tS cls X.K e Wx h)) (hs : PlainIx b := by exact fun _ _ => rfl) : PE X (.Subscript a b pos) (tS cls X.K e Wx (xIxW f h)) :=
  pe_imp (pe_ix ix_list ha hb hs) fun σ H Q ⟨c, δ, eH, r, q⟩ => by
    rw [← eH]
    have z := after_two (k := fun x y w => opt (gIxW x y w) w) ke r q
    obtain ⟨c0, δ0, e0, r0, q0⟩ := z
    refine ⟨c0, δ0, e0, r0, after_mono q0 fun u c1 _ ⟨c1', δ1, e1, r1, q1⟩ => ⟨c1', δ1, e1, r1, after_mono q1 fun v c2 _ ⟨x, y, c2', e2, r2, q2, q3, q4⟩ => ?_⟩⟩
    replace q4 := after_opt q4
    have kk := r2.ok
    rw [← e2]
    unfold gIxW at q4
    split at q4
    · rename_i i ns n hw
      obtain ⟨a, b, rfl, hk⟩ := dv_obj0 q2
      obtain rfl := dv_int.mp q3
      obtain ⟨g1, g2⟩ := ok_w kk hk hw
      by_cases z0 : i = 0
      · subst z0
        rw [if_pos rfl] at q4
        exact ⟨a, _, 0, .ref b, rfl, rfl, SqL.of g1, rfl, gives_v q4 kk ⟨b, rfl, by show wHd c2'.k 1 = _; rw [hk]; rfl⟩⟩
      · rw [if_neg z0] at q4
        by_cases z1 : i = 1
        · subst z1
          rw [if_pos rfl] at q4
          exact ⟨a, _, 1, .int n, rfl, rfl, SqL.of g1, rfl, gives_v q4 kk (dv_int.mpr rfl)⟩
        · rw [if_neg z1] at q4; exact gives_no q4
    · rename_i i ns n hw
      obtain ⟨a, b, rfl, hk⟩ := dv_obj1 q2
      obtain rfl := dv_int.mp q3
      obtain ⟨g1, g2⟩ := ok_w kk hk hw
      cases z : atI ns i with
      | none => rw [z] at q4; exact gives_no q4
      | some m =>
        rw [z] at q4
        exact ⟨b, _, i, .int m, rfl, rfl, SqL.of g2, atI_map z, gives_v q4 kk (dv_int.mpr rfl)⟩
    · exact gives_no q4
/-! its length -/
def gLenW (x : D) (w : Wd) : Option D := match x, w with
  | .obj 1, some (ns, _) => some (.p (.int ns.length))
  | _, _ => none
def xLenW (f : XF Wd) : XF Wd := fun δ w => (f δ w).bind fun x w1 => opt (gLenW x w1) w1
theorem s_lenW {p : Pos} (ke : Ok e) (hm : X.mg "len" = none) (ho : PE X o (tS cls X.K e Wx f)) (hg : Gl X "len" := by rfl)
    (he : starEach (o :: []) X.env = (false, eval o X.env) :: starEach [] X.env := by rfl) (hpl : (backTo pos (starEach [] X.env)).any (·.1) = false := by rfl) : PE X (.Call (.Name "len" p) [o] [] pos) (tS cls X.K e Wx (xLenW f)) :=
  pe_imp (pe_callB call_len hg hm PySem.boot_len (pa_cons ho pa_nil he) (by decide) (by decide) he hpl) fun σ H Q ⟨c, δ, eH, r, q⟩ => by
    rw [← eH]
    refine tS_imp (after_one (K := X.K) ke r q) fun u H1 ⟨x, c2, e2, b2, r2, q2, q3⟩ => ?_
    replace q3 := after_opt q3
    rw [← e2]
    unfold gLenW at q3
    split at q3
    · rename_i ns n hw
      obtain ⟨a, b, rfl, hk⟩ := dv_obj1 q2
      obtain ⟨g1, g2⟩ := ok_w r2.ok hk hw
      refine ⟨_, _, rfl, .inl ⟨_, SqL.of g2, rfl⟩, ?_⟩
      rw [List.length_map]
      exact gives_v q3 r2.ok (dv_int.mpr rfl)
    · exact gives_no q3
/-! a store into a thing of the world -/
def upW (x y z : D) (w : Wd) : Option Wd := match y, z, x, w with
  | .obj 0, .p (.int i), .p (.int m), some (ns, _) => if i = 1 then some (some (ns, m)) else none
  | .obj 1, .p (.int i), .p (.int m), some (ns, n) => (ixN ns.length i).map fun j => some (ns.set j m, n)
  | _, _, _, _ => none
def sSetW (fo k f : XF Wd) : SF Wd := fun δ w => match f δ w with
  | .ok x w1 => match fo δ w1 with
    | .ok y w2 => match k δ w2 with
      | .ok z w3 => match upW x y z w3 with
        | some w4 => .nx δ w4
        | none => .bad
      | .exc n w' => .exc n δ w'
      | .bad => .bad
    | .exc n w' => .exc n δ w'
    | .bad => .bad
  | .exc n w' => .exc n δ w'
  | .bad => .bad
theorem ss_setW {spos : Pos} (ke : Ok e) (ho : PE X o (tS cls X.K e Wx fo)) (hk : PE X b (tS cls X.K e Wx k)) (hv : PE X ex (tS cls X.K e Wx f))
    (ha : ∀ v, assign (.Subscript o b spos) X.env v = (do let ov ← holding [v] (eval o X.env); let iv ← holding [v, ov] (eval b X.env); standAt spos; holding [v, ov, iv] (setItem ov iv v); release [v, ov, iv] []) := by intro _; rfl)
    (hs : swapsWithSole [.Subscript o b spos] ex pos.line X.env = pure false := by rfl) (hw : swappedStores [.Subscript o b spos] ex X.env = pure none := by rfl)
    (h1 : (assignEach [.Subscript o b spos] X.env).map (·.2) = [assign (.Subscript o b spos) X.env] := by rfl) :
    PS X (.Assign [.Subscript o b spos] ex pos) (tSS cls X.K e Wx (sSetW fo k f)) :=
  ps_imp (ps_asg hv (pg_sub ho hk set_list ha) hs hw h1) fun D σ H ⟨c, δ, eH, r, q⟩ => by
    refine ⟨c, δ, eH, r, ?_⟩
    unfold sSetW at q
    cases z : f δ c.w with
    | bad => rw [z] at q; exact q
    | exc n w => rw [z] at q; exact fun c' hw b => q σ c' hw b.ff (r.step ke b)
    | ok x w1 =>
      rw [z] at q
      dsimp only at q
      intro u c1 hw1 b1 q1
      have r1 := r.step ke b1
      refine ⟨c1, δ, rfl, r1, ?_⟩
      rw [hw1]
      cases z2 : fo δ w1 with
      | bad => rw [z2] at q; exact q
      | exc n w => rw [z2] at q; exact fun c' hw b => q σ c' hw (b1.ff.trans b.ff) (r1.step ke b)
      | ok y w2 =>
        rw [z2] at q
        dsimp only at q
        intro v c2 hw2 b2 q2
        have r2 := r1.step ke b2
        refine ⟨c2, δ, rfl, r2, ?_⟩
        rw [hw2]
        cases z3 : k δ w2 with
        | bad => rw [z3] at q; exact q
        | exc n w => rw [z3] at q; exact fun c' hw b => q σ c' hw ((b1.ff.trans b2.ff).trans b.ff) (r2.step ke b)
        | ok y3 w3 =>
          rw [z3] at q
          dsimp only at q
          intro v3 c3 hw3 b3 q3
          have r3 := r2.step ke b3
          cases z4 : upW x y y3 w3 with
          | none => rw [z4] at q; exact q.elim
          | some w4 =>
            rw [z4] at q
            dsimp only at q
            rw [← hw3] at z4
            have q1' := (q1.mono b2).mono b3
            have q2' := q2.mono b3
            unfold upW at z4
            split at z4
            · rename_i i m ns n0 hw
              split at z4
              · rename_i hi
                subst hi
                cases z4
                obtain ⟨a, b, rfl, hk⟩ := dv_obj0 q2'
                obtain rfl := dv_int.mp q3
                obtain rfl := dv_int.mp q1'
                obtain ⟨g1, g2⟩ := ok_w r3.ok hk hw
                have ne : b ≠ a := fun z => by
                  subst z
                  rw [g1] at g2
                  have := HO.lst.inj (Option.some.inj g2)
                  cases ns with
                  | nil => cases this
                  | cons _ _ => cases this
                refine ⟨a, [.ref b, .int n0], 1, 1, rfl, rfl, g1, rfl, ?_⟩
                refine q σ { c3 with w := some (ns, m), H := upd c3.H a (.lst [.ref b, .int m]) } rfl ((b1.ff.trans b2.ff).trans b3.ff) (r3.wset (by rw [hk]; exact .inl rfl) ?_)
                rw [hk]
                exact ⟨upd_same, (upd_ne ne).trans g2⟩
              · cases z4
            · rename_i i m ns n0 hw
              cases z5 : ixN ns.length i with
              | none => rw [z5] at z4; cases z4
              | some j =>
                rw [z5] at z4
                cases z4
                obtain ⟨a, b, rfl, hk⟩ := dv_obj1 q2'
                obtain rfl := dv_int.mp q3
                obtain rfl := dv_int.mp q1'
                obtain ⟨g1, g2⟩ := ok_w r3.ok hk hw
                have ne : a ≠ b := fun z => by
                  subst z
                  rw [g1] at g2
                  have := HO.lst.inj (Option.some.inj g2)
                  cases ns with
                  | nil => cases this
                  | cons _ _ => cases this
                refine ⟨b, ns.map V.int, i, j, rfl, rfl, g2, by rw [List.length_map]; exact z5, ?_⟩
                refine q σ { c3 with w := some (ns.set j m, n0), H := upd c3.H b (.lst ((ns.map V.int).set j (.int m))) } rfl ((b1.ff.trans b2.ff).trans b3.ff) (r3.wset (by rw [hk]; exact .inr rfl) ?_)
                rw [hk]
                exact ⟨(upd_ne ne).trans g1, by rw [upd_same, List.map_set]⟩
            · cases z4
end
end Z

set_option Elab.async false
set_option linter.all false
set_option maxRecDepth 100000
/-! # Z13: sorted, orders of data -/
namespace Z
open PySem PySem.Spec PyProof.Rows L2
open PySem.W (alike alikeAll dataLt keyToks keyToksAll dataLe EachIs)
open PyProof.Rows (itemOrd)
/-! the order -/
def le0 (a b : PyData) : Bool := !dataLt b a
theorem le0_eq : dataLe false (id : PyData → PyData) = le0 := by
  rw [PySem.W.dataLe_eq]; rfl
theorem le0_total (a b : PyData) : (le0 a b || le0 b a) = true := by
  unfold le0 dataLt
  cases h : lexLt itemOrd (keyToks b) (keyToks a) with
  | false => rfl
  | true =>
    cases h2 : lexLt itemOrd (keyToks a) (keyToks b) with
    | false => rfl
    | true =>
      have := lex_trans _ _ _ h h2
      rw [lex_irrefl] at this
      cases this
theorem le0_trans (a b c : PyData) (h1 : le0 a b = true) (h2 : le0 b c = true) : le0 a c = true := by
  unfold le0 dataLt at *
  cases h : lexLt itemOrd (keyToks c) (keyToks a) with
  | false => rfl
  | true =>
    rcases lex_negTrans _ (keyToks b) _ h with h | h
    · rw [h] at h2; cases h2
    · rw [h] at h1; cases h1
mutual
theorem eqv_alike : ∀ x y : PyData, alike x y = true → PyData.eqv x y = true → x = y
  | .none, y, h, e => by cases y <;> simp [alike] at h ⊢
  | .bool b, y, h, e => by cases y <;> simp [alike, PyData.eqv] at h e ⊢; exact e
  | .int b, y, h, e => by cases y <;> simp [alike, PyData.eqv] at h e ⊢; exact e
  | .str b, y, h, e => by cases y <;> simp [alike, PyData.eqv] at h e ⊢; exact e
  | .list xs, y, h, e => by
    cases y <;> simp [alike, PyData.eqv] at h e ⊢
    exact eqvAll_alike xs _ h e
  | .tuple xs, y, h, e => by
    cases y <;> simp [alike, PyData.eqv] at h e ⊢
    exact eqvAll_alike xs _ h e
  | .dict _, y, h, e => by cases y <;> simp [alike] at h
theorem eqvAll_alike : ∀ xs ys : List PyData, alikeAll xs ys = true → PyData.eqvAll xs ys = true → xs = ys
  | [], [], _, _ => rfl
  | [], _ :: _, _, e => by simp [PyData.eqvAll] at e
  | _ :: _, [], _, e => by simp [PyData.eqvAll] at e
  | x :: xs, y :: ys, h, e => by
    simp only [alikeAll, PyData.eqvAll, Bool.and_eq_true] at h e
    rw [eqv_alike x y h.1 e.1, eqvAll_alike xs ys h.2 e.2]
end
theorem le0_anti {a b : PyData} (h : alike a b = true) (h1 : le0 a b = true) (h2 : le0 b a = true) : a = b := by
  unfold le0 dataLt at h1 h2
  have e : keyToks a = keyToks b := lex_total _ _ (by simpa using h2) (by simpa using h1)
  cases z : PyData.eqv a b with
  | true => exact eqv_alike a b h z
  | false =>
    have q := (PySem.W.toks_eqv a b h).2 z
    have q1 := q [.inl 0] [.inl 1]
    have q2 := q [.inl 1] [.inl 0]
    rw [e, PySem.W.lex_pre] at q1 q2
    rw [← q2] at q1
    exact absurd q1 (by decide)
/-! sorting -/
def insP (x : PyData) : List PyData → List PyData
  | [] => [x]
  | y :: ys => if le0 x y = true then x :: y :: ys else y :: insP x ys
def sortP : List PyData → List PyData
  | [] => []
  | x :: xs => insP x (sortP xs)
theorem insP_perm (x : PyData) : ∀ ys, (insP x ys).Perm (x :: ys)
  | [] => List.Perm.refl _
  | y :: ys => by
    unfold insP
    split
    · exact List.Perm.refl _
    · exact (List.Perm.cons y (insP_perm x ys)).trans (List.Perm.swap x y ys)
theorem sortP_perm : ∀ xs, (sortP xs).Perm xs
  | [] => List.Perm.refl _
  | x :: xs => (insP_perm x _).trans (List.Perm.cons x (sortP_perm xs))
abbrev Sd (l : List PyData) : Prop := l.Pairwise fun a b => le0 a b = true
theorem insP_sd (x : PyData) : ∀ {ys}, Sd ys → Sd (insP x ys)
  | [], _ => List.pairwise_singleton _ _
  | y :: ys, h => by
    unfold insP
    obtain ⟨h1, h2⟩ := List.pairwise_cons.mp h
    split
    · rename_i z
      refine List.pairwise_cons.mpr ⟨fun a ha => ?_, h⟩
      rcases List.mem_cons.mp ha with rfl | ha
      · exact z
      · exact le0_trans _ _ _ z (h1 a ha)
    · rename_i z
      have z' : le0 y x = true := by
        have := le0_total x y
        simp only [Bool.or_eq_true] at this
        exact this.resolve_left z
      refine List.pairwise_cons.mpr ⟨fun a ha => ?_, insP_sd x h2⟩
      rcases List.mem_cons.mp ((insP_perm x ys).mem_iff.mp ha) with rfl | ha
      · exact z'
      · exact h1 a ha
theorem sortP_sd : ∀ xs, Sd (sortP xs)
  | [] => List.Pairwise.nil
  | x :: xs => insP_sd x (sortP_sd xs)
def allAlike (xs : List PyData) : Bool := xs.all fun a => xs.all fun b => alike a b
/-- a sorted rearrangement is the sorted list -/
theorem sortP_uniq {xs ys : List PyData} (ha : allAlike xs = true) (hp : ys.Perm xs) (hs : Sd ys) : sortP xs = ys := by
  refine List.Perm.eq_of_pairwise (le := fun a b => le0 a b = true) (fun a b h1 h2 l1 l2 => ?_) (sortP_sd xs) hs ((sortP_perm xs).trans hp.symm)
  simp only [allAlike, List.all_eq_true] at ha
  exact le0_anti (ha a ((sortP_perm xs).mem_iff.mp h1) b (hp.mem_iff.mp h2)) l1 l2
theorem sortP_merge {xs : List PyData} (ha : allAlike xs = true) : xs.mergeSort le0 = sortP xs :=
  (sortP_uniq ha (List.mergeSort_perm _ _) (List.pairwise_mergeSort le0_trans le0_total xs)).symm
def isTup1 : PyData → Bool
  | .tuple (_ :: _) => true
  | _ => false
def isOther : PyData → Bool
  | .none => false
  | .tuple _ => false
  | _ => true
def sortOk (xs : List PyData) : Bool := allAlike xs && (xs.all isTup1 || xs.all isOther) && decide (xs.length ≤ lim) && xs.all fun a => decide (a.depth ≤ 32)
def gSorted : List D → Option D
  | [.p (.list xs)] => if sortOk xs = true then some (.p (.list (sortP xs))) else none
  | _ => none
theorem each_of {K : PySem.W.Frag} {X : Cx} {F H : Hp} {σ : L2.St} {pins : List (Addr × Obj)} {s : Shared} (I : Inv X pins σ H s) (sb : Sub F H) : ∀ {ds : List PyData} {vs : List V} {us : List Value}, DqL F ds vs → Vals vs us →
    EachIs (fun u d => ∃ v, RelV v u ∧ Dq F d v) us ds ∧ EachIs (fun u d => ∃ as, Reads s.heap u (id d) as) us ds
  | [], _, _, h, r => by
    rw [h.unnil] at r
    cases r
    exact ⟨.nil, .nil⟩
  | d :: ds, _, _, h, r => by
    obtain ⟨u, us, rfl, q, t⟩ := h.uncons
    cases r with
    | cons r1 r2 =>
      obtain ⟨g1, g2⟩ := each_of (K := K) I sb t r2
      exact ⟨.cons ⟨_, r1, q⟩ g1, .cons (Dp.reads I d u _ (Dq.dp sb d u q) r1) g2⟩
theorem each_back {F : Hp} : ∀ {us : List Value} {ds : List PyData}, EachIs (fun u d => ∃ v, RelV v u ∧ Dq F d v) us ds → ∃ vs, Vals vs us ∧ DqL F ds vs
  | _, _, .nil => ⟨[], .nil, .nil⟩
  | _, _, .cons ⟨v, h1, h2⟩ t => by
    obtain ⟨vs, g1, g2⟩ := each_back t
    exact ⟨v :: vs, .cons h1 g1, .cons h2 g2⟩
section
variable {X : Cx} {W : Type} {wd : WD W} {cls : Nat → Addr}
theorem cg_sorted (hu : X.A.units + 64 < cLine) (hc : X.calm = true) : CallG X cls wd (.builtin "sorted") gSorted := by
  intro pins s σ H vs us Q I r ⟨c, ds, eH, k, qs, q⟩
  unfold gSorted at q
  split at q
  · rename_i xs
    obtain ⟨u, rfl, q1⟩ := qs.one
    obtain ⟨p, ws, rfl, h1, r1⟩ := dv_lst.mp q1
    by_cases z : sortOk xs = true
    · rw [if_pos z] at q
      simp only [sortOk, Bool.and_eq_true, decide_eq_true_eq] at z
      obtain ⟨⟨⟨z1, z2⟩, z3⟩, z4⟩ := z
      rw [Vals.ref1 r]
      have hq : SqL X.K H p ws := by rw [← eH]; exact SqL.of (k.fh _ _ h1)
      obtain ⟨its, rv, hl, hz⟩ := I.list hq
      obtain ⟨e1, e2⟩ := each_of (K := X.K) I (by rw [← eH]; exact k.fh) r1 rv
      have hal : PySem.W.AllAlike (xs.map id) := by
        rw [List.map_id]
        simp only [allAlike, List.all_eq_true] at z1
        exact fun d hd d' hd' => z1 d hd d' hd'
      have hk : PySem.W.Sortable (xs.map id) := by
        rw [List.map_id]
        simp only [Bool.or_eq_true, List.all_eq_true] at z2
        rcases z2 with z2 | z2
        · refine .inl fun d hd => ?_
          have := z2 d hd
          unfold isTup1 at this
          split at this
          · exact ⟨_, _, rfl⟩
          · cases this
        · refine .inr fun d hd => ?_
          have := z2 d hd
          unfold isOther at this
          split at this
          · cases this
          · cases this
          · rename_i h1 h2
            exact ⟨h1, h2⟩
      refine PySem.W.sorted_data hl.isList e1 e2 hal hk (by rw [← lim_eq]; exact z3) (fun b hb => ?_) fun out hlen eo => ?_
      · simp only [List.all_eq_true, decide_eq_true_eq] at z4
        have := z4 b hb
        show X.A.units + 2 + b.depth < cLine
        omega
      · rw [le0_eq, sortP_merge z1] at eo
        obtain ⟨vs', g1, g2⟩ := each_back eo
        obtain ⟨ep, he'⟩ := PyProof.Rows.sortedAll_at s.heap its (List.toArray out)
        have hlv : vs'.length ≤ sizeLine := by rw [g2.len, (sortP_perm xs).length_eq, ← lim_eq]; exact z3
        refine ⟨.ref _, upd H (s.heap.objs.size + 1) (.lst vs'), I.laid (t' := s.toks) (fun _ _ => PyProof.Rows.sortedAll_old) (Nat.le_succ _) ⟨hlv, out, ep, g1, he'⟩, rfl, ?_⟩
        have hf : c.H (s.heap.objs.size + 1) = none := by rw [eH]; exact I.hok.fresh (Nat.le_succ _)
        rw [← eH]
        exact gives_lst q k g2 _ hf
    · rw [if_neg z] at q; exact gives_no q
  · exact gives_no q
/-! < and > of data -/
def ordOk (a b : PyData) : Bool := alike a b && isOther0 a && decide (min a.depth b.depth ≤ 64)
where isOther0 : PyData → Bool
  | .none => false
  | _ => true
theorem ordOk_ne {a b : PyData} (h : ordOk a b = true) : alike a b = true ∧ a ≠ .none ∧ min a.depth b.depth ≤ 64 := by
  simp only [ordOk, Bool.and_eq_true, decide_eq_true_eq] at h
  refine ⟨h.1.1, fun z => ?_, h.2⟩
  subst z
  have := h.1.2
  simp [ordOk.isOther0] at this
def gLtD : D → D → Option D
  | .p a, .p b => if ordOk a b = true then some (.p (.bool (dataLt a b))) else none
  | _, _ => none
def gGtD : D → D → Option D
  | .p a, .p b => if ordOk a b = true then some (.p (.bool (dataLt b a))) else none
  | _, _ => none
theorem og_ltD (hu : X.A.units + 64 < cLine) : OpG X cls wd (compareOp .Lt) gLtD := by
  intro pins s σ H u v p p' Q I rx ry ⟨c, x, y, eH, k, qx, qy, q⟩
  unfold gLtD at q
  split at q
  · rename_i a b
    by_cases z : ordOk a b = true
    · rw [if_pos z] at q
      obtain ⟨z1, z2, z3⟩ := ordOk_ne z
      subst eH
      obtain ⟨as, k1⟩ := Dp.reads I a u p (Dq.dp k.fh a u qx) rx
      obtain ⟨bs, k2⟩ := Dp.reads I b v p' (Dq.dp k.fh b v qy) ry
      exact PySem.W.lt_data k1 k2 z1 z2 (by omega) ⟨.bl _, c.H, I, rfl, gives_v q k (dv_bl.mpr rfl)⟩
    · rw [if_neg z] at q; exact gives_no q
  · exact gives_no q
theorem og_gtD (hu : X.A.units + 64 < cLine) : OpG X cls wd (compareOp .Gt) gGtD := by
  intro pins s σ H u v p p' Q I rx ry ⟨c, x, y, eH, k, qx, qy, q⟩
  unfold gGtD at q
  split at q
  · rename_i a b
    by_cases z : ordOk a b = true
    · rw [if_pos z] at q
      obtain ⟨z1, z2, z3⟩ := ordOk_ne z
      subst eH
      obtain ⟨as, k1⟩ := Dp.reads I a u p (Dq.dp k.fh a u qx) rx
      obtain ⟨bs, k2⟩ := Dp.reads I b v p' (Dq.dp k.fh b v qy) ry
      exact PySem.W.gt_data k1 k2 z1 z2 (by omega) ⟨.bl _, c.H, I, rfl, gives_v q k (dv_bl.mpr rfl)⟩
    · rw [if_neg z] at q; exact gives_no q
  · exact gives_no q
end
end Z

set_option Elab.async false
set_option linter.all false
set_option maxRecDepth 100000
/-! # Z14: a list of lists of one's own -/
namespace Z
open PySem PySem.Spec PyProof.Rows L2
section
variable {X : Cx} {W : Type} {wd : WD W} {cls : Nat → Addr} {e : Cur wd} {Wx : WX} {tg ex a b d o : Expr} {pos pos' : Pos} {f h k : XF W} {g : XS W} {i : Nat}
def lcGoO (tz : TZ) (f : XS W) (δ : Ev) : List PyData → W → Res W (List (List PyData))
  | [], w => .ok [] w
  | x :: r, w => match tz x δ with
    | none => .bad
    | some δ1 => match f δ1 w with
      | .ok (.own xs) w2 => (lcGoO tz f δ r w2).bind fun ys w3 => .ok (xs :: ys) w3
      | _ => .bad
def xLcOO (it : XI W) (tz : TZ) (f : XS W) (vs : List Nat) : XS W := fun δ w => (it δ w).bind fun items w1 => if items.length ≤ lim then match lcGoO tz f (wipeZ δ vs) items w1 with
    | .ok ys w2 => .ok (.own2 ys) w2
    | _ => .bad
  else .bad
/-- what is laid: a new list of new lists -/
def freshO (c0 c : Cur wd) (D0 : Addr) (as : List Addr) (yss : List (List PyData)) : Prop := c.H D0 = some (.lst (as.map V.ref)) ∧ RowsAt c yss as ∧ (D0 :: as).Nodup ∧ ∀ a ∈ D0 :: as, Fre c0 c a ∧ c.H a ≠ none
theorem freshO.step {c0 c c' : Cur wd} {D0 : Addr} {as : List Addr} {yss : List (List PyData)} (h : freshO c0 c D0 as yss) (b : Bs c c') : freshO c0 c' D0 as yss := by
  obtain ⟨h1, ⟨h2, h3⟩, h4, h5⟩ := h
  have st := fun a ha => Fre.step b (h5 a ha).1 (h5 a ha).2
  refine ⟨(st D0 List.mem_cons_self).2.trans h1, ⟨h2, fun j x xs k1 k2 => ?_⟩, h4, fun a ha => ⟨(st a ha).1, by rw [(st a ha).2]; exact (h5 a ha).2⟩⟩
  obtain ⟨vs, g1, g2⟩ := h3 j x xs k1 k2
  exact ⟨vs, (st x (List.mem_cons_of_mem _ (List.mem_of_getElem? k1))).2.trans g1, DqL.mono b.ff _ _ g2⟩
theorem fre_back {c0 c c' : Cur wd} {a : Addr} (k0 : Ok c0) (b : Bs c0 c) (h : c.H a = none) : c0.H a = none := by
  rcases none_or (c0.H a) with q | ⟨x, q⟩
  · exact q
  · by_cases hx : wd.fp c0.k a
    · exact absurd h (b.ok.wf a (b.kg a hx)).2
    · rw [b.hh a x hx q] at h; cases h
theorem lc_walkO {K : PySem.W.Frag} (ke : Ok e) {J : It} {items : List PyData} {tz : TZ} {g : TG} {f : XS W} {vs : List Nat} {c0 : Cur wd} {δ : Ev} {σ : L2.St} {Q : VK} {ys : List (List PyData)} {wf : W}
    (r0 : Rz cls K e c0 δ σ) (hl : items.length ≤ lim) (hJ : JOk J (keepB c0) items) (hg : TgOk cls K e g tz) (hz : lcGoO tz f (wipeZ δ vs) items c0.w = .ok ys wf)
    (hq : ∀ D0 as c, c.w = wf → Bs c0 c → freshO c0 c D0 as ys → Q (.ref D0) c.H) (hwipe : ∀ x H' (R : L2.St → Hp → Prop), g x (wipe σ vs) H' R → g x (wipe σ vs) H' fun σ2 H2 => wipe σ2 vs = wipe σ vs ∧ R σ2 H2) :
    ∀ D0, c0.H D0 = none → ∃ Wv : Nat → Nat → Hp → Prop, (∃ m, Wv 0 m (upd c0.H D0 (.lst []))) ∧ ∀ i m H, Wv i m H →
      (J.stop i H ∧ Q (.ref D0) H) ∨ (J.go i H ∧ ∃ Nx : Hp → Prop, (∀ H', Nx H' → ∃ m', m' < m ∧ Wv (i + 1) m' H') ∧ ∀ x H', J.yld i H x H' → g x (wipe σ vs) H' fun σ2 H2 => wipe σ2 vs = wipe σ vs ∧ tSB cls K e W00 (bYes (W := W)) σ2 H2 fun b H3 =>
        if b = true then tSX cls K e W00 f σ2 H3 fun y H4 => ∃ acc, H4 D0 = some (.lst acc) ∧ acc.length < sizeLine ∧ Nx (upd H4 D0 (.lst (acc ++ [y]))) else Nx H3) := by
  intro D0 hD0
  have k0 : Ok c0 := r0.ok
  let In : Nat → Hp → Prop := fun i H => ∃ (c : Cur wd) (as : List Addr) (acc : List (List PyData)) (rest : List PyData) (zs : List (List PyData)), c.H = H ∧ Bs c0 c ∧ freshO c0 c D0 as acc ∧ acc.length ≤ i ∧ items.drop i = rest ∧ lcGoO tz f (wipeZ δ vs) rest c.w = .ok zs wf ∧ acc ++ zs = ys
  refine ⟨fun i m H => m = items.length - i ∧ i ≤ items.length ∧ In i H, ⟨items.length, by simp, Nat.zero_le _, ?_⟩, ?_⟩
  · refine ⟨c0.lay D0 (.lst []), [], [], items, ys, rfl, Bs.lay k0 _ hD0, ⟨upd_same, ⟨rfl, fun j x xs k1 _ => by simp at k1⟩, by simp, fun a ha => ?_⟩, Nat.zero_le _, rfl, hz, rfl⟩
    simp at ha; subst ha
    exact ⟨⟨k0.fnone hD0, k0.nofp hD0, hD0⟩, by show upd c0.H a _ a ≠ none; rw [upd_same]; exact fun z => by cases z⟩
  · rintro i m H ⟨rfl, hi, c, as, acc, rest, zs, rfl, b, hf, hai, hr, hgo, hys⟩
    by_cases hlt : i < items.length
    · refine .inr ⟨hJ.1 i c b hlt, In (i + 1), fun H' q => ⟨items.length - (i + 1), by omega, rfl, hlt, q⟩, fun x H' hy => hwipe x H' _ ?_⟩
      have hd : items[i]? = some items[i] := List.getElem?_eq_getElem hlt
      have hrest : rest = items[i] :: items.drop (i + 1) := by rw [← hr]; exact List.drop_eq_getElem_cons hlt
      obtain ⟨c1, rfl, hw1, b1, q1⟩ := hJ.2.2 i c x H' _ b hy hd
      rw [hrest] at hgo
      have hgo : (match tz items[i] (wipeZ δ vs) with
        | none => Res.bad
        | some δ1 => match f δ1 c.w with
          | .ok (.own xs) w2 => (lcGoO tz f (wipeZ δ vs) (items.drop (i + 1)) w2).bind fun ys w3 => .ok (xs :: ys) w3
          | _ => .bad) = Res.ok zs wf := hgo
      cases htz : tz items[i] (wipeZ δ vs) with
      | none => rw [htz] at hgo; cases hgo
      | some δ1 =>
        rw [htz] at hgo
        dsimp only at hgo
        rw [← hw1] at hgo
        have b01 := b.trans k0 b1
        have rw1 : Rz cls K e c1 (wipeZ δ vs) (wipe σ vs) := (r0.step ke b01).wipe vs
        have hf1 := hf.step b1
        refine hg c1 _ δ1 _ items[i] x _ rw1 q1 htz fun σ2 r2 => ⟨c1, δ1, rfl, r2, ?_⟩
        intro c2 hw2 b2
        have b02 := b01.trans k0 b2
        have hf2 := hf1.step b2
        rw [if_pos rfl]
        rw [← hw2] at hgo
        have r3 := r2.step ke b2
        refine ⟨c2, δ1, rfl, r3, ?_⟩
        cases hfy : f δ1 c2.w with
        | bad => rw [hfy] at hgo; cases hgo
        | exc _ _ => rw [hfy] at hgo; cases hgo
        | ok s w2 =>
          rw [hfy] at hgo
          cases s with
          | no => cases hgo
          | v _ => cases hgo
          | own2 _ => cases hgo
          | own xs =>
            dsimp only at hgo
            intro u c3 A hw3 b3 q3 hnA hA
            obtain ⟨zs', w3, hgo', hgo2⟩ : ∃ b w1, lcGoO tz f (wipeZ δ vs) (items.drop (i + 1)) w2 = .ok b w1 ∧ Res.ok (xs :: b) w1 = Res.ok zs wf := by
              cases z : lcGoO tz f (wipeZ δ vs) (items.drop (i + 1)) w2 with
              | ok b w1 => rw [z] at hgo; exact ⟨b, w1, rfl, hgo⟩
              | exc _ _ => rw [z] at hgo; cases hgo
              | bad => rw [z] at hgo; cases hgo
            cases hgo2
            obtain ⟨r, us, rfl, eu, g1, g2⟩ := q3
            cases eu
            have hf3 := hf2.step b3
            obtain ⟨⟨n1, n2, n3⟩, n4⟩ := hA r List.mem_cons_self
            have b03 := b02.trans k0 b3
            obtain ⟨f1, ⟨f2, f3⟩, f4, f5⟩ := hf3
            obtain ⟨⟨d1, d2, d3⟩, d4⟩ := f5 D0 List.mem_cons_self
            have hnew : r ∉ D0 :: as := fun z => (hf2.2.2.2 r z).2 n3
            have hal : as.length ≤ i := by rw [f2]; exact hai
            refine ⟨as.map V.ref, f1, by rw [List.length_map, ← lim_eq]; omega, ?_⟩
            have b03' : Bs c0 (c3.lay D0 (.lst (as.map V.ref ++ [V.ref r]))) := by
              refine ⟨⟨fun a o h => ?_, wd.stab _ _ _ _ _ _ b03.ok.wr (Sub.refl _) fun a ha => upd_ne fun (z : a = D0) => d2 (z ▸ ha), fun a ha => ⟨(b03.ok.wf a ha).1, ?_⟩⟩, b03.ff, fun a o h1 h2 => ?_, b03.fn, b03.kh, b03.kf, b03.kg⟩
              · show upd c3.H D0 _ a = some o
                rw [upd_ne (ne_of_none h d1)]; exact b03.ok.fh _ _ h
              · show upd c3.H D0 _ a ≠ none
                rw [upd_ne fun (z : a = D0) => d2 (z ▸ ha)]
                exact (b03.ok.wf a ha).2
              · show upd c3.H D0 _ a = some o
                rw [upd_ne (ne_of_none h2 d3)]; exact b03.hh _ _ h1 h2
            have nd : (D0 :: as).Nodup := f4
            rw [List.nodup_cons] at nd
            have rne : r ≠ D0 := fun z => hnew (z ▸ List.mem_cons_self)
            refine ⟨c3.lay D0 (.lst (as.map V.ref ++ [V.ref r])), as ++ [r], acc ++ [xs], items.drop (i + 1), zs', rfl, b03', ⟨?_, ⟨by rw [List.length_append, List.length_append, f2]; rfl, fun j x ys' k1 k2 => ?_⟩, ?_, fun a ha => ?_⟩, by rw [List.length_append]; simp; omega, rfl, by rw [← hw3] at hgo'; exact hgo', by rw [List.append_assoc]; exact hys⟩
            · show upd c3.H D0 _ D0 = _
              rw [upd_same, List.map_append]; rfl
            · have hxD : x ≠ D0 := fun z => by
                subst z
                rcases List.mem_append.mp (List.mem_of_getElem? k1) with m | m
                · exact nd.1 m
                · exact rne (List.mem_singleton.mp m).symm
              show ∃ vs, upd c3.H D0 _ x = some (.lst vs) ∧ _
              rw [upd_ne hxD]
              by_cases hj : j < as.length
              · rw [List.getElem?_append_left hj] at k1
                rw [List.getElem?_append_left (by omega)] at k2
                exact f3 j x ys' k1 k2
              · rw [List.getElem?_append_right (by omega)] at k1
                rw [List.getElem?_append_right (by omega)] at k2
                rw [← f2] at k2
                cases hz : j - as.length with
                | zero =>
                  rw [hz] at k1 k2
                  cases k1; cases k2
                  exact ⟨us, g1, g2⟩
                | succ m => rw [hz] at k1; cases k1
            · rw [← List.cons_append, List.nodup_append]
              refine ⟨f4, by simp, fun a ha b hb z => ?_⟩
              rw [List.mem_singleton.mp hb] at z
              subst z
              exact hnew ha
            · rw [← List.cons_append] at ha
              rcases List.mem_append.mp ha with m | m
              · obtain ⟨f6, f7⟩ := f5 a m
                refine ⟨f6, ?_⟩
                show upd c3.H D0 _ a ≠ none
                by_cases z : a = D0
                · rw [z, upd_same]; exact fun z => by cases z
                · rw [upd_ne z]; exact f7
              · rw [List.mem_singleton.mp m]
                refine ⟨⟨n1, n2, fre_back (c' := c3) k0 b02 n3⟩, ?_⟩
                show upd c3.H D0 _ r ≠ none
                rw [upd_ne rne]; exact n4
    · have hil : i = items.length := by omega
      subst hil
      have hrest : rest = [] := by rw [← hr]; exact List.drop_length
      subst hrest
      cases hgo
      rw [List.append_nil] at hys
      subst hys
      exact .inl ⟨hJ.2.1 _ c b (Nat.le_refl _), hq D0 as c rfl b hf⟩
theorem lc_impOO {it : XI W} {g : TG} {tz : TZ} {f : XS W} {vs : List Nat} {K : PySem.W.Frag} (ke : Ok e) (h3 : T3 cls K e g tz vs) (σ : L2.St) (H : Hp) (Q : VK) (q : tSX cls K e Wx (xLcOO it tz f vs) σ H Q) :
    tLc (tSI cls K e Wx keepB it) g (tSB cls K e W00 (bYes (W := W))) (tSX cls K e W00 f) vs σ H Q := by
  obtain ⟨c, δ, eH, r, q⟩ := q
  refine ⟨c, δ, eH, r, ?_⟩
  unfold xLcOO at q
  cases z : it δ c.w with
  | bad => rw [z] at q; exact q
  | exc n w' => rw [z] at q; exact q
  | ok items w1 =>
    rw [z] at q
    dsimp only [Res.bind] at q
    by_cases hl : items.length ≤ lim
    · rw [if_pos hl] at q
      cases z2 : lcGoO tz f (wipeZ δ vs) items w1 with
      | bad => rw [z2] at q; exact q.elim
      | exc n w' => rw [z2] at q; exact q.elim
      | ok ys wf =>
        rw [z2] at q
        intro J c' hw b hJ
        have r' := r.step ke b
        rw [← hw] at z2
        refine lc_walkO ke r' hl hJ h3.1 z2 (fun D0 as c2 hw2 b2 hf => ?_) fun x H' R hg => h3.2.2 _ _ _ _ _ (h3.2.1 _ _ _ _ hg) fun σ2 H2 ⟨o, k⟩ => ⟨wipe_outs o, k⟩
        obtain ⟨f1, f2, f3, f4⟩ := hf
        refine q (.ref D0) c2 (D0 :: as) hw2 (b.trans r.ok b2) ⟨D0, as, rfl, rfl, f1, f2⟩ f3 fun a ha => ?_
        obtain ⟨⟨g1, g2, g3⟩, g4⟩ := f4 a ha
        exact ⟨⟨g1, g2, fre_back (c' := c2) r.ok b g3⟩, g4⟩
    · rw [if_neg hl] at q; exact q.elim
theorem x_lcOO {elt iter : Expr} {scope : Scope} {own : List (Str × Nat)} {it : XI W} {g : TG} {tz : TZ} {f : XS W} (ke : Ok e) (hc : X.calm = true) (hN : X.N.Nodup) (hi : PI X tg iter (tSI cls X.K e Wx keepB it)) (ok : BlkOk X.N X.env.scope scope own)
    (hg : ∀ (s : Shared) (H : Hp) (C : Addr) (cl : List (Str × Addr)) (fp : List Addr), PG (X.blk s H scope (compEnvC scope cl C X.env) fp) tg g) (h3 : T3 cls X.K e g tz (own.map (·.2)))
    (he : ∀ (s : Shared) (H : Hp) (C : Addr) (cl : List (Str × Addr)) (fp : List Addr), PE (X.blk s H scope (compEnvC scope cl C X.env) fp) elt (tSX cls X.K e W00 f)) (hs : ∀ x, foldedSetIterable iter X.env x = pure x := by intro _; rfl) :
    PE X (.ListComp elt [⟨tg, iter, [], 0⟩] scope pos) (tSX cls X.K e Wx (xLcOO it tz f (own.map (·.2)))) :=
  pe_imp (pe_lc hc hN hi ok hg (fun _ _ _ _ _ => sts_nil) he hs) fun σ H Q q => lc_impOO ke h3 σ H Q q
theorem ss_setLcOO {i : Nat} {y : Str} {py : Pos} {elt iter : Expr} {scope : Scope} {own : List (Str × Nat)} {spos : Pos} {it : XI W} {g : TG} {tz : TZ} {f : XS W} (ke : Ok e) (hc : X.calm = true) (hN : X.N.Nodup) (hy : X.N[i]? = some y) (hyl : X.env.scope.names.lookup y = some .local)
    (hsw : swapsWith (.ListComp elt [⟨tg, iter, [], 0⟩] scope pos) (some (.Name y py)) spos.line X.env = pure true) (hi : PI X tg iter (tSI cls X.K e Wx keepB it)) (ok : BlkOk X.N X.env.scope scope own)
    (hg : ∀ (s : Shared) (H : Hp) (C : Addr) (cl : List (Str × Addr)) (fp : List Addr), PG (X.blk s H scope (compEnvC scope cl C X.env) fp) tg g) (h3 : T3 cls X.K e g tz (own.map (·.2)))
    (he : ∀ (s : Shared) (H : Hp) (C : Addr) (cl : List (Str × Addr)) (fp : List Addr), PE (X.blk s H scope (compEnvC scope cl C X.env) fp) elt (tSX cls X.K e W00 f)) (hs : ∀ x, foldedSetIterable iter X.env x = pure x := by intro _; rfl) :
    PS X (.Assign [.Name y py] (.ListComp elt [⟨tg, iter, [], 0⟩] scope pos) spos) (tSS cls X.K e Wx (sSet i (xLcOO it tz f (own.map (·.2))))) :=
  ps_imp (ps_setLc hc hN hy hyl hsw hi ok hg (fun _ _ _ _ _ => sts_nil) he hs) fun D σ H q => lc_impOO ke h3 σ H _ (set_imp ke D σ H q)
/-! list(e), one's own -/
def listOf0 : D → Option (List PyData)
  | .p (.list xs) => some xs
  | .p (.tuple xs) => some xs
  | _ => none
def xListO (f : XF W) : XS W := fun δ w => (f δ w).bind fun x w1 => match listOf0 x with
  | some xs => .ok (.own xs) w1
  | none => .bad
theorem afterX_bind {K : PySem.W.Frag} {c : Cur wd} {σ : L2.St} {r : Res W D} {k : D → W → Res W Sl} {Q : VK} (kc : Ok c) (h : afterX cls K c σ Wx (r.bind k) Q) :
    after cls K c σ Wx r fun u H' => ∃ d c', c'.H = H' ∧ Bs c c' ∧ Dv cls K c' d u ∧ afterX cls K c' σ Wx (k d c'.w) Q := by
  cases r with
  | bad => exact h
  | exc n w' => exact h
  | ok d w' =>
    intro u c' hw b q
    refine ⟨d, c', rfl, b, q, ?_⟩
    have h' : afterX cls K c σ Wx (k d w') Q := h
    rw [hw]
    cases z : k d w' with
    | bad => rw [z] at h'; exact h'
    | exc n w2 => rw [z] at h'; exact fun c2 e2 b2 => h' c2 e2 (b.trans kc b2)
    | ok s w2 =>
      rw [z] at h'
      exact fun u2 c2 A e2 b2 q2 hn hA => h' u2 c2 A e2 (b.trans kc b2) q2 hn fun a ha => ⟨⟨(hA a ha).1.1, (hA a ha).1.2.1, fre_back (c' := c2) kc b (hA a ha).1.2.2⟩, (hA a ha).2⟩
theorem after_oneX {K : PySem.W.Frag} (ke : Ok e) {c : Cur wd} {δ : Ev} {σ : L2.St} {f : XF W} {k : D → W → Res W Sl} {Q : VK} (r : Rz cls K e c δ σ) (q : afterX cls K c σ Wx ((f δ c.w).bind k) Q) :
    tS cls K e Wx f σ c.H fun u H1 => ∃ x c2, c2.H = H1 ∧ Bs c c2 ∧ Rz cls K e c2 δ σ ∧ Dv cls K c2 x u ∧ afterX cls K c2 σ Wx (k x c2.w) Q :=
  tS_mk r (after_mono (afterX_bind r.ok q) fun u c1 b1 ⟨x, c1', e1, b1', q1, q2⟩ => ⟨x, c1', e1, b1', r.step ke b1', q1, q2⟩)
theorem x_listO {p : Pos} (ke : Ok e) (hm : X.mg "list" = none) (ha : PE X a (tS cls X.K e Wx f)) (hg : Gl X "list" := by rfl)
    (he : starEach (a :: []) X.env = (false, eval a X.env) :: starEach [] X.env := by rfl) (hpl : (backTo pos (starEach [] X.env)).any (·.1) = false := by rfl) : PE X (.Call (.Name "list" p) [a] [] pos) (tSX cls X.K e Wx (xListO f)) :=
  pe_imp (pe_callTy call_list_of hg hm bt_list (pa_cons ha pa_nil he) (by decide) (by decide) he hpl) fun σ H Q ⟨c, δ, eH, r, q⟩ => by
    rw [← eH]
    refine tS_imp (after_oneX (K := X.K) ke r q) fun u H1 ⟨x, c2, e2, b2, r2, q2, q3⟩ => ?_
    rw [← e2]
    unfold listOf0 at q3
    split at q3
    · rename_i h
      split at h
      · cases h
        obtain ⟨p, vs, rfl, h1, r1⟩ := dv_lst.mp q2
        exact ⟨p, vs, rfl, .inl (SqL.of (r2.ok.fh _ _ h1)), gives_own q3 r2.ok r1⟩
      · cases h
        obtain ⟨p, vs, rfl, h1, r1⟩ := dv_tup.mp q2
        exact ⟨p, vs, rfl, .inr (SqT.of (r2.ok.fh _ _ h1)), gives_own q3 r2.ok r1⟩
      · cases h
    · exact q3.elim
end
end Z

set_option Elab.async false
set_option linter.all false
set_option maxRecDepth 100000
/-! # Z15: how the draws start -/
namespace Z
open PySem PySem.Spec PyProof.Rows L2
section
variable {X : Cx} {W : Type} {wd : WD W} {cls : Nat → Addr} {e : Cur wd} {Wx : WX} {tg ex a b d o : Expr} {pos pos' : Pos} {f h k : XF W} {g gs : XS W} {t : XB W} {i : Nat}
/-! the script -/
theorem dpAll_ints {K : PySem.W.Frag} {H : Hp} : ∀ ns : List Int, DpAll K H (ns.map V.int) (ns.map PyData.int)
  | [] => .nil
  | n :: ns => .cons (.int n) (dpAll_ints ns)
def gNeS : D → D → Option D
  | .scr ns, .p b => if eqOk (.list (ns.map .int)) b = true then some (.p (.bool (!PyData.eqv (.list (ns.map .int)) b))) else none
  | _, _ => none
theorem og_neS (hu : X.A.units + 64 < cLine) : OpG X cls wd (compareOp .NotEq) gNeS := by
  intro pins s σ H u v p p' Q I rx ry ⟨c, x, y, eH, k, qx, qy, q⟩
  unfold gNeS at q
  split at q
  · rename_i ns b
    by_cases z : eqOk (.list (ns.map .int)) b = true
    · rw [if_pos z] at q
      simp only [eqOk, Bool.and_eq_true, decide_eq_true_eq] at z
      subst eH
      obtain ⟨a, rfl, sq⟩ := qx
      obtain ⟨as, k1⟩ := Dp.reads I (.list (ns.map .int)) (.ref a) p (.lst (sqL_mono k.fh sq) (dpAll_ints ns)) rx
      obtain ⟨bs, k2⟩ := Dp.reads I b v p' (Dq.dp k.fh b v qy) ry
      exact SeqAt.compareNe_reads k1 k2 z.1.1 z.1.2 (by omega) ⟨.bl _, c.H, I, rfl, gives_v q k (dv_bl.mpr rfl)⟩
    · rw [if_neg z] at q; exact gives_no q
  · exact gives_no q
def xListS (f : XF W) : XS W := fun δ w => (f δ w).bind fun x w1 => match x with
  | .scr ns => .ok (.own (ns.map .int)) w1
  | _ => .bad
theorem x_listS {p : Pos} (ke : Ok e) (hm : X.mg "list" = none) (ha : PE X a (tS cls X.K e Wx f)) (hg : Gl X "list" := by rfl)
    (he : starEach (a :: []) X.env = (false, eval a X.env) :: starEach [] X.env := by rfl) (hpl : (backTo pos (starEach [] X.env)).any (·.1) = false := by rfl) : PE X (.Call (.Name "list" p) [a] [] pos) (tSX cls X.K e Wx (xListS f)) :=
  pe_imp (pe_callTy call_list_of hg hm bt_list (pa_cons ha pa_nil he) (by decide) (by decide) he hpl) fun σ H Q ⟨c, δ, eH, r, q⟩ => by
    rw [← eH]
    refine tS_imp (after_oneX (K := X.K) ke r q) fun u H1 ⟨x, c2, e2, b2, r2, q2, q3⟩ => ?_
    rw [← e2]
    cases x with
    | scr ns =>
      obtain ⟨p, rfl, sq⟩ := q2
      exact ⟨p, _, rfl, .inl (sqL_mono r2.ok.fh sq), gives_own q3 r2.ok (DqL.of_ints ns)⟩
    | _ => exact q3.elim
def xIfX (t : XB W) (g gs : XS W) : XS W := fun δ w => (t δ w).bind fun b w1 => if b = true then g δ w1 else gs δ w1
theorem afterX_B {K : PySem.W.Frag} {c : Cur wd} {σ : L2.St} {r : Res W Bool} {k : Bool → W → Res W Sl} {Q : VK} (kc : Ok c) (h : afterX cls K c σ Wx (r.bind k) Q) :
    afterB cls c σ Wx r fun u H' => ∃ c', c'.H = H' ∧ Bs c c' ∧ afterX cls K c' σ Wx (k u c'.w) Q := by
  cases r with
  | bad => exact h
  | exc n w' => exact h
  | ok d w' =>
    intro c' hw b
    refine ⟨c', rfl, b, ?_⟩
    have h' : afterX cls K c σ Wx (k d w') Q := h
    rw [hw]
    cases z : k d w' with
    | bad => rw [z] at h'; exact h'
    | exc n w2 => rw [z] at h'; exact fun c2 e2 b2 => h' c2 e2 (b.trans kc b2)
    | ok s w2 =>
      rw [z] at h'
      exact fun u2 c2 A e2 b2 q2 hn hA => h' u2 c2 A e2 (b.trans kc b2) q2 hn fun a ha => ⟨⟨(hA a ha).1.1, (hA a ha).1.2.1, fre_back (c' := c2) kc b (hA a ha).1.2.2⟩, (hA a ha).2⟩
theorem x_if (ke : Ok e) (hc : PT X d (tSB cls X.K e Wx t)) (ha : PE X a (tSX cls X.K e Wx g)) (hb : PE X b (tSX cls X.K e Wx gs)) : PE X (.IfExp d a b pos) (tSX cls X.K e Wx (xIfX t g gs)) :=
  pe_imp (pe_ifExp hc ha hb) fun σ H Q ⟨c, δ, eH, r, q⟩ => by
    rw [← eH]
    unfold xIfX at q
    have q' := afterX_B (K := X.K) r.ok q
    refine tSB_imp (⟨c, δ, rfl, r, q'⟩ : tSB cls X.K e Wx t σ c.H _) fun x H1 ⟨c2, e2, b2, q2⟩ => ?_
    have r2 := r.step ke b2
    rw [← e2]
    cases x with
    | true => rw [if_pos rfl] at q2 ⊢; exact ⟨c2, δ, rfl, r2, q2⟩
    | false => rw [if_neg Bool.false_ne_true] at q2 ⊢; exact ⟨c2, δ, rfl, r2, q2⟩
end
section
variable {X : Cx} {cls : Nat → Addr} {e : Cur WW} {Wx : WX} {tg ex a b d o : Expr} {pos pos' : Pos} {g : XS Wd}
def sStart (g : XS Wd) : SF Wd := fun δ w => match g δ w with
  | .ok (.own xs) none => match ints? xs with
    | some ns => .rt (.obj 0) (some (ns, 0))
    | none => .bad
  | _ => .bad
theorem ss_start {p2 : Pos} {j : Nat} (ke : Ok e) (ha : PE X a (tSX cls X.K e Wx g)) (hs : starEach [a, .Constant (.int 0) j p2] X.env = (false, eval a X.env) :: starEach [.Constant (.int 0) j p2] X.env := by rfl) (hs2 : starEach [.Constant (.int 0) j p2] X.env = (false, eval (.Constant (.int 0) j p2) X.env) :: starEach [] X.env := by rfl) :
    PS X (.Return (some (.List [a, .Constant (.int 0) j p2] pos)) pos') (tSS cls X.K e Wx (sStart g)) :=
  ps_imp (ps_ret (pe_lst (pa_cons ha (pa_cons pe_int pa_nil hs2) hs))) fun D σ H ⟨c, δ, eH, r, q⟩ => by
    subst eH
    refine ⟨c, δ, rfl, r, ?_⟩
    unfold sStart at q
    cases z : g δ c.w with
    | bad => rw [z] at q; exact q.elim
    | exc n w => rw [z] at q; exact q.elim
    | ok s w =>
      rw [z] at q
      cases s with
      | no => exact q.elim
      | v _ => exact q.elim
      | own2 _ => exact q.elim
      | own xs =>
        cases w with
        | some _ => exact q.elim
        | none =>
          dsimp only at q
          cases zi : ints? xs with
          | none => rw [zi] at q; exact q.elim
          | some ns =>
            rw [zi] at q
            have exs := ints?_eq zi
            subst exs
            intro u c1 A hw b ⟨p, vs, hA, hu, g1, g2⟩ hn hfr
            cases hu
            have g3 := g2.ints
            subst g3
            have hp : p ∈ A := by rw [hA]; exact List.mem_cons_self
            obtain ⟨⟨f1, f2, f3⟩, f4⟩ := hfr p hp
            refine ⟨by simp; rw [sizeLine_eq]; omega, fun p2 hp2 => ?_⟩
            have k1 := b.ok
            have ek : c1.k = none := by
              have := k1.wr
              rw [hw] at this
              cases zk : c1.k with
              | none => rfl
              | some ab => rw [zk] at this; exact this.elim
            have ne : p ≠ p2 := fun z => by rw [← z] at hp2; exact f4 hp2
            have hF2 : c1.F p2 = none := k1.fnone hp2
            let c2 : Cur WW := ⟨some (p2, p), c1.F, some (ns, 0), upd c1.H p2 (.lst [.ref p, .int 0])⟩
            have b2 : Bs c c2 := by
              have ec : c.k = none := by
                cases zk : c.k with
                | none => rfl
                | some ab =>
                  have h1 : wHd c.k 0 = some ab.1 := by rw [zk]; rfl
                  have h2 : wHd c1.k 0 = some ab.1 := b.kh 0 _ h1
                  rw [ek] at h2; cases h2
              refine ⟨⟨fun x o hx => ?_, ?_, fun x hx => ?_⟩, b.ff, fun x o hx1 hx => ?_, b.fn, fun n x hx => ?_, fun x hx => ?_, fun x hx => ?_⟩
              · show upd c1.H p2 _ x = some o
                rw [upd_ne (ne_of_none hx hF2)]; exact k1.fh _ _ hx
              · exact ⟨upd_same, (upd_ne ne).trans g1⟩
              · rcases hx with rfl | rfl
                · exact ⟨hF2, by show upd c1.H x _ x ≠ none; rw [upd_same]; exact fun z => by cases z⟩
                · exact ⟨f1, by show upd c1.H p2 _ x ≠ none; rw [upd_ne ne, g1]; exact fun z => by cases z⟩
              · show upd c1.H p2 _ x = some o
                have := b.hh x o hx1 hx
                rw [upd_ne (ne_of_none this hp2)]; exact this
              · have hx : wHd c.k n = some x := hx
                rw [ec] at hx; cases hx
              · refine .inr ?_
                rcases hx with rfl | rfl
                · exact fre_back (c' := c1) r.ok b hp2
                · exact f3
              · have hx : wFp c.k x := hx
                rw [ec] at hx; exact hx.elim
            exact q (.ref p2) c2 rfl (r.bs.trans ke b2) ⟨p2, rfl, rfl⟩
end
end Z
namespace Z
open PySem PySem.Spec PyProof.Rows L2
section
variable {X : Cx} {W : Type} {wd : WD W} {cls : Nat → Addr} {e : Cur wd} {Wx : WX} {ex : Expr} {f : XF W}
theorem poN : PoZ X cls e Wx none none := trivial
theorem poS (h : PE X ex (tS cls X.K e Wx f)) : PoZ X cls e Wx (some ex) (some f) := h
end
end Z

set_option Elab.async false
set_option linter.all false
set_option maxRecDepth 100000
/-! # Z16: the law's end -/
namespace Z
open PySem PySem.Spec PyProof.Rows L2
theorem walk_Z {l : PySem.W.OpenLaw} {k : Nat} {q : Program} {loose : List Str} {XP : (Str → Option Value) → Heap → Prop} {YP : World → Heap → Prop} {d : DefRec} {fz : FZ Wd}
    (hn : l.most = some 63) (hdf : d.params.defaults = []) (hr : Room k callerA)
    (F : ∀ (w : World) (mg : Str → Option Value) (fa : Addr) (h : Heap), YP w h → h.Ns mainGlobals mg → mg d.name = some (.ref fa) → ∃ (K : PySem.W.Frag) (cls : Nat → Addr) (fd : FuncData), K.In h ∧ (∀ (s : Shared) (u : Value), BindsTo s fd ⟨[u], []⟩ [("_law_script", u)]) ∧
      ∀ base : Heap, K.In base → base.Ns mainGlobals mg → FnOk l.prog w K mg base (L2.CX l.prog w) k fa fd ["_law_script"] (spZ cls K WW 1 fz))
    (hm : ∀ ns : List Int, ns.length ≤ 63 → ∃ w', fz [.scr ns] none = .ok (.p (.bool true)) w') :
    PySem.W.WalkO q loose XP YP l.row.toRowW d [] (fun f vs => PySem.call f vs) := by
  refine Att.attach_call hn hdf fun w s₀ s₁ mg mb fa o pm cd doc a vs ns G Y ho hd hcd hmg hobj hints hlen hg => ?_
  obtain ⟨K, cls, fd, KX, hb, hF⟩ := F w mg fa _ Y G.T.g hmg
  refine law_call KX G.T.g G.T.b G.T.builtins G.T.nolimit hg hobj hints (Nat.le_trans hlen (by decide)) hr hF hb (fun H hO hS => ?_) fun H e s' => ?_
  · obtain ⟨w', e⟩ := hm ns hlen
    refine ⟨⟨none, H, none, H⟩, [.scr ns], rfl, ⟨Sub.refl _, trivial, fun _ h => h.elim⟩, ⟨_, [], rfl, ⟨a, rfl, hS⟩, rfl⟩, rfl, ?_⟩
    show afterF cls K _ (fz [.scr ns] none) _ _
    rw [e]
    exact fun u c' _ _ q => dv_bl.mp q
  · rintro ⟨_, _, _, _, _, _, _, _, _, _, _, _, z⟩
    exact z
section
variable {K : PySem.W.Frag} {h : Heap} {mg : Str → Option Value}
theorem df_of (X : K.In h) (G : h.Ns mainGlobals mg) {x : Str} {st : Stmt} (hg : (He.Fa.glo x).ok K = true) (hk : (He.Fa.keep x).ok K = true)
    (hd : ∃ oc od osl kV doc pm an cdv ct, K.lookup (He.fAd K (x, none)) = some ⟨oc, od, .func (PySem.W.fnOf x x (defArgs st) (defBody st) (defScope st) .none kV doc pm an cdv ct), osl⟩ ∧ PySem.W.codeIn K cdv x = true) : Df K mg x st := by
  obtain ⟨oc, od, osl, kV, doc, pm, an, cdv, ct, h1, h2⟩ := hd
  exact ⟨He.ga K x, _, He.glo_ok X G hg, fun_mk h1 h2 (He.keep_ok hk)⟩
theorem exC_of (X : K.In h) (G : h.Ns mainGlobals mg) {x : Str} (hg : (He.Fa.glo x).ok K = true) (hk : (He.Fa.exc x).ok K = true) : ExC K mg x (He.ga K x) := by
  obtain ⟨h1, h2, h3, h4⟩ := He.exc_ok hk
  exact ⟨He.glo_ok X G hg, h1, h2, h3, h4⟩
def zBt : List Str := ["len", "range", "isinstance", "sum", "tuple", "list", "all", "any", "enumerate", "zip", "sorted", "min", "max", "set", "str", "int", "bool", "ValueError"]
theorem bt_of (X : K.In h) (G : h.Ns mainGlobals mg) (hf : ∀ x ∈ zBt, (He.Fa.free x).ok K = true) : Bt mg := by
  have f : ∀ x, x ∈ zBt → mg x = none := fun x hx => He.free_ok X G (hf x hx)
  exact ⟨f _ (by decide), f _ (by decide), f _ (by decide), f _ (by decide), f _ (by decide), f _ (by decide), f _ (by decide), f _ (by decide), f _ (by decide), f _ (by decide), f _ (by decide), f _ (by decide), f _ (by decide), f _ (by decide), f _ (by decide), f _ (by decide), f _ (by decide), f _ (by decide)⟩
def zExc : List Str := ["BadSheet", "BadTable", "BadSums", "BadNumber", "BadChanges", "BadText", "NotFound", "SheetError"]
def zCls (K : PySem.W.Frag) (i : Nat) : Addr := He.ga K (zExc.getD i "")
theorem fact_of {fa : List He.Fa} {fn : List He.FnD} (c : He.SaysE fa fn K) {f : He.Fa} (h : f ∈ fa) : f.ok K = true := by
  obtain ⟨i, hi⟩ := List.getElem?_of_mem h
  exact c.fact i hi
end
end Z

set_option Elab.async false
set_option linter.all false
set_option maxRecDepth 100000
/-! # Z17: len(set(tuples)) -/
namespace Z
open PySem PySem.Spec PyProof.Rows L2
def tups? : List PyData → Option (List (List Int))
  | [] => some []
  | .tuple xs :: r => (ints? xs).bind fun ns => (tups? r).map (ns :: ·)
  | _ => none
/-- without what comes again -/
def ddp {α : Type} [DecidableEq α] : List α → List α
  | [] => []
  | x :: r => if x ∈ r then ddp r else x :: ddp r
theorem mem_ddp {α : Type} [DecidableEq α] {x : α} : ∀ {l : List α}, x ∈ ddp l ↔ x ∈ l
  | [] => Iff.rfl
  | y :: r => by
    unfold ddp
    split
    · rename_i h
      rw [mem_ddp, List.mem_cons]
      exact ⟨.inr, fun q => q.elim (fun e => e ▸ h) id⟩
    · rw [List.mem_cons, List.mem_cons, mem_ddp]
theorem nodup_ddp {α : Type} [DecidableEq α] : ∀ l : List α, (ddp l).Nodup
  | [] => List.nodup_nil
  | y :: r => by
    unfold ddp
    split
    · exact nodup_ddp r
    · rename_i h
      exact List.nodup_cons.mpr ⟨fun q => h (mem_ddp.mp q), nodup_ddp r⟩
theorem ddp_nodup {α : Type} [DecidableEq α] : ∀ {l : List α}, l.Nodup → ddp l = l
  | [], _ => rfl
  | y :: r, h => by
    obtain ⟨h1, h2⟩ := List.nodup_cons.mp h
    unfold ddp
    rw [if_neg h1, ddp_nodup h2]
theorem tups_dq {K : PySem.W.Frag} {F H : Hp} (s : Sub F H) : ∀ {ds : List PyData} {vs : List V} {ks : List (List Int)}, tups? ds = some ks → DqL F ds vs → ∃ ps : List (Addr × List Int), vs = ps.map (fun p => V.ref p.1) ∧ ps.map (·.2) = ks ∧ ∀ p ∈ ps, SqT K H p.1 (p.2.map V.int)
  | [], vs, ks, h, q => by
    rw [q.unnil]
    cases h
    exact ⟨[], rfl, rfl, fun p h => by cases h⟩
  | d :: ds, vs, ks, h, q => by
    obtain ⟨u, us, rfl, q1, q2⟩ := q.uncons
    cases d with
    | tuple xs =>
      have h : ((ints? xs).bind fun ns => (tups? ds).map (ns :: ·)) = some ks := h
      cases e1 : ints? xs with
      | none => rw [e1] at h; cases h
      | some ns =>
        rw [e1] at h
        cases e2 : tups? ds with
        | none => rw [e2] at h; cases h
        | some ks' =>
          rw [e2] at h
          cases h
          obtain ⟨ps, g1, g2, g3⟩ := tups_dq (K := K) s e2 q2
          simp only [Dq] at q1
          obtain ⟨a, vs, rfl, f1, f2⟩ := q1
          rw [ints?_eq e1] at f2
          rw [f2.ints] at f1
          refine ⟨(a, ns) :: ps, by rw [g1]; rfl, by rw [List.map_cons, g2], fun p hp => ?_⟩
          rcases List.mem_cons.mp hp with rfl | hp
          · exact SqT.of (s _ _ f1)
          · exact g3 p hp
    | _ => cases h
def gLenSet : D → Option D
  | .p (.list xs) => (tups? xs).bind fun ks => if ks.length < 64 then some (.p (.int ((ddp ks).length : Int))) else none
  | _ => none
section
variable {X : Cx} {W : Type} {wd : WD W} {cls : Nat → Addr} {e : Cur wd} {Wx : WX} {a : Expr} {f : XF W}
def tLenSetT (K : PySem.W.Frag) (ta : TE) : TE := fun σ H Q => ta σ H fun x H1 => ∃ (l : Addr) (ks : List (Addr × List Int)), x = V.ref l ∧ SqL K H1 l (ks.map fun p => V.ref p.1) ∧ (∀ p ∈ ks, SqT K H1 p.1 (p.2.map V.int)) ∧ ks.length < 64 ∧ Q (.int ((ddp (ks.map (·.2))).length : Int)) H1
theorem pe_lenSetT {ta : TE} {p p2 q pos : Pos} (hc : X.calm = true) (hu : X.A.units + 64 < cLine) (hg : Gl X "len") (hm : X.mg "len" = none) (hg2 : Gl X "set") (hm2 : X.mg "set" = none) (ha : PE X a ta)
    (na : starEach [a] X.env = (false, eval a X.env) :: starEach [] X.env := by rfl) : PE X (.Call (.Name "len" p) [.Call (.Name "set" p2) [a] [] q] [] pos) (tLenSetT X.K ta) := by
  refine ⟨fun pins s σ H Q I h => ?_⟩
  refine Call_ (ld_blt I hg hm PySem.boot_len ?_)
  refine PyProof.Rows.callWith_builtin1 (PyProof.Rows.args_cons ?_ rfl) rfl rfl
  refine Call_ (ld_blt I hg2 hm2 PyProof.Rows.boot_set ?_)
  refine PyProof.Rows.callWith_type1 (PyProof.Rows.args_cons (thn (ha.run pins s σ H _ I h) fun v s1 ⟨x, H1, I1, r1, q1⟩ => PyProof.Rows.args_nil ?_) na) na rfl
  obtain ⟨l, ks, rfl, hq, hk, hf, q1⟩ := q1
  cases r1
  obtain ⟨its, rv, pl, hz⟩ := I1.list hq
  refine call_set_tups (P := X.prog) (w := X.w) ks (I1.ok.hd hc) pl.isList (by simpa using refs_of_vals rv) (fun p hp => I1.isT (hk p hp)) hf (by omega) fun h' tk L es ep t R g k => ?_
  refine PyProof.Rows.args_nil ?_
  obtain ⟨o, ho, hex, hd⟩ := R.ob
  have I2 : Inv X pins σ H1 { s1 with heap := h', toks := tk } := I1.kept fun b o e => k b o e
  have hsz : es.size = L.length := by
    have := congrArg List.length R.rows
    unfold rowsOf at this
    rw [Array.length_toList, List.length_map] at this
    exact this
  have hL : L.length = (ddp (ks.map (·.2))).length := by
    rw [← List.length_map (f := fun (p : Addr × List Int) => p.2)]
    refine List.Perm.length_eq ((List.perm_ext_iff_of_nodup R.nd (nodup_ddp _)).mpr fun z => ?_)
    rw [mem_ddp]
    constructor
    · intro hz
      obtain ⟨p, hp, rfl⟩ := List.mem_map.mp hz
      exact List.mem_map.mpr ⟨p, List.mem_of_mem_take (g.sub p hp), rfl⟩
    · intro hz
      obtain ⟨p, hp, rfl⟩ := List.mem_map.mp hz
      exact g.all p (by rw [List.take_length]; exact hp)
  refine call_len_set ho hex hd (SetTR.fits (s := { s1 with heap := h', toks := tk }) R) (by have := R.few; rw [hsz]; omega) ⟨.int ((ddp (ks.map (·.2))).length : Int), H1, I2.tok _, ⟨_, by rw [hsz, hL]⟩, q1⟩
theorem s_lenSet {p p2 q pos : Pos} (ke : Ok e) (hc : X.calm = true) (hu : X.A.units + 64 < cLine) (hm : X.mg "len" = none) (hm2 : X.mg "set" = none) (ha : PE X a (tS cls X.K e Wx f)) (hg : Gl X "len" := by rfl) (hg2 : Gl X "set" := by rfl)
    (na : starEach [a] X.env = (false, eval a X.env) :: starEach [] X.env := by rfl) : PE X (.Call (.Name "len" p) [.Call (.Name "set" p2) [a] [] q] [] pos) (tS cls X.K e Wx (x1 gLenSet f)) :=
  pe_imp (pe_lenSetT hc hu hg hm hg2 hm2 ha na) fun σ H Q ⟨c, δ, eH, r, q⟩ => by
    rw [← eH]
    refine tS_imp (after_one ke r q) fun u H1 ⟨x, c2, e2, b2, r2, q2, q3⟩ => ?_
    replace q3 := after_opt q3
    rw [← e2]
    unfold gLenSet at q3
    split at q3
    · rename_i xs
      obtain ⟨l, vs, rfl, h1, h2⟩ := dv_lst.mp q2
      cases z : tups? xs with
      | none => rw [z] at q3; exact gives_no q3
      | some ks =>
        rw [z] at q3
        dsimp only [Option.bind] at q3
        by_cases hl : ks.length < 64
        · rw [if_pos hl] at q3
          obtain ⟨ps, g1, g2, g3⟩ := tups_dq (K := X.K) r2.ok.fh z h2
          subst g1 g2
          exact ⟨l, ps, rfl, SqL.of (r2.ok.fh _ _ h1), g3, by rw [List.length_map] at hl; exact hl, gives_v q3 r2.ok (dv_int.mpr rfl)⟩
        · rw [if_neg hl] at q3; exact gives_no q3
    · exact gives_no q3
end
end Z

set_option Elab.async false
set_option linter.all false
set_option maxRecDepth 100000
/-! # Z18: memo tables, a world: dicts whose keys are nested tuples of ints -/
namespace Z
open PySem PySem.Spec PyProof.Rows L2
mutual
def nk : PyData → Option NestedKey
  | .none => some .none
  | .int i => some (.num i)
  | .tuple xs => (nkL xs).map .tup
  | _ => none
def nkL : List PyData → Option (List NestedKey)
  | [] => some []
  | x :: xs => (nk x).bind fun k => (nkL xs).map (k :: ·)
end
mutual
theorem nested_of {X : Cx} {pins : List (Addr × Obj)} {σ : L2.St} {H F : Hp} {s : Shared} (I : Inv X pins σ H s) (sb : Sub F H) : ∀ (d : PyData) (k : NestedKey) (v : V) (u : Value), nk d = some k → Dq F d v → RelV v u → NestedIs s.heap k u
  | .none, k, v, u, h, q, r => by
    simp only [nk, Option.some.injEq] at h
    simp only [Dq] at q
    subst h; subst q
    cases r
    exact .none
  | .int i, k, v, u, h, q, r => by
    simp only [nk, Option.some.injEq] at h
    simp only [Dq] at q
    subst h; subst q
    obtain ⟨t, rfl⟩ := r
    exact .int i t
  | .tuple xs, k, v, u, h, q, r => by
    simp only [nk, Option.map_eq_some_iff] at h
    obtain ⟨ks, h1, rfl⟩ := h
    simp only [Dq] at q
    obtain ⟨a, vs, rfl, f1, f2⟩ := q
    cases r
    obtain ⟨its, rv, ⟨o, ho, hc, n, hd⟩, _⟩ := I.tuple (SqT.of (sb _ _ f1))
    exact .tup ho hc hd (by simpa using nestedL_of I sb xs ks vs its h1 f2 rv)
  | .bool _, _, _, _, h, _, _ => by simp [nk] at h
  | .str _, _, _, _, h, _, _ => by simp [nk] at h
  | .list _, _, _, _, h, _, _ => by simp [nk] at h
  | .dict _, _, _, _, h, _, _ => by simp [nk] at h
theorem nestedL_of {X : Cx} {pins : List (Addr × Obj)} {σ : L2.St} {H F : Hp} {s : Shared} (I : Inv X pins σ H s) (sb : Sub F H) : ∀ (ds : List PyData) (ks : List NestedKey) (vs : List V) (us : List Value), nkL ds = some ks → DqL F ds vs → Vals vs us → NestedAll s.heap ks us
  | [], ks, vs, us, h, q, r => by
    simp only [nkL, Option.some.injEq] at h
    subst h
    rw [q.unnil] at r
    cases r
    exact .nil
  | d :: ds, ks, vs, us, h, q, r => by
    simp only [nkL] at h
    cases h1 : nk d with
    | none => rw [h1] at h; cases h
    | some k =>
      rw [h1] at h
      simp only [Option.bind_some, Option.map_eq_some_iff] at h
      obtain ⟨ks', h2, rfl⟩ := h
      obtain ⟨u, us', rfl, q1, q2⟩ := q.uncons
      cases r with
      | cons r1 r2 => exact .cons (nested_of I sb d k u _ h1 q1 r1) (nestedL_of I sb ds ks' us' _ h2 q2 r2)
end
/-! ## the dict's object -/
abbrev Ent := NestedKey × Addr × V
abbrev EntV := NestedKey × Addr × Value
def EntsR : List Ent → List EntV → Prop
  | [], xs => xs = []
  | e :: es, xs => ∃ x r, xs = x :: r ∧ e.1 = x.1 ∧ e.2.1 = x.2.1 ∧ RelV e.2.2 x.2.2 ∧ EntsR es r
def DcP (P : Program) (w : World) (a : Addr) (ents : List Ent) (h : Heap) : Prop :=
  ∃ (xs : List EntV) (o : Obj) (es : Array DictEntry) (ep : Nat), EntsR ents xs ∧ h.get? a = some o ∧ o.ExactDict ∧ o.data = .dict es ep ∧ es.toList = xs.map (entryOfKey (nestedKind P w)) ∧ (xs.map (·.1)).Nodup ∧ (a == sysModules) = false
def DcZ (P : Program) (w : World) (a : Addr) (ents : List Ent) : HO := .ext (DcP P w a ents)
theorem dcZ_ok {P : Program} {w : World} {H : Hp} {h : Heap} {a : Addr} {ents : List Ent} (x : DcP P w a ents h) : ObjOk P w H h a (DcZ P w a ents) := by
  refine ⟨x, ?_, fun h1 h2 p k => ?_⟩
  · obtain ⟨xs, o, es, ep, _, ho, _⟩ := x
    exact ⟨o, ho⟩
  · obtain ⟨xs, o, es, ep, g1, g2, g3⟩ := p
    exact ⟨xs, o, es, ep, g1, k o g2, g3⟩
theorem entsR_len : ∀ {es : List Ent} {xs : List EntV}, EntsR es xs → xs.length = es.length
  | [], _, h => by
    have h : _ = [] := h
    rw [h]; rfl
  | e :: es, _, ⟨x, r, h, _, _, _, t⟩ => by rw [h, List.length_cons, List.length_cons, entsR_len t]
theorem entsR_mem : ∀ {es : List Ent} {xs : List EntV}, EntsR es xs → ∀ x ∈ xs, ∃ e ∈ es, e.1 = x.1 ∧ e.2.1 = x.2.1 ∧ RelV e.2.2 x.2.2
  | [], _, h, x, hx => by
    have h : _ = [] := h
    rw [h] at hx; cases hx
  | e :: es, _, ⟨y, r, h, h1, h2, h3, t⟩, x, hx => by
    rw [h] at hx
    rcases List.mem_cons.mp hx with rfl | hx
    · exact ⟨e, List.mem_cons_self, h1, h2, h3⟩
    · obtain ⟨e', m, g⟩ := entsR_mem t x hx
      exact ⟨e', List.mem_cons_of_mem _ m, g⟩
def lookE (es : List Ent) (k : NestedKey) : Option (Addr × V) := (es.find? fun e => decide (e.1 = k)).map (·.2)
theorem entsR_look (k : NestedKey) : ∀ {es : List Ent} {xs : List EntV}, EntsR es xs → (atKey xs k).isSome = (lookE es k).isSome ∧ ∀ p, lookE es k = some p → ∃ q, atKey xs k = some q ∧ RelV p.2 q.2
  | [], _, h => by
    have h : _ = [] := h
    rw [h]
    exact ⟨rfl, fun p h => by cases h⟩
  | e :: es, _, ⟨x, r, h, h1, h2, h3, t⟩ => by
    rw [h]
    unfold lookE atKey
    by_cases z : e.1 = k
    · have z' : x.1 = k := h1 ▸ z
      rw [List.find?_cons_of_pos (by simpa using z'), List.find?_cons_of_pos (by simpa using z)]
      exact ⟨rfl, fun p hp => by cases hp; exact ⟨_, rfl, h3⟩⟩
    · have z' : ¬x.1 = k := fun q => z (h1.trans q)
      rw [List.find?_cons_of_neg (by simpa using z'), List.find?_cons_of_neg (by simpa using z)]
      exact entsR_look k t
theorem entsR_snoc {k : NestedKey} {b : Addr} {v : V} {u : Value} (hr : RelV v u) : ∀ {es : List Ent} {xs : List EntV}, EntsR es xs → EntsR (es ++ [(k, b, v)]) (xs ++ [(k, b, u)])
  | [], _, h => by
    have h : _ = [] := h
    rw [h]
    exact ⟨_, _, rfl, rfl, rfl, hr, rfl⟩
  | e :: es, _, ⟨x, r, h, h1, h2, h3, t⟩ => by
    rw [h]
    exact ⟨x, _, rfl, h1, h2, h3, entsR_snoc hr t⟩
/-! ## the world -/
abbrev Memo := List (PyData × PyData)
def EntF (F : Hp) : List Ent → Memo → Prop
  | [], m => m = []
  | e :: es, m => ∃ kv r, m = kv :: r ∧ nk kv.1 = some e.1 ∧ e.1.depth ≤ 8 ∧ Dq F kv.1 (.ref e.2.1) ∧ Dq F kv.2 e.2.2 ∧ EntF F es r
theorem EntF.mono {F F' : Hp} (s : Sub F F') : ∀ {es : List Ent} {m : Memo}, EntF F es m → EntF F' es m
  | [], _, h => h
  | _ :: _, _, ⟨kv, r, h, h1, h2, h3, h4, t⟩ => ⟨kv, r, h, h1, h2, Dq.mono s _ _ h3, Dq.mono s _ _ h4, t.mono s⟩
theorem EntF.mem {F : Hp} : ∀ {es : List Ent} {m : Memo}, EntF F es m → ∀ e ∈ es, ∃ d, nk d = some e.1 ∧ e.1.depth ≤ 8 ∧ Dq F d (.ref e.2.1)
  | [], _, _, e, he => by cases he
  | x :: es, _, ⟨kv, r, h, h1, h2, h3, h4, t⟩, e, he => by
    rcases List.mem_cons.mp he with rfl | he
    · exact ⟨kv.1, h1, h2, h3⟩
    · exact t.mem e he
def lookM (m : Memo) (k : NestedKey) : Option PyData := (m.find? fun kv => decide (nk kv.1 = some k)).map (·.2)
theorem EntF.look {F : Hp} (k : NestedKey) : ∀ {es : List Ent} {m : Memo}, EntF F es m → (lookE es k).isSome = (lookM m k).isSome ∧ ∀ d, lookM m k = some d → ∃ p, lookE es k = some p ∧ Dq F d p.2
  | [], _, h => by
    have h : _ = [] := h
    rw [h]
    exact ⟨rfl, fun p h => by cases h⟩
  | e :: es, _, ⟨kv, r, h, h1, h2, h3, h4, t⟩ => by
    rw [h]
    unfold lookE lookM
    by_cases z : e.1 = k
    · have z' : nk kv.1 = some k := by rw [h1, z]
      rw [List.find?_cons_of_pos (by simpa using z), List.find?_cons_of_pos (by simpa using z')]
      exact ⟨rfl, fun p hp => by cases hp; exact ⟨_, rfl, h4⟩⟩
    · have z' : ¬nk kv.1 = some k := fun q => z (by rw [h1] at q; exact Option.some.inj q)
      rw [List.find?_cons_of_neg (by simpa using z), List.find?_cons_of_neg (by simpa using z')]
      exact t.look k
theorem EntF.snoc {F : Hp} {kv : PyData × PyData} {e : Ent} (h1 : nk kv.1 = some e.1) (h2 : e.1.depth ≤ 8) (h3 : Dq F kv.1 (.ref e.2.1)) (h4 : Dq F kv.2 e.2.2) : ∀ {es : List Ent} {m : Memo}, EntF F es m → EntF F (es ++ [e]) (m ++ [kv])
  | [], _, h => by
    have h : _ = [] := h
    rw [h]
    exact ⟨kv, [], rfl, h1, h2, h3, h4, rfl⟩
  | _ :: _, _, ⟨kv', r, h, g1, g2, g3, g4, t⟩ => by
    rw [h]
    exact ⟨kv', _, rfl, g1, g2, g3, g4, t.snoc h1 h2 h3 h4⟩
def MemAt (P : Program) (w : World) (F H : Hp) (a : Addr) (m : Memo) : Prop := ∃ ents, H a = some (DcZ P w a ents) ∧ EntF F ents m ∧ ents.length ≤ lim
def relM (P : Program) (w : World) (k : List Addr) (ms : List Memo) (F H : Hp) : Prop := k.Nodup ∧ k.length = ms.length ∧ ∀ (i : Nat) a m, k[i]? = some a → ms[i]? = some m → MemAt P w F H a m
def WM (P : Program) (w : World) : WD (List Memo) where
  Key := List Addr
  rel := relM P w
  fp := fun k x => x ∈ k
  hd := fun k n => k[n]?
  stab := fun k ms F F' H H' h s q => ⟨h.1, h.2.1, fun i a m h1 h2 => by
    obtain ⟨ents, g1, g2, g3⟩ := h.2.2 i a m h1 h2
    exact ⟨ents, (q a (List.mem_of_getElem? h1)).trans g1, g2.mono s, g3⟩⟩
/-! a def that knows memo tables of its own alone, called elsewhere -/
section
variable {W : Type} {wd : WD W} {cls : Nat → Addr} {n : Nat} {f : Addr} {fd : FuncData} {ps : List Str} {k : Nat}
def liftM (fz : FZ (List Memo)) : FZ W := fun ds w => if ds.all noObj = true then match fz ds [] with
    | .ok d _ => if noObj d = true then .ok d w else .bad
    | .exc n _ => .exc n w
    | .bad => .bad
  else .bad
def cuM (P : Program) (w : World) (c : Cur wd) : Cur (WM P w) := ⟨([] : List Addr), c.F, [], c.H⟩
theorem cuM_ok {P : Program} {w : World} {c : Cur wd} (k : Ok c) : Ok (cuM P w c) := ⟨k.fh, ⟨List.nodup_nil, rfl, fun i a m h _ => by cases h⟩, fun a h => by cases (show a ∈ ([] : List Addr) from h)⟩
theorem cuM_bs {P : Program} {w : World} {c : Cur wd} {c' : Cur (WM P w)} (k : Ok c) (b : Bs (cuM P w c) c') : Bs c ⟨c.k, c'.F, c.w, c'.H⟩ where
  ok := ⟨b.ok.fh, wd.stab _ _ _ _ _ _ k.wr b.ff fun a ha => by
      obtain ⟨u, hu⟩ := (none_or (c.H a)).resolve_left (k.wf a ha).2
      show c'.H a = c.H a
      rw [hu]; exact b.hh a u (fun z => by cases (show a ∈ ([] : List Addr) from z)) hu, fun a ha => by
      obtain ⟨h1, h2⟩ := k.wf a ha
      refine ⟨?_, fun z => ?_⟩
      · rcases none_or (c'.F a) with q | ⟨v, q⟩
        · exact q
        · rcases b.fn a (by rw [q]; exact fun z => by cases z) with z | z
          · exact absurd h1 z
          · exact absurd z h2
      · obtain ⟨u, hu⟩ := (none_or (c.H a)).resolve_left h2
        have := b.hh a u (fun z => by cases (show a ∈ ([] : List Addr) from z)) hu
        have z : c'.H a = none := z
        rw [z] at this; cases this⟩
  ff := b.ff
  hh := fun a o _ h => b.hh a o (fun z => by cases (show a ∈ ([] : List Addr) from z)) h
  fn := b.fn
  kh := fun _ _ h => h
  kf := fun _ h => .inl h
  kg := fun _ h => h
theorem cuM_dv {P : Program} {w : World} {K : PySem.W.Frag} {c : Cur wd} {d : D} {v : V} (hn : noObj d = true) (h : Dv cls K c d v) : Dv cls K (cuM P w c) d v := by
  cases d with
  | p d => exact h
  | exc n => exact h
  | obj n => cases hn
  | scr ns => exact h
  | opq => trivial
theorem dv_cuM {P : Program} {w : World} {K : PySem.W.Frag} {c : Cur wd} {c' : Cur (WM P w)} {d : D} {v : V} (hn : noObj d = true) (h : Dv cls K c' d v) : Dv cls K (⟨c.k, c'.F, c.w, c'.H⟩ : Cur wd) d v := by
  cases d with
  | p d => exact h
  | exc n => exact h
  | obj n => cases hn
  | scr ns => exact h
  | opq => trivial
theorem cuM_dvl {P : Program} {w : World} {K : PySem.W.Frag} {c : Cur wd} : ∀ {ds : List D} {vs : List V}, ds.all noObj = true → DvL cls K c ds vs → DvL cls K (cuM P w c) ds vs
  | [], _, _, h => h
  | d :: ds, vs, hn, ⟨u, us, e1, q, t⟩ => by
    rw [List.all_cons, Bool.and_eq_true] at hn
    exact ⟨u, us, e1, cuM_dv hn.1 q, cuM_dvl hn.2 t⟩
theorem sp_liftM {P : Program} {w : World} {K : PySem.W.Frag} {f0 : FZ (List Memo)} (vs : List V) (H : Hp) (Q : VK) (E : XK) (h : spZ cls K wd n (liftM f0) vs H Q E) : spZ cls K (WM P w) n f0 vs H Q E := by
  obtain ⟨c, ds, eH, k, q, hl, h⟩ := h
  unfold liftM at h
  by_cases hn : ds.all noObj = true
  · rw [if_pos hn] at h
    refine ⟨cuM P w c, ds, eH, cuM_ok k, cuM_dvl hn q, hl, ?_⟩
    show afterF cls K (cuM P w c) (f0 ds []) Q E
    cases z : f0 ds [] with
    | bad => rw [z] at h; exact h
    | exc m w => rw [z] at h; exact fun c' _ b => h ⟨c.k, c'.F, c.w, c'.H⟩ rfl (cuM_bs k b)
    | ok d w =>
      rw [z] at h
      dsimp only at h
      by_cases hd : noObj d = true
      · rw [if_pos hd] at h
        exact fun u c' _ b q' => h u ⟨c.k, c'.F, c.w, c'.H⟩ rfl (cuM_bs k b) (dv_cuM hd q')
      · rw [if_neg hd] at h; exact h.elim
  · rw [if_neg hn] at h; exact h.elim
theorem Kp.liftM {P : Program} {w : World} {K : PySem.W.Frag} {mg : Str → Option Value} {base : Heap} {x : Str} {f0 : FZ (List Memo)} (h : Kp P w K mg base cls (WM P w) x k n f0) : Kp P w K mg base cls wd x k n (liftM f0) := by
  obtain ⟨f, fd, ps, h1, h2, h3, h4⟩ := h
  exact ⟨f, fd, ps, h1, h2, h3, h4.imp fun vs H Q E h => sp_liftM vs H Q E h⟩
end
/-! no promise at all (the fuel's end) -/
theorem kp_bad {P : Program} {w : World} {K : PySem.W.Frag} {mg : Str → Option Value} {base : Heap} {W : Type} {wd : WD W} {cls : Nat → Addr} {x : Str} {k n : Nat} {f0 : FZ W} (h : Kp P w K mg base cls wd x k n f0) : Kp P w K mg base cls wd x k n (fun _ _ => .bad) := by
  obtain ⟨f, fd, ps, h1, h2, h3, h4⟩ := h
  exact ⟨f, fd, ps, h1, h2, h3, h4.imp fun vs H Q E ⟨c, ds, _, _, _, _, z⟩ => z.elim⟩
end Z

set_option Elab.async false
set_option linter.all false
set_option maxRecDepth 100000
/-! # Z19: what is done with memo tables -/
namespace Z
open PySem PySem.Spec PyProof.Rows L2
section
variable {X : Cx} {W : Type} {wd : WD W} {cls : Nat → Addr} {e : Cur wd} {Wx : WX} {a b : Expr} {pos : Pos}
def rGW (cls : Nat → Addr) (K : PySem.W.Frag) (wd : WD W) (g : D → D → W → Option D) : R2 := fun u v H Q => ∃ (c : Cur wd) (x y : D), c.H = H ∧ Ok c ∧ Dv cls K c x u ∧ Dv cls K c y v ∧ gives cls K c (g x y c.w) Q
def x2W (g : D → D → W → Option D) (f h : XF W) : XF W := fun δ w => (f δ w).bind fun x w1 => (h δ w1).bind fun y w2 => opt (g x y w2) w2
theorem s_cmpW {op : CmpOp} {g : D → D → W → Option D} {f h : XF W} (ke : Ok e) (ho : OpR X (compareOp op) (rGW cls X.K wd g)) (ha : PE X a (tS cls X.K e Wx f)) (hb : PE X b (tS cls X.K e Wx h)) (hm : behindInMarks op b = false) : PE X (.Compare a [op] [b] pos) (tS cls X.K e Wx (x2W g f h)) :=
  pe_imp (pe_cmpR ho ha hb hm) fun σ H Q ⟨c, δ, eH, r, q⟩ => by
    rw [← eH]
    have z := after_two (k := fun x y w => opt (g x y w) w) ke r q
    obtain ⟨c0, δ0, e0, r0, q0⟩ := z
    exact ⟨c0, δ0, e0, r0, after_mono q0 fun u c1 _ ⟨c1', δ1, e1, r1, q1⟩ => ⟨c1', δ1, e1, r1, after_mono q1 fun v c2 _ ⟨x, y, c2', e2, r2, q2, q3, q4⟩ => ⟨c2', x, y, e2, r2.ok, q2, q3, after_opt q4⟩⟩⟩
theorem xB_x2W {g : D → D → W → Option D} {f h : XF W} {k : D → Option Bool} {δ : Ev} {w : W} : xB k (x2W g f h) δ w = ((f δ w).bind fun x w1 => (h δ w1).bind fun y w2 => (opt (g x y w2) w2).bind fun z w3 => optB (k z) w3) := by
  unfold xB x2W
  cases f δ w with
  | bad => rfl
  | exc _ _ => rfl
  | ok x w1 =>
    dsimp only [Res.bind]
    cases h δ w1 with
    | bad => rfl
    | exc _ _ => rfl
    | ok y w2 => rfl
theorem st_cmpW {op : CmpOp} {g : D → D → W → Option D} {f h : XF W} (ke : Ok e) (ho : OpR X (compareOp op) (rGW cls X.K wd g)) (ha : PE X a (tS cls X.K e Wx f)) (hb : PE X b (tS cls X.K e Wx h)) (hm : behindInMarks op b = false) : PT X (.Compare a [op] [b] pos) (tSB cls X.K e Wx (xB asB (x2W g f h))) :=
  pt_imp (pt_cmpR ho ha hb hm) fun σ H Q ⟨c, δ, eH, r, q⟩ => by
    rw [← eH]
    rw [xB_x2W] at q
    show tS cls X.K e Wx f σ c.H _
    refine tS_imp (after_oneB (K := X.K) ke r q) fun u H1 ⟨x, c2, e2, b2, r2, q2, q3⟩ => ?_
    rw [← e2]
    refine tS_imp (after_oneB (K := X.K) ke r2 q3) fun v H2 ⟨y, c3, e3, b3, r3, q4, q5⟩ => ?_
    exact ⟨c3, x, y, e3, r3.ok, q2.mono b3, q4, gives_B q5⟩
end
section
variable {X : Cx} {cls : Nat → Addr}
theorem mem_dict {c : Cur (WM X.prog X.w)} {pins : List (Addr × Obj)} {σ : L2.St} {s : Shared} {n : Nat} {a : Addr} {m : Memo} (I : Inv X pins σ c.H s) (k : Ok c) (hk : (show List Addr from c.k)[n]? = some a) (hm : c.w[n]? = some m) :
    ∃ (ents : List Ent) (xs : List EntV), c.H a = some (DcZ X.prog X.w a ents) ∧ EntsR ents xs ∧ EntF c.F ents m ∧ s.heap.DictOfH (nestedKind X.prog X.w) a xs ∧ (a == sysModules) = false ∧ ents.length ≤ lim := by
  obtain ⟨ents, g1, g2, g3⟩ := k.wr.2.2 n a m hk hm
  obtain ⟨⟨xs, o, es, ep, f1, f2, f3, f4, f5, f6, f7⟩, _, _⟩ := I.hok a _ g1
  refine ⟨ents, xs, g1, f1, g2, ⟨o, es, ep, f2, f3, f4, f5, fun x hx => ?_, f6⟩, f7, g3⟩
  obtain ⟨e, he, h1, h2, h3⟩ := entsR_mem f1 x hx
  obtain ⟨d, d1, d2, d3⟩ := g2.mem e he
  rw [h1] at d1 d2
  rw [h2] at d3
  exact ⟨nested_of I k.fh d x.1 (.ref x.2.1) (.ref x.2.1) d1 d3 rfl, d2⟩
def keyOf (d : PyData) : Option NestedKey := match d with
  | .tuple xs => (nk (.tuple xs)).bind fun k => if k.depth ≤ 8 then some k else none
  | _ => none
theorem key_is {c : Cur (WM X.prog X.w)} {pins : List (Addr × Obj)} {σ : L2.St} {s : Shared} (I : Inv X pins σ c.H s) (k : Ok c) {d : PyData} {key : NestedKey} (h : keyOf d = some key) {v : V} {u : Value} (q : Dq c.F d v) (r : RelV v u) :
    ∃ b, v = .ref b ∧ u = .ref b ∧ (nestedKind X.prog X.w).is s.heap key b ∧ nk d = some key ∧ key.depth ≤ 8 := by
  unfold keyOf at h
  split at h
  · rename_i xs
    cases e1 : nk (.tuple xs) with
    | none => rw [e1] at h; cases h
    | some k' =>
      rw [e1] at h
      dsimp only [Option.bind] at h
      by_cases hd : k'.depth ≤ 8
      · rw [if_pos hd] at h
        cases h
        have q' := q
        simp only [Dq] at q'
        obtain ⟨b, vs, rfl, _, _⟩ := q'
        cases r
        exact ⟨b, rfl, rfl, ⟨nested_of I k.fh (.tuple xs) _ (.ref b) (.ref b) e1 q rfl, hd⟩, rfl, hd⟩
      · rw [if_neg hd] at h; cases h
  · cases h
theorem room8 {A : Around} (h : A.units + 64 < cLine) : (nestedKind X.prog X.w).room A.in1 := by
  show A.units + 1 + 8 < cLine
  omega
def gInM (neg : Bool) (x y : D) (w : List Memo) : Option D := match x, y with
  | .p d, .obj n => (keyOf d).bind fun k => (w[n]?).map fun m => .p (.bool (xor neg (lookM m k).isSome))
  | _, _ => none
theorem og_notInM (hu : X.A.units + 64 < cLine) : OpR X (compareOp .NotIn) (rGW cls X.K (WM X.prog X.w) (gInM true)) := by
  intro pins s σ H u v p p' Q I rx ry ⟨c, x, y, eH, k, qx, qy, q⟩
  subst eH
  unfold gInM at q
  split at q
  · rename_i d n
    cases e1 : keyOf d with
    | none => rw [e1] at q; exact gives_no q
    | some key =>
      rw [e1] at q
      cases e2 : c.w[n]? with
      | none => rw [e2] at q; exact gives_no q
      | some m =>
        rw [e2] at q
        obtain ⟨b, rfl, rfl, hb, _, _⟩ := key_is I k e1 qx rx
        obtain ⟨a, rfl, ha⟩ := qy
        cases ry
        obtain ⟨ents, xs, g1, g2, g3, g4, g5, g6⟩ := mem_dict I k ha e2
        refine notIn_keyed (kvs := pairsH xs) (room8 hu) hb g5 ⟨xs, g4, rfl⟩ ?_
        have el : (valueAt (pairsH xs) key).isSome = (lookM m key).isSome := by
          rw [valueAt_pairsH, Option.isSome_map, (entsR_look key g2).1, (g3.look key).1]
        rw [el]
        exact ⟨.bl (!(lookM m key).isSome), c.H, I.tok _, rfl, gives_v q k (dv_bl.mpr (by rw [Bool.true_xor]))⟩
  · exact gives_no q
theorem ents_new {ents : List Ent} {xs : List EntV} {m : Memo} {F : Hp} {key : NestedKey} (g2 : EntsR ents xs) (g3 : EntF F ents m) (h : lookM m key = none) : atKey xs key = none := by
  have e1 := (entsR_look key g2).1
  have e2 := (g3.look key).1
  rw [e2, h] at e1
  cases z : atKey xs key with
  | none => rfl
  | some _ => rw [z] at e1; cases e1
end
section
variable {X : Cx} {cls : Nat → Addr} {e : Cur (WM X.prog X.w)} {Wx : WX} {a b ex o : Expr} {pos pos' : Pos} {f h k fo : XF (List Memo)}
/-! known[k] -/
def gIxM (x y : D) (w : List Memo) : Option D := match x, y with
  | .obj n, .p d => (keyOf d).bind fun k => (w[n]?).bind fun m => (lookM m k).map .p
  | _, _ => none
theorem s_ixM (ke : Ok e) (hu : X.A.units + 64 < cLine) (ho : PE X o (tS cls X.K e Wx fo)) (hi : PE X b (tS cls X.K e Wx k)) (hs : NoSl b := by exact fun _ _ => rfl) : PE X (.Subscript o b pos) (tS cls X.K e Wx (x2W gIxM fo k)) := by
  refine ⟨fun pins s σ H Q I ⟨c, δ, eH, r, q⟩ => ?_⟩
  subst eH
  have z := after_two (k := fun x y w => opt (gIxM x y w) w) ke r q
  refine subD_of PySem.F.slot_dict_getitem.lookup hs (thn (ho.run pins s σ c.H _ I z) fun u s1 ⟨x, H1, I1, rx, q1⟩ => thn (hi.run pins s1 σ H1 _ I1 q1) fun iv s2 ⟨y, H2, I2, ry, xd, yd, c2, e2, r2, qx, qy, q3⟩ => ?_)
  subst e2
  replace q3 := after_opt q3
  unfold gIxM at q3
  split at q3
  · rename_i n d
    cases e1 : keyOf d with
    | none => rw [e1] at q3; exact gives_no q3
    | some key =>
      rw [e1] at q3
      cases e2 : c2.w[n]? with
      | none => rw [e2] at q3; exact gives_no q3
      | some m =>
        rw [e2] at q3
        dsimp only [Option.bind] at q3
        cases e3 : lookM m key with
        | none => rw [e3] at q3; exact gives_no q3
        | some vd =>
          rw [e3] at q3
          obtain ⟨bb, rfl, rfl, hb, _, _⟩ := key_is I2 r2.ok e1 qy ry
          obtain ⟨aa, rfl, ha⟩ := qx
          cases rx
          obtain ⟨ents, xs, g1, g2, g3, g4, g5, g6⟩ := mem_dict I2 r2.ok ha e2
          obtain ⟨p, hp, hv⟩ := (g3.look key).2 vd e3
          obtain ⟨q', hq', rv⟩ := (entsR_look key g2).2 p hp
          refine ⟨g4.typeIs, wpAny_getItem_heap (room8 hu) hb g4 hq' ⟨p.2, c2.H, I2.tok _, rv, gives_v q3 r2.ok hv⟩⟩
  · exact gives_no q3
theorem nodup_ix {α : Type} : ∀ {xs : List α} {i j : Nat} {x : α}, xs.Nodup → xs[i]? = some x → xs[j]? = some x → i = j
  | [], _, _, _, _, h, _ => by cases h
  | y :: ys, 0, 0, _, _, _, _ => rfl
  | y :: ys, 0, j + 1, x, hn, h1, h2 => by
    cases h1
    exact absurd (List.mem_of_getElem? (by simpa using h2)) (List.nodup_cons.mp hn).1
  | y :: ys, i + 1, 0, x, hn, h1, h2 => by
    cases h2
    exact absurd (List.mem_of_getElem? (by simpa using h1)) (List.nodup_cons.mp hn).1
  | y :: ys, i + 1, j + 1, x, hn, h1, h2 => by
    have h1' : ys[i]? = some x := by simpa using h1
    have h2' : ys[j]? = some x := by simpa using h2
    rw [nodup_ix (List.nodup_cons.mp hn).2 h1' h2']
/-! known[k] = e, k new -/
def upM (x y z : D) (w : List Memo) : Option (List Memo) := match y, z, x with
  | .obj n, .p d, .p v => (keyOf d).bind fun k => (w[n]?).bind fun m => if lookM m k = none ∧ m.length < 100000 then some (w.set n (m ++ [(d, v)])) else none
  | _, _, _ => none
def sSetM (fo k f : XF (List Memo)) : SF (List Memo) := fun δ w => match f δ w with
  | .ok x w1 => match fo δ w1 with
    | .ok y w2 => match k δ w2 with
      | .ok z w3 => match upM x y z w3 with
        | some w4 => .nx δ w4
        | none => .bad
      | _ => .bad
    | _ => .bad
  | .exc n w' => .exc n δ w'
  | .bad => .bad
theorem entF_len {F : Hp} : ∀ {es : List Ent} {m : Memo}, EntF F es m → m.length = es.length
  | [], _, h => by
    have h : _ = [] := h
    rw [h]; rfl
  | _ :: _, _, ⟨_, _, h, _, _, _, _, t⟩ => by rw [h, List.length_cons, List.length_cons, entF_len t]
theorem ss_setM (ke : Ok e) (hu : X.A.units + 64 < cLine) (ho : PE X o (tS cls X.K e Wx fo)) (hi : PE X b (tS cls X.K e Wx k)) (hv : PE X ex (tS cls X.K e Wx f)) (hs : swapsWith ex (some (.Subscript o b pos')) pos.line X.env = pure false := by rfl) :
    PS X (.Assign [.Subscript o b pos'] ex pos) (tSS cls X.K e Wx (sSetM fo k f)) := by
  refine ⟨fun pins s σ H Dn I ⟨c, δ, eH, r, q⟩ => ?_⟩
  subst eH
  have hq : tS cls X.K e Wx f σ c.H fun u H1 => tS cls X.K e Wx fo σ H1 fun v H2 => tS cls X.K e Wx k σ H2 fun t H3 => ∃ x y z c3 w4, c3.H = H3 ∧ Rz cls X.K e c3 δ σ ∧ Dv cls X.K c3 x u ∧ Dv cls X.K c3 y v ∧ Dv cls X.K c3 z t ∧ upM x y z c3.w = some w4 ∧ ∀ c4 : Cur (WM X.prog X.w), c4.w = w4 → c4.F = c3.F → Rz cls X.K e c4 δ σ → Dn.nx σ c4.H := by
    refine ⟨c, δ, rfl, r, ?_⟩
    unfold sSetM at q
    cases z : f δ c.w with
    | bad => rw [z] at q; exact q
    | exc n w => rw [z] at q; exact fun c' hw b => q σ c' hw b.ff (r.step ke b)
    | ok x w1 =>
      rw [z] at q
      dsimp only at q
      intro u c1 hw1 b1 q1
      have r1 := r.step ke b1
      refine ⟨c1, δ, rfl, r1, ?_⟩
      rw [hw1]
      cases z2 : fo δ w1 with
      | bad => rw [z2] at q; exact q.elim
      | exc n w => rw [z2] at q; exact q.elim
      | ok y w2 =>
        rw [z2] at q
        dsimp only at q
        intro v c2 hw2 b2 q2
        have r2 := r1.step ke b2
        refine ⟨c2, δ, rfl, r2, ?_⟩
        rw [hw2]
        cases z3 : k δ w2 with
        | bad => rw [z3] at q; exact q.elim
        | exc n w => rw [z3] at q; exact q.elim
        | ok y3 w3 =>
          rw [z3] at q
          dsimp only at q
          intro t c3 hw3 b3 q3
          cases z4 : upM x y y3 w3 with
          | none => rw [z4] at q; exact q.elim
          | some w4 =>
            rw [z4] at q
            exact ⟨x, y, y3, c3, w4, rfl, r2.step ke b3, (q1.mono b2).mono b3, q2.mono b3, q3, by rw [hw3]; exact z4, fun c4 h1 h2 r4 => q σ c4 h1 (by rw [h2]; exact (b1.ff.trans b2.ff).trans b3.ff) r4⟩
  refine wpAny_Assign_Subscript (thn (hv.run pins s σ c.H _ I hq) fun rr s1 ⟨v, H1, I1, rv, q1⟩ => thn (ho.run pins s1 σ H1 _ I1 q1) fun u s2 ⟨x, H2, I2, rx, q2⟩ => thn (hi.run pins s2 σ H2 _ I2 q2) fun iv s3 ⟨y, H3, I3, ry, xd, yd, zd, c3, w4, e3, r3, qv, qo, qk, hup, fin⟩ => ?_) hs
  subst e3
  unfold upM at hup
  split at hup
  · rename_i n d vd
    cases e1 : keyOf d with
    | none => rw [e1] at hup; cases hup
    | some key =>
      rw [e1] at hup
      cases e2 : c3.w[n]? with
      | none => rw [e2] at hup; cases hup
      | some m =>
        rw [e2] at hup
        dsimp only [Option.bind] at hup
        by_cases hnew : lookM m key = none ∧ m.length < 100000
        · rw [if_pos hnew] at hup
          cases hup
          obtain ⟨bb, rfl, rfl, hb, hnk, hdep⟩ := key_is I3 r3.ok e1 qk ry
          obtain ⟨aa, rfl, ha⟩ := qo
          cases rx
          obtain ⟨ents, xs, g1, g2, g3, g4, g5, g6⟩ := mem_dict I3 r3.ok ha e2
          have hno := ents_new g2 g3 hnew.1
          have hlen := entF_len g3
          have hxl := entsR_len g2
          refine wpAny_setItem_heap (hsz := by rw [hxl, ← lim_eq]; exact g6) (room8 hu) hb g4 fun h' hm' hs' => ?_
          rw [storedH_new hno] at hm'
          obtain ⟨o', es, ep, f2, f3, f4, f5, f6, f7⟩ := hm'
          have hfp : (WM X.prog X.w).fp c3.k aa := List.mem_of_getElem? ha
          have hval : Dq c3.F vd v := qv
          have new : ObjOk X.prog X.w (upd c3.H aa (DcZ X.prog X.w aa (ents ++ [(key, bb, v)]))) h' aa (DcZ X.prog X.w aa (ents ++ [(key, bb, v)])) :=
            dcZ_ok ⟨xs ++ [(key, bb, rr)], o', es, ep, entsR_snoc rv g2, f2, f3, f4, f5, f7, g5⟩
          refine ⟨σ, _, d_write (t' := s3.toks + (nestedKind X.prog X.w).draws key) I3 (by rw [g1]; exact True.intro) hs' ⟨o', f2⟩ new, ?_⟩
          refine fin { c3 with w := c3.w.set n (m ++ [(d, vd)]), H := upd c3.H aa (DcZ X.prog X.w aa (ents ++ [(key, bb, v)])) } rfl rfl (r3.wset hfp ?_)
          obtain ⟨w1, w2, w3⟩ := r3.ok.wr
          have ha' : (show List Addr from c3.k)[n]? = some aa := ha
          have snoc' : EntF c3.F (ents ++ [(key, bb, v)]) (m ++ [(d, vd)]) := EntF.snoc (kv := (d, vd)) (e := (key, bb, v)) hnk hdep (show Dq c3.F d (.ref bb) from qk) hval g3
          refine ⟨w1, by rw [List.length_set]; exact w2, fun i a' m' h1 h2 => ?_⟩
          by_cases hi : i = n
          · subst hi
            have ea : a' = aa := Option.some.inj (h1.symm.trans ha')
            subst ea
            rw [List.getElem?_set_self (List.getElem?_eq_some_iff.mp e2).1] at h2
            cases h2
            exact ⟨_, upd_same, snoc', by rw [List.length_append, ← hlen]; have := hnew.2; simp [lim]; omega⟩
          · rw [List.getElem?_set_ne (Ne.symm hi)] at h2
            obtain ⟨ents', k1, k2, k3⟩ := w3 i a' m' h1 h2
            have hne : a' ≠ aa := fun z => by
              subst z
              have l1 := (List.getElem?_eq_some_iff.mp h1)
              have l2 := (List.getElem?_eq_some_iff.mp ha')
              exact hi (nodup_ix w1 h1 ha')
            exact ⟨ents', (upd_ne hne).trans k1, k2, k3⟩
        · rw [if_neg hnew] at hup; cases hup
  · cases hup
/-! {} -/
def xNewM : XF (List Memo) := fun _ w => .ok (.obj w.length) (w ++ [[]])
theorem s_newM (ke : Ok e) : PE X (.Dict [] [] pos) (tS cls X.K e Wx xNewM) := ⟨fun pins s σ H Q I ⟨c, δ, eH, r, q⟩ => by
  subst eH
  have hf : c.H s.heap.objs.size = none := I.hok.fresh (Nat.le_refl _)
  have hsys : (s.heap.objs.size == sysModules) = false := beq_eq_false_iff_ne.mpr (Ne.symm (Nat.ne_of_lt I.big))
  have hok : ∀ H, ObjOk X.prog X.w H (s.heap.push { cls := .type "dict", data := .dict #[] }) s.heap.objs.size (DcZ X.prog X.w s.heap.objs.size []) := fun H =>
    dcZ_ok ⟨[], _, #[], 0, rfl, Heap.get?_push_size _ rfl, ⟨rfl, rfl, rfl⟩, rfl, rfl, List.nodup_nil, hsys⟩
  have k := r.ok
  generalize hp : s.heap.objs.size = p at *
  have hnk : p ∉ (show List Addr from c.k) := fun z => (k.wf p z).2 hf
  let c' : Cur (WM X.prog X.w) := ⟨(show List Addr from c.k) ++ [p], c.F, c.w ++ [[]], upd c.H p (DcZ X.prog X.w p [])⟩
  have hwl := k.wr.2.1
  have b : Bs c c' := by
    refine ⟨⟨fun x o hx => ?_, ⟨?_, by rw [List.length_append, List.length_append, hwl]; rfl, fun i a m h1 h2 => ?_⟩, fun x hx => ?_⟩, Sub.refl _, fun x o _ hx => ?_, fun x hx => .inl hx, fun n x hx => ?_, fun x hx => ?_, fun x hx => ?_⟩
    · show upd c.H p _ x = some o
      rw [upd_ne (ne_of_none (k.fh _ _ hx) hf)]; exact k.fh _ _ hx
    · rw [List.nodup_append]
      refine ⟨k.wr.1, by simp, fun a ha b hb z => ?_⟩
      rw [List.mem_singleton.mp hb] at z
      exact hnk (z ▸ ha)
    · by_cases hi : i < (show List Addr from c.k).length
      · rw [List.getElem?_append_left hi] at h1
        rw [List.getElem?_append_left (by rw [← hwl]; exact hi)] at h2
        obtain ⟨ents, g1, g2, g3⟩ := k.wr.2.2 i a m h1 h2
        exact ⟨ents, (upd_ne (ne_of_none g1 hf)).trans g1, g2, g3⟩
      · have hi' : (show List Addr from c.k).length ≤ i := Nat.le_of_not_lt hi
        rw [List.getElem?_append_right hi'] at h1
        rw [List.getElem?_append_right (by rw [← hwl]; exact hi'), ← hwl] at h2
        cases hz : i - (show List Addr from c.k).length with
        | zero =>
          rw [hz] at h1 h2
          cases h1; cases h2
          exact ⟨[], upd_same, rfl, Nat.zero_le _⟩
        | succ j => rw [hz] at h1; cases h1
    · rcases List.mem_append.mp hx with hx | hx
      · refine ⟨(k.wf x hx).1, ?_⟩
        show upd c.H p _ x ≠ none
        rw [upd_ne fun (z : x = p) => hnk (z ▸ hx)]; exact (k.wf x hx).2
      · rw [List.mem_singleton.mp hx]
        exact ⟨k.fnone hf, by show upd c.H p _ p ≠ none; rw [upd_same]; exact fun z => by cases z⟩
    · show upd c.H p _ x = some o
      rw [upd_ne (ne_of_none hx hf)]; exact hx
    · have hx : (show List Addr from c.k)[n]? = some x := hx
      show ((show List Addr from c.k) ++ [p])[n]? = some x
      rw [List.getElem?_append_left (List.getElem?_eq_some_iff.mp hx).1]; exact hx
    · rcases List.mem_append.mp hx with hx | hx
      · exact .inl hx
      · rw [List.mem_singleton.mp hx]; exact .inr hf
    · exact List.mem_append_left _ hx
  refine wpAny_Dict_empty ⟨.ref p, _, I.laid (a := p) (o := DcZ X.prog X.w p []) (t' := s.toks) (fun _ _ q => Heap.get?_push_of_some _ q) (by rw [hp]; exact Nat.le_refl _) (hok _), by rw [hp]; rfl, ?_⟩
  refine q (.ref p) c' rfl b ⟨p, rfl, ?_⟩
  show ((show List Addr from c.k) ++ [p])[c.w.length]? = some p
  rw [← hwl, List.getElem?_append_right (Nat.le_refl _), Nat.sub_self]; rfl⟩
end
section
variable {X : Cx} {W : Type} {wd : WD W} {cls : Nat → Addr} {e : Cur wd} {Wx : WX} {sts : List Stmt}
theorem ss_bad : PSs X sts (tSS cls X.K e Wx fun _ _ => .bad) := ⟨fun pins s σ H Dn I ⟨c, δ, eH, r, q⟩ => q.elim⟩
end
end Z

set_option Elab.async false
set_option linter.all false
set_option maxRecDepth 100000
/-! # Z20: typed data; how the functions are computed -/
namespace Z
open PySem
class Py (α : Type) where
  enc : α → PyData
  lay : ∀ a, (enc a).canLay0 = true
  dep : Nat
  hdep : ∀ a, (enc a).depth ≤ dep
  eqv : ∀ a b, PyData.eqv (enc a) (enc b) = true ↔ a = b
def pv {α : Type} [Py α] (a : α) : D := .p (Py.enc a)
instance : Py Int where
  enc := .int
  lay := fun _ => rfl
  dep := 0
  hdep := fun _ => Nat.le_refl 0
  eqv := fun a b => by simp [PyData.eqv]
instance : Py Bool where
  enc := .bool
  lay := fun _ => rfl
  dep := 0
  hdep := fun _ => Nat.le_refl 0
  eqv := fun a b => by simp [PyData.eqv]
theorem layAll_map {α : Type} [Py α] : ∀ xs : List α, PyData.canLayAll0 (xs.map Py.enc) = true
  | [] => rfl
  | x :: xs => by
    show PyData.canLayAll0 (Py.enc x :: xs.map Py.enc) = true
    rw [PyData.canLayAll0, Py.lay, layAll_map xs]; rfl
theorem depAll_map {α : Type} [Py α] : ∀ xs : List α, PyData.depthAll (xs.map Py.enc) ≤ Py.dep α
  | [] => by simp [PyData.depthAll]
  | x :: xs => by
    show PyData.depthAll (Py.enc x :: xs.map Py.enc) ≤ _
    rw [PyData.depthAll]
    have := Py.hdep x
    have := depAll_map xs
    omega
theorem eqvAll_map {α : Type} [Py α] : ∀ xs ys : List α, PyData.eqvAll (xs.map Py.enc) (ys.map Py.enc) = true ↔ xs = ys
  | [], [] => by simp [PyData.eqvAll]
  | [], _ :: _ => by simp [PyData.eqvAll]
  | _ :: _, [] => by simp [PyData.eqvAll]
  | x :: xs, y :: ys => by
    show PyData.eqvAll (Py.enc x :: xs.map Py.enc) (Py.enc y :: ys.map Py.enc) = true ↔ _
    rw [PyData.eqvAll, Bool.and_eq_true, Py.eqv, eqvAll_map xs ys, List.cons.injEq]
instance {α : Type} [Py α] : Py (List α) where
  enc := fun xs => .list (xs.map Py.enc)
  lay := fun xs => by show PyData.canLayAll0 _ = true; exact layAll_map xs
  dep := Py.dep α + 1
  hdep := fun xs => by
    have := depAll_map xs
    simp only [PyData.depth]
    omega
  eqv := fun xs ys => by
    rw [← eqvAll_map xs ys]; simp [PyData.eqv]
instance {α β : Type} [Py α] [Py β] : Py (α × β) where
  enc := fun p => .tuple [Py.enc p.1, Py.enc p.2]
  lay := fun p => by simp [PyData.canLay0, PyData.canLayAll0, Py.lay]
  dep := max (Py.dep α) (Py.dep β) + 1
  hdep := fun p => by
    have := Py.hdep p.1
    have := Py.hdep p.2
    simp only [PyData.depth, PyData.depthAll]
    omega
  eqv := fun p q => by
    obtain ⟨a, b⟩ := p
    obtain ⟨c, d⟩ := q
    simp [PyData.eqv, PyData.eqvAll, Py.eqv]
/-- a tuple of alike things -/
structure Tp (α : Type) where
  l : List α
instance {α : Type} [Py α] : Py (Tp α) where
  enc := fun xs => .tuple (xs.l.map Py.enc)
  lay := fun xs => by show PyData.canLayAll0 _ = true; exact layAll_map xs.l
  dep := Py.dep α + 1
  hdep := fun xs => by
    have := depAll_map xs.l
    simp only [PyData.depth]
    omega
  eqv := fun xs ys => by
    have e : xs = ys ↔ xs.l = ys.l := by cases xs; cases ys; simp
    rw [e, ← eqvAll_map xs.l ys.l]; simp [PyData.eqv]
section
variable {α β : Type} [Py α] [Py β]
theorem eqv_pv [DecidableEq α] (a b : α) : PyData.eqv (Py.enc a) (Py.enc b) = decide (a = b) := by
  by_cases h : a = b
  · rw [decide_eq_true h]; exact (Py.eqv a b).mpr h
  · rw [decide_eq_false h]
    cases z : PyData.eqv (Py.enc a) (Py.enc b) with
    | false => rfl
    | true => exact absurd ((Py.eqv a b).mp z) h
theorem eqOk_pv (a : α) (b : β) (h : min (Py.dep α) (Py.dep β) ≤ 64) : eqOk (Py.enc a) (Py.enc b) = true := by
  have := Py.hdep a
  have := Py.hdep b
  simp only [eqOk, Py.lay, Bool.true_and, decide_eq_true_eq]
  omega
/-! ## the operations -/
theorem e_eq [DecidableEq α] (a b : α) (h : Py.dep α ≤ 64 := by decide) : gEq (pv a) (pv b) = some (pv (decide (a = b))) := by
  show (if eqOk (Py.enc a) (Py.enc b) = true then some (D.p (.bool (PyData.eqv (Py.enc a) (Py.enc b)))) else none) = _
  rw [if_pos (eqOk_pv a b (by omega)), eqv_pv]; rfl
theorem e_ne [DecidableEq α] (a b : α) (h : Py.dep α ≤ 64 := by decide) : gNe (pv a) (pv b) = some (pv (!decide (a = b))) := by
  show (if eqOk (Py.enc a) (Py.enc b) = true then some (D.p (.bool (!PyData.eqv (Py.enc a) (Py.enc b)))) else none) = _
  rw [if_pos (eqOk_pv a b (by omega)), eqv_pv]; rfl
theorem e_add (a b : Int) : gAdd (pv a) (pv b) = some (pv (a + b)) := rfl
theorem e_sub (a b : Int) : gSub (pv a) (pv b) = some (pv (a - b)) := rfl
theorem e_cat (a b : List α) (h : a.length + b.length ≤ lim) : gAdd (pv a) (pv b) = some (pv (a ++ b)) := by
  show (if (a.map Py.enc).length + (b.map Py.enc).length ≤ lim then some (D.p (.list (a.map Py.enc ++ b.map Py.enc))) else none) = _
  rw [if_pos (by simpa using h), ← List.map_append]; rfl
theorem e_mul (a b : Int) (h : cMul a b = true) : gMul (pv a) (pv b) = some (pv (a * b)) := by
  show (if cMul a b = true then some (D.p (.int (a * b))) else none) = _
  rw [if_pos h]; rfl
theorem e_div (a b : Int) (h : 0 < b ∧ b < 1073741824) : gDiv (pv a) (pv b) = some (pv (a / b)) := by
  show (if cDiv a b = true then some (D.p (.int (a / b))) else none) = _
  rw [if_pos (by simp [cDiv, h])]; rfl
theorem e_mod (a b : Int) (h : 0 < b) : gMod (pv a) (pv b) = some (pv (a % b)) := by
  show (if (decide (0 < b)) = true then some (D.p (.int (a % b))) else none) = _
  rw [if_pos (by simp [h])]; rfl
theorem e_neg (a : Int) : gNeg (pv a) = some (pv (-a)) := rfl
theorem e_not (a : Bool) : gNot (pv a) = some (pv (!a)) := rfl
theorem e_lt (a b : Int) : gLt (pv a) (pv b) = some (pv (decide (a < b))) := rfl
theorem e_le (a b : Int) : gLe (pv a) (pv b) = some (pv (decide (a ≤ b))) := rfl
theorem e_gt (a b : Int) : gGt (pv a) (pv b) = some (pv (decide (b < a))) := rfl
theorem e_ge (a b : Int) : gGe (pv a) (pv b) = some (pv (decide (b ≤ a))) := rfl
theorem e_isB (n a b : Bool) : gIs n (pv a) (pv b) = some (pv (xor n (decide (a = b)))) := rfl
theorem e_asB (b : Bool) : asB (pv b) = some b := rfl
theorem e_truB (b : Bool) : truth (pv b) = some b := rfl
theorem e_truI (b : Int) : truth (pv b) = some (b != 0) := rfl
theorem e_asI (b : Int) : asI (pv b) = some b := rfl
theorem e_oInt (b : Int) : oInt (pv b) = some (some b) := rfl
theorem e_asP (a : α) : asP (pv a) = some (Py.enc a) := rfl
theorem e_listOf0 (a : List α) : listOf0 (pv a) = some (a.map Py.enc) := rfl
theorem e_lstOf (a : List α) : lstOf (pv a) = some (a.map Py.enc) := rfl
theorem e_isiI (S : String) (a : Int) : gIsi S (pv a) = some (pv (tyIs "int" S)) := rfl
theorem e_isiB (S : String) (a : Bool) : gIsi S (pv a) = some (pv (tyIs "bool" S)) := rfl
theorem e_isiL (S : String) (a : List α) : gIsi S (pv a) = some (pv (tyIs "list" S)) := rfl
theorem e_isiP (S : String) (a : α × β) : gIsi S (pv a) = some (pv (tyIs "tuple" S)) := rfl
theorem e_len (a : List α) : gLen [pv a] = some (pv (a.length : Int)) := by
  show some (D.p (.int ((a.map Py.enc).length : Int))) = _
  rw [List.length_map]; rfl
theorem e_lenP (a : α × β) : gLen [pv a] = some (pv (2 : Int)) := rfl
theorem e_sum (a : List Int) : gSum [pv a] = some (pv a.sum) := by
  show (ints? (a.map PyData.int)).map (fun ns => D.p (.int ns.sum)) = _
  rw [ints?_map]; rfl
theorem e_max (a : List Int) (h : a ≠ []) : gMax [pv a] = some (pv (lmax a)) := by
  show ((ints? (a.map PyData.int)).bind fun ns => if ns = [] then none else some (D.p (.int (lmax ns)))) = _
  rw [ints?_map]
  show (if a = [] then none else some (D.p (.int (lmax a)))) = _
  rw [if_neg h]; rfl
theorem e_min (a : List Int) (h : a ≠ []) : gMin [pv a] = some (pv (lmin a)) := by
  show ((ints? (a.map PyData.int)).bind fun ns => if ns = [] then none else some (D.p (.int (lmin ns)))) = _
  rw [ints?_map]
  show (if a = [] then none else some (D.p (.int (lmin a)))) = _
  rw [if_neg h]; rfl
theorem e_max2 (a b : Int) : gMax [pv a, pv b] = some (pv (if b > a then b else a)) := rfl
theorem e_min2 (a b : Int) : gMin [pv a, pv b] = some (pv (if b < a then b else a)) := rfl
theorem e_min3 (a b c : Int) : gMin [pv a, pv b, pv c] = some (pv (if b < a then (if c < b then c else b) else (if c < a then c else a))) := rfl
theorem e_all (a : List Bool) : gAll [pv a] = some (pv (a.all id)) := by
  show (bools? (a.map PyData.bool)).map (fun ns => D.p (.bool (ns.all id))) = _
  rw [bools?_map]; rfl
theorem bools?_ints : ∀ a : Int, ∀ r : List PyData, bools? (.int a :: r) = none := fun a r => rfl
theorem e_anyI (a : List Int) : gAny [pv a] = some (pv (a.any (· != 0))) := by
  cases a with
  | nil => rfl
  | cons x r =>
    show (match bools? (.int x :: r.map PyData.int) with
      | some bs => some (D.p (.bool (bs.any id)))
      | none => (ints? ((x :: r).map PyData.int)).map fun (ns : List Int) => D.p (.bool (ns.any (· != 0)))) = _
    rw [bools?_ints, ints?_map]; rfl
theorem e_anyB (a : List Bool) : gAny [pv a] = some (pv (a.any id)) := by
  show (match bools? (a.map PyData.bool) with
      | some bs => some (D.p (.bool (bs.any id)))
      | none => (ints? (a.map PyData.bool)).map fun (ns : List Int) => D.p (.bool (ns.any (· != 0)))) = _
  rw [bools?_map]; rfl
theorem e_nil : gList [] = some (.p (.list [])) := rfl
theorem e_nilT : D.p (.list []) = pv ([] : List Int) := rfl
theorem e_l1 (a : α) : gList [pv a] = some (pv [a]) := rfl
theorem e_l2 (a b : α) : gList [pv a, pv b] = some (pv [a, b]) := rfl
theorem e_l3 (a b c : α) : gList [pv a, pv b, pv c] = some (pv [a, b, c]) := rfl
theorem e_t2 (a : α) (b : β) : gTupD [pv a, pv b] = some (pv (a, b)) := rfl
theorem e_t3 {γ : Type} [Py γ] (a : α) (b : β) (c : γ) : gTupD [pv a, pv b, pv c] = some (D.p (.tuple [Py.enc a, Py.enc b, Py.enc c])) := rfl
theorem e_asPp (d : PyData) : asP (D.p d) = some d := rfl
theorem e_zT3 (u : List PyData → Ev → Option Ev) (a b c : PyData) (δ : Ev) : zT 3 u (.tuple [a, b, c]) δ = u [a, b, c] δ := rfl
theorem e_listL (a : List α) : gListOf [pv a] = some (pv a) := rfl
/-- xs[i], in range -/
def ixD {α : Type} [Inhabited α] (xs : List α) (i : Int) : α := (L2.atI xs i).getD default
theorem e_ix [Inhabited α] (xs : List α) (i : Int) (h : -(xs.length : Int) ≤ i ∧ i < xs.length) : gIx (pv xs) (pv i) = some (pv (ixD xs i)) := by
  show ((L2.atI (xs.map Py.enc) i).map .p) = some (pv ((L2.atI xs i).getD default))
  unfold L2.atI
  rw [List.length_map]
  have hj : ∃ j, L2.ixN xs.length i = some j ∧ j < xs.length := by
    unfold L2.ixN
    by_cases h0 : 0 ≤ i
    · rw [if_pos h0, if_pos h.2]
      exact ⟨_, rfl, by omega⟩
    · rw [if_neg h0, if_pos h.1]
      exact ⟨_, rfl, by omega⟩
  obtain ⟨j, e, hl⟩ := hj
  rw [e]
  show ((xs.map Py.enc)[j]?).map D.p = some (pv ((xs[j]?).getD default))
  rw [List.getElem?_map, List.getElem?_eq_getElem hl]; rfl
theorem e_ixP0 (p : α × β) : gIx (pv p) (pv (0 : Int)) = some (pv p.1) := rfl
theorem e_ixP1 (p : α × β) : gIx (pv p) (pv (1 : Int)) = some (pv p.2) := rfl
/-- xs[lo:hi] -/
def cut {α : Type} (xs : List α) (lo hi : Option Int) : List α := (xs.drop (HT.sIx xs.length 0 lo)).take (HT.sIx xs.length xs.length hi - HT.sIx xs.length 0 lo)
theorem e_sl (xs : List α) (lo hi : Option Int) : gSl (pv xs) lo hi = some (pv (cut xs lo hi)) := by
  show some (D.p (.list (cutP (xs.map Py.enc) lo hi))) = _
  unfold cutP
  rw [List.length_map, ← List.map_drop, ← List.map_take]; rfl
theorem e_rev (xs : List α) : gRev (pv xs) = some (pv xs.reverse) := by
  show some (D.p (.list (xs.map Py.enc).reverse)) = _
  rw [← List.map_reverse]; rfl
theorem e_in [DecidableEq α] (n : Bool) (a : α) (xs : List α) (h : Py.dep α ≤ 60 := by decide) : gIn n (pv a) (pv xs) = some (pv (xor n (decide (a ∈ xs)))) := by
  show (if inOk (Py.enc a) (xs.map Py.enc) = true then some (D.p (.bool (xor n ((xs.map Py.enc).any fun z => PyData.eqv z (Py.enc a))))) else none) = _
  have h1 : inOk (Py.enc a) (xs.map Py.enc) = true := by
    have := Py.hdep a
    simp only [inOk, Py.lay, layAll_map, Bool.true_and, decide_eq_true_eq]
    omega
  have h2 : ((xs.map Py.enc).any fun z => PyData.eqv z (Py.enc a)) = decide (a ∈ xs) := by
    rw [List.any_map]
    rw [Bool.eq_iff_iff]
    simp only [List.any_eq_true, Function.comp, Py.eqv, decide_eq_true_eq]
    exact ⟨fun ⟨x, h, e⟩ => e ▸ h, fun h => ⟨a, h, rfl⟩⟩
  rw [if_pos h1, h2]; rfl
/-! ## what is walked -/
def rg (a b : Int) : List Int := (List.range (b - a).toNat).map fun (i : Nat) => a + (i : Int)
def enum {α : Type} (i : Nat) : List α → List (Int × α)
  | [] => []
  | x :: r => ((i : Int), x) :: enum (i + 1) r
theorem e_seq (xs : List α) : seqOf (pv xs) = some (xs.map Py.enc) := rfl
theorem e_rg (n : Int) (h : -1000000000 ≤ n ∧ n ≤ 1000000000) : rgOf1 (pv n) = some ((rg 0 n).map Py.enc) := by
  show (if -1000000000 ≤ n ∧ n ≤ 1000000000 then some (rgL 0 n) else none) = _
  rw [if_pos h]
  unfold rgL rg
  rw [List.map_map]; rfl
theorem enL_map (xs : List α) : ∀ i, enL i (xs.map Py.enc) = (enum i xs).map Py.enc := by
  induction xs with
  | nil => intro i; rfl
  | cons x r ih => intro i; show _ :: enL (i + 1) (r.map Py.enc) = _; rw [ih]; rfl
theorem e_en (xs : List α) : enOf (pv xs) = some ((enum 0 xs).map Py.enc) := by
  show some (enL 0 (xs.map Py.enc)) = _
  rw [enL_map]
theorem zipL_map : ∀ (xs : List α) (ys : List β), zipL (xs.map Py.enc) (ys.map Py.enc) = (xs.zip ys).map Py.enc
  | [], _ => by simp [zipL]
  | _ :: _, [] => by simp [zipL]
  | x :: xs, y :: ys => by
    show _ :: zipL (xs.map Py.enc) (ys.map Py.enc) = _
    rw [zipL_map xs ys]; rfl
theorem e_zp (xs : List α) (ys : List β) : zpOf (pv xs) (pv ys) = some ((xs.zip ys).map Py.enc) := by
  show some (zipL (xs.map Py.enc) (ys.map Py.enc)) = _
  rw [zipL_map]
theorem e_zN (i : Nat) (x : α) (δ : Ev) : zN i (Py.enc x) δ = if i < δ.length then some (δ.set i (.v (pv x))) else none := rfl
theorem e_zT (u : List PyData → Ev → Option Ev) (p : α × β) (δ : Ev) : zT 2 u (Py.enc p) δ = u [Py.enc p.1, Py.enc p.2] δ := rfl
theorem e_zCons (t : TZ) (u : List PyData → Ev → Option Ev) (d : PyData) (r : List PyData) (δ : Ev) : zCons t u (d :: r) δ = (t d δ).bind (u r) := rfl
theorem e_zNil (δ : Ev) : zNil [] δ = some δ := rfl
theorem e_pl (ys : List α) : D.p (.list (ys.map Py.enc)) = pv ys := rfl
theorem e_noObj (a : α) : noObj (pv a) = true := rfl
/-! ## comprehensions -/
def lcS {α W : Type} (body : α → W → Res W (Option PyData)) : List α → W → Res W (List PyData)
  | [], w => .ok [] w
  | x :: r, w => (body x w).bind fun o w1 => (lcS body r w1).bind fun ys w2 => .ok (o.toList ++ ys) w2
theorem lcS_congr {W : Type} {f g : α → W → Res W (Option PyData)} {xs : List α} {w : W} (h : ∀ x, x ∈ xs → ∀ w, f x w = g x w) : lcS f xs w = lcS g xs w := by
  induction xs generalizing w with
  | nil => rfl
  | cons x r ih =>
    unfold lcS
    rw [h x List.mem_cons_self]
    congr 1
    funext o w1
    rw [ih fun x hx => h x (List.mem_cons_of_mem _ hx)]
theorem mem_rg {a b k : Int} : k ∈ rg a b ↔ a ≤ k ∧ k < b := by
  unfold rg
  simp only [List.mem_map, List.mem_range]
  constructor
  · rintro ⟨i, h, rfl⟩; omega
  · rintro ⟨h1, h2⟩
    exact ⟨(k - a).toNat, by omega, by omega⟩
theorem len_rg (a b : Int) : (rg a b).length = (b - a).toNat := by simp [rg]
theorem len_enum {α : Type} : ∀ (xs : List α) (i : Nat), (enum i xs).length = xs.length
  | [], _ => rfl
  | _ :: xs, i => by show (enum (i + 1) xs).length + 1 = _; rw [len_enum xs]; rfl
theorem cut1_eq {α : Type} (xs : List α) : cut xs none (some (-1)) = xs.take (xs.length - 1) := by
  have e1 : HT.sIx xs.length xs.length (some (-1)) = xs.length - 1 := by
    unfold HT.sIx
    dsimp only
    rw [if_pos (by decide)]
    omega
  unfold cut
  rw [e1]
  show (xs.drop 0).take (xs.length - 1 - 0) = _
  rw [List.drop_zero, Nat.sub_zero]
theorem len_cut1 {α : Type} (xs : List α) : (cut xs none (some (-1))).length = xs.length - 1 := by
  rw [cut1_eq, List.length_take]
  omega
theorem mem_cut1 {α : Type} {xs : List α} {x : α} (h : x ∈ cut xs none (some (-1))) : x ∈ xs := by
  rw [cut1_eq] at h; exact List.mem_of_mem_take h
theorem ixD_mem {α : Type} [Inhabited α] {xs : List α} {i : Int} (h : -(xs.length : Int) ≤ i ∧ i < xs.length) : ixD xs i ∈ xs := by
  have hj : ∃ j, L2.ixN xs.length i = some j ∧ j < xs.length := by
    unfold L2.ixN
    by_cases h0 : 0 ≤ i
    · rw [if_pos h0, if_pos h.2]
      exact ⟨_, rfl, by omega⟩
    · rw [if_neg h0, if_pos h.1]
      exact ⟨_, rfl, by omega⟩
  obtain ⟨j, e, hl⟩ := hj
  unfold ixD L2.atI
  rw [e]
  show (xs[j]?).getD default ∈ xs
  rw [List.getElem?_eq_getElem hl]
  exact List.getElem_mem hl
def keepD {W : Type} (y : D) (w : W) : Res W (Option PyData) := match asP y with
  | some d => .ok (some d) w
  | none => .bad
def tzD {W γ : Type} (o : Option Ev) (k : Ev → Res W γ) : Res W γ := match o with
  | some δ => k δ
  | none => .bad
theorem keepD_pv {W : Type} (a : α) (w : W) : keepD (pv a) w = .ok (some (Py.enc a)) w := rfl
theorem keepD_p {W : Type} (a : PyData) (w : W) : keepD (.p a) w = .ok (some a) w := rfl
theorem tzD_some {W γ : Type} (δ : Ev) (k : Ev → Res W γ) : tzD (some δ) k = k δ := rfl
theorem lcGo_map {W : Type} (tz : TZ) (t : XB W) (f : XF W) (δ : Ev) (xs : List α) (w : W) : lcGo tz t f δ (xs.map Py.enc) w = lcS (fun x w => tzD (tz (Py.enc x) δ) fun δ1 => (t δ1 w).calm.bind fun b w1 => if b = true then (f δ1 w1).calm.bind keepD else .ok none w1) xs w := by
  induction xs generalizing w with
  | nil => rfl
  | cons x r ih =>
    show lcGo tz t f δ (Py.enc x :: r.map Py.enc) w = _
    unfold lcGo lcS tzD
    cases tz (Py.enc x) δ with
    | none => rfl
    | some δ1 =>
      dsimp only
      cases (t δ1 w).calm with
      | bad => rfl
      | exc _ _ => rfl
      | ok b w1 =>
        cases b with
        | false =>
          show lcGo tz t f δ (r.map Py.enc) w1 = (lcS _ r w1).bind fun ys w2 => .ok ys w2
          rw [ih]
          unfold tzD
          cases lcS _ r w1 <;> rfl
        | true =>
          show (f δ1 w1).calm.bind _ = ((f δ1 w1).calm.bind _).bind _
          cases (f δ1 w1).calm with
          | bad => rfl
          | exc _ _ => rfl
          | ok y w2 =>
            unfold keepD
            show (match asP y with
              | some d => _
              | none => _) = (Res.bind (match asP y with
              | some d => _
              | none => _) _)
            cases asP y with
            | none => rfl
            | some d =>
              show (lcGo tz t f δ (r.map Py.enc) w2).bind _ = (lcS _ r w2).bind _
              rw [ih]
              unfold tzD keepD
              rfl
theorem lcS_pure {W : Type} (g : α → β) (xs : List α) (w : W) : lcS (fun x w => .ok (some (Py.enc (g x))) w) xs w = .ok ((xs.map g).map Py.enc) w := by
  induction xs with
  | nil => rfl
  | cons x r ih =>
    unfold lcS
    show (lcS _ r w).bind _ = _
    rw [ih]; rfl
theorem lcS_filt {W : Type} (p : α → Prop) [DecidablePred p] (g : α → β) (xs : List α) (w : W) : lcS (fun x w => .ok (if p x then some (Py.enc (g x)) else none) w) xs w = .ok (((xs.filter fun x => decide (p x)).map g).map Py.enc) w := by
  induction xs with
  | nil => rfl
  | cons x r ih =>
    unfold lcS
    by_cases h : p x
    · rw [if_pos h]
      show (lcS _ r w).bind _ = _
      rw [ih, List.filter_cons_of_pos (by simpa using h)]; rfl
    · rw [if_neg h]
      show (lcS _ r w).bind _ = _
      rw [ih, List.filter_cons_of_neg (by simpa using h)]; rfl
theorem lc_eq {W : Type} {body : α → W → Res W (Option PyData)} {xs : List α} {w : W} (g : α → β) (h : ∀ x, x ∈ xs → ∀ w, body x w = .ok (some (Py.enc (g x))) w) : lcS body xs w = .ok ((xs.map g).map Py.enc) w :=
  (lcS_congr h).trans (lcS_pure g xs w)
theorem lc_eqF {W : Type} {body : α → W → Res W (Option PyData)} {xs : List α} {w : W} (p : α → Prop) [DecidablePred p] (g : α → β) (h : ∀ x, x ∈ xs → ∀ w, body x w = .ok (if p x then some (Py.enc (g x)) else none) w) : lcS body xs w = .ok (((xs.filter fun x => decide (p x)).map g).map Py.enc) w :=
  (lcS_congr h).trans (lcS_filt p g xs w)
/-- a comprehension that draws -/
theorem lc_draw {W : Type} {body : α → W → Res W (Option PyData)} (G : W → Prop) (P : β → Prop) : ∀ (xs : List α), (∀ x, x ∈ xs → ∀ w, G w → ∃ r w', body x w = .ok (some (Py.enc (r : β))) w' ∧ P r ∧ G w') → ∀ w, G w → ∃ (rs : List β) (w' : W), lcS body xs w = .ok (rs.map Py.enc) w' ∧ rs.length = xs.length ∧ (∀ r ∈ rs, P r) ∧ G w'
  | [], _, w, g => ⟨[], w, rfl, rfl, fun _ h => (by cases h), g⟩
  | x :: xs, h, w, g => by
    obtain ⟨r, w1, e1, p1, g1⟩ := h x List.mem_cons_self w g
    obtain ⟨rs, w2, e2, l2, p2, g2⟩ := lc_draw G P xs (fun x hx => h x (List.mem_cons_of_mem _ hx)) w1 g1
    refine ⟨r :: rs, w2, ?_, by simp [l2], fun z hz => ?_, g2⟩
    · unfold lcS
      rw [e1]
      show (lcS body xs w1).bind _ = _
      rw [e2]; rfl
    · rcases List.mem_cons.mp hz with rfl | hz
      · exact p1
      · exact p2 z hz
/-- a loop, by an invariant -/
theorem forGo_inv {W σ : Type} {tz : TZ} {body : SF W} {w : W} (I : σ → Ev → Prop) (step : σ → α → σ) : ∀ (xs : List α), (∀ x, x ∈ xs → ∀ s δ, I s δ → ∃ δ1, tz (Py.enc x) δ = some δ1 ∧ ∃ δ2, (body δ1 w = .nx δ2 w ∨ body δ1 w = .ct δ2 w) ∧ I (step s x) δ2) →
    ∀ s δ, I s δ → ∃ δ', forGo tz body (xs.map Py.enc) δ w = .nx δ' w ∧ I (xs.foldl step s) δ'
  | [], _, s, δ, h => ⟨δ, rfl, h⟩
  | x :: xs, h, s, δ, hi => by
    obtain ⟨δ1, e1, δ2, e2, h2⟩ := h x List.mem_cons_self s δ hi
    obtain ⟨δ', e3, h3⟩ := forGo_inv I step xs (fun x hx => h x (List.mem_cons_of_mem _ hx)) (step s x) δ2 h2
    refine ⟨δ', ?_, h3⟩
    show forGo tz body (Py.enc x :: xs.map Py.enc) δ w = _
    unfold forGo
    rw [e1]
    rcases e2 with e2 | e2
    · dsimp only; rw [e2]; exact e3
    · dsimp only; rw [e2]; exact e3
theorem forGo_pre0 {W : Type} {tz : TZ} {body : SF W} {w : W} (I : List α → Ev → Prop) : ∀ (xs pre : List α), (∀ p x r, pre ++ xs = p ++ x :: r → ∀ δ, I p δ → ∃ δ1, tz (Py.enc x) δ = some δ1 ∧ ∃ δ2, (body δ1 w = .nx δ2 w ∨ body δ1 w = .ct δ2 w) ∧ I (p ++ [x]) δ2) →
    ∀ δ, I pre δ → ∃ δ', forGo tz body (xs.map Py.enc) δ w = .nx δ' w ∧ I (pre ++ xs) δ'
  | [], pre, _, δ, h => ⟨δ, rfl, by rw [List.append_nil]; exact h⟩
  | x :: xs, pre, h, δ, hi => by
    obtain ⟨δ1, e1, δ2, e2, h2⟩ := h pre x xs rfl δ hi
    obtain ⟨δ', e3, h3⟩ := forGo_pre0 I xs (pre ++ [x]) (fun p y r e => h p y r (by rw [← e, List.append_assoc]; rfl)) δ2 h2
    refine ⟨δ', ?_, by rw [List.append_assoc] at h3; exact h3⟩
    show forGo tz body (Py.enc x :: xs.map Py.enc) δ w = _
    unfold forGo
    rw [e1]
    rcases e2 with e2 | e2
    · dsimp only; rw [e2]; exact e3
    · dsimp only; rw [e2]; exact e3
/-- a loop: I says what holds behind the first ones -/
theorem forGo_pre {W : Type} {tz : TZ} {body : SF W} {w : W} {xs : List α} {δ : Ev} (I : List α → Ev → Prop) (h0 : I [] δ) (h : ∀ p x r, xs = p ++ x :: r → ∀ δ, I p δ → ∃ δ1, tz (Py.enc x) δ = some δ1 ∧ ∃ δ2, (body δ1 w = .nx δ2 w ∨ body δ1 w = .ct δ2 w) ∧ I (p ++ [x]) δ2) :
    ∃ δ', forGo tz body (xs.map Py.enc) δ w = .nx δ' w ∧ I xs δ' := by
  have := forGo_pre0 (tz := tz) (body := body) (w := w) I xs [] h δ h0
  simpa using this
theorem forGo_preW {W : Type} {tz : TZ} {body : SF W} (I : List α → Ev → W → Prop) : ∀ (xs pre : List α), (∀ p x r, pre ++ xs = p ++ x :: r → ∀ δ w, I p δ w → ∃ δ1, tz (Py.enc x) δ = some δ1 ∧ ∃ δ2 w2, (body δ1 w = .nx δ2 w2 ∨ body δ1 w = .ct δ2 w2) ∧ I (p ++ [x]) δ2 w2) →
    ∀ δ w, I pre δ w → ∃ δ' w', forGo tz body (xs.map Py.enc) δ w = .nx δ' w' ∧ I (pre ++ xs) δ' w'
  | [], pre, _, δ, w, h => ⟨δ, w, rfl, by rw [List.append_nil]; exact h⟩
  | x :: xs, pre, h, δ, w, hi => by
    obtain ⟨δ1, e1, δ2, w2, e2, h2⟩ := h pre x xs rfl δ w hi
    obtain ⟨δ', w', e3, h3⟩ := forGo_preW I xs (pre ++ [x]) (fun p y r e => h p y r (by rw [← e, List.append_assoc]; rfl)) δ2 w2 h2
    refine ⟨δ', w', ?_, by rw [List.append_assoc] at h3; exact h3⟩
    show forGo tz body (Py.enc x :: xs.map Py.enc) δ w = _
    unfold forGo
    rw [e1]
    rcases e2 with e2 | e2
    · dsimp only; rw [e2]; exact e3
    · dsimp only; rw [e2]; exact e3
end
/-! ## results -/
section
variable {W α β : Type}
theorem t_ii : tyIs "int" "int" = true := rfl
theorem t_ib : tyIs "int" "bool" = false := rfl
theorem t_il : tyIs "int" "list" = false := rfl
theorem t_it : tyIs "int" "tuple" = false := rfl
theorem t_bi : tyIs "bool" "int" = true := rfl
theorem t_bb : tyIs "bool" "bool" = true := rfl
theorem t_bl : tyIs "bool" "list" = false := rfl
theorem t_bt : tyIs "bool" "tuple" = false := rfl
theorem t_li : tyIs "list" "int" = false := rfl
theorem t_lb : tyIs "list" "bool" = false := rfl
theorem t_ll : tyIs "list" "list" = true := rfl
theorem t_lt : tyIs "list" "tuple" = false := rfl
theorem t_ti : tyIs "tuple" "int" = false := rfl
theorem t_tb : tyIs "tuple" "bool" = false := rfl
theorem t_tl : tyIs "tuple" "list" = false := rfl
theorem t_tt : tyIs "tuple" "tuple" = true := rfl
theorem i_and (b : Bool) (x : Bool) : (if b = true then x else false) = (b && x) := by cases b <;> rfl
theorem i_or (b : Bool) (x : Bool) : (if b = true then true else x) = (b || x) := by cases b <;> rfl
theorem i_andP (c : Prop) [Decidable c] (x : Bool) : (if c then x else false) = (decide c && x) := by by_cases h : c <;> simp [h]
theorem i_orP (c : Prop) [Decidable c] (x : Bool) : (if c then true else x) = (decide c || x) := by by_cases h : c <;> simp [h]
theorem lim_if {γ δ : Type} {xs : List γ} {a b : δ} (h : xs.length ≤ lim) : (if xs.length ≤ lim then a else b) = a := if_pos h
theorem lim_if2 {δ : Type} {m n : Nat} {a b : δ} (h : m + n ≤ lim) : (if m + n ≤ lim then a else b) = a := if_pos h
theorem lim_ifL {δ : Type} {m : Nat} {a b : δ} (h : m < lim) : (if m < lim then a else b) = a := if_pos h
theorem xOwn_nil {W : Type} (δ : Ev) (w : W) : xOwn lNil δ w = .ok (.own []) w := rfl
theorem i_ff (b x : Bool) : (if b = false then false else x) = (b && x) := by cases b <;> rfl
theorem i_ok (c : Prop) [Decidable c] (a b : α) (w : W) : (if c then Res.ok a w else .ok b w) = Res.ok (if c then a else b) w := by split <;> rfl
theorem i_pv [Py α] (c : Prop) [Decidable c] (a b : α) : (if c then pv a else pv b) = pv (if c then a else b) := by split <;> rfl
def andD (o : Option Bool) (r : Res W D) (w : W) : Res W D := match o with
  | some true => r
  | some false => .ok (pv false) w
  | none => .bad
def orD (o : Option Bool) (r : Res W D) (w : W) : Res W D := match o with
  | some true => .ok (pv true) w
  | some false => r
  | none => .bad
theorem andD_ev (b : Bool) (r : Res W D) (w : W) : andD (some b) r w = if b = true then r else .ok (pv false) w := by cases b <;> rfl
theorem orD_ev (b : Bool) (r : Res W D) (w : W) : orD (some b) r w = if b = true then .ok (pv true) w else r := by cases b <;> rfl
theorem xAnd_ev (f h : XF W) (δ : Ev) (w : W) : xAnd f h δ w = (f δ w).bind fun x w1 => andD (asB x) (h δ w1) w1 := rfl
theorem xOr_ev (f h : XF W) (δ : Ev) (w : W) : xOr f h δ w = (f δ w).bind fun x w1 => orD (asB x) (h δ w1) w1 := rfl
theorem xChain_ev (g g' : D → D → Option D) (f h k : XF W) (δ : Ev) (w : W) : xChain g g' f h k δ w = (f δ w).bind fun x w1 => (h δ w1).bind fun y w2 => andD ((g x y).bind asB) ((k δ w2).bind fun z w3 => opt (g' y z) w3) w2 := rfl
def ifD (r : Res W Bool) (δ : Ev) (a b : W → SRes W) : SRes W := match r with
  | .ok true w => a w
  | .ok false w => b w
  | .exc n w => .exc n δ w
  | .bad => .bad
theorem sIf_ev (t : XB W) (sf sg : SF W) (δ : Ev) (w : W) : sIf t sf sg δ w = ifD (t δ w) δ (fun w => sf δ w) fun w => sg δ w := by
  unfold sIf ifD
  cases t δ w with
  | ok b w => cases b <;> rfl
  | exc n w => rfl
  | bad => rfl
theorem ifD_ev (b : Bool) (w : W) (δ : Ev) (x y : W → SRes W) : ifD (.ok b w) δ x y = if b = true then x w else y w := by cases b <;> rfl
def seqD (r : SRes W) (k : Ev → W → SRes W) : SRes W := match r with
  | .nx δ w => k δ w
  | r => r
theorem sSeq_ev (sf sg : SF W) (δ : Ev) (w : W) : sSeq sf sg δ w = seqD (sf δ w) sg := rfl
theorem seqD_nx (δ : Ev) (w : W) (k : Ev → W → SRes W) : seqD (.nx δ w) k = k δ w := rfl
theorem seqD_rt (d : D) (w : W) (k : Ev → W → SRes W) : seqD (.rt d w) k = .rt d w := rfl
theorem seqD_exc (n : Nat) (δ : Ev) (w : W) (k : Ev → W → SRes W) : seqD (.exc n δ w) k = .exc n δ w := rfl
theorem seqD_ite (c : Prop) [Decidable c] (a b : SRes W) (k : Ev → W → SRes W) : seqD (if c then a else b) k = if c then seqD a k else seqD b k := by split <;> rfl
def liftD (r : Res Unit D) (w : W) : Res W D := match r with
  | .ok d _ => .ok d w
  | .exc n _ => .exc n w
  | .bad => .bad
theorem lift_ev (f : FZ Unit) (ds : List D) (w : W) : liftZ f ds w = if ds.all noObj = true then liftD (f ds ()) w else .bad := rfl
theorem liftD_ok (d : D) (u : Unit) (w : W) : liftD (.ok d u) w = .ok d w := rfl
theorem liftD_exc (n : Nat) (u : Unit) (w : W) : (liftD (.exc n u) w : Res W D) = .exc n w := rfl
theorem e_noObjP (d : PyData) : noObj (.p d) = true := rfl
def runD (r : SRes W) : Res W D := match r with
  | .nx _ w' => .ok (.p .none) w'
  | .rt d w' => .ok d w'
  | .exc m _ w' => .exc m w'
  | _ => .bad
theorem run_ev (n : Nat) (sf : SF W) (ds : List D) (w : W) : runZ n sf ds w = runD (sf (ds.map .v ++ List.replicate (n - ds.length) .no) w) := rfl
theorem runD_nx (δ : Ev) (w : W) : runD (.nx δ w) = .ok (.p .none) w := rfl
theorem runD_rt (d : D) (w : W) : runD (.rt d w) = .ok d w := rfl
theorem runD_exc (n : Nat) (δ : Ev) (w : W) : runD (.exc n δ w) = .exc n w := rfl
theorem runD_ite (c : Prop) [Decidable c] (a b : SRes W) : runD (if c then a else b) = if c then runD a else runD b := by split <;> rfl
theorem r_bind (a : α) (w : W) (f : α → W → Res W β) : (Res.ok a w).bind f = f a w := rfl
theorem r_bindX (n : Nat) (w : W) (f : α → W → Res W β) : (Res.exc n w : Res W α).bind f = .exc n w := rfl
theorem r_bindB (f : α → W → Res W β) : (Res.bad : Res W α).bind f = .bad := rfl
theorem r_calm (a : α) (w : W) : (Res.ok a w).calm = .ok a w := rfl
theorem r_opt (d : D) (w : W) : opt (some d) w = .ok d w := rfl
theorem r_optB (d : Bool) (w : W) : optB (some d) w = .ok d w := rfl
theorem r_int (i : Int) (δ : Ev) (w : W) : xInt i δ w = .ok (pv i) w := rfl
theorem r_bl (i : Bool) (δ : Ev) (w : W) : xBl i δ w = .ok (pv i) w := rfl
theorem r_non (δ : Ev) (w : W) : xNon δ w = .ok (.p .none) w := rfl
theorem r_var (i : Nat) (δ : Ev) (w : W) (d : D) (h : δ[i]? = some (.v d)) : xVar i δ w = .ok d w := by
  unfold xVar; rw [h]
end
end Z

set_option Elab.async false
set_option linter.all false
set_option maxRecDepth 100000
/-! # Z21: an exception held behind its suite; isinstance of a held one -/
namespace Z
open PySem PySem.Spec PyProof.Rows L2
section
variable {X : Cx} {pins : List (Addr × Obj)} {σ : L2.St} {H : Hp} {s : Shared}
/-- an object of one's own that nothing knew is known from now on -/
theorem inv_track {a : Addr} {oe : Obj} {φ : Heap → Prop} (I : Inv X pins σ H s) (na : H a = none) (n0 : X.s_0.heap.get? a = none) (nL : X.env.locals ≠ a) (nc : ∀ x c, X.env.cells.lookup x = some c → c ≠ a)
    (np : ∀ p ∈ X.pn ++ pins, p.1 ≠ a) (hφ : ObjOk X.prog X.w (upd H a (.ext φ)) s.heap a (.ext φ)) : Inv X pins σ (upd H a (.ext φ)) s := by
  have far : ∀ b o, H b = some o → upd H a (.ext φ) b = some o := fun b o q => (upd_ne (ne_of_none q na)).trans q
  have off : ∀ b o, X.s_0.heap.get? b = some o → b ≠ a := fun b o q z => by rw [z, n0] at q; cases q
  exact {
    ok := I.ok
    os := I.os
    bare := I.bare
    base := {
      keep := fun b o q n hb hx => I.base.keep b o q n hb hx
      slot := fun b o q n hb hx => I.base.slot b o q n hb hx
      free := fun b o q n hx => (upd_ne (off b o q)).trans (I.base.free b o q n hx)
      there := fun b o q hx => I.base.there b o q hx
      tups := fun b xs q => far b _ (I.base.tups b xs q)
      frzs := fun b o u q => far b _ (I.base.frzs b o u q)
      tbls := fun b ps q => by
        obtain ⟨m, q'⟩ := I.base.tbls b ps q
        exact ⟨m, far b _ q'⟩ }
    loc := I.loc
    cell := I.cell
    free := (upd_ne nL).trans I.free
    freeC := fun x c q => (upd_ne (nc x c q)).trans (I.freeC x c q)
    pin := fun p hp => by
      obtain ⟨h1, h2, h3⟩ := I.pin p hp
      exact ⟨h1, (upd_ne (np p hp)).trans h2, h3⟩
    hok := fun b u q => by
      by_cases hb : b = a
      · subst hb
        rw [upd_same] at q
        cases q
        exact hφ
      · rw [upd_ne hb] at q
        exact (I.hok b u q).stay (fun _ _ _ r => r) (fun c r => far c _ r) fun c xs r => far c _ r
    len := I.len }
end
theorem exZ_ok {P : Program} {w : World} {H : Hp} {h : Heap} {C a : Addr} {oe : Obj} {vs : Array Value} (e : h.get? a = some oe) (z : Zc (.ref C) none oe) (d : oe.data = .fields vs) : ObjOk P w H h a (ExZ C a) :=
  ⟨⟨oe, vs, e, z, d⟩, ⟨oe, e⟩, fun h1 h2 ⟨o1, v1, g1, g2, g3⟩ k => ⟨o1, v1, k o1 g1, g2, g3⟩⟩
/-- 'except x as n: y = n' wishes of an exception of the body: slot j holds it from then on -/
def wHold (K : PySem.W.Frag) (c : Value) (i j : Nat) (D : Ends) : WX := fun cls d σ H =>
  PySem.W.exmOne K cls c = some true ∧ d = none ∧ ∃ C, cls = .ref C ∧ ∀ a, H a = none → D.nx ((σ.set j (some (.ref a))).set i none) (upd H a (ExZ C a))
section
variable {X : Cx} {x n y : Str} {c : Value} {i j : Nat} {body : List Stmt} {np p1 p2 p3 pos pos' : Pos} {tb : WX → TS}
theorem ps_hold (hs : X.stack = X.env :: X.outer) (hf : X.env.frame = some X.env.locals) (hex : X.ex = []) (hN : X.N.Nodup) (hi : X.N[i]? = some n) (hln : X.env.scope.names.lookup n = some .local)
    (hj : X.N[j]? = some y) (hly : X.env.scope.names.lookup y = some .local) (hij : j ≠ i) (hc : Names X x c)
    (hdn : (n == ("__debug__" : Str)) = false) (hcn : (n == ("__classdict__" : Str)) = false)
    (hb : ∀ (W : WX) (pn : List (Addr × Obj)) (xe : Value → Shared → Prop), Takes (X.tr pn xe) W → PassesOwn (model X.prog X.w) X.A X.env xe → PSs (X.tr pn xe) body (tb W)) :
    PS X (.Try body [.ExceptHandler (some (.Name x np)) (some n) [.Assign [.Name y p1] (.Name n p2) p3] pos'] [] [] pos) (fun D σ H => tb (wHold X.K c i j D) D σ H) := by
  constructor
  intro pins s σ H D I h
  have okX := I.ok
  have frm : X.A.frames = some (X.env :: X.outer) := okX.frames.trans (congrArg some hs)
  let Xc : Value → Shared → Prop := fun e s1 => wpAny (model X.prog X.w) X.A (noteFrame e X.env) (fun _ s2 => wpAny (model X.prog X.w) X.A (setFlight e none) (fun _ s3 =>
    wpAny (model X.prog X.w) X.A (handleBy e X.env [.ExceptHandler (some (.Name x np)) (some n) [.Assign [.Name y p1] (.Name n p2) p3] pos']) (SP X pins D) X.xe s3) X.xe s2) X.xe s1
  have tk : Takes (X.tr (X.pn ++ pins) Xc) (wHold X.K c i j D) := by
    intro u s' xx
    obtain ⟨a, B, sI, ps, σ', H', cls, d, eu, J0, nb, up, sky, na, os, ag, hm, ed, C, ecls, fin⟩ := xx
    subst eu; subst ed; subst ecls
    have J : Inv X pins σ' H' sI := J0.ofTry okX
    have sky2 : Sky B (X.env :: X.outer) a (Zc (.ref C) none) X.env.locals s'.heap := hs ▸ sky
    show wpAny (model X.prog X.w) X.A (noteFrame (.ref a) X.env) _ _ _
    refine Sky.land Zc.steady frm hf sky2 ?_
    intro h3 fl3 up3
    have J3 : Inv X pins σ' H' { s' with heap := h3 } := J.landed nb fl3.1 (up.trans up3) os ag
    have there3 := fl3.there
    obtain ⟨oe3, vs3, g3, z3, d3⟩ := there3
    have apart : a ∉ frs (X.env :: X.outer) := by
      intro hmem
      obtain ⟨_, o', e', hnf⟩ := fl3.2.2.1.mem hmem
      rw [g3] at e'
      cases e'
      exact hnf _ d3
    have apL : a ≠ X.env.locals := by
      rintro rfl
      exact apart (List.mem_filterMap.mpr ⟨X.env, .head _, hf⟩)
    have apF : a ∉ X.fs := by
      intro hmem
      obtain ⟨ev, hev, q⟩ := List.mem_filterMap.mp hmem
      exact apart (List.mem_filterMap.mpr ⟨ev, .tail _ hev, q⟩)
    have notB : B.get? a = none := fl3.2.1
    have new0 : X.s_0.heap.get? a = none := by
      cases q : X.s_0.heap.get? a with
      | none => rfl
      | some o =>
        obtain ⟨o', q'⟩ := J.base.there a o q (by rw [hex]; exact List.not_mem_nil)
        have z := nb a o' q' (by rw [hs]; exact apart)
        rw [notB] at z
        cases z
    have offPin : ∀ p ∈ X.pn ++ pins, p.1 ≠ a := by
      intro p hp e
      obtain ⟨k1, k2, k3, k4, k5⟩ := J.pin p hp
      have z := nb p.1 p.2 k1 (by rw [hs, e]; exact apart)
      rw [e, notB] at z
      cases z
    have S3 := J3.suite g3 d3 na apL apF
    refine wpAny_handleBy_cons (codeAny_handlers_test ?_) nofun
    have LT : PySem.W.Looks (model X.prog X.w) h3 (typeOf (.ref a)) (.ref C) := fun A Q E s k q => wpAny_typeOf_ref (k _ _ g3) (z3.1 ▸ q)
    have LM := PySem.W.exm_one (M := model X.prog X.w) (J3.kIn) LT hm
    have named : ∀ {Q : Value → Shared → Prop} {E : Value → Shared → Prop}, Q c { s' with heap := h3 } → wpAny (model X.prog X.w) (X.A.mark (some (.ref a))) (eval (.Name x np) X.env) Q E { s' with heap := h3 } := by
      intro Q E q
      obtain ⟨hg, hdbg, hor⟩ := hc
      rcases hor with hmg | ⟨hmg, hv, hnn⟩
      · exact ld_glob (X := X.suite a ((a, oe3) :: (X.pn ++ pins))) S3 hg hmg q hdbg
      · exact ld_blt (X := X.suite a ((a, oe3) :: (X.pn ++ pins))) S3 hg hmg hv q hnn hdbg
    refine named (LM.here ?_)
    refine codeAny_handlers_suite_as (HandSPX.lands_againZ fl3 ?_)
    intro h4 fl4 up4
    have J4 : Inv X pins σ' H' { s' with heap := h4 } := J.landed nb fl4.1 ((up.trans up3).trans up4) os ag
    have there4 := fl4.there
    obtain ⟨oe4, vs4, g4, z4, d4⟩ := there4
    have S4 := J4.suite g4 d4 na apL apF
    have hiσ : i < σ'.length := by rw [J.len]; exact (List.getElem?_eq_some_iff.mp hi).1
    refine store_ok (X := X.suite a ((a, oe4) :: (X.pn ++ pins))) (v := .ref a) S4 hN hi (.inl hln) rfl ?_ (.inr hln)
    intro s5 S5
    have set1 : PS (X.suite a ((a, oe4) :: (X.pn ++ pins))) (.Assign [.Name y p1] (.Name n p2) p3) (tAsg (tVar i) (gName j)) :=
      ps_set hN hj (.inl hly) (pe_var hi (.inl hln) hdn hcn) rfl (.inr hly)
    let Dn : Ends := { nx := fun σ6 H6 => σ6 = (σ'.set i (some (.ref a))).set j (some (.ref a)) ∧ H6 = H', rt := fun _ _ => False }
    have run1 := (pss_one set1).run [] s5 _ H' Dn S5 ⟨.ref a, List.getElem?_set_self hiσ, rfl, rfl⟩
    refine wpAny_mono run1 ?_ (fun _ _ z => z.elim)
    intro f s6 hsp
    cases f with
    | next =>
      obtain ⟨σ6, H6, S6, e6, eH⟩ := hsp
      subst e6; subst eH
      obtain ⟨q1, q2, q3, q4, q5⟩ := S6.pin (a, oe4) (.head _)
      have J6 : Inv X pins ((σ'.set i (some (.ref a))).set j (some (.ref a))) H6 s6 := S6.unsuite okX
      have offC : ∀ z k, X.env.cells.lookup z = some k → k ≠ a := by
        intro z k e e2
        obtain ⟨v, o, ho, hd⟩ := J6.cell z k e
        rw [e2] at ho
        have ho' := q1.symm.trans ho
        cases ho'
        exact q5 v hd
      have J7 := inv_track (oe := oe4) J6 q2 new0 (Ne.symm apL) offC offPin (exZ_ok (C := C) q1 z4 d4)
      refine gone_ok J7 hN hi hln ?_
      intro s7 J8
      refine ⟨_, _, J8, ?_⟩
      have e9 : ((σ'.set i (some (V.ref a))).set j (some (.ref a))).set i none = (σ'.set j (some (.ref a))).set i none := by
        refine List.ext_getElem? fun k => ?_
        by_cases h1 : k = i
        · subst h1
          rw [List.getElem?_set_self (by simpa using hiσ), List.getElem?_set_self (by simpa using hiσ)]
        · rw [List.getElem?_set_ne (Ne.symm h1), List.getElem?_set_ne (Ne.symm h1)]
          by_cases h2 : k = j
          · subst h2
            have hjσ : k < σ'.length := by rw [J.len]; exact (List.getElem?_eq_some_iff.mp hj).1
            rw [List.getElem?_set_self (by simpa using hjσ), List.getElem?_set_self hjσ]
          · rw [List.getElem?_set_ne (Ne.symm h2), List.getElem?_set_ne (Ne.symm h2), List.getElem?_set_ne (Ne.symm h1)]
      rw [e9]
      exact fin a na
    | ret v =>
      obtain ⟨_, _, _, _, _, z⟩ := hsp
      exact z.elim
    | brk =>
      obtain ⟨_, _, _, z⟩ := hsp
      exact z.elim
    | cont =>
      obtain ⟨_, _, _, z⟩ := hsp
      exact z.elim
  have body1 := (hb (wHold X.K c i j D) (X.pn ++ pins) Xc tk PassesOwn.looking).run [] s σ H D (I.toTry _) h
  refine wpAny_Try_except (wpAny_mono body1 ?_ fun _ _ q => q)
  intro f s1 hsp
  cases f with
  | next =>
    obtain ⟨σ1, H1, J1, q1⟩ := hsp
    exact wpAny_execs_nil ⟨σ1, H1, J1.ofTry okX, q1⟩
  | ret v =>
    obtain ⟨v1, σ1, H1, J1, r1, q1⟩ := hsp
    exact ⟨v1, σ1, H1, J1.ofTry okX, r1, q1⟩
  | brk =>
    obtain ⟨σ1, H1, J1, q1⟩ := hsp
    exact ⟨σ1, H1, J1.ofTry okX, q1⟩
  | cont =>
    obtain ⟨σ1, H1, J1, q1⟩ := hsp
    exact ⟨σ1, H1, J1.ofTry okX, q1⟩
end
/-! ## what the classes of exceptions are to one another -/
/-- what K must say of the classes 0..7 (7 over the others, ValueError over all) -/
structure ExF (K : PySem.W.Frag) (cls : Nat → Addr) : Prop where
  ga : ∀ m, m < 8 → PySem.W.findIn K (.ref (cls m)) "__getattribute__" = some (some (.builtin "BaseException.__getattribute__"))
  gt : ∀ m, m < 8 → PySem.W.findIn K (.ref (cls m)) "__getattr__" = some none
  sb : ∀ m, m < 8 → PySem.W.subIn K (.ref (cls m)) (.type "BaseException") = some true
  hd : ∀ m, m < 8 → PySem.W.hasDictIn K (cls m) = true
  ca : ∀ m, m < 8 → PySem.W.findIn K (.ref (cls m)) "__class__" = some (some (.builtin "object.__class__"))
  sp : PySem.W.specialIn K (.builtin "object.__class__") "__get__" = some (some (.builtin "getset_descriptor.__get__"))
  tk : PySem.W.takesIn K (.builtin "object.__class__") = some true
  mr : ∀ m, m < 8 → PySem.W.mroIn K (cls m) (.type "object") = some true
  ki : ∀ m n, m < 8 → n < 8 → PySem.W.kitOne K (.ref (cls m)) (.ref (cls n)) = some (decide (m = n) || decide (n = 7))
  kv : ∀ m, m < 8 → PySem.W.kitOne K (.ref (cls m)) (.type "ValueError") = some true
  xm : ∀ m, m < 8 → PySem.W.exmOne K (.ref (cls m)) (.ref (cls 7)) = some true
theorem exF_x {K : PySem.W.Frag} {cls : Nat → Addr} (F : ExF K cls) {m : Nat} (hm : m < 8) {a : Addr} {oe : Obj} : PySem.W.KitX K (.ref a) (.ref (cls m)) (fun h => PySem.W.InstAt h a oe (cls m) none) :=
  PySem.W.handS_kitx_exc (F.ga m hm) (F.gt m hm) (F.sb m hm) (F.hd m hm) (F.ca m hm) F.sp F.tk (F.mr m hm)
section
variable {X : Cx} {W : Type} {wd : WD W} {cls : Nat → Addr} {e : Cur wd} {Wx : WX} {a : Expr} {f : XF W} {sts : List Stmt} {sf : SF W}
/-- isinstance(e, c), e held -/
def rIsX (K : PySem.W.Frag) (cls : Nat → Addr) (wd : WD W) (cv : V) (g : D → Option D) : List V → Hp → VK → Prop := fun xs H Q => ∃ (c : Cur wd) (x : D) (u : V), c.H = H ∧ Ok c ∧ xs = [u, cv] ∧ Dv cls K c x u ∧ gives cls K c (g x) Q
def gIsX (n : Nat) : D → Option D
  | .exc m => if m < 8 then some (.p (.bool (decide (m = n) || decide (n = 7)))) else none
  | _ => none
def gIsV : D → Option D
  | .exc m => if m < 8 then some (.p (.bool true)) else none
  | _ => none
theorem call_isX (F : ExF X.K cls) {cv : V} {cw : Value} {g : D → Option D} (hr : ∀ u, RelV cv u → u = cw) (hg : ∀ x d, g x = some d → ∃ m b, x = .exc m ∧ m < 8 ∧ d = .p (.bool b) ∧ PySem.W.kitOne X.K (.ref (cls m)) cw = some b) :
    CallR X (.builtin "isinstance") (rIsX X.K cls wd cv g) := by
  intro pins s σ H xs us Q I r h
  obtain ⟨c, x, u, eH, k, rfl, q, d, ed, q2⟩ := h
  obtain ⟨m, b, rfl, hm, rfl, hk⟩ := hg x d ed
  obtain ⟨a, rfl, hF⟩ := q
  cases r with
  | cons r1 r =>
    cases r with
    | cons r2 r =>
      cases r
      cases r1
      cases hr _ r2
      subst eH
      obtain ⟨⟨oe, vs, g1, g2, g3⟩, _⟩ := (show ObjOk X.prog X.w c.H s.heap a (ExZ (cls m) a) from I.hok a _ (k.fh _ _ hF))
      have IA : PySem.W.InstAt s.heap a oe (cls m) none := ⟨g1, g2.1, by unfold PySem.W.notCls; rw [g3], by rw [g2.2]; trivial⟩
      exact PySem.W.kia_one (exF_x F hm) I.kIn IA hk (fun z => nomatch z) fun tk => ⟨.bl b, c.H, I.tok tk, rfl, q2 _ c rfl (Bs.refl k) (dv_bl.mpr rfl)⟩
theorem s_isX {x : Str} {n : Nat} {p p2 pos : Pos} (ke : Ok e) (F : ExF X.K cls) (hn : n < 8) (hm : X.mg "isinstance" = none) (hx : X.mg x = some (.ref (cls n))) (ha : PE X a (tS cls X.K e Wx f))
    (hg : Gl X "isinstance" := by rfl) (hgx : Gl X x := by rfl) (hdx : (x == ("__debug__" : Str)) = false := by decide) (hv : bootBuiltins "isinstance" = some (.builtin "isinstance") := by decide +kernel)
    (he : starEach [a, .Name x p2] X.env = (false, eval a X.env) :: starEach [.Name x p2] X.env := by rfl) (he2 : starEach [.Name x p2] X.env = (false, eval (.Name x p2) X.env) :: starEach [] X.env := by rfl)
    (hpl : (backTo pos (starEach [.Name x p2] X.env)).any (·.1) = false := by rfl) :
    PE X (.Call (.Name "isinstance" p) [a, .Name x p2] [] pos) (tS cls X.K e Wx (x1 (gIsX n) f)) :=
  pe_imp (pe_callB (call_isX (wd := wd) (cv := .ref (cls n)) (cw := .ref (cls n)) (g := gIsX n) F (fun u r => r) (fun x d h => by
    unfold gIsX at h
    split at h
    · rename_i m
      split at h
      · rename_i hm
        cases h
        exact ⟨m, _, rfl, hm, rfl, F.ki m n hm hn⟩
      · cases h
    · cases h)) hg hm hv (pa_cons ha (pa_cons (pe_glob (v := .ref (cls n)) hgx hx rfl hdx) pa_nil he2) he) (by decide) (by decide) he hpl) fun σ H Q ⟨c, δ, eH, r, q⟩ => by
    rw [← eH]
    show tS cls X.K e Wx f σ c.H _
    refine tS_imp (after_one ke r q) fun u H1 ⟨x, c2, e2, b2, r2, q2, q3⟩ => ?_
    exact ⟨c2, x, u, e2, r2.ok, rfl, q2, after_opt q3⟩
theorem s_isV {p p2 pos : Pos} (ke : Ok e) (F : ExF X.K cls) (hm : X.mg "isinstance" = none) (hms : X.mg "ValueError" = none) (ha : PE X a (tS cls X.K e Wx f))
    (hg : Gl X "isinstance" := by rfl) (hgs : Gl X "ValueError" := by rfl) (hv : bootBuiltins "isinstance" = some (.builtin "isinstance") := by decide +kernel) (hvs : bootBuiltins "ValueError" = some (.type "ValueError") := by decide +kernel)
    (he : starEach [a, .Name "ValueError" p2] X.env = (false, eval a X.env) :: starEach [.Name "ValueError" p2] X.env := by rfl) (he2 : starEach [.Name "ValueError" p2] X.env = (false, eval (.Name "ValueError" p2) X.env) :: starEach [] X.env := by rfl)
    (hpl : (backTo pos (starEach [.Name "ValueError" p2] X.env)).any (·.1) = false := by rfl) :
    PE X (.Call (.Name "isinstance" p) [a, .Name "ValueError" p2] [] pos) (tS cls X.K e Wx (x1 gIsV f)) :=
  pe_imp (pe_callB (call_isX (wd := wd) (cv := .ty "ValueError") (cw := .type "ValueError") (g := gIsV) F (fun u r => r) (fun x d h => by
    unfold gIsV at h
    split at h
    · rename_i m
      split at h
      · rename_i hm
        cases h
        exact ⟨m, _, rfl, hm, rfl, F.kv m hm⟩
      · cases h
    · cases h)) hg hm hv (pa_cons ha (pa_cons (pe_bltn (v := .ty "ValueError") hgs hms hvs rfl (by decide) (by decide)) pa_nil he2) he) (by decide) (by decide) he hpl) fun σ H Q ⟨c, δ, eH, r, q⟩ => by
    rw [← eH]
    show tS cls X.K e Wx f σ c.H _
    refine tS_imp (after_one ke r q) fun u H1 ⟨x, c2, e2, b2, r2, q2, q3⟩ => ?_
    exact ⟨c2, x, u, e2, r2.ok, rfl, q2, after_opt q3⟩
/-- try: .. except SheetError as x: y = x -/
def sHold (i j : Nat) (sf : SF W) : SF W := fun δ w => match sf δ w with
  | .exc m δ' w' => if m < 8 ∧ j < δ'.length then .nx ((δ'.set j (.v (.exc m))).set i .no) w' else .bad
  | r => r
theorem ss_hold {x n y : Str} {i j : Nat} {body : List Stmt} {np p1 p2 p3 pos pos' : Pos} (ke : Ok e) (hs : X.stack = X.env :: X.outer) (hf : X.env.frame = some X.env.locals) (hex : X.ex = []) (F : ExF X.K cls) (hN : X.N.Nodup) (hi : X.N[i]? = some n) (hln : X.env.scope.names.lookup n = some .local)
    (hj : X.N[j]? = some y) (hly : X.env.scope.names.lookup y = some .local) (hij : j ≠ i) (hx : X.mg x = some (.ref (cls 7)))
    (hb : ∀ (Wx : WX) (pn : List (Addr × Obj)) (xe : Value → Shared → Prop), Takes (X.tr pn xe) Wx → PassesOwn (model X.prog X.w) X.A X.env xe → PSs (X.tr pn xe) body (tSS cls X.K e Wx sf))
    (hg : Gl X x := by rfl) (hdx : (x == ("__debug__" : Str)) = false := by decide) (hdn : (n == ("__debug__" : Str)) = false := by decide) (hcn : (n == ("__classdict__" : Str)) = false := by decide) :
    PS X (.Try body [.ExceptHandler (some (.Name x np)) (some n) [.Assign [.Name y p1] (.Name n p2) p3] pos'] [] [] pos) (tSS cls X.K e Wx (sHold i j sf)) :=
  ps_imp (ps_hold hs hf hex hN hi hln hj hly hij ⟨hg, hdx, .inl hx⟩ hdn hcn hb) fun D σ H ⟨c, δ, eH, r, q⟩ => by
    refine ⟨c, δ, eH, r, ?_⟩
    unfold sHold at q
    cases z : sf δ c.w with
    | nx δ' w' => rw [z] at q; exact q
    | rt d w' => rw [z] at q; exact q
    | bk δ' w' => rw [z] at q; exact q
    | ct δ' w' => rw [z] at q; exact q
    | bad => rw [z] at q; exact q
    | exc m δ' w' =>
      rw [z] at q
      dsimp only at q
      by_cases hm : m < 8 ∧ j < δ'.length
      · rw [if_pos hm] at q
        intro σ' c' hw sb r'
        refine ⟨F.xm m hm.1, rfl, cls m, rfl, fun a ha => ?_⟩
        have b := Bs.put r'.ok (ExZ (cls m) a) ha
        have r2 := (r'.step ke b).put (d := .exc m) (u := .ref a) hm.2 ⟨a, rfl, upd_same⟩
        exact q _ (c'.put a (ExZ (cls m) a)) hw (sb.trans b.ff) (r2.drop none)
      · rw [if_neg hm] at q; exact q.elim
end
/-! ## the facts, off the head's look -/
def exChk (K : PySem.W.Frag) (cls : Nat → Addr) : Bool :=
  ((List.range 8).all fun m => decide (PySem.W.findIn K (.ref (cls m)) "__getattribute__" = some (some (.builtin "BaseException.__getattribute__"))) && (decide (PySem.W.findIn K (.ref (cls m)) "__getattr__" = some none) &&
    (decide (PySem.W.subIn K (.ref (cls m)) (.type "BaseException") = some true) && (PySem.W.hasDictIn K (cls m) && (decide (PySem.W.findIn K (.ref (cls m)) "__class__" = some (some (.builtin "object.__class__"))) &&
    (decide (PySem.W.mroIn K (cls m) (.type "object") = some true) && (((List.range 8).all fun n => decide (PySem.W.kitOne K (.ref (cls m)) (.ref (cls n)) = some (decide (m = n) || decide (n = 7)))) &&
    (decide (PySem.W.kitOne K (.ref (cls m)) (.type "ValueError") = some true) && decide (PySem.W.exmOne K (.ref (cls m)) (.ref (cls 7)) = some true))))))))) &&
  (decide (PySem.W.specialIn K (.builtin "object.__class__") "__get__" = some (some (.builtin "getset_descriptor.__get__"))) && decide (PySem.W.takesIn K (.builtin "object.__class__") = some true))
theorem exF_of {K : PySem.W.Frag} {cls : Nat → Addr} (h : exChk K cls = true) : ExF K cls := by
  unfold exChk at h
  simp only [Bool.and_eq_true, List.all_eq_true, decide_eq_true_eq, List.mem_range] at h
  obtain ⟨h1, h2, h3⟩ := h
  exact ⟨fun m hm => (h1 m hm).1, fun m hm => (h1 m hm).2.1, fun m hm => (h1 m hm).2.2.1, fun m hm => (h1 m hm).2.2.2.1, fun m hm => (h1 m hm).2.2.2.2.1, h2, h3, fun m hm => (h1 m hm).2.2.2.2.2.1,
    fun m n hm hn => (h1 m hm).2.2.2.2.2.2.1 n hn, fun m hm => (h1 m hm).2.2.2.2.2.2.2.1, fun m hm => (h1 m hm).2.2.2.2.2.2.2.2⟩
/-- a look with one more check -/
def hookX (n : Nat) (fa : List He.Fa) (fn : List He.FnD) (ck : PySem.W.Frag → Bool) : PySem.W.Hook where
  α := He.Al × Bool
  obs := fun s => (He.obsG n fa fn s.heap.get?, ck (He.frG s.heap.get? (He.asG s.heap.get? n)))
  val := fun _ => (He.valE fn, true)
  says := fun _ h => ∃ K : PySem.W.Frag, K.In h ∧ He.SaysE fa fn K ∧ ck K = true
  of := fun _ _ e => ⟨_, He.frG_in, congrArg Prod.fst e, congrArg Prod.snd e⟩
  keeps := fun _ _ _ ⟨K, hK, c⟩ k => ⟨K, PySem.W.Frag.In.keeps hK k, c⟩
def obsX (n : Nat) (fa : List He.Fa) (fn : List He.FnD) (ck : PySem.W.Frag → Bool) (g : Addr → Option Obj) : He.Al × Bool := (He.obsG n fa fn g, ck (He.frG g (He.asG g n)))
theorem obsX_eq {n : Nat} {fa : List He.Fa} {fn : List He.FnD} {ck : PySem.W.Frag → Bool} {g : Addr → Option Obj} {s : Shared} (h : ∀ a, g a = s.heap.get? a) : obsX n fa fn ck g = (hookX n fa fn ck).obs s := by
  have e : g = s.heap.get? := funext h
  rw [e] <;> rfl
end Z

set_option Elab.async false
set_option linter.all false
set_option maxRecDepth 100000
/-! # Z22: methods of lists, texts by functions; counts, places of truth values; sorted(set(ints)) -/
namespace Z
open PySem PySem.Spec PyProof.Rows L2
theorem vals_count {y : V} : ∀ {ys : List V} {us : List Value}, Vals ys us → ys.all flatV = true → us.countP (eqU y) = ys.countP fun z => eqV z y
  | _, _, .nil, _ => rfl
  | z :: ys, u :: us, .cons r t, h => by
    rw [List.all_cons, Bool.and_eq_true] at h
    rw [List.countP_cons, List.countP_cons, vals_count t h.2, eqU_of r h.1]
section
variable {X : Cx}
def rCntF (K : PySem.W.Frag) : V → List V → Hp → VK → Prop := fun x xs H Q => ∃ (p : Addr) (ys : List V) (y : V), x = .ref p ∧ xs = [y] ∧ SqL K H p ys ∧ flatV y = true ∧ ys.all flatV = true ∧ Q (.int (ys.countP fun z => eqV z y : Nat)) H
theorem mt_cntF : MtR X "list.count" (rCntF X.K) := by
  intro pins s σ H x xs v us Q I rx rxs h
  obtain ⟨p, ys, y, rfl, rfl, hs, fy, fys, q⟩ := h
  cases rx
  obtain ⟨u, rfl, ru⟩ := rxs.one
  obtain ⟨its, rv, ⟨⟨cls, dd, data, sl⟩, n, ho, hc, hdn, hd⟩, hlen⟩ := I.list hs
  have hc : cls = _ := hc
  have hd : data = _ := hd
  subst hc; subst hd
  have cnt : its.toArray.toList.countP (eqU y) = ys.countP fun z => eqV z y := vals_count rv fys
  refine call_meets PySem.F.slot_list_count ⟨_, ho, rfl⟩ PySem.F.entry_list_count (PySem.F.args_list_count_2 _ _) (SeqAt.list_countAt p its.toArray n dd sl u (eqU y)) ⟨ho, ?_, ?_⟩
  · intro z hz
    exact mem_eqAt ru fy rv fys z (by simpa using hz)
  · rw [cnt]
    exact ⟨.int _, H, I.tok _, ⟨s.toks, rfl⟩, q⟩
end
section
variable {X : Cx} {W : Type} {wd : WD W} {cls : Nat → Addr} {e : Cur wd} {Wx : WX} {a b o : Expr} {f h : XF W}
/-- a method of one argument, by a function -/
def rMt (cls : Nat → Addr) (K : PySem.W.Frag) (wd : WD W) (g : D → D → Option D) : V → List V → Hp → VK → Prop := fun u us H Q => ∃ (c : Cur wd) (x y : D) (v : V), c.H = H ∧ Ok c ∧ us = [v] ∧ Dv cls K c x u ∧ Dv cls K c y v ∧ gives cls K c (g x y) Q
theorem mtR_imp {id : String} {r r' : V → List V → Hp → VK → Prop} (h : MtR X id r) (i : ∀ x xs H Q, r' x xs H Q → r x xs H Q) : MtR X id r' := fun pins s σ H x xs v us Q I rx rxs q => h pins s σ H x xs v us Q I rx rxs (i _ _ _ _ q)
def strOf : D → Option Str
  | .p (.str x) => some x
  | _ => none
/-- the thing asked is of this kind -/
def xMt (k : D → Bool) (g : D → D → Option D) (f h : XF W) : XF W := fun δ w => (f δ w).bind fun x w1 => if k x = true then (h δ w1).bind fun y w2 => opt (g x y) w2 else .bad
def isL : D → Bool
  | .p (.list _) => true
  | _ => false
def isS : D → Bool
  | .p (.str _) => true
  | _ => false
theorem isL_ty {K : PySem.W.Frag} {c : Cur wd} {x : D} {u : V} (k : Ok c) (h : isL x = true) (q : Dv cls K c x u) : tyV K "list" u c.H := by
  unfold isL at h
  split at h
  · obtain ⟨p, vs, rfl, h1, _⟩ := dv_lst.mp q
    exact .inl ⟨rfl, vs, SqL.of (k.fh _ _ h1)⟩
  · cases h
theorem isS_ty {K : PySem.W.Frag} {c : Cur wd} {x : D} {u : V} (k : Ok c) (h : isS x = true) (q : Dv cls K c x u) : tyV K "str" u c.H := by
  unfold isS at h
  split at h
  · obtain rfl := dv_str.mp q
    exact rfl
  · cases h
theorem mt_imp {T : String} {kd : D → Bool} {g : D → D → Option D} (ke : Ok e) (hk : ∀ (c : Cur wd) (x : D) (u : V), Ok c → kd x = true → Dv cls X.K c x u → tyV X.K T u c.H) (hs1 : starEach (a :: []) X.env = (false, eval a X.env) :: starEach [] X.env)
    (σ : L2.St) (H : Hp) (Q : VK) (q : tS cls X.K e Wx (xMt kd g f h) σ H Q) : tBM X.K T (rMt cls X.K wd g) (tS cls X.K e Wx f) (tSL cls X.K e Wx (lCons h lNil)) σ H Q := by
  obtain ⟨c, δ, eH, r, q⟩ := q
  subst eH
  refine tS_imp (after_one ke r q) fun u H1 ⟨x, c2, e2, b2, r2, q2, q3⟩ => ?_
  subst e2
  by_cases hx : kd x = true
  · rw [if_pos hx] at q3
    refine ⟨hk c2 x u r2.ok hx q2, ?_⟩
    refine ⟨c2, δ, rfl, r2, ?_⟩
    unfold lCons
    cases z : h δ c2.w with
    | bad => rw [z] at q3; exact q3
    | exc n w => rw [z] at q3; exact q3
    | ok y w =>
      rw [z] at q3
      intro us c3 hw b3 ⟨v, vs, ev, q4, q5⟩
      have q5 : vs = [] := q5
      subst q5
      refine ⟨c3, x, y, v, rfl, b3.ok, ev, q2.mono b3, q4, ?_⟩
      cases z2 : g x y with
      | none => rw [Res.bind, z2] at q3; exact q3.elim
      | some d =>
        rw [Res.bind, z2] at q3
        exact ⟨d, rfl, fun u' c4 hw4 b4 q6 => q3 u' c4 (hw4.trans hw) (b3.trans r2.ok b4) q6⟩
  · rw [if_neg hx] at q3; exact q3.elim
theorem s_mt {T id : String} {name : Str} {kd : D → Bool} {g : D → D → Option D} {apos cpos : Pos} (ke : Ok e) (hk : ∀ (c : Cur wd) (x : D) (u : V), Ok c → kd x = true → Dv cls X.K c x u → tyV X.K T u c.H)
    (pa : PlainAttrs T) (slot : Slot T name id) (hty : typeOf (.builtin id) = pure (.type "method_descriptor")) (hm : MtR X id (rMt cls X.K wd g)) (ho : PE X o (tS cls X.K e Wx f)) (ha : PE X a (tS cls X.K e Wx h))
    (hbase : attributeBase o name X.env (eval o X.env) = eval o X.env := by rfl)
    (hfew : ((backTo cpos (starEach (a :: []) X.env)).all (fun x => !x.1) && (backToKw cpos (keywordEach [] X.env)).all (fun x => x.1.isSome) && decide ((a :: []).length + ([] : List Keyword).length + (if ([] : List Keyword).isEmpty then 0 else 1) < 30)) = true := by rfl)
    (hline : (apos.endLine == cpos.line) = true := by rfl) (hs : starEach (a :: []) X.env = (false, eval a X.env) :: starEach [] X.env := by rfl) (hplain : (backTo cpos (starEach [] X.env)).any (·.1) = false := by rfl) :
    PE X (.Call (.Attribute o name apos) (a :: []) [] cpos) (tS cls X.K e Wx (xMt kd g f h)) :=
  pe_imp (pe_bm pa slot hty hm ho (sa_cons ke ha sa_nil hs) hbase hfew hline hs hplain) fun σ H Q q => mt_imp ke hk hs σ H Q q
/-! ## counts, places of truth values -/
theorem flat_bls (bs : List Bool) : (bs.map V.bl).all flatV = true := by
  rw [List.all_map]
  exact List.all_eq_true.mpr fun _ _ => rfl
def gCnt : D → D → Option D
  | .p (.list xs), .p (.bool b) => (bools? xs).map fun bs => .p (.int (bs.countP fun z => z == b : Nat))
  | _, _ => none
theorem mg_cnt : MtR X "list.count" (rMt cls X.K wd gCnt) := mtR_imp mt_cntF fun u us H Q ⟨c, x, y, v, eH, k, eu, q1, q2, q⟩ => by
  subst eH
  unfold gCnt at q
  split at q
  · rename_i xs b
    cases z : bools? xs with
    | none => rw [z] at q; exact gives_no q
    | some bs =>
      rw [z] at q
      obtain ⟨p, rfl, h1⟩ := bools_list k z q1
      obtain rfl := dv_bl.mp q2
      refine ⟨p, bs.map V.bl, .bl b, rfl, eu, h1, rfl, flat_bls bs, ?_⟩
      have ec : ((bs.map V.bl).countP fun z => eqV z (.bl b)) = bs.countP fun z => z == b := by
        rw [List.countP_map]; rfl
      rw [ec]
      exact gives_v q k (dv_int.mpr rfl)
  · exact gives_no q
/-- the first place -/
def fstAt (b : Bool) : List Bool → Option Nat
  | [] => none
  | x :: r => if x = b then some 0 else (fstAt b r).map (· + 1)
theorem fstAt_is {b : Bool} : ∀ {bs : List Bool} {j : Nat}, fstAt b bs = some j → bs[j]? = some b ∧ ∀ m z, m < j → bs[m]? = some z → z ≠ b
  | [], _, h => by cases h
  | x :: r, j, h => by
    unfold fstAt at h
    by_cases hx : x = b
    · rw [if_pos hx] at h
      cases h
      exact ⟨by rw [hx]; rfl, fun m z hm => by omega⟩
    · rw [if_neg hx] at h
      obtain ⟨i, hi, rfl⟩ := Option.map_eq_some_iff.mp h
      obtain ⟨h1, h2⟩ := fstAt_is hi
      refine ⟨by simpa using h1, fun m z hm hz => ?_⟩
      cases m with
      | zero => simp at hz; rw [← hz]; exact hx
      | succ m => exact h2 m z (by omega) (by simpa using hz)
def gIdx : D → D → Option D
  | .p (.list xs), .p (.bool b) => (bools? xs).bind fun bs => (fstAt b bs).map fun j => .p (.int (j : Nat))
  | _, _ => none
theorem mg_idx : MtR X "list.index" (rMt cls X.K wd gIdx) := mtR_imp mt_index fun u us H Q ⟨c, x, y, v, eH, k, eu, q1, q2, q⟩ => by
  subst eH
  unfold gIdx at q
  split at q
  · rename_i xs b
    cases z : bools? xs with
    | none => rw [z] at q; exact gives_no q
    | some bs =>
      rw [z] at q
      dsimp only [Option.bind] at q
      cases z2 : fstAt b bs with
      | none => rw [z2] at q; exact gives_no q
      | some j =>
        rw [z2] at q
        obtain ⟨p, rfl, h1⟩ := bools_list k z q1
        obtain rfl := dv_bl.mp q2
        obtain ⟨g1, g2⟩ := fstAt_is z2
        refine ⟨p, bs.map V.bl, .bl b, j, .bl b, rfl, eu, h1, rfl, flat_bls bs, by rw [List.getElem?_map, g1]; rfl, by show (b == b) = true; simp, fun m z' hm hz => ?_, gives_v q k (dv_int.mpr rfl)⟩
        rw [List.getElem?_map, Option.map_eq_some_iff] at hz
        obtain ⟨zb, hz, rfl⟩ := hz
        show (zb == b) = false
        exact beq_eq_false_iff_ne.mpr (g2 m zb hm hz)
  · exact gives_no q
end
end Z

set_option Elab.async false
set_option linter.all false
set_option maxRecDepth 100000
/-! # Z23: sorted(set(ints)) -/
namespace Z
open PySem PySem.Spec PyProof.Rows L2
/-! ## sorted(set(ints)) -/
/-- the new, empty set -/
abbrev eset (w : World) : Obj := { cls := .type "set", dict := none, data := .set #[] 0 (.fresh 0 0 (!w.params.followText "set-order")) }
section
variable {P : Program} {w : World} {A : Around} {E : Value → Shared → Prop} {s : Shared}
set_option maxHeartbeats 3200000 in
theorem call_set_lisI {l : Addr} {items : Array Value} (ns : List Int) {Q : Value → Shared → Prop} (hh : A.handled = none) (hl : s.heap.IsList l items) (hit : IntsAre items.toList ns) (hb : ns.length + 1 < scanBound)
    (fin : ∀ (h' : Heap) (tk c : Nat), SetR w h' s.heap.objs.size (fun j => decide (j ∈ ns)) c → c ≤ ns.length → (∀ b o, s.heap.get? b = some o → h'.get? b = some o) → Q (.ref s.heap.objs.size) { s with heap := h', toks := tk }) :
    wpAny (model P w) A (call (.type "set") [.ref l]) Q E s := by
  have many : items.size = ns.length := (Array.length_toList (xs := items)).symm.trans (IntsAre.length hit)
  obtain ⟨cm, tl, mro_⟩ := F.called_set.mro
  have made_ := F.called_set.made
  have sub_ := F.called_set.sub
  refine wpAny_call (codeAny_of_tree ?_)
  show wpAny (model P w) _ (callAny (.type "set") _) _ _ s
  refine wpAny_pure ⟨Code.quiet_builtin _ (by decide +kernel), codeAny_builtin F.entry_type_call ?_⟩
  rw [Around.under_plain (weight_type_call_type "set" [.ref l] []) rfl]
  have notT := F.called_set.notType
  have canC := F.called_set.canCreate
  have tcall := F.typeCall_set_1 (.ref l)
  repeat (any_goals (first | assumption | wp_step))
  let h1 : Heap := s.heap.push (eset w)
  refine codeAny_mono (code_set_led1 (P := P) (w := w) (A := _) (s := s) (.ref l) (E := E) (Q₁ := fun obj t => obj = .ref s.heap.objs.size ∧ t = { s with heap := h1 }) ⟨rfl, rfl⟩) ?_
  intro r t hr
  cases r with
  | error x => exact hr
  | ok fl =>
    cases fl with
    | ret obj =>
      obtain ⟨e1, e2⟩ := hr
      subst e1; subst e2
      have at1 : h1.get? s.heap.objs.size = some (eset w) := Heap.get?_push_size _ rfl
      have isSet : Shared.TypeIs { s with heap := h1 } (.ref s.heap.objs.size) "set" := ⟨_, at1, rfl⟩
      have look_ := F.called_set.init.lookup
      have bind_ := F.called_set.init.bind (.ref s.heap.objs.size)
      repeat (any_goals (first | assumption | wp_step))
      let Good : Heap → Nat → Prop := fun h' c => SetR w h' s.heap.objs.size (fun j => decide (j ∈ ns)) c ∧ c ≤ ns.length ∧ ∀ b o, s.heap.get? b = some o → h'.get? b = some o
      refine codeAny_mono (codeAny_call_builtin (R := wants (fun z u => z = .none ∧ ∃ h' tk c, u = { s with heap := h', toks := tk } ∧ Good h' c) E) F.called_set.init.plain F.entry_set_init (check_set_init_1 isSet ?inner)) ?outer
      case outer =>
        intro r2 t2 hr2
        cases r2 with
        | error x => exact hr2
        | ok fl2 =>
          cases fl2 with
          | ret z =>
            obtain ⟨ez, h', tk, c, et, g1, g2, g3⟩ := hr2
            subst ez; subst et
            repeat (any_goals (first | assumption | wp_step))
            exact fin h' tk c g1 g2 g3
          | _ => exact hr2.elim
      case inner =>
        have ltl : l < s.heap.objs.size := by
          obtain ⟨ol, hol, _⟩ := hl
          exact Heap.lt_size hol
        have isL1 : h1.IsList l items := hl.push _
        obtain ⟨ol, hol, hcl, nl, hdl⟩ := hl
        obtain ⟨oc, od, odt, osl⟩ := ol
        have hcl : oc = _ := hcl
        have hdl : odt = _ := hdl
        subst hcl; subst hdl
        have at2 : h1.get? l = some { cls := .type "list", dict := od, data := .seq items nl, slots := osl } := Heap.get?_push_of_some _ hol
        have sub1 := F.sub_list_set
        have sub2 := F.sub_list_frozenset
        have noD : (Value.type "list" == Value.type "dict") = false := by decide
        unfold Builtin.«set.__init__» noKeywords Builtin.Frozenset.updateFrom
        generalize gI : pyIter = PI
        wp_walk
        subst gI
        refine wpAny_pyIter_list isL1 (wpAny_bind (wpAny_runValue ?_))
        have calm3 : A.in1.in1.in1.handled = none := by simp [hh]
        have size1 : h1.objs.size = s.heap.objs.size + 1 := Heap.size_push ..
        have ltI : l ≠ h1.objs.size := by rw [size1]; exact Nat.ne_of_lt (Nat.lt_succ_of_lt ltl)
        have offS : s.heap.objs.size ∉ [h1.objs.size, l] := by
          rw [size1]
          intro hm
          rcases List.mem_cons.mp hm with e | hm
          · exact Nat.ne_of_lt (Nat.lt_succ_self _) e
          · exact Nat.ne_of_gt ltl (List.mem_singleton.mp hm)
        have each : ∀ (i : Nat) (v : Value), items[i]? = some v → ∃ k t, ns[i]? = some k ∧ v = .int k t := by
          intro i v hv
          have hi : i < ns.length := many ▸ (Array.getElem?_eq_some_iff.mp hv).1
          obtain ⟨t, ev⟩ := PyProof.Rows.IntsAre.int_at hit i v ((Array.getElem?_toList ..).trans hv)
          have e0 : ns[i]? = some ns[i] := List.getElem?_eq_getElem hi
          refine ⟨ns[i], t, e0, ev.trans ?_⟩
          rw [List.getD_eq_getElem?_getD, e0]; rfl
        refine set_update_ints ((Walks.list calm3 _ l ltI items).toS) s.heap.objs.size offS ns many hb each (items.size - 0) 0 _ (by omega) (Nat.zero_le _) ⟨⟨_, Heap.get?_push_size _ rfl, rfl, rfl⟩, (isL1.push _)⟩ ?first ?last
        case first => exact ⟨0, Nat.le_refl 0, setR_new_at (Heap.get?_push_of_some _ at1)⟩
        case last =>
          intro s3 c3 hm hc3 hS3
          obtain ⟨h', g2, d', tk', os'⟩ := s3
          have eg : g2 = s.gens := hm.gens
          have ed : d' = s.drawn := hm.drawn
          have eo : os' = s.os := hm.os
          subst eg; subst ed; subst eo
          rw [many] at hc3
          have kept : ∀ b o, s.heap.get? b = some o → h'.get? b = some o := by
            intro b o eb
            have hb0 : b < s.heap.objs.size := Heap.lt_size eb
            refine hm.heap b o ?_ (Heap.get?_push_of_some _ (Heap.get?_push_of_some _ eb))
            intro hm'
            rcases List.mem_cons.mp hm' with e | hm'
            · exact Nat.ne_of_lt hb0 e
            · have := List.mem_singleton.mp hm'
              exact Nat.ne_of_lt (Nat.lt_succ_of_lt hb0) (this.trans size1)
          show wpAny (model P w) _ _ _ _ _
          refine wpAny_pure ?_
          show wpAny (model P w) _ (ret Value.none) _ _ _
          exact wpAny_pure ⟨rfl, h', tk', c3, rfl, hS3, hc3, kept⟩
    | _ => exact hr.elim
end
section
variable {X : Cx} {W : Type} {wd : WD W} {cls : Nat → Addr} {e : Cur wd} {Wx : WX} {a b o : Expr} {f h : XF W}
def rSetL (K : PySem.W.Frag) (w : World) : List V → Hp → VK → Prop := fun xs H Q => ∃ (l : Addr) (ns : List Int), xs = [.ref l] ∧ SqL K H l (ns.map V.int) ∧ ns.length < 64 ∧ ∀ p c, H p = none → c ≤ ns.length → Q (.ref p) (upd H p (SetO w p (fun j => decide (j ∈ ns)) c))
theorem call_setL (hc : X.calm = true) : CallR X (.type "set") (rSetL X.K X.w) := by
  intro pins s σ H xs us Q I r hq
  obtain ⟨l, ns, rfl, hs, hn, q⟩ := hq
  rw [Vals.ref1 r]
  obtain ⟨its, rv, hl, hz⟩ := I.list hs
  refine call_set_lisI (P := X.prog) (w := X.w) ns (I.ok.hd hc) hl.isList (by simpa using rv.ints) (by unfold scanBound; omega) ?_
  intro h' tk c g1 g2 g3
  have hf : H s.heap.objs.size = none := I.hok.fresh (Nat.le_refl _)
  exact ⟨.ref _, _, I.laid (t' := tk) g3 (Nat.le_refl _) (setO_new g1), rfl, q _ c hf g2⟩
/-- the ints, each once, rising -/
def sortI (ns : List Int) : List Int := (sortP ((ddp ns).map PyData.int)).filterMap fun d => match d with
  | .int i => some i
  | _ => none
def gSortedSet : D → Option D
  | .p (.list xs) => (ints? xs).bind fun ns => if ns.length < 64 then some (.p (.list (sortP ((ddp ns).map PyData.int)))) else none
  | _ => none
theorem le0_int (i j : Int) : le0 (.int i) (.int j) = decide (i ≤ j) := by
  have h : PySem.W.dataLt (.int j) (.int i) = decide (j < i) := by
    unfold PySem.W.dataLt
    simp [PySem.W.keyToks, PyProof.Rows.lexLt, PyProof.Rows.itemOrd]
    rfl
  unfold le0
  rw [h]
  by_cases c : j < i
  · rw [decide_eq_true c, decide_eq_false (by omega)]; rfl
  · rw [decide_eq_false c, decide_eq_true (by omega)]; rfl
theorem s_sortedSet {p p2 q pos : Pos} (ke : Ok e) (hc : X.calm = true) (hm : X.mg "sorted" = none) (hm2 : X.mg "set" = none) (ha : PE X a (tS cls X.K e Wx f)) (hg : Gl X "sorted" := by rfl) (hg2 : Gl X "set" := by rfl)
    (na : starEach [a] X.env = (false, eval a X.env) :: starEach [] X.env := by rfl)
    (nb : starEach [.Call (.Name "set" p2) [a] [] q] X.env = (false, eval (.Call (.Name "set" p2) [a] [] q) X.env) :: starEach [] X.env := by rfl) :
    PE X (.Call (.Name "sorted" p) [.Call (.Name "set" p2) [a] [] q] [] pos) (tS cls X.K e Wx (x1 gSortedSet f)) :=
  pe_imp (pe_callB (cr_sortedSet hc) hg hm bt_sorted (pa_cons (pe_callTy (call_setL hc) hg2 hm2 (by decide +kernel) (pa_cons ha pa_nil na) (by decide) (by decide) na rfl) pa_nil nb) (by decide) (by decide) nb rfl) fun σ H Q ⟨c, δ, eH, r, q⟩ => by
    subst eH
    show tS cls X.K e Wx f σ c.H _
    refine tS_imp (after_one ke r q) fun u H1 ⟨x, c2, e2, b2, r2, q2, q3⟩ => ?_
    replace q3 := after_opt q3
    subst e2
    unfold gSortedSet at q3
    split at q3
    · rename_i xs
      cases z : ints? xs with
      | none => rw [z] at q3; exact gives_no q3
      | some ns =>
        rw [z] at q3
        dsimp only [Option.bind] at q3
        by_cases h64 : ns.length < 64
        · rw [if_pos h64] at q3
          obtain ⟨l, rfl, h1⟩ := ints_list r2.ok z q2
          refine ⟨l, ns, rfl, h1, h64, fun p0 c0 hp0 hc0 => ⟨p0, _, c0, rfl, upd_same, by omega, fun ms p1 hpw hmem hlen hp1 => ?_⟩⟩
          have ems : sortP ((ddp ns).map PyData.int) = ms.map PyData.int := by
            refine sortP_uniq ?_ ?_ ?_
            · simp [allAlike, PySem.W.alike]
            · refine List.Perm.map _ ((List.perm_ext_iff_of_nodup (hpw.imp fun h => Int.ne_of_lt h) (nodup_ddp ns)).mpr fun k => ?_)
              rw [mem_ddp, hmem k, decide_eq_true_eq]
            · refine List.pairwise_map.mpr (hpw.imp fun h => ?_)
              rw [le0_int]
              exact decide_eq_true (Int.le_of_lt h)
          rw [ems] at q3
          obtain ⟨d, ed, fin⟩ := q3
          cases ed
          have bs1 : Bs c2 (c2.lay p0 (SetO X.w p0 (fun j => decide (j ∈ ns)) c0)) := Bs.lay r2.ok _ hp0
          have bs2 := Bs.put bs1.ok (.lst (ms.map V.int)) hp1
          refine fin (.ref p1) ((c2.lay p0 (SetO X.w p0 (fun j => decide (j ∈ ns)) c0)).put p1 (.lst (ms.map V.int))) rfl (bs1.trans r2.ok bs2) ?_
          exact dv_lst.mpr ⟨p1, _, rfl, upd_same, DqL.of_ints ms⟩
        · rw [if_neg h64] at q3; exact gives_no q3
    · exact gives_no q3
end
end Z

set_option Elab.async false
set_option linter.all false
set_option maxRecDepth 100000
/-! # Z24: xs[k][m] += e, xs a list of lists of one's own -/
namespace Z
open PySem PySem.Spec PyProof.Rows L2
section
variable {X : Cx}
def rGetN : V → V → Hp → VK → Prop := fun x y H Q => ∃ (p : Addr) (xs : List V) (j : Nat) (v : V), x = .ref p ∧ y = .int (j : Nat) ∧ H p = some (.lst xs) ∧ xs[j]? = some v ∧ Q v H
theorem get_listN : PGet X rGetN := by
  intro pins s σ H x y v u Q I rx ry h
  obtain ⟨p, xs, j, z, rfl, rfl, hq, he, q⟩ := h
  cases rx
  obtain ⟨t, rfl⟩ := ry
  obtain ⟨its, r, pl, hz⟩ := I.list (SqL.of hq)
  obtain ⟨w, ew, rw'⟩ := r.get he
  have hl := r.length
  have hn := line63
  have hj : j < its.length := (List.getElem?_eq_some_iff.mp ew).1
  refine wpAny_getItem_list pl.isList (Int.natCast_nonneg j) (by omega) (by simpa using ew) ⟨z, H, I, rw', q⟩
end
section
variable {X : Cx} {W : Type} {wd : WD W} {cls : Nat → Addr} {e : Cur wd} {Wx : WX} {ex b d o : Expr} {pos : Pos} {f h k : XF W}
def intAt (xs : List PyData) (m : Nat) : Option Int := match xs[m]? with
  | some (.int i) => some i
  | _ => none
def sAugII (i : Nat) (k h f : XF W) : SF W := fun δ w => match δ[i]? with
  | some (.own2 xss) => match k δ w with
    | .ok y w1 => match (asI y).bind (ixN xss.length) with
      | some j => match h δ w1 with
        | .ok z w2 => match (asI z).bind (fun m => if 0 ≤ m then some m.toNat else none) with
          | some m => match intAt (xss.getD j []) m with
            | some old => match f δ w2 with
              | .ok x w3 => match asI x with
                | some n => .nx (δ.set i (.own2 (xss.set j ((xss.getD j []).set m (.int (old + n)))))) w3
                | none => .bad
              | _ => .bad
            | none => .bad
          | none => .bad
        | _ => .bad
      | none => .bad
    | _ => .bad
  | _ => .bad
theorem ss_augII {i : Nat} {spos : Pos} {p2 : Pos} (ke : Ok e) (ho : PE X o (tVar i)) (hk : PE X b (tS cls X.K e Wx k)) (hh : PE X d (tS cls X.K e Wx h)) (hv : PE X ex (tS cls X.K e Wx f)) (hpl : PlainIx b := by exact fun _ _ => rfl)
    (ha : ∀ ov iv new, augStore d ov iv new = (do holding [new, ov, iv] (setItem ov iv new); release [new, ov, iv] []; pure .next) := by intros; rfl) :
    PS X (.AugAssign (.Subscript (.Subscript o b p2) d spos) .Add ex pos) (tSS cls X.K e Wx (sAugII i k h f)) :=
  ps_imp (ps_augS (pe_ix ix_list ho hk hpl) hh get_listN hv ip_add set_list ha) fun D σ H ⟨c, δ, eH, r, q⟩ => by
    subst eH
    unfold sAugII at q
    split at q
    · rename_i xss hm
      obtain ⟨p, as, e1, g1, g2, g3, _⟩ := r.own2 hm
      refine ⟨.ref p, e1, c, δ, rfl, r, ?_⟩
      cases z2 : k δ c.w with
      | bad => rw [z2] at q; exact q.elim
      | exc n w => rw [z2] at q; exact q.elim
      | ok y w1 =>
        rw [z2] at q
        dsimp only at q
        intro v c2 hw2 b2 q2
        have r2 := r.step ke b2
        cases hy : asI y with
        | none => rw [hy] at q; exact q.elim
        | some m =>
          rw [hy] at q
          dsimp only [Option.bind] at q
          cases hj : ixN xss.length m with
          | none => rw [hj] at q; exact q.elim
          | some j =>
            rw [hj] at q
            dsimp only at q
            obtain ⟨p', as', e1', g1', g2', g3', kk⟩ := r2.own2 hm
            have ep : p' = p := by rw [e1] at e1'; cases e1'; rfl
            subst ep
            have hjl : j < as'.length := by rw [g3'.1]; exact ixN_lt hj
            have hb : as'[j]? = some as'[j] := List.getElem?_eq_getElem hjl
            have hat : atI (as'.map V.ref) m = some (.ref as'[j]) := by
              unfold atI
              rw [List.length_map, g3'.1, hj]
              simp [hjl]
            have hxs : xss[j]? = some (xss.getD j []) := by
              have := ixN_lt hj
              rw [List.getD_eq_getElem?_getD, List.getElem?_eq_getElem this]; rfl
            refine ⟨p', _, m, _, rfl, asI_eq hy q2, SqL.of g1', hat, c2, δ, rfl, r2, ?_⟩
            rw [hw2]
            cases z3 : h δ w1 with
            | bad => rw [z3] at q; exact q.elim
            | exc n w => rw [z3] at q; exact q.elim
            | ok zz w2 =>
              rw [z3] at q
              dsimp only at q
              intro v3 c3 hw3 b3 q3
              have r3 := r2.step ke b3
              cases hz : asI zz with
              | none => rw [hz] at q; exact q.elim
              | some mm =>
                rw [hz] at q
                dsimp only [Option.bind] at q
                by_cases h0 : 0 ≤ mm
                · rw [if_pos h0] at q
                  dsimp only at q
                  unfold intAt at q
                  split at q
                  · rename_i old hold
                    split at hold
                    · rename_i oldx hold'
                      cases hold
                      obtain ⟨p3, as3, e3, g31, g32, g33, kk3⟩ := r3.own2 hm
                      have ep3 : p3 = p' := by rw [e1'] at e3; cases e3; rfl
                      subst ep3
                      have eas : as3 = as' := by
                        have hx := b3.hh p3 _ (fun zfp => ?_) g1'
                        · rw [g31] at hx
                          exact (List.map_inj_right (fun x y h => V.ref.inj h)).mp (HO.lst.inj (Option.some.inj hx))
                        · obtain ⟨oo, w1', _, _, _, w5⟩ := r2.ex
                          obtain ⟨a9, as9, q91, q92, _⟩ := w1' i _ hm
                          have : a9 = p3 := by rw [e1'] at q92; cases q92; rfl
                          subst this
                          exact (w5 i a9 (by rw [q91]; exact List.mem_cons_self)).1.2.1 zfp
                      subst eas
                      obtain ⟨us, k1, k2⟩ := g33.2 j _ _ hb hxs
                      obtain ⟨vo, ko1, ko2⟩ := k2.get hold'
                      simp only [Dq] at ko2
                      subst ko2
                      have emm : V.int mm = .int (mm.toNat : Nat) := by rw [Int.toNat_of_nonneg h0]
                      refine ⟨as3[j], us, mm.toNat, .int old, rfl, by rw [asI_eq hz q3, emm], k1, ko1, c3, δ, rfl, r3, ?_⟩
                      rw [hw3]
                      cases z4 : f δ w2 with
                      | bad => rw [z4] at q; exact q.elim
                      | exc n w => rw [z4] at q; exact q.elim
                      | ok xx w3 =>
                        rw [z4] at q
                        dsimp only at q
                        intro v4 c4 hw4 b4 q4
                        cases hx : asI xx with
                        | none => rw [hx] at q; exact q.elim
                        | some nn =>
                          rw [hx] at q
                          have r4 := r3.step ke b4
                          obtain ⟨p4, as4, e4, g41, g42, g43, kk4⟩ := r4.own2 hm
                          have ep4 : p4 = p3 := by rw [e1'] at e4; cases e4; rfl
                          subst ep4
                          have eas4 : as4 = as3 := by
                            have hx := b4.hh p4 _ (fun zfp => ?_) g31
                            · rw [g41] at hx
                              exact (List.map_inj_right (fun x y h => V.ref.inj h)).mp (HO.lst.inj (Option.some.inj hx))
                            · obtain ⟨oo, w1', _, _, _, w5⟩ := r3.ex
                              obtain ⟨a9, as9, q91, q92, _⟩ := w1' i _ hm
                              have : a9 = p4 := by rw [e1'] at q92; cases q92; rfl
                              subst this
                              exact (w5 i a9 (by rw [q91]; exact List.mem_cons_self)).1.2.1 zfp
                          subst eas4
                          obtain ⟨us4, k41, k42⟩ := g43.2 j _ _ hb hxs
                          have hml : mm.toNat < (xss.getD j []).length := (List.getElem?_eq_some_iff.mp hold').1
                          have hix : ixN us4.length mm = some mm.toNat := by
                            unfold ixN
                            rw [if_pos h0, if_pos (by rw [k42.len]; omega)]
                          refine ⟨old, nn, rfl, asI_eq hx q4, as4[j], us4, mm, mm.toNat, rfl, asI_eq hz q3, k41, hix, ?_⟩
                          exact q σ { c4 with H := upd c4.H as4[j] (.lst (us4.set mm.toNat (.int (old + nn)))) } hw4 ((b2.ff.trans b3.ff).trans b4.ff) ((kk4 j _ hb).2 _ _ (k42.set (by simp [Dq]) mm.toNat))
                    · cases hold
                  · exact q.elim
                · rw [if_neg h0] at q; exact q.elim
    · exact q.elim
end
end Z

set_option Elab.async false
set_option linter.all false
set_option maxRecDepth 100000
/-! # Z25: lists of one's own: lent, copied, repeated, an item removed, returned as such -/
namespace Z
open PySem PySem.Spec PyProof.Rows L2
/-! ## lent -/
def flatP : PyData → Bool
  | .none => true
  | .bool _ => true
  | .int _ => true
  | .str _ => true
  | _ => false
theorem flat_dq {F F' : Hp} {d : PyData} {v : V} (h : flatP d = true) (q : Dq F d v) : Dq F' d v := by
  cases d <;> first | exact q | cases h
/-- the world does not lean on what is frozen -/
def WFree {W : Type} (wd : WD W) : Prop := ∀ k w F F' H, wd.rel k w F H → wd.rel k w F' H
theorem wfree0 : WFree W0 := fun _ _ _ _ _ _ => trivial
theorem wfreeW : WFree WW := fun _ _ _ _ _ h => h
section
variable {W : Type} {wd : WD W} {c c0 c2 : Cur wd}
/-- what was frozen meanwhile is not, any more -/
theorem bs_drop (hF : WFree wd) (k : Ok c) (hk : c0.k = c.k) (hH : c0.H = c.H) (s : Sub c.F c0.F) (b : Bs c0 c2) : Bs c (⟨c2.k, c.F, c2.w, c2.H⟩ : Cur wd) where
  ok := {
    fh := fun a o q => b.ok.fh a o (b.ff a o (s a o q))
    wr := hF _ _ _ _ _ b.ok.wr
    wf := fun a ha => by
      obtain ⟨h1, h2⟩ := b.ok.wf a ha
      refine ⟨?_, h2⟩
      rcases none_or (c.F a) with q | ⟨u, q⟩
      · exact q
      · rw [b.ff a u (s a u q)] at h1; cases h1 }
  ff := Sub.refl _
  hh := fun a o n q => b.hh a o (by rw [hk]; exact n) (by rw [hH]; exact q)
  fn := fun a h => .inl h
  kh := fun n a q => b.kh n a (by rw [hk]; exact q)
  kf := fun a q => by
    have := b.kf a q
    rwa [hk, hH] at this
  kg := fun a q => b.kg a (by rw [hk]; exact q)
end
section
variable {X : Cx} {W : Type} {wd : WD W} {cls : Nat → Addr} {e : Cur wd} {Wx : WX} {tg ex a b d o : Expr} {pos pos' : Pos} {f h : XF W} {i : Nat}
/-- a slot's list, as frozen data -/
def frzD : Option Sl → Option D
  | some (.own xs) => some (.p (.list xs))
  | some (.own2 xss) => some (.p (.list (xss.map .list)))
  | _ => none
def flatD : D → Bool
  | .p d => flatP d
  | _ => false
def xBor (i : Nat) (f : XF W) : XF W := fun δ w => match frzD δ[i]? with
  | some x => match f (δ.set i (.v x)) w with
    | .ok d w' => if flatD d = true then .ok d w' else .bad
    | .exc n w' => .exc n w'
    | .bad => .bad
  | none => .bad
theorem rz_lend {K : PySem.W.Frag} {c : Cur wd} {δ : Ev} {σ : L2.St} {x : D} (r : Rz cls K e c δ σ) (h : frzD δ[i]? = some x) : ∃ c' : Cur wd, c'.k = c.k ∧ c'.H = c.H ∧ c'.w = c.w ∧ Sub c.F c'.F ∧ Rz cls K e c' (δ.set i (.v x)) σ := by
  unfold frzD at h
  split at h
  · rename_i xs hs
    cases h
    obtain ⟨c', e1, e2, s1, ek, r1⟩ := r.frz hs
    exact ⟨c', ek, e1, e2, s1, r1⟩
  · rename_i xss hs
    cases h
    obtain ⟨c', e1, e2, s1, ek, r1⟩ := r.frz2 hs
    exact ⟨c', ek, e1, e2, s1, r1⟩
  · cases h
theorem s_bor (hF : WFree wd) (he : PE X ex (tS cls X.K e Wx f)) : PE X ex (tS cls X.K e Wx (xBor i f)) := pe_imp he fun σ H Q ⟨c, δ, eH, r, q⟩ => by
  unfold xBor at q
  cases z : frzD δ[i]? with
  | none => rw [z] at q; exact q.elim
  | some x =>
    rw [z] at q
    obtain ⟨c0, ek, e1, e2, s1, r1⟩ := rz_lend r z
    refine ⟨c0, δ.set i (.v x), e1.trans eH, r1, ?_⟩
    rw [e2]
    dsimp only at q
    cases z2 : f (δ.set i (.v x)) c.w with
    | bad => rw [z2] at q; exact q
    | exc n w' =>
      rw [z2] at q
      exact fun c2 hw b => q ⟨c2.k, c.F, c2.w, c2.H⟩ hw (bs_drop hF r.ok ek e1 s1 b)
    | ok d w' =>
      rw [z2] at q
      dsimp only at q
      by_cases hd : flatD d = true
      · rw [if_pos hd] at q
        intro u c2 hw b qd
        refine q u ⟨c2.k, c.F, c2.w, c2.H⟩ hw (bs_drop hF r.ok ek e1 s1 b) ?_
        cases d with
        | p d => exact flat_dq hd qd
        | _ => cases hd
      · rw [if_neg hd] at q; exact q.elim
/-! ## list(xs), xs one's own: a frozen copy -/
def xListF (i : Nat) : XF W := fun δ w => match δ[i]? with
  | some (.own xs) => .ok (.p (.list xs)) w
  | _ => .bad
theorem s_listF {p : Pos} (ke : Ok e) (hm : X.mg "list" = none) (ho : PE X o (tVar i)) (hg : Gl X "list" := by rfl)
    (he : starEach (o :: []) X.env = (false, eval o X.env) :: starEach [] X.env := by rfl) (hpl : (backTo pos (starEach [] X.env)).any (·.1) = false := by rfl) : PE X (.Call (.Name "list" p) [o] [] pos) (tS cls X.K e Wx (xListF (W := W) i)) :=
  pe_imp (pe_callTy call_list_of hg hm bt_list (pa_cons ho pa_nil he) (by decide) (by decide) he hpl) fun σ H Q ⟨c, δ, eH, r, q⟩ => by
    subst eH
    unfold xListF at q
    split at q
    · rename_i xs hm2
      show tVar i σ c.H _
      refine var_own r hm2 fun p vs e1 g1 g2 => ⟨p, vs, rfl, .inl (SqL.of g1), ?_⟩
      exact gives_lst (cls := cls) (K := X.K) ⟨_, rfl, fun u c' hw b qd => q u c' hw b qd⟩ r.ok g2
    · exact q.elim
/-! ## [..] * n, list(range(n)), one's own -/
def xRepO (f h : XF W) : XS W := fun δ w => (f δ w).bind fun x w1 => (h δ w1).bind fun y w2 => match gMul x y with
  | some (.p (.list xs)) => (match x with
    | .p (.list _) => .ok (.own xs) w2
    | _ => .bad)
  | _ => .bad
theorem afterX_of {K : PySem.W.Frag} {c : Cur wd} {σ : L2.St} {s : Sl} {w : W} {Q : VK} (h : afterX cls K c σ Wx (.ok s w) Q) {c2 : Cur wd} (b : Bs c c2) (kc : Ok c) : afterX cls K c2 σ Wx (.ok s w) Q :=
  fun u c3 A hw b3 hs hn hA => h u c3 A hw (b.trans kc b3) hs hn fun a ha => ⟨⟨(hA a ha).1.1, (hA a ha).1.2.1, fre_back (c' := c3) kc b (hA a ha).1.2.2⟩, (hA a ha).2⟩
theorem x_repO (ke : Ok e) (ha : PE X a (tS cls X.K e Wx f)) (hb : PE X b (tS cls X.K e Wx h)) : PE X (.BinOp a .Mult b pos) (tSX cls X.K e Wx (xRepO f h)) :=
  pe_imp (pe_op op_rep ha hb) fun σ H Q ⟨c, δ, eH, r, q⟩ => by
    subst eH
    refine tS_imp (after_oneX (K := X.K) ke r q) fun u H1 ⟨x, c2, e2, b2, r2, q2, q3⟩ => ?_
    subst e2
    refine tS_imp (after_oneX (K := X.K) ke r2 q3) fun v H2 ⟨y, c3, e3, b3, r3, q4, q5⟩ => ?_
    subst e3
    have fin : ∀ xs j, x = .p (.list xs) → y = .p (.int j) → (j < 1000000 ∧ -1000000 < j ∧ xs.length * j.toNat ≤ lim) → afterX cls X.K c3 σ Wx (.ok (.own (List.replicate j.toNat xs).flatten) c3.w) Q → rRep u v c3.H Q := by
      intro xs j ex ey hj qq
      subst ex; subst ey
      obtain ⟨p, vs, rfl, h1, r1⟩ := dv_lst.mp (q2.mono b3)
      obtain rfl := dv_int.mp q4
      exact ⟨p, j, vs, rfl, rfl, r3.ok.fh _ _ h1, by omega, by omega, by rw [r1.len, ← lim_eq]; exact hj.2.2, gives_own qq r3.ok (r1.rep _)⟩
    cases x with
    | p dx =>
      cases dx with
      | list xs =>
        cases y with
        | p dy =>
          cases dy with
          | int j =>
            by_cases hj : j < 1000000 ∧ -1000000 < j ∧ xs.length * j.toNat ≤ lim
            · have ez : gMul (.p (.list xs)) (.p (.int j)) = some (.p (.list (List.replicate j.toNat xs).flatten)) := if_pos hj
              rw [ez] at q5
              exact fin xs j rfl rfl hj q5
            · have ez : gMul (.p (.list xs)) (.p (.int j)) = none := if_neg hj
              rw [ez] at q5
              exact q5.elim
          | _ => exact q5.elim
        | _ => exact q5.elim
      | _ =>
        exfalso
        revert q5
        generalize gMul _ y = g
        intro q5
        match g, q5 with
        | some (.p (.list _)), q5 => exact q5.elim
    | _ =>
      exfalso
      revert q5
      generalize gMul _ y = g
      intro q5
      match g, q5 with
      | some (.p (.list _)), q5 => exact q5.elim
def xRgO (f : XF W) : XS W := fun δ w => (f δ w).bind fun x w1 => match (asI x).bind (gRg false 0) with
  | some (.p (.list xs)) => .ok (.own xs) w1
  | _ => .bad
theorem x_rgO {p pos p' pos' : Pos} (ke : Ok e) (hc : X.calm = true) (hm : X.mg "list" = none) (hm' : X.mg "range" = none) (ha : PE X a (tS cls X.K e Wx f)) (hg : Gl X "list" := by rfl) (hg' : Gl X "range" := by rfl)
    (na : starEach [.Call (.Name "range" p') [a] [] pos'] X.env = (false, eval (.Call (.Name "range" p') [a] [] pos') X.env) :: starEach [] X.env := by rfl) (na' : starEach [a] X.env = (false, eval a X.env) :: starEach [] X.env := by rfl) :
    PE X (.Call (.Name "list" p) [.Call (.Name "range" p') [a] [] pos'] [] pos) (tSX cls X.K e Wx (xRgO f)) :=
  pe_imp (pe_listRg hc hg hm (prg_1 hg' hm' ha na') na) fun σ H Q ⟨c, δ, eH, r, q⟩ => by
    subst eH
    refine tS_imp (after_oneX ke r q) fun u H1 ⟨x, c2, e2, b2, r2, q2, q3⟩ => ?_
    subst e2
    cases z : asI x with
    | none => rw [z] at q3; exact q3.elim
    | some n =>
      rw [z] at q3
      dsimp only [Option.bind] at q3
      unfold gRg at q3
      by_cases hn : 0 ≤ (0 : Int) ∧ (0 : Int) ≤ 16777216 ∧ 0 ≤ n ∧ n ≤ 16777216
      · rw [if_pos hn] at q3
        refine ⟨n, asI_eq z q2, RgOk.of_le hn.1 hn.2.2.2 hn.2.1 hn.2.2.1, ?_⟩
        exact gives_own q3 r2.ok (dq_rg 0 n)
      · rw [if_neg hn] at q3; exact q3.elim
/-! ## xs.remove(e), xs one's own -/
def rRemD (K : PySem.W.Frag) : V → List V → Hp → VK → Prop := fun x us H Q => ∃ (p : Addr) (vs : List V) (ds : List PyData) (y : V) (dy : PyData) (j : Nat), x = .ref p ∧ us = [y] ∧ H p = some (.lst vs) ∧ DpAll K H vs ds ∧ Dp K H y dy ∧
  PyData.plainAll ds = true ∧ dy.plain = true ∧ min (PyData.depthAll ds) dy.depth ≤ 60 ∧ SeqAt.dataPlace ds dy = some j ∧ Q .non (upd H p (.lst (vs.eraseIdx j)))
theorem mt_remD (hu : X.A.units + 64 < cLine) : MtR X "list.remove" (rRemD X.K) := by
  intro pins s σ H x us v ws Q I rx rxs hq
  obtain ⟨p, vs, ds, y, dy, j, rfl, rfl, hp, ha, hy, pl1, pl2, hdep, hj, q⟩ := hq
  cases rx
  obtain ⟨u, rfl, ru⟩ := rxs.one
  obtain ⟨z, its, n, rv, hl, e1⟩ := I.lstM hp
  obtain ⟨as, k1⟩ := Dp.readsAll I ds vs its ha rv
  obtain ⟨bs, k2⟩ := Dp.reads I dy y u hy ru
  refine SeqAt.remove_list_data (l := p) (vs := its.toArray) ⟨_, e1, rfl, n, rfl⟩ (by simpa using k1) k2 pl1 pl2 (by omega) hj (by rw [List.size_toArray, ← hl]; exact z) ?_
  refine ⟨.non, _, I.lset (its' := its.eraseIdx j) (t' := s.toks) hp e1 (by rw [List.eraseIdxIfInBounds_toArray]) (rv.eraseIdx j) ?_, rfl, q⟩
  exact Nat.le_trans (List.length_eraseIdx_le _ _) z
def sRem (i : Nat) (f : XF W) : SF W := fun δ w => match δ[i]? with
  | some (.own xs) => match f δ w with
    | .ok (.p d) w' => if PyData.plainAll xs = true ∧ d.plain = true ∧ min (PyData.depthAll xs) d.depth ≤ 60 then (match SeqAt.dataPlace xs d with
      | some j => .nx (δ.set i (.own (xs.eraseIdx j))) w'
      | none => .bad) else .bad
    | _ => .bad
  | _ => .bad
theorem ss_rem {apos cpos : Pos} (ke : Ok e) (hc : X.calm = true) (hu : X.A.units + 64 < cLine) (ho : PE X o (tVar i)) (ha : PE X a (tS cls X.K e Wx f))
    (hbase : attributeBase o "remove" X.env (eval o X.env) = eval o X.env := by rfl)
    (hfew : ((backTo cpos (starEach (a :: []) X.env)).all (fun x => !x.1) && (backToKw cpos (keywordEach [] X.env)).all (fun x => x.1.isSome) && decide ((a :: []).length + ([] : List Keyword).length + (if ([] : List Keyword).isEmpty then 0 else 1) < 30)) = true := by rfl)
    (hline : (apos.endLine == cpos.line) = true := by rfl) (hs : starEach (a :: []) X.env = (false, eval a X.env) :: starEach [] X.env := by rfl) (hplain : (backTo cpos (starEach [] X.env)).any (·.1) = false := by rfl)
    (hsw : swapsWith (.Call (.Attribute o "remove" apos) (a :: []) [] cpos) none pos.line X.env = pure false := by rfl) :
    PS X (.Expr (.Call (.Attribute o "remove" apos) (a :: []) [] cpos) pos) (tSS cls X.K e Wx (sRem i f)) :=
  ps_imp (ps_expr (pe_bm PySem.F.plainAttrs_list PySem.F.slot_list_remove PySem.F.type_list_remove (mt_remD hu) ho (pa_cons ha pa_nil hs) hbase hfew hline hs hplain) hsw) fun D σ H ⟨c, δ, eH, r, q⟩ => by
    subst eH
    unfold sRem at q
    split at q
    · rename_i xs0 hm
      unfold tDrop tBM
      refine var_own r hm fun p vs e1 g1 g2 => ⟨.inl ⟨rfl, vs, SqL.of g1⟩, ?_⟩
      refine ⟨c, δ, rfl, r, ?_⟩
      cases z : f δ c.w with
      | bad => rw [z] at q; exact q.elim
      | exc n w => rw [z] at q; exact q.elim
      | ok x w' =>
        rw [z] at q
        cases x with
        | p d =>
          dsimp only at q
          by_cases hh : PyData.plainAll xs0 = true ∧ d.plain = true ∧ min (PyData.depthAll xs0) d.depth ≤ 60
          · rw [if_pos hh] at q
            cases z2 : SeqAt.dataPlace xs0 d with
            | none => rw [z2] at q; exact q.elim
            | some j =>
              rw [z2] at q
              intro u c' hw b q'
              have r' := r.step ke b
              obtain ⟨a1, vs1, e1', g3, g4, g5, kk⟩ := r'.own hm
              have ea : a1 = p := by rw [e1] at e1'; cases e1'; rfl
              subst ea
              refine ⟨a1, vs1, xs0, u, d, j, rfl, rfl, g3, DqL.dp r'.ok.fh _ _ g4, Dq.dp r'.ok.fh _ _ q', hh.1, hh.2.1, hh.2.2, z2, ?_⟩
              exact q σ { c' with H := upd c'.H a1 (.lst (vs1.eraseIdx j)) } hw b.ff (kk (xs0.eraseIdx j) (vs1.eraseIdx j) (g4.eraseIdx j))
          · rw [if_neg hh] at q; exact q.elim
        | _ => exact q.elim
    · exact q.elim
end
/-! ## defs that return a list of their own -/
abbrev FO (W : Type) := List D → W → Res W Sl
abbrev SO (W : Type) := Ev → W → Res W Sl
section
variable {W : Type} {wd : WD W}
def afterO (cls : Nat → Addr) (K : PySem.W.Frag) (c : Cur wd) (r : Res W Sl) (Q : VK) (E : XK) : Prop := match r with
  | .ok s w' => ∀ u c' A, c'.w = w' → Bs c c' → SlI cls K c' A s (some (some u)) → A.Nodup → (∀ a ∈ A, Fre c c' a ∧ c'.H a ≠ none) → Q u c'.H
  | .exc n w' => ∀ c', c'.w = w' → Bs c c' → E (.ref (cls n)) none c'.H
  | .bad => False
def spO (cls : Nat → Addr) (K : PySem.W.Frag) (wd : WD W) (n : Nat) (f : FO W) : Sp := fun vs H Q E => ∃ (c : Cur wd) (ds : List D), c.H = H ∧ Ok c ∧ DvL cls K c ds vs ∧ ds.length = n ∧ afterO cls K c (f ds c.w) Q E
def tSO (cls : Nat → Addr) (K : PySem.W.Frag) (e : Cur wd) (Wx : WX) (f : SO W) : TS := fun D σ H => ∃ c δ, c.H = H ∧ Rz cls K e c δ σ ∧ match f δ c.w with
  | .ok s w' => ∀ u c' A, c'.w = w' → Bs e c' → SlI cls K c' A s (some (some u)) → A.Nodup → (∀ a ∈ A, Fre e c' a ∧ c'.H a ≠ none) → D.rt u c'.H
  | .exc n w' => ∀ σ' c', c'.w = w' → Bs e c' → Wx (.ref (cls n)) none σ' c'.H
  | .bad => False
def runO (n : Nat) (so : SO W) : FO W := fun ds w => so (ds.map .v ++ List.replicate (n - ds.length) .no) w
end
section
variable {X : Cx} {W : Type} {wd : WD W} {cls : Nat → Addr} {e : Cur wd} {Wx : WX} {o : Expr} {pos : Pos} {st : Stmt} {sts : List Stmt} {sf : SF W} {so : SO W} {g : XS W} {i : Nat}
def oSeq (sf : SF W) (so : SO W) : SO W := fun δ w => match sf δ w with
  | .nx δ' w' => so δ' w'
  | .rt d w' => .ok (.v d) w'
  | .exc n _ w' => .exc n w'
  | _ => .bad
theorem so_cons (h1 : PS X st (tSS cls X.K e Wx sf)) (h2 : PSs X sts (tSO cls X.K e Wx so)) : PSs X (st :: sts) (tSO cls X.K e Wx (oSeq sf so)) :=
  pss_imp (pss_cons h1 h2) fun D σ H ⟨c, δ, eH, r, q⟩ => by
    refine ⟨c, δ, eH, r, ?_⟩
    unfold oSeq at q
    cases z : sf δ c.w with
    | nx δ' w' =>
      rw [z] at q
      intro σ' c' hw s r'
      refine ⟨c', δ', rfl, r', ?_⟩
      rw [hw]
      exact q
    | rt d w' => rw [z] at q; exact fun u c' hw b qd => q u c' [] hw b ⟨rfl, u, rfl, qd⟩ List.nodup_nil fun _ h => by cases h
    | bk δ' w' => rw [z] at q; exact q.elim
    | ct δ' w' => rw [z] at q; exact q.elim
    | exc n δ' w' => rw [z] at q; exact fun σ' c' hw s r' => q σ' c' hw r'.bs
    | bad => rw [z] at q; exact q.elim
/-- return xs, xs one's own -/
def oRet (i : Nat) : SO W := fun δ w => match δ[i]? with
  | some (.own xs) => .ok (.own xs) w
  | some (.own2 xss) => .ok (.own2 xss) w
  | _ => .bad
theorem so_ret (ho : PE X o (tVar i)) : PSs X [.Return (some o) pos] (tSO cls X.K e Wx (oRet (W := W) i)) := pss_imp (pss_one (ps_ret ho)) fun D σ H ⟨c, δ, eH, r, q⟩ => by
  subst eH
  obtain ⟨ad, h1, h2, h3, h4, h5⟩ := id r.ex
  unfold oRet at q
  cases hm : δ[i]? with
  | none => rw [hm] at q; exact q.elim
  | some s =>
    rw [hm] at q
    cases s with
    | own xs =>
      obtain ⟨a, vs, q1, q2, q3, q4⟩ := h1 i _ hm
      exact ⟨.ref a, q2, q (.ref a) c (ad i) rfl r.bs ⟨a, vs, q1, rfl, q3, q4⟩ (h4 i) (h5 i)⟩
    | own2 xss =>
      obtain ⟨a, as, q1, q2, q3, q4⟩ := h1 i _ hm
      exact ⟨.ref a, q2, q (.ref a) c (ad i) rfl r.bs ⟨a, as, q1, rfl, q3, q4⟩ (h4 i) (h5 i)⟩
    | no => exact q.elim
    | v _ => exact q.elim
/-- return e, e a new list -/
def oRetX (g : XS W) : SO W := g
theorem so_retX (ke : Ok e) (he : PE X o (tSX cls X.K e Wx g)) : PSs X [.Return (some o) pos] (tSO cls X.K e Wx (oRetX g)) := pss_imp (pss_one (ps_ret he)) fun D σ H ⟨c, δ, eH, r, q⟩ => by
  refine ⟨c, δ, eH, r, ?_⟩
  unfold oRetX at q
  cases z : g δ c.w with
  | bad => rw [z] at q; exact q
  | exc n w' => rw [z] at q; exact fun c' hw b => q σ c' hw (r.bs.trans ke b)
  | ok s w' =>
    rw [z] at q
    exact fun u c' A hw b hs hn hA => q u c' A hw (r.bs.trans ke b) hs hn fun a ha => ⟨⟨(hA a ha).1.1, (hA a ha).1.2.1, fre_back (c' := c') ke r.bs (hA a ha).1.2.2⟩, (hA a ha).2⟩
end
/-- the def x keeps what fo says, and what it returns is the caller's own -/
def Ko (P : Program) (w : World) (K : PySem.W.Frag) (mg : Str → Option Value) (base : Heap) {W : Type} (cls : Nat → Addr) (wd : WD W) (x : Str) (k n : Nat) (fo : FO W) : Prop :=
  ∃ f fd ps, mg x = some (.ref f) ∧ PySem.W.keepIn K (.ref f) = true ∧ Binds K fd ps [] ∧ FnOk P w K mg base (L2.CX P w) k f fd ps (spO cls K wd n fo)
section
variable {P : Program} {w : World} {K : PySem.W.Frag} {mg : Str → Option Value} {base : Heap} {W : Type} {wd : WD W} {cls : Nat → Addr} {x : Str} {k n : Nat}
theorem koZ {st : Stmt} {N ps : List Str} {so : SO W} (D : Df K mg x st) (S : FnScope N ps (defScope st))
    (bs : ∀ (kV doc pm : Value) (an : Option Addr) (cdv ct : Value) (us : List Value), us.length = ps.length → bindArgs (PySem.W.fnOf x x (defArgs st) (defBody st) (defScope st) .none kV doc pm an cdv ct) ⟨us, []⟩ = pure (ps.zip us))
    (hb : ∀ (f : Addr) (cdv : Value) (A : Around) (outer : List Env) (s : Shared) (H : Hp) (E : XK) (e : Cur wd), Ok e → Room k (A.deeper (envOfC x (defScope st) s.heap.objs.size f cdv)) →
      PSs (cxOf (L2.CX P w) P w K mg base N x (defScope st) f cdv A outer s H E) (defBody st) (tSO cls K e (WxE E) so)) : Ko P w K mg base cls wd x (k + 1) ps.length (runO N.length so) := by
  obtain ⟨f, fd, h1, F⟩ := D
  refine ⟨f, fd, ps, h1, F.kp, F.binds bs, ?_⟩
  refine F.okX S (fun vs H Q E ⟨c, ds, _, _, h, hl, _⟩ => h.len.trans hl) (fun cdv A outer s H vs Q E hr ⟨c, ds, eH, kc, h, hl, q⟩ => ⟨_, hb f cdv A outer s H E c kc hr, ?_⟩)
  refine ⟨c, _, eH, rz_start (N := N) kc h, ?_⟩
  unfold runO at q
  cases z : so (ds.map Sl.v ++ List.replicate (N.length - ds.length) .no) c.w with
  | ok s w' => rw [z] at q; exact fun u c' A hw b hs hn hA => q u c' A hw b hs hn hA
  | exc n w' => rw [z] at q; exact fun σ' c' hw b => q c' hw b
  | bad => rw [z] at q; exact q
end
/-! a def without a world, called in one -/
def noObjS : Sl → Bool
  | .v d => noObj d
  | _ => true
def liftO {W : Type} (fo : FO Unit) : FO W := fun ds w => if ds.all noObj = true then match fo ds () with
    | .ok s _ => if noObjS s = true then .ok s w else .bad
    | .exc n _ => .exc n w
    | .bad => .bad
  else .bad
section
variable {W : Type} {wd : WD W} {cls : Nat → Addr} {n : Nat}
theorem sl_cu {K : PySem.W.Frag} {c : Cur wd} {c' : Cur W0} {A : List Addr} {s : Sl} {o : Option (Option V)} (hn : noObjS s = true) (h : SlI cls K c' A s o) : SlI cls K (⟨c.k, c'.F, c.w, c'.H⟩ : Cur wd) A s o := by
  cases s with
  | no => exact h
  | v d =>
    obtain ⟨h1, u, h2, h3⟩ := h
    exact ⟨h1, u, h2, dv_cu h3⟩
  | own xs => exact h
  | own2 xss => exact h
theorem so_lift {K : PySem.W.Frag} {f0 : FO Unit} (vs : List V) (H : Hp) (Q : VK) (E : XK) (h : spO cls K wd n (liftO f0) vs H Q E) : spO cls K W0 n f0 vs H Q E := by
  obtain ⟨c, ds, eH, k, q, hl, h⟩ := h
  unfold liftO at h
  by_cases hn : ds.all noObj = true
  · rw [if_pos hn] at h
    refine ⟨cu c, ds, eH, cu_ok k, cu_dvl hn q, hl, ?_⟩
    cases z : f0 ds () with
    | bad =>
      rw [z] at h
      exact h
    | exc m w =>
      rw [z] at h
      exact fun c' _ b => h ⟨c.k, c'.F, c.w, c'.H⟩ rfl (cu_bs k b)
    | ok s w =>
      rw [z] at h
      dsimp only at h
      by_cases hs : noObjS s = true
      · rw [if_pos hs] at h
        intro u c' A _ b hS hnd hA
        refine h u ⟨c.k, c'.F, c.w, c'.H⟩ A rfl (cu_bs k b) (sl_cu hs hS) hnd fun a ha => ?_
        obtain ⟨⟨f1, f2, f3⟩, f4⟩ := hA a ha
        exact ⟨⟨f1, fun z => (k.wf a z).2 f3, f3⟩, f4⟩
      · rw [if_neg hs] at h; exact h.elim
  · rw [if_neg hn] at h; exact h.elim
theorem Ko.lift {P : Program} {w : World} {K : PySem.W.Frag} {mg : Str → Option Value} {base : Heap} {x : Str} {k : Nat} {f0 : FO Unit} (h : Ko P w K mg base cls W0 x k n f0) : Ko P w K mg base cls wd x k n (liftO f0) := by
  obtain ⟨f, fd, ps, h1, h2, h3, h4⟩ := h
  exact ⟨f, fd, ps, h1, h2, h3, h4.imp fun vs H Q E h => so_lift vs H Q E h⟩
end
section
variable {X : Cx} {W : Type} {wd : WD W} {cls : Nat → Addr} {e : Cur wd} {Wx : WX} {a : Expr} {pos p : Pos} {fl : XL W} {es : List Expr} {k n : Nat} {fo : FO W} {x : Str}
def xCallO (fo : FO W) (fl : XL W) : XS W := fun δ w => (fl δ w).bind fo
theorem x_callO (ke : Ok e) (F : Ko X.prog X.w X.K X.mg X.base cls wd x k n fo) (hr : Room k X.A) (tk : Takes X Wx) (ha : PA X (a :: es) (tSL cls X.K e Wx fl)) (hn : LenIs fl n) (hg : Gl X x := by rfl) (hdb : (x == ("__debug__" : Str)) = false := by decide)
    (he : starEach (a :: es) X.env = (false, eval a X.env) :: starEach es X.env := by rfl) (hpl : (backTo pos (starEach es X.env)).any (·.1) = false := by rfl) : PE X (.Call (.Name x p) (a :: es) [] pos) (tSX cls X.K e Wx (xCallO fo fl)) := by
  obtain ⟨f, fd, ps, h1, h2, h3, h4⟩ := F
  refine pe_imp (pe_callS h4 hr hg h1 h2 h3 (fun σ => passAt tk σ) ha hdb he hpl) fun σ H Q q => ?_
  obtain ⟨c, δ, eH, r, q⟩ := q
  subst eH
  refine ⟨c, δ, rfl, r, ?_⟩
  unfold xCallO at q
  cases z : fl δ c.w with
  | bad => rw [z] at q; exact q
  | exc n w => rw [z] at q; exact q
  | ok ds w1 =>
    rw [z] at q
    dsimp only [Res.bind] at q
    intro us c1 hw b1 q1
    refine ⟨c1, ds, rfl, b1.ok, q1, hn _ _ _ _ z, ?_⟩
    rw [hw]
    cases z2 : fo ds w1 with
    | bad => rw [z2] at q; exact q
    | exc m w2 => rw [z2] at q; exact fun c' hw' b' => q c' hw' (b1.trans r.ok b')
    | ok s w2 =>
      rw [z2] at q
      exact fun u c' A hw' b' hs hnd hA => q u c' A hw' (b1.trans r.ok b') hs hnd fun a ha => ⟨⟨(hA a ha).1.1, (hA a ha).1.2.1, fre_back (c' := c') r.ok b1 (hA a ha).1.2.2⟩, (hA a ha).2⟩
end
end Z

set_option Elab.async false
set_option linter.all false
set_option maxRecDepth 100000
/-! # Z26: slices and sums, one's own; range(a, b) walked -/
namespace Z
open PySem PySem.Spec PyProof.Rows L2
section
variable {X : Cx} {W : Type} {wd : WD W} {cls : Nat → Addr} {e : Cur wd} {Wx : WX} {tg ex a b d o : Expr} {pos pos' : Pos} {f h : XF W} {i : Nat}
theorem after_partX {K : PySem.W.Frag} (ke : Ok e) {c : Cur wd} {δ : Ev} {σ : L2.St} {po : Option (XF W)} {k : Option Int → W → Res W Sl} {Q : VK} (r : Rz cls K e c δ σ) (q : afterX cls K c σ Wx ((oEv po δ c.w).bind k) Q) :
    tPo cls K e Wx po σ c.H fun l H1 => ∃ c2, c2.H = H1 ∧ Bs c c2 ∧ Rz cls K e c2 δ σ ∧ afterX cls K c2 σ Wx (k l c2.w) Q := by
  cases po with
  | none => exact ⟨c, rfl, Bs.refl r.ok, r, q⟩
  | some f =>
    have q' : afterX cls K c σ Wx ((f δ c.w).bind fun x w1 => match oInt x with
        | some i => k i w1
        | none => .bad) Q := by
      have q : afterX cls K c σ Wx (((f δ c.w).bind fun x w1 => match oInt x with
        | some i => .ok i w1
        | none => .bad).bind k) Q := q
      cases z : f δ c.w with
      | bad => rw [z] at q; exact q
      | exc _ _ => rw [z] at q; exact q
      | ok x w1 =>
        rw [z] at q
        dsimp only [Res.bind] at q ⊢
        cases z2 : oInt x with
        | none => rw [z2] at q; exact q
        | some i => rw [z2] at q; exact q
    show tS cls K e Wx f σ c.H _
    refine tS_imp (after_oneX (K := K) ke r q') fun u H1 ⟨x, c2, e2, b2, r2, q2, q3⟩ => ?_
    cases hx : oInt x with
    | none => rw [hx] at q3; exact q3.elim
    | some l =>
      rw [hx] at q3
      cases x with
      | p dx =>
        cases dx with
        | int n =>
          cases hx
          obtain rfl := dv_int.mp q2
          exact ⟨_, rfl, c2, e2, b2, r2, q3⟩
        | _ => cases hx
      | _ => cases hx
theorem tPo_mono {K : PySem.W.Frag} {po : Option (XF W)} {σ : L2.St} {H : Hp} {Q Q' : Option Int → Hp → Prop} (h : tPo cls K e Wx po σ H Q) (i : ∀ l H', Q l H' → Q' l H') : tPo cls K e Wx po σ H Q' := by
  cases po with
  | none => exact i _ _ h
  | some f => exact tS_imp h fun u H' ⟨j, e1, q⟩ => ⟨j, e1, i _ _ q⟩
theorem x_slO {lo hi : Option (XF W)} {el eh : Option Expr} {p2 : Pos} (ke : Ok e) (ho : PE X o (tVar i)) (hl : PoZ X cls e Wx el lo) (hh : PoZ X cls e Wx eh hi) : PE X (.Subscript o (.Slice el eh none p2) pos) (tSX cls X.K e Wx (xSlO i lo hi)) :=
  pe_imp (pe_slice sl_list ho (po_of hl) (po_of hh)) fun σ H Q ⟨c, δ, eH, r, q⟩ => by
    subst eH
    unfold xSlO at q
    cases hm : δ[i]? with
    | none => rw [hm] at q; exact q.elim
    | some s =>
      rw [hm] at q
      cases s with
      | own xs =>
        dsimp only at q
        show tVar i σ c.H _
        refine var_own r hm fun p vs e1 g1 g2 => ?_
        refine tPo_mono (after_partX (K := X.K) ke r q) fun l H2 ⟨c3, e3, b3, r3, q4⟩ => ?_
        subst e3
        refine tPo_mono (after_partX (K := X.K) ke r3 q4) fun u' H3 ⟨c4, e4, b4, r4, q5⟩ => ?_
        subst e4
        obtain ⟨a1, vs1, e1', g3, g4, g5, kk⟩ := r4.own hm
        have ea : a1 = p := by rw [e1] at e1'; cases e1'; rfl
        subst ea
        exact ⟨a1, vs1, rfl, SqL.of g3, gives_own q5 r4.ok (cut_dq g4)⟩
      | _ => exact q.elim
def xCatO (f h : XF W) : XS W := fun δ w => (f δ w).bind fun x w1 => (h δ w1).bind fun y w2 => match x, y with
  | .p (.list xs), .p (.list ys) => if xs.length + ys.length ≤ lim then .ok (.own (xs ++ ys)) w2 else .bad
  | _, _ => .bad
theorem x_catO (ke : Ok e) (ha : PE X a (tS cls X.K e Wx f)) (hb : PE X b (tS cls X.K e Wx h)) : PE X (.BinOp a .Add b pos) (tSX cls X.K e Wx (xCatO f h)) :=
  pe_imp (pe_op op_cat ha hb) fun σ H Q ⟨c, δ, eH, r, q⟩ => by
    subst eH
    refine tS_imp (after_oneX (K := X.K) ke r q) fun u H1 ⟨x, c2, e2, b2, r2, q2, q3⟩ => ?_
    subst e2
    refine tS_imp (after_oneX (K := X.K) ke r2 q3) fun v H2 ⟨y, c3, e3, b3, r3, q4, q5⟩ => ?_
    subst e3
    have q2' := q2.mono b3
    cases x with
    | p dx =>
      cases dx with
      | list xs =>
        cases y with
        | p dy =>
          cases dy with
          | list ys =>
            dsimp only at q5
            by_cases hz : xs.length + ys.length ≤ lim
            · rw [if_pos hz] at q5
              obtain ⟨p, vs, rfl, h1, r1⟩ := dv_lst.mp q2'
              obtain ⟨p', vs', rfl, h1', r1'⟩ := dv_lst.mp q4
              exact ⟨p, p', vs, vs', rfl, rfl, r3.ok.fh _ _ h1, r3.ok.fh _ _ h1', by rw [r1.len, r1'.len, ← lim_eq]; exact hz, gives_own q5 r3.ok (r1.append r1')⟩
            · rw [if_neg hz] at q5; exact q5.elim
          | _ => exact q5.elim
        | _ => exact q5.elim
      | _ => exact q5.elim
    | _ => exact q5.elim
def rgOf2 (x y : D) : Option (List PyData) := (asI x).bind fun m => (asI y).bind fun n => if -1000000000 ≤ m ∧ m ≤ 1000000000 ∧ -1000000000 ≤ n ∧ n ≤ 1000000000 then some (rgL m n) else none
theorem si_range2 {p pos : Pos} (ke : Ok e) (hm : X.mg "range" = none) (ha : PE X a (tS cls X.K e Wx f)) (hb : PE X b (tS cls X.K e Wx h)) (hg : Gl X "range" := by rfl) (hs : starEach [a, b] X.env = (false, eval a X.env) :: starEach [b] X.env := by rfl)
    (hs2 : starEach [b] X.env = (false, eval b X.env) :: starEach [] X.env := by rfl) (hpl : (backTo pos (starEach [b] X.env)).any (·.1) = false := by rfl) :
    PI X tg (.Call (.Name "range" p) [a, b] [] pos) (tSI cls X.K e Wx keepF (iOf2 rgOf2 f h)) := pi_imp (pi_range2 hg hm (pa_cons ha (pa_cons hb pa_nil hs2) hs) (by rw [hs, hs2]; rfl) (by rw [hs2]; rfl)) fun σ H R ⟨c, δ, eH, r, q⟩ => by
  subst eH
  show tS cls X.K e Wx f σ c.H _
  refine tS_mk r ?_
  unfold iOf2 at q
  cases z : f δ c.w with
  | bad => rw [z] at q; exact q
  | exc n w' => rw [z] at q; exact q
  | ok x w' =>
    rw [z] at q
    dsimp only [Res.bind] at q
    intro u c1 hw b1 q1
    show tS cls X.K e Wx h σ c1.H _
    have r1 := r.step ke b1
    refine tS_mk r1 ?_
    rw [hw]
    cases z2 : h δ w' with
    | bad => rw [z2] at q; exact q
    | exc n w2 => rw [z2] at q; exact fun c2 hw2 b2 => q c2 hw2 (b1.trans r.ok b2)
    | ok y w2 =>
      rw [z2] at q
      dsimp only at q
      intro v c2 hw2 b2 q2
      have q1' := q1.mono b2
      cases hx : asI x with
      | none => unfold rgOf2 at q; rw [hx] at q; exact q.elim
      | some m =>
        cases hy : asI y with
        | none => unfold rgOf2 at q; rw [hx, hy] at q; exact q.elim
        | some n =>
          unfold rgOf2 at q
          rw [hx, hy] at q
          dsimp only [Option.bind] at q
          by_cases hz : -1000000000 ≤ m ∧ m ≤ 1000000000 ∧ -1000000000 ≤ n ∧ n ≤ 1000000000
          · rw [if_pos hz] at q
            exact ⟨m, n, by rw [asI_eq hx q1', asI_eq hy q2], ⟨by omega, by omega, by omega, by omega⟩, q _ c2 hw2 (b1.trans r.ok b2) jok_rg⟩
          · rw [if_neg hz] at q; exact q.elim
end
end Z

set_option Elab.async false
set_option linter.all false
set_option maxRecDepth 100000
/-! # Z27: texts: join -/
namespace Z
open PySem PySem.Spec PyProof.Rows L2
def strs? : List PyData → Option (List Str)
  | [] => some []
  | .str i :: r => (strs? r).map (i :: ·)
  | _ => none
theorem strs?_eq : ∀ {ds : List PyData} {ns : List Str}, strs? ds = some ns → ds = ns.map PyData.str
  | [], ns, h => by simp [strs?] at h; subst h; rfl
  | .str i :: r, ns, h => by
    simp only [strs?, Option.map_eq_some_iff] at h
    obtain ⟨ms, e, rfl⟩ := h
    rw [strs?_eq e]; rfl
  | .none :: _, _, h => by simp [strs?] at h
  | .bool _ :: _, _, h => by simp [strs?] at h
  | .int _ :: _, _, h => by simp [strs?] at h
  | .list _ :: _, _, h => by simp [strs?] at h
  | .tuple _ :: _, _, h => by simp [strs?] at h
  | .dict _ :: _, _, h => by simp [strs?] at h
theorem strs?_map : ∀ ns : List Str, strs? (ns.map PyData.str) = some ns
  | [] => rfl
  | n :: ns => by
    show (strs? (ns.map PyData.str)).map (n :: ·) = _
    rw [strs?_map ns]; rfl
def gJoin : D → D → Option D
  | .p (.str a), .p (.list xs) => (strs? xs).bind fun ys => if (ys.map (·.length)).sum + ys.length * a.length ≤ 16777216 then some (.p (.str (Txt.join a ys))) else none
  | _, _ => none
section
variable {X : Cx} {W : Type} {wd : WD W} {cls : Nat → Addr} {e : Cur wd} {Wx : WX} {a b o : Expr} {f h : XF W}
theorem mg_join : MtR X "str.join" (rMt cls X.K wd gJoin) := mtR_imp mt_join fun u us H Q ⟨c, x, y, v, eH, k, eu, q1, q2, q⟩ => by
  subst eH
  unfold gJoin at q
  split at q
  · rename_i sa xs
    cases z : strs? xs with
    | none => rw [z] at q; exact gives_no q
    | some ys =>
      rw [z] at q
      dsimp only [Option.bind] at q
      by_cases hz : (ys.map (·.length)).sum + ys.length * sa.length ≤ 16777216
      · rw [if_pos hz] at q
        obtain rfl := dv_str.mp q1
        obtain ⟨p, vs, rfl, h1, r1⟩ := dv_lst.mp q2
        rw [strs?_eq z] at r1
        rw [r1.strs] at h1
        exact ⟨sa, p, ys, rfl, eu, .inl (SqL.of (k.fh _ _ h1)), hz, gives_v q k (dv_str.mpr rfl)⟩
      · rw [if_neg hz] at q; exact gives_no q
  · exact gives_no q
end
end Z

set_option Elab.async false
set_option linter.all false
set_option maxRecDepth 100000
/-! # Z28: ledgers, a world -/
namespace Z
open PySem PySem.Spec PyProof.Rows L2
/-- where a ledger stands: itself, its dict, its list of rows, the rows, its list of the past -/
structure LK where
  p : Addr
  dx : Addr
  a : Addr
  as : List Addr
  b : Addr
/-- what it holds -/
structure LS where
  rows : List (List PyData)
  past : List PyData
def LK.all (k : LK) : List Addr := k.p :: k.dx :: k.a :: k.b :: k.as
def lFs (k : LK) : List (Str × V) := [("rows", .ref k.a), ("past", .ref k.b)]
structure LAt (C : Addr) (F H : Hp) (k : LK) (l : LS) : Prop where
  ins : H k.p = some (.ins C k.dx (lFs k))
  own : H k.dx = some (.own k.p)
  rs : H k.a = some (.lst (k.as.map V.ref))
  len : k.as.length = l.rows.length
  row : ∀ (j : Nat) x xs, k.as[j]? = some x → l.rows[j]? = some xs → ∃ vs, H x = some (.lst vs) ∧ DqL F xs vs
  pst : ∃ vs, H k.b = some (.lst vs) ∧ DqL F l.past vs
theorem LAt.mono {C : Addr} {F F' H H' : Hp} {k : LK} {l : LS} (h : LAt C F H k l) (s : Sub F F') (q : ∀ a ∈ k.all, H' a = H a) : LAt C F' H' k l where
  ins := (q _ (by simp [LK.all])).trans h.ins
  own := (q _ (by simp [LK.all])).trans h.own
  rs := (q _ (by simp [LK.all])).trans h.rs
  len := h.len
  row := fun j x xs h1 h2 => by
    obtain ⟨vs, g1, g2⟩ := h.row j x xs h1 h2
    have hx : x ∈ k.all := by simp [LK.all, List.mem_of_getElem? h1]
    exact ⟨vs, (q x hx).trans g1, DqL.mono s _ _ g2⟩
  pst := by
    obtain ⟨vs, g1, g2⟩ := h.pst
    exact ⟨vs, (q _ (by simp [LK.all])).trans g1, DqL.mono s _ _ g2⟩
abbrev LW := Wd × List LS
/-- what must stay where it is: a ledger, its list of the past -/
def lHd (ks : List LK) (n : Nat) : Option Addr := (ks[n / 2]?).map fun k => if n % 2 = 0 then k.p else k.b
def lAll (ks : List LK) : List Addr := ks.flatMap LK.all
theorem mem_lAll {ks : List LK} {i : Nat} {k : LK} (h : ks[i]? = some k) {a : Addr} (ha : a ∈ k.all) : a ∈ lAll ks := List.mem_flatMap.mpr ⟨k, List.mem_of_getElem? h, ha⟩
structure LRel (C : Addr) (k : Option (Addr × Addr) × List LK) (w : LW) (F H : Hp) : Prop where
  dr : wRel k.1 w.1 H
  nd : (lAll k.2).Nodup
  dis : ∀ a ∈ lAll k.2, ¬ wFp k.1 a
  len : k.2.length = w.2.length
  at_ : ∀ (i : Nat) kk l, k.2[i]? = some kk → w.2[i]? = some l → LAt C F H kk l
def WL (C : Addr) : WD LW where
  Key := Option (Addr × Addr) × List LK
  rel := fun k w F H => LRel C k w F H
  fp := fun k a => wFp k.1 a ∨ a ∈ lAll k.2
  hd := fun k n => if n < 2 then wHd k.1 n else lHd k.2 (n - 2)
  stab := fun k w F F' H H' h s q => {
    dr := WW.stab k.1 w.1 F F' H H' h.dr s fun a ha => q a (.inl ha)
    nd := h.nd
    dis := h.dis
    len := h.len
    at_ := fun i kk l h1 h2 => (h.at_ i kk l h1 h2).mono s fun a ha => q a (.inr (mem_lAll h1 ha)) }
/-! ## a def that knows the draws alone, called where ledgers are -/
def noLed : D → Bool
  | .obj n => decide (n < 2)
  | _ => true
def liftL (fz : FZ Wd) : FZ LW := fun ds w => if ds.all noLed = true then match fz ds w.1 with
    | .ok d w1 => if noLed d = true then .ok d (w1, w.2) else .bad
    | .exc n w1 => .exc n (w1, w.2)
    | .bad => .bad
  else .bad
section
variable {C : Addr} {cls : Nat → Addr} {n : Nat}
def cuW (c : Cur (WL C)) : Cur WW := ⟨c.k.1, c.F, c.w.1, c.H⟩
theorem cuW_ok {c : Cur (WL C)} (k : Ok c) : Ok (cuW c) := ⟨k.fh, k.wr.dr, fun a h => k.wf a (.inl h)⟩
def backW (c : Cur (WL C)) (c' : Cur WW) : Cur (WL C) := ⟨(c'.k, c.k.2), c'.F, (c'.w, c.w.2), c'.H⟩
theorem cuW_bs {c : Cur (WL C)} {c' : Cur WW} (k : Ok c) (b : Bs (cuW c) c') : Bs c (backW c c') := by
  have same : ∀ a ∈ lAll c.k.2, c'.H a = c.H a := fun a ha => by
    obtain ⟨u, hu⟩ := (none_or (c.H a)).resolve_left (k.wf a (.inr ha)).2
    rw [hu]
    exact b.hh a u (k.wr.dis a ha) hu
  have off : ∀ a ∈ lAll c.k.2, ¬ wFp c'.k a := fun a ha z => by
    rcases b.kf a z with z | z
    · exact k.wr.dis a ha z
    · exact (k.wf a (.inr ha)).2 z
  exact {
    ok := {
      fh := b.ok.fh
      wr := {
        dr := b.ok.wr
        nd := k.wr.nd
        dis := off
        len := k.wr.len
        at_ := fun i kk l h1 h2 => (k.wr.at_ i kk l h1 h2).mono b.ff fun a ha => same a (mem_lAll h1 ha) }
      wf := fun a ha => by
        rcases ha with ha | ha
        · exact b.ok.wf a ha
        · obtain ⟨g1, g2⟩ := k.wf a (.inr ha)
          refine ⟨?_, fun z => g2 ((same a ha).symm.trans z)⟩
          rcases none_or (c'.F a) with q | ⟨u, q⟩
          · exact q
          · rcases b.fn a (by rw [q]; exact fun z => by cases z) with z | z
            · exact absurd g1 z
            · exact absurd z g2 }
    ff := b.ff
    hh := fun a o h q => b.hh a o (fun z => h (.inl z)) q
    fn := b.fn
    kh := fun m a h => by
      by_cases hm : m < 2
      · have h : (if m < 2 then wHd c.k.1 m else lHd c.k.2 (m - 2)) = some a := h
        rw [if_pos hm] at h
        show (if m < 2 then wHd c'.k m else lHd c.k.2 (m - 2)) = some a
        rw [if_pos hm]
        exact b.kh m a h
      · have h : (if m < 2 then wHd c.k.1 m else lHd c.k.2 (m - 2)) = some a := h
        rw [if_neg hm] at h
        show (if m < 2 then wHd c'.k m else lHd c.k.2 (m - 2)) = some a
        rw [if_neg hm]
        exact h
    kf := fun a h => by
      rcases h with h | h
      · rcases b.kf a h with z | z
        · exact .inl (.inl z)
        · exact .inr z
      · exact .inl (.inr h)
    kg := fun a h => by
      rcases h with h | h
      · exact .inl (b.kg a h)
      · exact .inr h }
theorem cuW_dv {K : PySem.W.Frag} {c : Cur (WL C)} {d : D} {v : V} (hn : noLed d = true) (h : Dv cls K c d v) : Dv cls K (cuW c) d v := by
  cases d with
  | p d => exact h
  | exc n => exact h
  | obj m =>
    obtain ⟨a, e1, h⟩ := h
    have hm : m < 2 := of_decide_eq_true hn
    have h : (if m < 2 then wHd c.k.1 m else lHd c.k.2 (m - 2)) = some a := h
    rw [if_pos hm] at h
    exact ⟨a, e1, h⟩
  | scr ns => exact h
  | opq => trivial
theorem dv_cuW {K : PySem.W.Frag} {c : Cur (WL C)} {c' : Cur WW} {d : D} {v : V} (hn : noLed d = true) (h : Dv cls K c' d v) : Dv cls K (backW c c') d v := by
  cases d with
  | p d => exact h
  | exc n => exact h
  | obj m =>
    obtain ⟨a, e1, h⟩ := h
    have hm : m < 2 := of_decide_eq_true hn
    refine ⟨a, e1, ?_⟩
    show (if m < 2 then wHd c'.k m else lHd c.k.2 (m - 2)) = some a
    rw [if_pos hm]
    exact h
  | scr ns => exact h
  | opq => trivial
theorem cuW_dvl {K : PySem.W.Frag} {c : Cur (WL C)} : ∀ {ds : List D} {vs : List V}, ds.all noLed = true → DvL cls K c ds vs → DvL cls K (cuW c) ds vs
  | [], _, _, h => h
  | d :: ds, vs, hn, ⟨u, us, e1, q, t⟩ => by
    rw [List.all_cons, Bool.and_eq_true] at hn
    exact ⟨u, us, e1, cuW_dv hn.1 q, cuW_dvl hn.2 t⟩
theorem sp_liftL {K : PySem.W.Frag} {f0 : FZ Wd} (vs : List V) (H : Hp) (Q : VK) (E : XK) (h : spZ cls K (WL C) n (liftL f0) vs H Q E) : spZ cls K WW n f0 vs H Q E := by
  obtain ⟨c, ds, eH, k, q, hl, h⟩ := h
  unfold liftL at h
  by_cases hn : ds.all noLed = true
  · rw [if_pos hn] at h
    refine ⟨cuW c, ds, eH, cuW_ok k, cuW_dvl hn q, hl, ?_⟩
    show afterF cls K (cuW c) (f0 ds c.w.1) Q E
    cases z : f0 ds c.w.1 with
    | bad => rw [z] at h; exact h
    | exc m w =>
      rw [z] at h
      exact fun c' hw b => h (backW c c') (by show (c'.w, c.w.2) = _; rw [hw]) (cuW_bs k b)
    | ok d w =>
      rw [z] at h
      dsimp only at h
      by_cases hd : noLed d = true
      · rw [if_pos hd] at h
        exact fun u c' hw b q' => h u (backW c c') (by show (c'.w, c.w.2) = _; rw [hw]) (cuW_bs k b) (dv_cuW hd q')
      · rw [if_neg hd] at h; exact h.elim
  · rw [if_neg hn] at h; exact h.elim
theorem Kp.liftL {P : Program} {w : World} {K : PySem.W.Frag} {mg : Str → Option Value} {base : Heap} {x : Str} {k : Nat} {f0 : FZ Wd} (h : Kp P w K mg base cls WW x k n f0) : Kp P w K mg base cls (WL C) x k n (liftL f0) := by
  obtain ⟨f, fd, ps, h1, h2, h3, h4⟩ := h
  exact ⟨f, fd, ps, h1, h2, h3, h4.imp fun vs H Q E h => sp_liftL vs H Q E h⟩
end
/-! ## a ledger's own expressions: all of it stands frozen meanwhile -/
def WS (C : Addr) : WD LS where
  Key := Addr × Addr × Addr × Addr
  rel := fun k l F _ => F k.1 = some (.ins C k.2.1 [("rows", .ref k.2.2.1), ("past", .ref k.2.2.2)]) ∧ Dq F (.list (l.rows.map .list)) (.ref k.2.2.1) ∧ Dq F (.list l.past) (.ref k.2.2.2)
  fp := fun _ _ => False
  hd := fun k n => if n = 0 then some k.1 else none
  stab := fun k l F F' H H' h s _ => ⟨s _ _ h.1, Dq.mono s _ _ h.2.1, Dq.mono s _ _ h.2.2⟩
def toS : Sl → Sl
  | .v (.p d) => .v (.p d)
  | _ => .no
/-- the slots as the ledger's own expressions see them -/
def evS (δ : Ev) : Ev := (δ.map toS).set 0 (.v (.obj 0))
/-- the ledger that the first slot holds -/
def ledOf (δ : Ev) (w : LW) : Option (Nat × LS) := match δ[0]? with
  | some (Sl.v (D.obj n)) => if 2 ≤ n ∧ n % 2 = 0 then (w.2[(n - 2) / 2]?).map fun l => ((n - 2) / 2, l) else none
  | _ => none
section
variable {C : Addr} {cls : Nat → Addr} {K : PySem.W.Frag} {e c : Cur (WL C)} {δ : Ev} {σ : L2.St}
theorem ledOf_is {w : LW} {i : Nat} {l : LS} (h : ledOf δ w = some (i, l)) : δ[0]? = some (.v (.obj (2 * i + 2))) ∧ w.2[i]? = some l := by
  unfold ledOf at h
  split at h
  · rename_i n hn
    split at h
    · rename_i h2
      obtain ⟨l', g1, g2⟩ := Option.map_eq_some_iff.mp h
      cases g2
      exact ⟨by rw [hn, show 2 * ((n - 2) / 2) + 2 = n by omega], g1⟩
    · cases h
  · cases h
theorem led_at {i : Nat} {l : LS} (r : Rz cls K e c δ σ) (h : ledOf δ c.w = some (i, l)) : ∃ kk, c.k.2[i]? = some kk ∧ σ[0]? = some (some (.ref kk.p)) ∧ LAt C c.F c.H kk l := by
  obtain ⟨h1, h2⟩ := ledOf_is h
  obtain ⟨o, w1, _⟩ := r.ex
  obtain ⟨_, u, e1, a, eu, hd⟩ := w1 0 _ h1
  have hd : (if 2 * i + 2 < 2 then wHd c.k.1 (2 * i + 2) else lHd c.k.2 (2 * i + 2 - 2)) = some a := hd
  rw [if_neg (by omega), Nat.add_sub_cancel] at hd
  unfold lHd at hd
  obtain ⟨kk, g1, g2⟩ := Option.map_eq_some_iff.mp hd
  rw [show 2 * i / 2 = i by omega] at g1
  rw [if_pos (by omega)] at g2
  exact ⟨kk, g1, by rw [e1, eu, g2], r.ok.wr.at_ i kk l g1 h2⟩
/-- a ledger stays where it is, and its past -/
theorem led_stay {c c' : Cur (WL C)} {i : Nat} {kk : LK} (b : Bs c c') (hk : c.k.2[i]? = some kk) : ∃ k', c'.k.2[i]? = some k' ∧ k'.p = kk.p ∧ k'.b = kk.b := by
  have e1 : (WL C).hd c.k (2 * i + 2) = some kk.p := by
    show (if 2 * i + 2 < 2 then wHd c.k.1 (2 * i + 2) else lHd c.k.2 (2 * i + 2 - 2)) = some kk.p
    rw [if_neg (by omega), Nat.add_sub_cancel]
    unfold lHd
    rw [show 2 * i / 2 = i by omega, hk, Option.map_some, if_pos (by omega)]
  have e2 : (WL C).hd c.k (2 * i + 3) = some kk.b := by
    show (if 2 * i + 3 < 2 then wHd c.k.1 (2 * i + 3) else lHd c.k.2 (2 * i + 3 - 2)) = some kk.b
    rw [if_neg (by omega), show 2 * i + 3 - 2 = 2 * i + 1 by omega]
    unfold lHd
    rw [show (2 * i + 1) / 2 = i by omega, hk, Option.map_some, if_neg (by omega)]
  have f1 := b.kh _ _ e1
  have f2 := b.kh _ _ e2
  have f1 : (if 2 * i + 2 < 2 then wHd c'.k.1 (2 * i + 2) else lHd c'.k.2 (2 * i + 2 - 2)) = some kk.p := f1
  have f2 : (if 2 * i + 3 < 2 then wHd c'.k.1 (2 * i + 3) else lHd c'.k.2 (2 * i + 3 - 2)) = some kk.b := f2
  rw [if_neg (by omega), Nat.add_sub_cancel] at f1
  rw [if_neg (by omega), show 2 * i + 3 - 2 = 2 * i + 1 by omega] at f2
  unfold lHd at f1 f2
  rw [show 2 * i / 2 = i by omega] at f1
  rw [show (2 * i + 1) / 2 = i by omega] at f2
  obtain ⟨k', g1, g2⟩ := Option.map_eq_some_iff.mp f1
  obtain ⟨k2, g3, g4⟩ := Option.map_eq_some_iff.mp f2
  rw [g1] at g3
  cases g3
  rw [if_pos (by omega)] at g2
  rw [if_neg (by omega)] at g4
  exact ⟨k', g1, g2, g4⟩
/-- the heap with a ledger frozen -/
def frzF (c : Cur (WL C)) (kk : LK) : Hp := fun x => if x ∈ kk.p :: kk.a :: kk.b :: kk.as then c.H x else c.F x
def lendC (c : Cur (WL C)) (kk : LK) (l : LS) : Cur (WS C) := ⟨(kk.p, kk.dx, kk.a, kk.b), frzF c kk, l, c.H⟩
theorem frzF_sub {kk : LK} {i : Nat} (k : Ok c) (hk : c.k.2[i]? = some kk) : Sub c.F (frzF c kk) := fun x o q => by
  unfold frzF
  by_cases hx : x ∈ kk.p :: kk.a :: kk.b :: kk.as
  · rw [if_pos hx]; exact k.fh x o q
  · rw [if_neg hx]; exact q
theorem rowsS_dq {F H : Hp} {as : List Addr} : ∀ {xss : List (List PyData)}, as.length = xss.length → (∀ (j : Nat) x xs, as[j]? = some x → xss[j]? = some xs → ∃ vs, F x = some (.lst vs) ∧ DqL F xs vs) → DqL F (xss.map .list) (as.map .ref) := by
  induction as with
  | nil =>
    intro xss hl _
    cases xss with
    | nil => exact .nil
    | cons _ _ => cases hl
  | cons a as ih =>
    intro xss hl h
    cases xss with
    | nil => cases hl
    | cons xs xss =>
      obtain ⟨vs, g1, g2⟩ := h 0 a xs rfl rfl
      refine .cons ?_ (ih (by simpa using hl) fun j x ys h1 h2 => h (j + 1) x ys (by simpa using h1) (by simpa using h2))
      simp only [Dq]
      exact ⟨a, vs, rfl, g1, g2⟩
theorem lendC_ok {kk : LK} {i : Nat} {l : LS} (k : Ok c) (hk : c.k.2[i]? = some kk) (hl : LAt C c.F c.H kk l) : Ok (lendC c kk l) := by
  have sb := frzF_sub k hk
  have fin : ∀ x, x ∈ kk.p :: kk.a :: kk.b :: kk.as → frzF c kk x = c.H x := fun x hx => if_pos hx
  refine ⟨fun x o q => ?_, ⟨?_, ?_, ?_⟩, fun _ h => h.elim⟩
  · have q : frzF c kk x = some o := q
    unfold frzF at q
    by_cases hx : x ∈ kk.p :: kk.a :: kk.b :: kk.as
    · rw [if_pos hx] at q; exact q
    · rw [if_neg hx] at q; exact k.fh x o q
  · show frzF c kk kk.p = _
    rw [fin _ (by simp)]; exact hl.ins
  · show Dq (frzF c kk) _ (.ref kk.a)
    simp only [Dq]
    refine ⟨kk.a, _, rfl, (fin _ (by simp)).trans hl.rs, rowsS_dq (H := c.H) hl.len fun j x xs h1 h2 => ?_⟩
    obtain ⟨vs, g1, g2⟩ := hl.row j x xs h1 h2
    have hx : x ∈ kk.p :: kk.a :: kk.b :: kk.as := by simp [List.mem_of_getElem? h1]
    exact ⟨vs, (fin x hx).trans g1, DqL.mono sb _ _ g2⟩
  · show Dq (frzF c kk) _ (.ref kk.b)
    obtain ⟨vs, g1, g2⟩ := hl.pst
    simp only [Dq]
    exact ⟨kk.b, vs, rfl, (fin _ (by simp)).trans g1, DqL.mono sb _ _ g2⟩
theorem lend_rz {kk : LK} {i : Nat} {l : LS} (r : Rz cls K e c δ σ) (h : ledOf δ c.w = some (i, l)) (hk : c.k.2[i]? = some kk) (hp : σ[0]? = some (some (.ref kk.p))) (hl : LAt C c.F c.H kk l) :
    Rz cls K (lendC c kk l) (lendC c kk l) (evS δ) σ := by
  have k0 := lendC_ok r.ok hk hl
  have sb := frzF_sub r.ok hk
  have h0 : 0 < δ.length := (List.getElem?_eq_some_iff.mp (ledOf_is h).1).1
  obtain ⟨o, w1, _⟩ := r.ex
  refine Rz.of_vals k0 (by simp [evS, r.len]) fun j s hs => ?_
  unfold evS at hs
  by_cases hj : j = 0
  · subst hj
    rw [List.getElem?_set_self (by simpa using h0)] at hs
    exact .inr ⟨.obj 0, .ref kk.p, (Option.some.inj hs).symm, hp, kk.p, rfl, rfl⟩
  · rw [List.getElem?_set_ne (Ne.symm hj), List.getElem?_map] at hs
    obtain ⟨s0, g1, g2⟩ := Option.map_eq_some_iff.mp hs
    cases s0 with
    | no => exact .inl g2.symm
    | own _ => exact .inl g2.symm
    | own2 _ => exact .inl g2.symm
    | v d =>
      cases d with
      | p d =>
        obtain ⟨_, u, e1, q⟩ := w1 j _ g1
        exact .inr ⟨.p d, u, g2.symm, e1, Dq.mono sb _ _ q⟩
      | _ => exact .inl g2.symm
/-- behind: what was frozen is the ledger's again -/
theorem lend_bs {kk : LK} {i : Nat} {l : LS} {c2 : Cur (WS C)} (k : Ok c) (hk : c.k.2[i]? = some kk) (b : Bs (lendC c kk l) c2) : Bs c (⟨c.k, c.F, c.w, c2.H⟩ : Cur (WL C)) := by
  have keep : ∀ a o, c.H a = some o → c2.H a = some o := fun a o q => b.hh a o (fun z => z) q
  have same : ∀ a, (WL C).fp c.k a → c2.H a = c.H a := fun a ha => by
    obtain ⟨u, hu⟩ := (none_or (c.H a)).resolve_left (k.wf a ha).2
    rw [hu]; exact keep a u hu
  exact {
    ok := ⟨fun a o q => keep a o (k.fh a o q), (WL C).stab _ _ _ _ _ _ k.wr (Sub.refl _) same, fun a ha => ⟨(k.wf a ha).1, by
      show c2.H a ≠ none
      rw [same a ha]; exact (k.wf a ha).2⟩⟩
    ff := Sub.refl _
    hh := fun a o _ q => keep a o q
    fn := fun _ h => .inl h
    kh := fun _ _ h => h
    kf := fun _ h => .inl h
    kg := fun _ h => h }
end
section
variable {C : Addr} {X : Cx} {cls : Nat → Addr} {e : Cur (WL C)} {Wx : WX} {ex o : Expr} {pos : Pos}
def xSelf (f : XF LS) : XF LW := fun δ w => match ledOf δ w with
  | some (_, l) => match f (evS δ) l with
    | .ok d _ => if flatD d = true then .ok d w else .bad
    | .exc m _ => .exc m w
    | .bad => .bad
  | none => .bad
theorem s_self {f : XF LS} (he : ∀ (e0 : Cur (WS C)), Ok e0 → PE X ex (tS cls X.K e0 Wx f)) : PE X ex (tS cls X.K e Wx (xSelf f)) := ⟨fun pins s σ H Q I ⟨c, δ, eH, r, q⟩ => by
  subst eH
  unfold xSelf at q
  cases z : ledOf δ c.w with
  | none => rw [z] at q; exact q.elim
  | some il =>
    obtain ⟨i, l⟩ := il
    rw [z] at q
    obtain ⟨kk, hk, hp, hl⟩ := led_at r z
    have k0 := lendC_ok r.ok hk hl
    refine (he (lendC c kk l) k0).run pins s σ c.H Q I ⟨lendC c kk l, evS δ, rfl, lend_rz r z hk hp hl, ?_⟩
    dsimp only at q
    show after cls X.K (lendC c kk l) σ Wx (f (evS δ) l) Q
    cases z2 : f (evS δ) l with
    | bad => rw [z2] at q; exact q
    | exc m w' => rw [z2] at q; exact fun c2 _ b => q ⟨c.k, c.F, c.w, c2.H⟩ rfl (lend_bs r.ok hk b)
    | ok d w' =>
      rw [z2] at q
      dsimp only at q
      by_cases hd : flatD d = true
      · rw [if_pos hd] at q
        intro u c2 _ b qd
        refine q u ⟨c.k, c.F, c.w, c2.H⟩ rfl (lend_bs r.ok hk b) ?_
        cases d with
        | p d => exact flat_dq hd qd
        | _ => cases hd
      · rw [if_neg hd] at q; exact q.elim⟩
def tSelf (t : XB LS) : XB LW := fun δ w => match ledOf δ w with
  | some (_, l) => match t (evS δ) l with
    | .ok b _ => .ok b w
    | .exc m _ => .exc m w
    | .bad => .bad
  | none => .bad
theorem st_self {t : XB LS} (he : ∀ (e0 : Cur (WS C)), Ok e0 → PT X ex (tSB cls X.K e0 Wx t)) : PT X ex (tSB cls X.K e Wx (tSelf t)) := ⟨fun pins s σ H Q I ⟨c, δ, eH, r, q⟩ => by
  subst eH
  unfold tSelf at q
  cases z : ledOf δ c.w with
  | none => rw [z] at q; exact q.elim
  | some il =>
    obtain ⟨i, l⟩ := il
    rw [z] at q
    obtain ⟨kk, hk, hp, hl⟩ := led_at r z
    have k0 := lendC_ok r.ok hk hl
    refine (he (lendC c kk l) k0).run pins s σ c.H Q I ⟨lendC c kk l, evS δ, rfl, lend_rz r z hk hp hl, ?_⟩
    dsimp only at q
    show afterB cls (lendC c kk l) σ Wx (t (evS δ) l) Q
    cases z2 : t (evS δ) l with
    | bad => rw [z2] at q; exact q
    | exc m w' => rw [z2] at q; exact fun c2 _ b => q ⟨c.k, c.F, c.w, c2.H⟩ rfl (lend_bs r.ok hk b)
    | ok d w' => rw [z2] at q; exact fun c2 _ b => q ⟨c.k, c.F, c.w, c2.H⟩ rfl (lend_bs r.ok hk b)⟩
/-- new lists of flat things -/
def flatS : Sl → Bool
  | .own xs => xs.all flatP
  | .own2 xss => xss.all fun xs => xs.all flatP
  | _ => false
theorem flat_dql {F F' : Hp} : ∀ {xs : List PyData} {vs : List V}, xs.all flatP = true → DqL F xs vs → DqL F' xs vs
  | [], vs, _, h => by rw [h.unnil]; exact .nil
  | x :: xs, vs, hf, h => by
    rw [List.all_cons, Bool.and_eq_true] at hf
    obtain ⟨u, us, rfl, q1, q2⟩ := h.uncons
    exact .cons (flat_dq hf.1 q1) (flat_dql hf.2 q2)
def xSelfX (g : XS LS) : XS LW := fun δ w => match ledOf δ w with
  | some (_, l) => match g (evS δ) l with
    | .ok s _ => if flatS s = true then .ok s w else .bad
    | .exc m _ => .exc m w
    | .bad => .bad
  | none => .bad
theorem x_self {g : XS LS} (he : ∀ (e0 : Cur (WS C)), Ok e0 → PE X ex (tSX cls X.K e0 Wx g)) : PE X ex (tSX cls X.K e Wx (xSelfX g)) := ⟨fun pins s σ H Q I ⟨c, δ, eH, r, q⟩ => by
  subst eH
  unfold xSelfX at q
  cases z : ledOf δ c.w with
  | none => rw [z] at q; exact q.elim
  | some il =>
    obtain ⟨i, l⟩ := il
    rw [z] at q
    obtain ⟨kk, hk, hp, hl⟩ := led_at r z
    have k0 := lendC_ok r.ok hk hl
    refine (he (lendC c kk l) k0).run pins s σ c.H Q I ⟨lendC c kk l, evS δ, rfl, lend_rz r z hk hp hl, ?_⟩
    dsimp only at q
    show afterX cls X.K (lendC c kk l) σ Wx (g (evS δ) l) Q
    cases z2 : g (evS δ) l with
    | bad => rw [z2] at q; exact q
    | exc m w' => rw [z2] at q; exact fun c2 _ b => q ⟨c.k, c.F, c.w, c2.H⟩ rfl (lend_bs r.ok hk b)
    | ok s w' =>
      rw [z2] at q
      dsimp only at q
      by_cases hd : flatS s = true
      · rw [if_pos hd] at q
        intro u c2 A _ b hs hn hA
        have bb := lend_bs r.ok hk b
        refine q u ⟨c.k, c.F, c.w, c2.H⟩ A rfl bb ?_ hn fun a ha => ?_
        · cases s with
          | own xs =>
            obtain ⟨a, vs, h1, h2, h3, h4⟩ := hs
            exact ⟨a, vs, h1, h2, h3, flat_dql hd h4⟩
          | own2 xss =>
            obtain ⟨a, as, h1, h2, h3, h4, h5⟩ := hs
            refine ⟨a, as, h1, h2, h3, h4, fun j x xs g1 g2 => ?_⟩
            obtain ⟨vs, g3, g4⟩ := h5 j x xs g1 g2
            exact ⟨vs, g3, flat_dql (List.all_eq_true.mp hd xs (List.mem_of_getElem? g2)) g4⟩
          | _ => cases hd
        · obtain ⟨⟨f1, f2, f3⟩, f4⟩ := hA a ha
          have f3 : c.H a = none := f3
          refine ⟨⟨?_, fun z => (r.ok.wf a z).2 f3, f3⟩, f4⟩
          rcases none_or (c.F a) with q | ⟨u, q⟩
          · exact q
          · rw [r.ok.fh _ _ q] at f3; cases f3
      · rw [if_neg hd] at q; exact q.elim⟩
end
/-! ## a new list, frozen at once -/
section
variable {X : Cx} {W : Type} {wd : WD W} {cls : Nat → Addr} {e : Cur wd} {Wx : WX} {ex : Expr}
def xFrzX (g : XS W) : XF W := fun δ w => match g δ w with
  | .ok (.own xs) w' => .ok (.p (.list xs)) w'
  | .ok (.own2 xss) w' => .ok (.p (.list (xss.map .list))) w'
  | .exc m w' => .exc m w'
  | _ => .bad
/-- new things of one's own are frozen -/
theorem frz_new {c c1 : Cur wd} {A : List Addr} (k : Ok c) (b : Bs c c1) (hA : ∀ a ∈ A, Fre c c1 a ∧ c1.H a ≠ none) :
    ∃ c2 : Cur wd, c2.H = c1.H ∧ c2.w = c1.w ∧ Bs c c2 ∧ Sub c1.F c2.F ∧ ∀ a ∈ A, c2.F a = c1.H a := by
  let F' : Hp := fun x => if x ∈ A then c1.H x else c1.F x
  have fin : ∀ x, x ∈ A → F' x = c1.H x := fun x hx => if_pos hx
  have fout : ∀ x, x ∉ A → F' x = c1.F x := fun x hx => if_neg hx
  have s1 : Sub c1.F F' := fun x o q => by
    by_cases hx : x ∈ A
    · rw [(hA x hx).1.1] at q; cases q
    · rw [fout x hx]; exact q
  refine ⟨⟨c1.k, F', c1.w, c1.H⟩, rfl, rfl, ⟨⟨fun x o q => ?_, wd.stab _ _ _ _ _ _ b.ok.wr s1 fun _ _ => rfl, fun x hx => ⟨?_, (b.ok.wf x hx).2⟩⟩, b.ff.trans s1, b.hh, fun x hx => ?_, b.kh, b.kf, b.kg⟩, s1, fin⟩
  · have q : F' x = some o := q
    by_cases hx : x ∈ A
    · rw [fin x hx] at q; exact q
    · rw [fout x hx] at q; exact b.ok.fh x o q
  · show F' x = none
    by_cases hxA : x ∈ A
    · exact absurd hx (hA x hxA).1.2.1
    · rw [fout x hxA]; exact (b.ok.wf x hx).1
  · have hx : F' x ≠ none := hx
    by_cases hxA : x ∈ A
    · exact .inr (hA x hxA).1.2.2
    · rw [fout x hxA] at hx; exact b.fn x hx
theorem s_frzX {g : XS W} (ke : Ok e) (he : PE X ex (tSX cls X.K e Wx g)) : PE X ex (tS cls X.K e Wx (xFrzX g)) := pe_imp he fun σ H Q ⟨c, δ, eH, r, q⟩ => by
  refine ⟨c, δ, eH, r, ?_⟩
  unfold xFrzX at q
  cases z : g δ c.w with
  | bad => rw [z] at q; exact q
  | exc m w' => rw [z] at q; exact q
  | ok s w' =>
    rw [z] at q
    intro u c1 A hw b hs hn hA
    obtain ⟨c2, e1, e2, b2, s2, f2⟩ := frz_new r.ok b hA
    cases s with
    | no => exact q.elim
    | v d => exact q.elim
    | own xs =>
      obtain ⟨a, vs, h1, h2, h3, h4⟩ := hs
      cases h2
      rw [← e1]
      refine q (.ref a) c2 (e2.trans hw) b2 (dv_lst.mpr ⟨a, vs, rfl, ?_, DqL.mono s2 _ _ h4⟩)
      rw [f2 a (by rw [h1]; exact List.mem_cons_self)]; exact h3
    | own2 xss =>
      obtain ⟨a, as, h1, h2, h3, h4⟩ := hs
      cases h2
      rw [← e1]
      refine q (.ref a) c2 (e2.trans hw) b2 (dv_lst.mpr ⟨a, _, rfl, ?_, rows_dq s2 h4 fun x hx => f2 x (by rw [h1]; exact List.mem_cons_of_mem _ hx)⟩)
      rw [f2 a (by rw [h1]; exact List.mem_cons_self)]; exact h3
end
end Z

set_option Elab.async false
set_option linter.all false
set_option maxRecDepth 100000
/-! # Z29: what a ledger's methods do -/
namespace Z
open PySem PySem.Spec PyProof.Rows L2
/-- what the text says of the class of ledgers -/
structure LedC (K : PySem.W.Frag) (C : Addr) : Prop where
  cl : Cls K C
  nr : NoAttr K C "rows"
  np : NoAttr K C "past"
section
variable {C : Addr} {X : Cx} {cls : Nat → Addr} {Wx : WX} {o b d ex : Expr} {pos : Pos}
/-! ## its two fields, its own expressions -/
def xRows : XF LS := fun δ l => match δ[0]? with
  | some (Sl.v (D.obj n)) => if n = 0 then .ok (.p (.list (l.rows.map .list))) l else .bad
  | _ => .bad
def xPast : XF LS := fun δ l => match δ[0]? with
  | some (Sl.v (D.obj n)) => if n = 0 then .ok (.p (.list l.past)) l else .bad
  | _ => .bad
theorem self_at {K : PySem.W.Frag} {e c : Cur (WS C)} {δ : Ev} {σ : L2.St} (r : Rz cls K e c δ σ) (h : δ[0]? = some (.v (.obj 0))) : σ[0]? = some (some (.ref c.k.1)) := by
  obtain ⟨oo, w1, _⟩ := r.ex
  obtain ⟨_, u, e1, a, eu, hd⟩ := w1 0 _ h
  have hd : (if (0 : Nat) = 0 then some c.k.1 else none) = some a := hd
  rw [if_pos rfl] at hd
  cases hd
  rw [e1, eu]
theorem s_rows {e : Cur (WS C)} (T : LedC X.K C) (ho : PE X o (tVar 0)) (hb : attributeBase o "rows" X.env (eval o X.env) = eval o X.env := by rfl) : PE X (.Attribute o "rows" pos) (tS cls X.K e Wx (xRows)) :=
  pe_imp (pe_fld ho hb) fun σ H Q ⟨c, δ, eH, r, q⟩ => by
    rw [← eH]
    unfold xRows at q
    split at q
    · rename_i n hn
      split at q
      · rename_i h0
        subst h0
        obtain ⟨f1, f2, f3⟩ := r.ok.wr
        exact ⟨_, self_at r hn, _, C, _, _, _, rfl, r.ok.fh _ _ f1, T.cl, T.nr, rfl, q _ c rfl (Bs.refl r.ok) f2⟩
      · exact q.elim
    · exact q.elim
theorem s_past {e : Cur (WS C)} (T : LedC X.K C) (ho : PE X o (tVar 0)) (hb : attributeBase o "past" X.env (eval o X.env) = eval o X.env := by rfl) : PE X (.Attribute o "past" pos) (tS cls X.K e Wx (xPast)) :=
  pe_imp (pe_fld ho hb) fun σ H Q ⟨c, δ, eH, r, q⟩ => by
    rw [← eH]
    unfold xPast at q
    split at q
    · rename_i n hn
      split at q
      · rename_i h0
        subst h0
        obtain ⟨f1, f2, f3⟩ := r.ok.wr
        exact ⟨_, self_at r hn, _, C, _, _, _, rfl, r.ok.fh _ _ f1, T.cl, T.np, rfl, q _ c rfl (Bs.refl r.ok) f3⟩
      · exact q.elim
    · exact q.elim
end
/-! ## a ledger changes -/
section
variable {C : Addr} {X : Cx} {cls : Nat → Addr} {e c : Cur (WL C)} {Wx : WX} {o b d ex : Expr} {pos : Pos} {i : Nat} {kk : LK} {l l' : LS} {a : Addr} {ob : HO}
theorem all_apart {ks : List LK} (nd : (lAll ks).Nodup) {i j : Nat} {ki kj : LK} (hi : ks[i]? = some ki) (hj : ks[j]? = some kj) (hij : i ≠ j) {x : Addr} (h1 : x ∈ ki.all) (h2 : x ∈ kj.all) : False := by
  obtain ⟨li, rfl⟩ := List.getElem?_eq_some_iff.mp hi
  obtain ⟨lj, rfl⟩ := List.getElem?_eq_some_iff.mp hj
  have h := (List.pairwise_flatMap.mp nd).2
  rcases Nat.lt_or_gt_of_ne hij with h3 | h3
  · exact (List.pairwise_iff_getElem.mp h i j li lj h3) x h1 x h2 rfl
  · exact (List.pairwise_iff_getElem.mp h j i lj li h3) x h2 x h1 rfl
theorem all_nodup {ks : List LK} (nd : (lAll ks).Nodup) (hi : ks[i]? = some kk) : kk.all.Nodup := (List.pairwise_flatMap.mp nd).1 _ (List.mem_of_getElem? hi)
theorem led_wr (k : Ok c) (hk : c.k.2[i]? = some kk) (hl : c.w.2[i]? = some l) (ha : a ∈ kk.all) (h' : LAt C c.F (upd c.H a ob) kk l') : Bs c (⟨c.k, c.F, (c.w.1, c.w.2.set i l'), upd c.H a ob⟩ : Cur (WL C)) := by
  have hfp : (WL C).fp c.k a := .inr (mem_lAll hk ha)
  have ho := (k.wf a hfp).1
  have hi := (List.getElem?_eq_some_iff.mp hl).1
  exact {
    ok := {
      fh := fun x u q => by
        show upd c.H a ob x = some u
        rw [upd_ne fun z => by rw [z, ho] at q; cases q]
        exact k.fh x u q
      wr := {
        dr := WW.stab _ _ c.F c.F _ _ k.wr.dr (Sub.refl _) fun x hx => upd_ne fun z => k.wr.dis a (mem_lAll hk ha) (z ▸ hx)
        nd := k.wr.nd
        dis := k.wr.dis
        len := by rw [List.length_set]; exact k.wr.len
        at_ := fun j k2 l2 h1 h2 => by
          by_cases e1 : j = i
          · subst e1
            rw [List.getElem?_set_self hi] at h2
            cases h2
            have : k2 = kk := by rw [hk] at h1; cases h1; rfl
            subst this
            exact h'
          · rw [List.getElem?_set_ne (Ne.symm e1)] at h2
            exact (k.wr.at_ j k2 l2 h1 h2).mono (Sub.refl _) fun x hx => upd_ne fun z => all_apart k.wr.nd h1 hk e1 (z ▸ hx) ha }
      wf := fun x hx => ⟨(k.wf x hx).1, by
        show upd c.H a ob x ≠ none
        by_cases e1 : x = a
        · rw [e1, upd_same]; exact fun z => by cases z
        · rw [upd_ne e1]; exact (k.wf x hx).2⟩ }
    ff := Sub.refl _
    hh := fun x u n q => by
      have hne : x ≠ a := fun z => n (by rw [z]; exact hfp)
      show upd c.H a ob x = some u
      rw [upd_ne hne]
      exact q
    fn := fun _ h => .inl h
    kh := fun _ _ h => h
    kf := fun _ h => .inl h
    kg := fun _ h => h }
theorem ne_mem {y x : Addr} {as : List Addr} (h : ¬ y ∈ as) (hm : x ∈ as) : y ≠ x := fun z => h (z.symm ▸ hm)
theorem at_past (nd : kk.all.Nodup) (h : LAt C c.F c.H kk l) {ps : List PyData} {us : List V} (q : DqL c.F ps us) : LAt C c.F (upd c.H kk.b (.lst us)) kk { l with past := ps } := by
  simp only [LK.all, List.nodup_cons, List.mem_cons, not_or] at nd
  exact {
    ins := by rw [upd_ne nd.1.2.2.1]; exact h.ins
    own := by rw [upd_ne nd.2.1.2.1]; exact h.own
    rs := by rw [upd_ne nd.2.2.1.1]; exact h.rs
    len := h.len
    row := fun j x xs h1 h2 => by
      obtain ⟨vs, g1, g2⟩ := h.row j x xs h1 h2
      refine ⟨vs, ?_, g2⟩
      rw [upd_ne (ne_mem nd.2.2.2.1 (List.mem_of_getElem? h1)).symm]; exact g1
    pst := ⟨us, upd_same, q⟩ }
theorem at_row (nd : kk.all.Nodup) (h : LAt C c.F c.H kk l) {j : Nat} {x : Addr} (hx : kk.as[j]? = some x) {ps : List PyData} {us : List V} (q : DqL c.F ps us) : LAt C c.F (upd c.H x (.lst us)) kk { l with rows := l.rows.set j ps } := by
  simp only [LK.all, List.nodup_cons, List.mem_cons, not_or] at nd
  have hm := List.mem_of_getElem? hx
  exact {
    ins := by rw [upd_ne (ne_mem nd.1.2.2.2 hm)]; exact h.ins
    own := by rw [upd_ne (ne_mem nd.2.1.2.2 hm)]; exact h.own
    rs := by rw [upd_ne (ne_mem nd.2.2.1.2 hm)]; exact h.rs
    len := by rw [List.length_set]; exact h.len
    row := fun m y xs h1 h2 => by
      by_cases e1 : m = j
      · subst e1
        rw [hx] at h1
        cases h1
        rw [List.getElem?_set_self (by rw [← h.len]; exact (List.getElem?_eq_some_iff.mp hx).1)] at h2
        cases h2
        exact ⟨us, upd_same, q⟩
      · rw [List.getElem?_set_ne (Ne.symm e1)] at h2
        obtain ⟨vs, g1, g2⟩ := h.row m y xs h1 h2
        refine ⟨vs, ?_, g2⟩
        rw [upd_ne]
        · exact g1
        · intro z
          subst z
          obtain ⟨l1, v1⟩ := List.getElem?_eq_some_iff.mp h1
          obtain ⟨l2, v2⟩ := List.getElem?_eq_some_iff.mp hx
          exact e1 ((List.getElem_inj nd.2.2.2.2).mp (v1.trans v2.symm))
    pst := by
      obtain ⟨vs, g1, g2⟩ := h.pst
      exact ⟨vs, by rw [upd_ne (ne_mem nd.2.2.2.1 hm)]; exact g1, g2⟩ }
end
/-! ## statements of a method -/
section
variable {C : Addr} {X : Cx} {cls : Nat → Addr} {e : Cur (WL C)} {Wx : WX} {o b d ex : Expr} {pos : Pos}
/-- an expression of the ledger's own, it lent -/
def tL (C : Addr) (cls : Nat → Addr) (K : PySem.W.Frag) (Wx : WX) (f : XF LS) : TE := fun σ H Q => ∃ e0 : Cur (WS C), Ok e0 ∧ tS cls K e0 Wx f σ H Q
theorem pe_L {f : XF LS} (he : ∀ (e0 : Cur (WS C)), Ok e0 → PE X ex (tS cls X.K e0 Wx f)) : PE X ex (tL C cls X.K Wx f) := ⟨fun pins s σ H Q I ⟨e0, k0, h⟩ => (he e0 k0).run pins s σ H Q I h⟩
theorem lend_one {K : PySem.W.Frag} {f : XF LS} {c : Cur (WL C)} {δ : Ev} {σ : L2.St} {i : Nat} {l : LS} (r : Rz cls K e c δ σ) (z : ledOf δ c.w = some (i, l)) {p : PyData} {l0 : LS} (hf : f (evS δ) l = .ok (.p p) l0) (hp : flatP p = true)
    {Q : VK} (hQ : ∀ u H2, Bs c (⟨c.k, c.F, c.w, H2⟩ : Cur (WL C)) → Dq c.F p u → Q u H2) : tL C cls K Wx f σ c.H Q := by
  obtain ⟨kk, hk, hs, hl⟩ := led_at r z
  refine ⟨lendC c kk l, lendC_ok r.ok hk hl, lendC c kk l, evS δ, rfl, lend_rz r z hk hs hl, ?_⟩
  show after cls K (lendC c kk l) σ Wx (f (evS δ) l) Q
  rw [hf]
  exact fun u c2 _ b q => hQ u c2.H (lend_bs r.ok hk b) (flat_dq hp q)
theorem lend_keeps {c : Cur (WL C)} {H2 : Hp} {i : Nat} {l : LS} {kk : LK} (b : Bs c (⟨c.k, c.F, c.w, H2⟩ : Cur (WL C))) (hk : c.k.2[i]? = some kk) (hl : c.w.2[i]? = some l) : LAt C c.F H2 kk l := b.ok.wr.at_ i kk l hk hl
/-- self.past.append(e) -/
def sPast (f : XF LW) : SF LW := fun δ w => match ledOf δ w with
  | some _ => match f δ w with
    | .ok (.p p) w' => match ledOf δ w' with
      | some (i, l) => if l.past.length < lim then .nx δ (w'.1, w'.2.set i { l with past := l.past ++ [p] }) else .bad
      | none => .bad
    | .exc m w' => .exc m δ w'
    | _ => .bad
  | none => .bad
theorem past_at {c : Cur (WL C)} {kk : LK} {l : LS} {σ : L2.St} {Q : VK} (T : LedC X.K C) (hs : σ[0]? = some (some (.ref kk.p))) (hl : LAt C c.F c.H kk l) (q : Q (.ref kk.b) c.H) : tFld X.K (tVar 0) "past" σ c.H Q :=
  ⟨_, hs, _, C, _, _, _, rfl, hl.ins, T.cl, T.np, rfl, q⟩
theorem rows_at {c : Cur (WL C)} {kk : LK} {l : LS} {σ : L2.St} {Q : VK} (T : LedC X.K C) (hs : σ[0]? = some (some (.ref kk.p))) (hl : LAt C c.F c.H kk l) (q : Q (.ref kk.a) c.H) : tFld X.K (tVar 0) "rows" σ c.H Q :=
  ⟨_, hs, _, C, _, _, _, rfl, hl.ins, T.cl, T.nr, rfl, q⟩
theorem ss_past {f : XF LW} {apos p2 cpos : Pos} (ke : Ok e) (T : LedC X.K C) (ho : PE X o (tVar 0)) (ha : PE X d (tS cls X.K e Wx f))
    (hb0 : attributeBase o "past" X.env (eval o X.env) = eval o X.env := by rfl)
    (hbase : attributeBase (.Attribute o "past" p2) "append" X.env (eval (.Attribute o "past" p2) X.env) = eval (.Attribute o "past" p2) X.env := by rfl)
    (hfew : ((backTo cpos (starEach (d :: []) X.env)).all (fun x => !x.1) && (backToKw cpos (keywordEach [] X.env)).all (fun x => x.1.isSome)
      && decide ((d :: []).length + ([] : List Keyword).length + (if ([] : List Keyword).isEmpty then 0 else 1) < 30)) = true := by rfl)
    (hline : (apos.endLine == cpos.line) = true := by rfl) (hs : starEach (d :: []) X.env = (false, eval d X.env) :: starEach [] X.env := by rfl) (hplain : (backTo cpos (starEach [] X.env)).any (·.1) = false := by rfl)
    (hsw : swapsWith (.Call (.Attribute (.Attribute o "past" p2) "append" apos) (d :: []) [] cpos) none pos.line X.env = pure false := by rfl) :
    PS X (.Expr (.Call (.Attribute (.Attribute o "past" p2) "append" apos) (d :: []) [] cpos) pos) (tSS cls X.K e Wx (sPast f)) := ⟨fun pins s σ H Dn I ⟨c, δ, eH, r, q⟩ => by
  subst eH
  unfold sPast at q
  cases z : ledOf δ c.w with
  | none => rw [z] at q; exact q.elim
  | some il =>
    obtain ⟨i, l⟩ := il
    rw [z] at q
    dsimp only at q
    obtain ⟨kk, hk, hsl, hl⟩ := led_at r z
    refine (ps_expr (pe_bm PySem.F.plainAttrs_list PySem.F.slot_list_append PySem.F.type_list_append mt_append (pe_fld ho hb0) (pa_cons ha pa_nil hs) hbase hfew hline hs hplain) hsw).run pins s σ c.H Dn I ?_
    unfold tDrop tBM
    refine past_at T hsl hl ?_
    obtain ⟨vs, g1, g2⟩ := hl.pst
    refine ⟨.inl ⟨rfl, vs, SqL.of g1⟩, ?_⟩
    show tS cls X.K e Wx f σ c.H _
    refine ⟨c, δ, rfl, r, ?_⟩
    cases z2 : f δ c.w with
    | bad => rw [z2] at q; exact q.elim
    | exc m w' => rw [z2] at q; exact fun c' hw b => q σ c' hw b.ff (r.step ke b)
    | ok dd w' =>
      rw [z2] at q
      cases dd with
      | p p =>
        dsimp only at q
        intro u c1 hw1 b1 qu
        cases z3 : ledOf δ w' with
        | none => rw [z3] at q; exact q.elim
        | some jl =>
          obtain ⟨j, l1⟩ := jl
          rw [z3] at q
          dsimp only at q
          by_cases hp : l1.past.length < lim
          · rw [if_pos hp] at q
            rw [← hw1] at z3 q
            have r1 := r.step ke b1
            obtain ⟨k1, hk1, hs1, hl1⟩ := led_at r1 z3
            have eij : j = i := by
              have h1 := (ledOf_is z).1
              have h2 := (ledOf_is z3).1
              rw [h1] at h2
              injection h2 with h2
              injection h2 with h2
              injection h2 with h2
              omega
            subst eij
            obtain ⟨k2, hk2, _, eb⟩ := led_stay b1 hk
            have ek : k2 = k1 := by rw [hk1] at hk2; cases hk2; rfl
            subst ek
            obtain ⟨vs2, g3, g4⟩ := hl1.pst
            rw [eb] at g3
            have nd := all_nodup r1.ok.wr.nd hk1
            have hA := at_past nd hl1 (g4.append (.cons qu .nil))
            rw [eb] at hA
            have B2 := led_wr (l' := { l1 with past := l1.past ++ [p] }) r1.ok hk1 (ledOf_is z3).2 (a := kk.b) (ob := .lst (vs2 ++ [u])) (by rw [← eb]; simp [LK.all]) hA
            refine ⟨kk.b, vs2, u, rfl, rfl, g3, by rw [g4.len, ← lim_eq]; exact hp, ?_⟩
            exact q σ (⟨c1.k, c1.F, (c1.w.1, c1.w.2.set j { l1 with past := l1.past ++ [p] }), upd c1.H kk.b (.lst (vs2 ++ [u]))⟩ : Cur (WL C)) rfl b1.ff (r1.step ke B2)
          · rw [if_neg hp] at q; exact q.elim
      | _ => exact q.elim⟩
/-- self.rows[k][h] = f -/
def sRowSet (k h f : XF LS) : SF LW := fun δ w => match ledOf δ w with
  | some (i, l) => match f (evS δ) l, k (evS δ) l, h (evS δ) l with
    | .ok (.p p) _, .ok (.p (.int y)) _, .ok (.p (.int z)) _ => match ixN l.rows.length y with
      | some j => match ixN (l.rows.getD j []).length z with
        | some m => if flatP p = true then .nx δ (w.1, w.2.set i { l with rows := l.rows.set j ((l.rows.getD j []).set m p) }) else .bad
        | none => .bad
      | none => .bad
    | _, _, _ => .bad
  | none => .bad
theorem ss_rowSet {k h f : XF LS} {spos p2 p3 : Pos} (ke : Ok e) (T : LedC X.K C) (ho : PE X o (tVar 0)) (hk : ∀ (e0 : Cur (WS C)), Ok e0 → PE X b (tS cls X.K e0 Wx k)) (hh : ∀ (e0 : Cur (WS C)), Ok e0 → PE X d (tS cls X.K e0 Wx h)) (hv : ∀ (e0 : Cur (WS C)), Ok e0 → PE X ex (tS cls X.K e0 Wx f))
    (hpl : PlainIx b := by exact fun _ _ => rfl) (hb0 : attributeBase o "rows" X.env (eval o X.env) = eval o X.env := by rfl)
    (ha : ∀ v, assign (.Subscript (.Subscript (.Attribute o "rows" p3) b p2) d spos) X.env v = (do
      let ov ← holding [v] (eval (.Subscript (.Attribute o "rows" p3) b p2) X.env)
      let iv ← holding [v, ov] (eval d X.env)
      standAt spos
      holding [v, ov, iv] (setItem ov iv v)
      release [v, ov, iv] []) := by intro _; rfl)
    (hs : swapsWithSole [.Subscript (.Subscript (.Attribute o "rows" p3) b p2) d spos] ex pos.line X.env = pure false := by rfl) (hw : swappedStores [.Subscript (.Subscript (.Attribute o "rows" p3) b p2) d spos] ex X.env = pure none := by rfl)
    (h1 : (assignEach [.Subscript (.Subscript (.Attribute o "rows" p3) b p2) d spos] X.env).map (·.2) = [assign (.Subscript (.Subscript (.Attribute o "rows" p3) b p2) d spos) X.env] := by rfl) :
    PS X (.Assign [.Subscript (.Subscript (.Attribute o "rows" p3) b p2) d spos] ex pos) (tSS cls X.K e Wx (sRowSet k h f)) := ⟨fun pins s σ H Dn I ⟨c, δ, eH, r, q⟩ => by
  subst eH
  unfold sRowSet at q
  cases z : ledOf δ c.w with
  | none => rw [z] at q; exact q.elim
  | some il =>
    obtain ⟨i, l⟩ := il
    rw [z] at q
    dsimp only at q
    obtain ⟨kk, hkk, hsl, hl⟩ := led_at r z
    have hli := (ledOf_is z).2
    split at q
    · rename_i p w1 y w2 zz w3 hf hkf hhf
      split at q
      · rename_i j hj
        split at q
        · rename_i m hm
          by_cases hp : flatP p = true
          · rw [if_pos hp] at q
            have nd := all_nodup r.ok.wr.nd hkk
            have hjl : j < kk.as.length := by rw [hl.len]; exact ixN_lt hj
            have hb : kk.as[j]? = some kk.as[j] := List.getElem?_eq_getElem hjl
            have hxs : l.rows[j]? = some (l.rows.getD j []) := by
              have := ixN_lt hj
              rw [List.getD_eq_getElem?_getD, List.getElem?_eq_getElem this]; rfl
            have hat : atI (kk.as.map V.ref) y = some (.ref kk.as[j]) := by
              unfold atI
              rw [List.length_map, hl.len, hj]
              simp [hjl]
            refine (ps_asg (pe_L hv) (pg_sub (pe_ix ix_list (pe_fld ho hb0) (pe_L hk) hpl) (pe_L hh) set_list ha) hs hw h1).run pins s σ c.H Dn I ?_
            show tL C cls X.K Wx f σ c.H _
            refine lend_one r z hf hp fun u H1 b1 q1 => ?_
            have r1 := r.step ke b1
            have hl1 := lend_keeps b1 hkk hli
            unfold L2.gSub tOp
            refine rows_at (c := (⟨c.k, c.F, c.w, H1⟩ : Cur (WL C))) T hsl hl1 ?_
            refine lend_one (c := (⟨c.k, c.F, c.w, H1⟩ : Cur (WL C))) r1 z hkf rfl fun v H2 b2 q2 => ?_
            have r2 := r1.step ke b2
            have hl2 := lend_keeps b2 hkk hli
            cases dv_int.mp (show Dv cls X.K (⟨c.k, c.F, c.w, H2⟩ : Cur (WL C)) (.p (.int y)) v from q2)
            refine ⟨kk.a, _, y, _, rfl, rfl, SqL.of hl2.rs, hat, ?_⟩
            refine lend_one (c := (⟨c.k, c.F, c.w, H2⟩ : Cur (WL C))) r2 z hhf rfl fun v3 H3 b3 q3 => ?_
            have r3 := r2.step ke b3
            have hl3 := lend_keeps b3 hkk hli
            cases dv_int.mp (show Dv cls X.K (⟨c.k, c.F, c.w, H3⟩ : Cur (WL C)) (.p (.int zz)) v3 from q3)
            obtain ⟨us, k1, k2⟩ := hl3.row j _ _ hb hxs
            have B2 := led_wr (c := (⟨c.k, c.F, c.w, H3⟩ : Cur (WL C))) (l' := { l with rows := l.rows.set j ((l.rows.getD j []).set m p) }) b3.ok hkk hli (a := kk.as[j]) (ob := .lst (us.set m u)) (by simp [LK.all]) (at_row (c := (⟨c.k, c.F, c.w, H3⟩ : Cur (WL C))) nd hl3 hb (k2.set q1 m))
            refine ⟨kk.as[j], us, zz, m, rfl, rfl, k1, by rw [k2.len]; exact hm, ?_⟩
            exact q σ (⟨c.k, c.F, (c.w.1, c.w.2.set i { l with rows := l.rows.set j ((l.rows.getD j []).set m p) }), upd H3 kk.as[j] (.lst (us.set m u))⟩ : Cur (WL C)) rfl (Sub.refl _) (r3.step ke B2)
          · rw [if_neg hp] at q; exact q.elim
        · exact q.elim
      · exact q.elim
    · exact q.elim⟩
end
end Z

set_option Elab.async false
set_option linter.all false
set_option maxRecDepth 100000
/-! # Z30: ledgers: taken back, made, asked -/
namespace Z
open PySem PySem.Spec PyProof.Rows L2
section
variable {C : Addr} {X : Cx} {cls : Nat → Addr} {e : Cur (WL C)} {Wx : WX} {o b d ex : Expr} {pos : Pos}
/-- self.past.pop() -/
def xPop : XF LW := fun δ w => match ledOf δ w with
  | some (i, l) => match l.past[l.past.length - 1]? with
    | some p => .ok (.p p) (w.1, w.2.set i { l with past := l.past.dropLast })
    | none => .bad
  | none => .bad
theorem s_pop {apos p2 cpos : Pos} (ke : Ok e) (T : LedC X.K C) (ho : PE X o (tVar 0)) (hb0 : attributeBase o "past" X.env (eval o X.env) = eval o X.env := by rfl)
    (hbase : attributeBase (.Attribute o "past" p2) "pop" X.env (eval (.Attribute o "past" p2) X.env) = eval (.Attribute o "past" p2) X.env := by rfl) (hline : (apos.endLine == cpos.line) = true := by rfl) :
    PE X (.Call (.Attribute (.Attribute o "past" p2) "pop" apos) [] [] cpos) (tS cls X.K e Wx xPop) :=
  pe_imp (pe_bm0 PySem.F.plainAttrs_list PySem.F.slot_list_pop PySem.F.type_list_pop mt_pop (pe_fld ho hb0) hbase hline) fun σ H Q ⟨c, δ, eH, r, q⟩ => by
    subst eH
    unfold xPop at q
    cases z : ledOf δ c.w with
    | none => rw [z] at q; exact q.elim
    | some il =>
      obtain ⟨i, l⟩ := il
      rw [z] at q
      dsimp only at q
      obtain ⟨kk, hk, hsl, hl⟩ := led_at r z
      cases z2 : l.past[l.past.length - 1]? with
      | none => rw [z2] at q; exact q.elim
      | some p =>
        rw [z2] at q
        unfold tBM0
        refine past_at T hsl hl ?_
        obtain ⟨vs, g1, g2⟩ := hl.pst
        obtain ⟨v, g3, g4⟩ := g2.get z2
        refine ⟨.inl ⟨rfl, vs, SqL.of g1⟩, kk.b, vs, v, rfl, rfl, g1, by rw [g2.len]; exact g3, ?_⟩
        have nd := all_nodup r.ok.wr.nd hk
        have g5 : DqL c.F l.past.dropLast vs.dropLast := by
          rw [List.dropLast_eq_take, List.dropLast_eq_take, g2.len]
          exact g2.take _
        have B2 := led_wr (l' := { l with past := l.past.dropLast }) r.ok hk (ledOf_is z).2 (a := kk.b) (ob := .lst vs.dropLast) (by simp [LK.all]) (at_past nd hl g5)
        exact q v (⟨c.k, c.F, (c.w.1, c.w.2.set i { l with past := l.past.dropLast }), upd c.H kk.b (.lst vs.dropLast)⟩ : Cur (WL C)) rfl B2 g4
end
/-! ## a method of a ledger, called -/
/-- the method m of the class at C keeps what fz says -/
def KpM (P : Program) (w : World) (K : PySem.W.Frag) (mg : Str → Option Value) (base : Heap) (C : Addr) (cls : Nat → Addr) (m : Str) (k n : Nat) (fz : FZ LW) : Prop :=
  ∃ f fd ps, Meth K C m f ∧ Binds K fd ps [] ∧ FnOk P w K mg base (L2.CX P w) k f fd ps (spZ cls K (WL C) n fz)
section
variable {P : Program} {w : World} {K : PySem.W.Frag} {mg : Str → Option Value} {base : Heap} {C : Addr} {cls : Nat → Addr} {m : Str} {k n : Nat}
/-- where the method m stands, its text -/
def DfM (K : PySem.W.Frag) (C : Addr) (m : Str) (qual : Str) (st : Stmt) : Prop := ∃ f fd, Meth K C m f ∧ Fun K m qual st f fd
theorem kpM {qual : Str} {st : Stmt} {N ps : List Str} {sf : SF LW} (D : DfM K C m qual st) (S : FnScope N ps (defScope st))
    (bs : ∀ (kV doc pm : Value) (an : Option Addr) (cdv ct : Value) (us : List Value), us.length = ps.length → bindArgs (PySem.W.fnOf m qual (defArgs st) (defBody st) (defScope st) .none kV doc pm an cdv ct) ⟨us, []⟩ = pure (ps.zip us))
    (hb : ∀ (f : Addr) (cdv : Value) (A : Around) (outer : List Env) (s : Shared) (H : Hp) (E : XK) (e : Cur (WL C)), Ok e → Room k (A.deeper (envOfC qual (defScope st) s.heap.objs.size f cdv)) →
      PSs (cxOf (L2.CX P w) P w K mg base N qual (defScope st) f cdv A outer s H E) (defBody st) (tSS cls K e (WxE E) sf)) : KpM P w K mg base C cls m (k + 1) ps.length (runZ N.length sf) := by
  obtain ⟨f, fd, h1, F⟩ := D
  exact ⟨f, fd, ps, h1, F.binds bs, okZ F S (hb f)⟩
end
section
variable {C : Addr} {X : Cx} {cls : Nat → Addr} {e : Cur (WL C)} {Wx : WX} {o a : Expr} {es : List Expr} {pos apos : Pos} {m : Str} {k n : Nat} {fz : FZ LW} {fo : XF LW} {fl : XL LW}
/-- is it a ledger -/
def isLed (d : D) (w : LW) : Bool := match d with
  | .obj n => decide (2 ≤ n ∧ n % 2 = 0) && decide ((n - 2) / 2 < w.2.length)
  | _ => false
theorem led_of {K : PySem.W.Frag} {c : Cur (WL C)} {d : D} {v : V} (k : Ok c) (h : isLed d c.w = true) (q : Dv cls K c d v) : ∃ kk, v = .ref kk.p ∧ c.H kk.p = some (.ins C kk.dx (lFs kk)) := by
  cases d with
  | obj n =>
    unfold isLed at h
    simp only [Bool.and_eq_true, decide_eq_true_eq] at h
    obtain ⟨a, rfl, hd⟩ := q
    have hd : (if n < 2 then wHd c.k.1 n else lHd c.k.2 (n - 2)) = some a := hd
    rw [if_neg (by omega)] at hd
    unfold lHd at hd
    obtain ⟨kk, h1, h2⟩ := Option.map_eq_some_iff.mp hd
    rw [if_pos (by omega)] at h2
    have hl : c.w.2[(n - 2) / 2]? = some c.w.2[(n - 2) / 2] := List.getElem?_eq_getElem h.2
    exact ⟨kk, by rw [h2], (k.wr.at_ _ _ _ h1 hl).ins⟩
  | _ => cases h
def xMeth (fz : FZ LW) (fo : XF LW) (fl : XL LW) : XF LW := fun δ w => (fo δ w).bind fun d w1 => if isLed d w1 = true then (fl δ w1).bind fun ds w2 => fz (d :: ds) w2 else .bad
theorem mlook {kk : LK} (h1 : (m == ("rows" : Str)) = false) (h2 : (m == ("past" : Str)) = false) : (lFs kk).lookup m = none := by
  simp only [lFs, List.lookup, h1, h2]
theorem s_meth {pl : Sem Bool} (ke : Ok e) (T : LedC X.K C) (F : KpM X.prog X.w X.K X.mg X.base C cls m k (n + 1) fz) (hr : Room k X.A) (tk : Takes X Wx) (ho : PE X o (tS cls X.K e Wx fo)) (ha : PA X (a :: es) (tSL cls X.K e Wx fl)) (hn : LenIs fl n)
    (h1 : (m == ("rows" : Str)) = false := by decide) (h2 : (m == ("past" : Str)) = false := by decide)
    (hst : starEach (a :: es) X.env = (false, eval a X.env) :: starEach es X.env := by rfl) (hpl : (backTo pos (starEach es X.env)).any (·.1) = false := by rfl)
    (ht : eval (.Call (.Attribute o m apos) (a :: es) [] pos) X.env = (do
      let ov ← eval o X.env
      standAt apos.atName
      let (f, first) ← holding [ov] (getMethod ov m pl)
      callWith pos f first (backTo pos (starEach (a :: es) X.env)) (backToKw pos (keywordEach [] X.env))) := by rfl) :
    PE X (.Call (.Attribute o m apos) (a :: es) [] pos) (tS cls X.K e Wx (xMeth fz fo fl)) := ⟨fun pins s σ H Q I ⟨c, δ, eH, r, q⟩ => by
  subst eH
  obtain ⟨f, fd, ps, hm, hb, hF⟩ := F
  unfold xMeth at q
  refine PySem.W.methodCall_KW (pl := pl) (thn (ho.run pins s σ c.H _ I (after_one (K := X.K) ke r q)) fun u s1 ⟨x, H1, I1, rx, y, c1, e1, b1, r1, qy, q1⟩ => ?_) ht
  subst e1
  by_cases hy : isLed y c1.w = true
  · rw [if_pos hy] at q1
    obtain ⟨kk, hx, hins⟩ := led_of r1.ok hy qy
    subst hx
    cases (rx : u = Value.ref kk.p)
    refine getmeth_ok I1 hins T.cl hm (mlook h1 h2) ?_
    refine PySem.W.callWith_K (first := [.ref kk.p]) (h₀ := X.base) I.ok.mod.kin hm.kp (thn (ha.run pos pins s1 σ c1.H (fun vs H2 => spZ cls X.K (WL C) (n + 1) fz (V.ref kk.p :: vs) H2 Q (WE Wx σ)) I1 ⟨c1, δ, rfl, r1, ?_⟩) fun us s2 ⟨vs, H2, I2, rv, q2⟩ => ⟨I2.kIn, ?_⟩) hst hpl
    · cases z : fl δ c1.w with
      | bad => rw [z] at q1; exact q1
      | exc n' w => rw [z] at q1; exact q1
      | ok ds w1 =>
        rw [z] at q1
        dsimp only [Res.bind] at q1
        intro us c2 hw b2 qd
        refine ⟨c2, y :: ds, rfl, b2.ok, ⟨_, us, rfl, qy.mono b2, qd⟩, by rw [List.length_cons, hn _ _ _ _ z], ?_⟩
        rw [hw]
        cases z2 : fz (y :: ds) w1 with
        | bad => rw [z2] at q1; exact q1
        | exc m' w2 => rw [z2] at q1; exact fun c' hw' b' => q1 c' hw' (b2.trans r1.ok b')
        | ok dd w2 => rw [z2] at q1; exact fun u c' hw' b' q' => q1 u c' hw' (b2.trans r1.ok b') q'
    · exact run_fnS (us := .ref kk.p :: us) (vs := .ref kk.p :: vs) hF hr hb (passAt tk σ) I2 (.cons rfl rv) q2
  · rw [if_neg hy] at q1; exact q1.elim⟩
def xMeth0 (fz : FZ LW) (fo : XF LW) : XF LW := fun δ w => (fo δ w).bind fun d w1 => if isLed d w1 = true then fz [d] w1 else .bad
theorem s_meth0 {pl : Sem Bool} (ke : Ok e) (T : LedC X.K C) (F : KpM X.prog X.w X.K X.mg X.base C cls m k 1 fz) (hr : Room k X.A) (tk : Takes X Wx) (ho : PE X o (tS cls X.K e Wx fo))
    (h1 : (m == ("rows" : Str)) = false := by decide) (h2 : (m == ("past" : Str)) = false := by decide)
    (ht : eval (.Call (.Attribute o m apos) [] [] pos) X.env = (do
      let ov ← eval o X.env
      standAt apos.atName
      let (f, first) ← holding [ov] (getMethod ov m pl)
      callWith pos f first (backTo pos (starEach [] X.env)) (backToKw pos (keywordEach [] X.env))) := by rfl) :
    PE X (.Call (.Attribute o m apos) [] [] pos) (tS cls X.K e Wx (xMeth0 fz fo)) := ⟨fun pins s σ H Q I ⟨c, δ, eH, r, q⟩ => by
  subst eH
  obtain ⟨f, fd, ps, hm, hb, hF⟩ := F
  unfold xMeth0 at q
  refine PySem.W.methodCall_KW (pl := pl) (thn (ho.run pins s σ c.H _ I (after_one (K := X.K) ke r q)) fun u s1 ⟨x, H1, I1, rx, y, c1, e1, b1, r1, qy, q1⟩ => ?_) ht
  subst e1
  by_cases hy : isLed y c1.w = true
  · rw [if_pos hy] at q1
    obtain ⟨kk, hx, hins⟩ := led_of r1.ok hy qy
    subst hx
    cases (rx : u = Value.ref kk.p)
    refine getmeth_ok I1 hins T.cl hm (mlook h1 h2) ?_
    refine PySem.W.callWith_K0 (first := [.ref kk.p]) I1.kIn hm.kp ?_
    refine run_fnS (us := [.ref kk.p]) (vs := [.ref kk.p]) hF hr hb (passAt tk σ) I1 (.cons rfl .nil) ⟨c1, [y], rfl, r1.ok, ⟨_, [], rfl, qy, rfl⟩, rfl, ?_⟩
    cases z2 : fz [y] c1.w with
    | bad => rw [z2] at q1; exact q1
    | exc m' w2 => rw [z2] at q1; exact q1
    | ok dd w2 => rw [z2] at q1; exact q1
  · rw [if_neg hy] at q1; exact q1.elim⟩
end
end Z

set_option Elab.async false
set_option linter.all false
set_option maxRecDepth 100000
/-! # Z31: a ledger is made; its length -/
namespace Z
open PySem PySem.Spec PyProof.Rows L2
section
variable {C : Addr} {cls : Nat → Addr}
/-- what __init__ makes of its argument: f is asked first, g are the rows -/
def fInit (n : Nat) (f : XF LW) (g : XS LW) : D → LW → Res LW D := fun d w =>
  let δ := [Sl.v .opq, Sl.v d] ++ List.replicate n .no
  match f δ w with
  | .ok _ w1 => match g δ w1 with
    | .ok (.own2 xss) w2 => .ok (.obj (2 * w2.2.length + 2)) (w2.1, w2.2 ++ [⟨xss, []⟩])
    | .exc m w2 => .exc m w2
    | _ => .bad
  | .exc m w' => .exc m w'
  | .bad => .bad
def afterMk (cls : Nat → Addr) (K : PySem.W.Frag) (c : Cur (WL C)) (x : Addr) (r : Res LW D) (Q : VK) (E : XK) : Prop := match r with
  | .ok d w' => ∀ c' : Cur (WL C), c'.w = w' → Bs c c' → Dv cls K c' d (.ref x) → Q .non c'.H
  | .exc m w' => ∀ c' : Cur (WL C), c'.w = w' → Bs c c' → E (.ref (cls m)) none c'.H
  | .bad => False
def spI (C : Addr) (cls : Nat → Addr) (K : PySem.W.Frag) (fi : D → LW → Res LW D) : Sp := fun vs H Q E => ∃ (c : Cur (WL C)) (x dx : Addr) (d : D) (v : V), vs = [.ref x, v] ∧ c.H x = none ∧ c.H dx = none ∧ dx ≠ x ∧ H = upd (upd c.H dx (.own x)) x (.ins C dx []) ∧ Ok c ∧ Dv cls K c d v ∧
  afterMk cls K c x (fi d c.w) Q E
theorem none_back {W : Type} {wd : WD W} {c c1 : Cur wd} {a : Addr} (k1 : Ok c1) (b : Bs c c1) (h : c1.H a = none) : c.H a = none := by
  rcases none_or (c.H a) with q | ⟨u, q⟩
  · exact q
  · by_cases hx : wd.fp c.k a
    · exact absurd h (k1.wf a (b.kg a hx)).2
    · rw [b.hh a u hx q] at h; cases h
/-- a new ledger -/
theorem led_new {c c2 : Cur (WL C)} {x dx a p : Addr} {as : List Addr} {xss : List (List PyData)} (k : Ok c) (b : Bs c c2) (hx : c.H x = none) (hdx : c.H dx = none) (hne : dx ≠ x) (fx : ¬ (WL C).fp c2.k x) (fdx : ¬ (WL C).fp c2.k dx)
    (gx : c2.F x = none) (gdx : c2.F dx = none) (ox : c2.H x = some (.ins C dx [])) (odx : c2.H dx = some (.own x)) (oa : c2.H a = some (.lst (as.map V.ref))) (hr : RowsAt c2 xss as) (hn : (a :: as).Nodup)
    (hA : ∀ y ∈ a :: as, c2.F y = none ∧ ¬ (WL C).fp c2.k y ∧ c.H y = none ∧ y ≠ x ∧ y ≠ dx ∧ c2.H y ≠ none) (hp : c2.H p = none) :
    ∃ c' : Cur (WL C), c'.H = upd (upd (upd c2.H x (.ins C dx [("rows", .ref a)])) p (.lst [])) x (.ins C dx [("rows", .ref a), ("past", .ref p)]) ∧ c'.w = (c2.w.1, c2.w.2 ++ [⟨xss, []⟩]) ∧ Bs c c' ∧ (WL C).hd c'.k (2 * c2.w.2.length + 2) = some x := by
  have hpx : p ≠ x := fun z => by rw [z, ox] at hp; cases hp
  have hpdx : p ≠ dx := fun z => by rw [z, odx] at hp; cases hp
  have hpA : ∀ y ∈ a :: as, y ≠ p := fun y hy z => (hA y hy).2.2.2.2.2 (z ▸ hp)
  have fp_ : ¬ (WL C).fp c2.k p := fun z => (b.ok.wf p z).2 hp
  generalize hH : upd (upd (upd c2.H x (.ins C dx [("rows", .ref a)])) p (.lst [])) x (.ins C dx [("rows", .ref a), ("past", .ref p)]) = H'
  have e1 : H' x = some (.ins C dx [("rows", .ref a), ("past", .ref p)]) := by rw [← hH, upd_same]
  have e2 : H' p = some (.lst []) := by rw [← hH, upd_ne hpx, upd_same]
  have e3 : ∀ y, y ≠ x → y ≠ p → H' y = c2.H y := fun y h1 h2 => by rw [← hH, upd_ne h1, upd_ne h2, upd_ne h1]
  have same : ∀ y, (WL C).fp c2.k y → H' y = c2.H y := fun y hy => e3 y (fun z => fx (z ▸ hy)) (fun z => fp_ (z ▸ hy))
  have cp : c.H p = none := none_back b.ok b hp
  let kk : LK := ⟨x, dx, a, as, p⟩
  have nofp : ∀ y ∈ kk.all, ¬ (WL C).fp c2.k y := fun y hy => by
    simp only [kk, LK.all, List.mem_cons] at hy
    rcases hy with rfl | rfl | rfl | rfl | hy
    · exact fx
    · exact fdx
    · exact (hA _ List.mem_cons_self).2.1
    · exact fp_
    · exact (hA _ (List.mem_cons_of_mem _ hy)).2.1
  have all_none : ∀ y ∈ kk.all, c.H y = none := fun y hy => by
    simp only [kk, LK.all, List.mem_cons] at hy
    rcases hy with rfl | rfl | rfl | rfl | hy
    · exact hx
    · exact hdx
    · exact (hA _ List.mem_cons_self).2.2.1
    · exact cp
    · exact (hA _ (List.mem_cons_of_mem _ hy)).2.2.1
  have all_F : ∀ y ∈ kk.all, c2.F y = none := fun y hy => by
    simp only [kk, LK.all, List.mem_cons] at hy
    rcases hy with rfl | rfl | rfl | rfl | hy
    · exact gx
    · exact gdx
    · exact (hA _ List.mem_cons_self).1
    · exact b.ok.fnone hp
    · exact (hA _ (List.mem_cons_of_mem _ hy)).1
  have all_H : ∀ y ∈ kk.all, H' y ≠ none := fun y hy => by
    simp only [kk, LK.all, List.mem_cons] at hy
    have low : ∀ z ∈ a :: as, H' z ≠ none := fun z hz => by
      obtain ⟨_, _, _, h4, h5, h6⟩ := hA z hz
      rw [e3 z h4 (hpA z hz)]; exact h6
    rcases hy with rfl | rfl | rfl | rfl | hy
    · rw [e1]; exact fun z => by cases z
    · rw [e3 _ hne hpdx.symm, odx]; exact fun z => by cases z
    · exact low _ List.mem_cons_self
    · rw [e2]; exact fun z => by cases z
    · exact low _ (List.mem_cons_of_mem _ hy)
  have lall : lAll (c2.k.2 ++ [kk]) = lAll c2.k.2 ++ kk.all := by simp [lAll]
  have lmem : ∀ y, y ∈ lAll (c2.k.2 ++ [kk]) → y ∈ lAll c2.k.2 ∨ y ∈ kk.all := fun y hy => by rw [lall] at hy; exact List.mem_append.mp hy
  obtain ⟨hna, hnas⟩ := List.nodup_cons.mp hn
  have kknd : kk.all.Nodup := by
    simp only [kk, LK.all, List.nodup_cons, List.mem_cons, not_or]
    have ha := hA a List.mem_cons_self
    exact ⟨⟨hne.symm, ha.2.2.2.1.symm, hpx.symm, fun z => (hA x (List.mem_cons_of_mem _ z)).2.2.2.1 rfl⟩, ⟨ha.2.2.2.2.1.symm, hpdx.symm, fun z => (hA dx (List.mem_cons_of_mem _ z)).2.2.2.2.1 rfl⟩,
      ⟨hpA a List.mem_cons_self, hna⟩, fun z => hpA p (List.mem_cons_of_mem _ z) rfl, hnas⟩
  refine ⟨⟨(c2.k.1, c2.k.2 ++ [kk]), c2.F, (c2.w.1, c2.w.2 ++ [⟨xss, []⟩]), H'⟩, rfl, rfl, ?_, ?_⟩
  · exact {
      ok := {
        fh := fun y u q => by
          show H' y = some u
          have hy1 : y ≠ x := fun z => by rw [z, gx] at q; cases q
          have hy2 : y ≠ p := fun z => by rw [z, b.ok.fnone hp] at q; cases q
          rw [e3 y hy1 hy2]; exact b.ok.fh y u q
        wr := {
          dr := WW.stab _ _ c2.F c2.F _ _ b.ok.wr.dr (Sub.refl _) fun y hy => same y (.inl hy)
          nd := by
            show (lAll (c2.k.2 ++ [kk])).Nodup
            rw [lall]
            exact List.nodup_append.mpr ⟨b.ok.wr.nd, kknd, fun y hy z hz e => nofp z hz (.inr (e ▸ hy))⟩
          dis := fun y hy z => by
            rcases lmem y hy with h | h
            · exact b.ok.wr.dis y h z
            · exact nofp y h (.inl z)
          len := by
            show (c2.k.2 ++ [kk]).length = (c2.w.2 ++ [(⟨xss, []⟩ : LS)]).length
            rw [List.length_append, List.length_append, b.ok.wr.len]; rfl
          at_ := fun i k' l' h1 h2 => by
            have h1 : (c2.k.2 ++ [kk])[i]? = some k' := h1
            have h2 : (c2.w.2 ++ [(⟨xss, []⟩ : LS)])[i]? = some l' := h2
            by_cases hi : i < c2.k.2.length
            · rw [List.getElem?_append_left hi] at h1
              rw [List.getElem?_append_left (by rw [← b.ok.wr.len]; exact hi)] at h2
              exact (b.ok.wr.at_ i k' l' h1 h2).mono (Sub.refl _) fun y hy => same y (.inr (mem_lAll h1 hy))
            · rw [List.getElem?_append_right (Nat.le_of_not_lt hi)] at h1
              rw [List.getElem?_append_right (by rw [← b.ok.wr.len]; exact Nat.le_of_not_lt hi), ← b.ok.wr.len] at h2
              have hi0 : i - c2.k.2.length = 0 := by
                have := (List.getElem?_eq_some_iff.mp h1).1
                simpa using this
              rw [hi0] at h1 h2
              cases h1
              cases h2
              refine ⟨e1, ?_, ?_, hr.1, fun j y xs g1 g2 => ?_, [], e2, .nil⟩
              · show H' dx = _
                rw [e3 _ hne hpdx.symm]; exact odx
              · have ha := hA a List.mem_cons_self
                show H' a = _
                rw [e3 a ha.2.2.2.1 (hpA a List.mem_cons_self)]; exact oa
              · obtain ⟨vs, g3, g4⟩ := hr.2 j y xs g1 g2
                have hm : y ∈ a :: as := List.mem_cons_of_mem _ (List.mem_of_getElem? g1)
                refine ⟨vs, ?_, g4⟩
                show H' y = _
                rw [e3 y (hA y hm).2.2.2.1 (hpA y hm)]; exact g3 }
        wf := fun y hy => by
          show c2.F y = none ∧ H' y ≠ none
          have old : (WL C).fp c2.k y → c2.F y = none ∧ H' y ≠ none := fun h => ⟨(b.ok.wf y h).1, by rw [same y h]; exact (b.ok.wf y h).2⟩
          rcases hy with h | h
          · exact old (.inl h)
          · rcases lmem y h with h | h
            · exact old (.inr h)
            · exact ⟨all_F y h, all_H y h⟩ }
      ff := b.ff
      hh := fun y u n q => by
        show H' y = some u
        have hy1 : y ≠ x := fun z => by rw [z, hx] at q; cases q
        have hy2 : y ≠ p := fun z => by rw [z, cp] at q; cases q
        rw [e3 y hy1 hy2]; exact b.hh y u n q
      fn := b.fn
      kh := fun n y h => by
        have h := b.kh n y h
        have h : (if n < 2 then wHd c2.k.1 n else lHd c2.k.2 (n - 2)) = some y := h
        show (if n < 2 then wHd c2.k.1 n else lHd (c2.k.2 ++ [kk]) (n - 2)) = some y
        by_cases hn2 : n < 2
        · rw [if_pos hn2] at h ⊢; exact h
        · rw [if_neg hn2] at h ⊢
          unfold lHd at h ⊢
          obtain ⟨k0, g1, g2⟩ := Option.map_eq_some_iff.mp h
          rw [List.getElem?_append_left (List.getElem?_eq_some_iff.mp g1).1, g1]
          exact congrArg some g2
      kf := fun y h => by
        rcases h with h | h
        · exact b.kf y (.inl h)
        · rcases lmem y h with h | h
          · exact b.kf y (.inr h)
          · exact .inr (all_none y h)
      kg := fun y h => by
        rcases b.kg y h with h | h
        · exact .inl h
        · refine .inr ?_
          show y ∈ lAll (c2.k.2 ++ [kk])
          rw [lall]; exact List.mem_append_left _ h }
  · show (if 2 * c2.w.2.length + 2 < 2 then wHd c2.k.1 (2 * c2.w.2.length + 2) else lHd (c2.k.2 ++ [kk]) (2 * c2.w.2.length + 2 - 2)) = some x
    rw [if_neg (by omega), Nat.add_sub_cancel]
    unfold lHd
    rw [show 2 * c2.w.2.length / 2 = c2.w.2.length by omega, ← b.ok.wr.len, List.getElem?_concat_length, Option.map_some, if_pos (by omega)]
end
section
variable {C : Addr} {X : Cx} {cls : Nat → Addr} {e : Cur (WL C)} {Wx : WX} {o a b ex : Expr} {es : List Expr} {pos : Pos} {k n : Nat}
theorem put_two (u v : V) : putF ("past" : Str) v [(("rows" : Str), u)] = [(("rows" : Str), u), (("past" : Str), v)] := by
  unfold putF
  rw [if_neg (by decide)]
  rfl
/-- self.rows = .., self.past = [], behind a first expression: what is left of it all -/
theorem init_sp {x qual : Str} {P : Program} {w : World} {K : PySem.W.Frag} {mg : Str → Option Value} {base : Heap} {st : Stmt} {fa : Addr} {fd : FuncData} {N ps : List Str} {f : XF LW} {g : XS LW}
    (F : Fun K x qual st fa fd) (S : FnScope N ps (defScope st)) (hps : ps.length = 2) (hN : N.length = n + 2) (T : LedC K C)
    (hb : ∀ (cdv : Value) (A : Around) (outer : List Env) (s : Shared) (H : Hp) (E : XK) (e : Cur (WL C)), Ok e → Room k (A.deeper (envOfC qual (defScope st) s.heap.objs.size fa cdv)) →
      PSs (cxOf (L2.CX P w) P w K mg base N qual (defScope st) fa cdv A outer s H E) (defBody st) (tSeq (tDrop (tS cls K e (WxE E) f)) (tSeq (sFld K (tVar 0) (tSX cls K e (WxE E) g) "rows") (sFld K (tVar 0) (tLst tNil) "past")))) :
    FnOk P w K mg base (L2.CX P w) (k + 1) fa fd ps (spI C cls K (fInit n f g)) := by
  refine F.okX S (fun vs H Q E ⟨c, x, dx, d, v, hv, _⟩ => by rw [hv, hps]; rfl) (fun cdv A outer s H vs Q E hr ⟨c, x, dx, d, v, hv, hx, hdx, hne, hH, kc, hd, q⟩ => ?_)
  subst hv
  -- the new thing is laid
  have b1 := Bs.lay kc (.own x) hdx
  have hx1 : (c.lay dx (.own x)).H x = none := by
    show upd c.H dx (.own x) x = none
    rw [upd_ne hne.symm]; exact hx
  have b2 := Bs.lay b1.ok (.ins C dx []) hx1
  generalize he0 : (c.lay dx (.own x)).lay x (.ins C dx []) = e0 at b2
  have bb : Bs c e0 := b1.trans kc b2
  have eH0 : e0.H = H := by rw [← he0, hH]; rfl
  have ek : e0.k = c.k := by rw [← he0]; rfl
  have eF : e0.F = c.F := by rw [← he0]; rfl
  have ew : e0.w = c.w := by rw [← he0]; rfl
  refine ⟨_, hb cdv A outer s H E e0 bb.ok hr, ?_⟩
  have hst : Rz cls K e0 e0 ([Sl.v .opq, Sl.v d] ++ List.replicate n .no) (L2.start N [.ref x, v]) := by
    have h2 := rz_start (cls := cls) (K := K) (N := N) (ds := [.opq, d]) (vs := [.ref x, v]) bb.ok ⟨_, _, rfl, trivial, _, _, rfl, hd.mono bb, rfl⟩
    rw [hN] at h2
    exact h2
  have hs0 : ∀ {Q : VK} {H1 : Hp}, Q (.ref x) H1 → tVar 0 (L2.start N [.ref x, v]) H1 Q := fun {Q H1} h => ⟨.ref x, by
    unfold L2.start
    rfl, h⟩
  have ox0 : e0.H x = some (.ins C dx []) := by rw [eH0, hH, upd_same]
  have odx0 : e0.H dx = some (.own x) := by rw [eH0, hH, upd_ne hne, upd_same]
  have nfx : ¬ (WL C).fp e0.k x := fun z => by rw [ek] at z; exact (kc.wf x z).2 hx
  have nfdx : ¬ (WL C).fp e0.k dx := fun z => by rw [ek] at z; exact (kc.wf dx z).2 hdx
  show tDrop (tS cls K e0 (WxE E) f) _ _ H
  refine ⟨e0, _, eH0, hst, ?_⟩
  unfold fInit at q
  dsimp only at q
  rw [ew]
  cases z : f ([Sl.v .opq, Sl.v d] ++ List.replicate n .no) c.w with
  | bad => rw [z] at q; exact q.elim
  | exc m w1 => rw [z] at q; exact fun c' hw b => q c' hw (bb.trans kc b)
  | ok y w1 =>
    rw [z] at q
    dsimp only at q
    intro u c1 hw1 b3 _
    refine ⟨c1, _, rfl, hst.step bb.ok b3, ?_⟩
    rw [hw1]
    have bc1 := bb.trans kc b3
    cases z2 : g ([Sl.v .opq, Sl.v d] ++ List.replicate n .no) w1 with
    | bad => rw [z2] at q; exact q.elim
    | exc m w2 => rw [z2] at q; exact fun c' hw b => q c' hw (bc1.trans kc b)
    | ok sl w2 =>
      rw [z2] at q
      cases sl with
      | own2 xss =>
        dsimp only at q
        intro u c2 A hw2 b4 hsl hnd hA
        obtain ⟨ad, as, h1, h2, h3, h4⟩ := hsl
        cases h2
        subst h1
        have b34 := b3.trans bb.ok b4
        have bc2 := bb.trans kc b34
        have ox2 := b34.hh x _ nfx ox0
        have odx2 := b34.hh dx _ nfdx odx0
        have fx : ¬ (WL C).fp c2.k x := fun zz => by
          rcases b34.kf x zz with z | z
          · exact nfx z
          · rw [ox0] at z; cases z
        have fdx : ¬ (WL C).fp c2.k dx := fun zz => by
          rcases b34.kf dx zz with z | z
          · exact nfdx z
          · rw [odx0] at z; cases z
        have gF : ∀ y, e0.F y = none → e0.H y ≠ none → c2.F y = none := fun y g1 g2 => by
          rcases none_or (c2.F y) with q | ⟨u, q⟩
          · exact q
          · rcases b34.fn y (by rw [q]; exact fun z => by cases z) with z | z
            · exact absurd g1 z
            · exact absurd z g2
        have gx := gF x (by rw [eF]; exact kc.fnone hx) (by rw [ox0]; exact fun z => by cases z)
        have gdx := gF dx (by rw [eF]; exact kc.fnone hdx) (by rw [odx0]; exact fun z => by cases z)
        refine hs0 ⟨x, C, dx, [], rfl, ox2, T.cl, T.nr, by decide, ?_⟩
        show sFld K (tVar 0) (tLst tNil) "past" _ _ _
        refine ⟨by simp, fun p hp => ?_⟩
        have hpx : p ≠ x := fun z => by
          subst z
          rw [upd_same] at hp
          cases hp
        refine hs0 ⟨x, C, dx, [("rows", .ref ad)], rfl, ?_, T.cl, T.np, (by show (1 : Nat) < 1000; omega), ?_⟩
        · rw [upd_ne hpx.symm, upd_same]; rfl
        · have hp2 : c2.H p = none := by
            rw [upd_ne hpx] at hp
            exact hp
          have hA2 : ∀ y ∈ ad :: as, c2.F y = none ∧ ¬ (WL C).fp c2.k y ∧ c.H y = none ∧ y ≠ x ∧ y ≠ dx ∧ c2.H y ≠ none := fun y hy => by
            obtain ⟨⟨f1, f2, f3⟩, f4⟩ := hA y hy
            have f5 : e0.H y = none := none_back b3.ok b3 f3
            refine ⟨f1, f2, none_back bb.ok bb f5, fun z => ?_, fun z => ?_, f4⟩
            · rw [z, ox0] at f5; cases f5
            · rw [z, odx0] at f5; cases f5
          obtain ⟨c', g1, g2, g3, g4⟩ := led_new kc bc2 hx hdx hne fx fdx gx gdx ox2 odx2 h3 h4 hnd hA2 hp2
          have h9 := q c' (by rw [g2, hw2]) g3 ⟨x, rfl, by rw [← hw2]; exact g4⟩
          rw [g1] at h9
          rw [put_two]
          exact h9
      | _ => exact q.elim
/-! ## a ledger is made -/
theorem run_makeS {K0 : XK} {f : Addr} {fd : FuncData} {ps : List Str} {sp : Sp} {pins : List (Addr × Obj)} {σ : L2.St} {H : Hp} {s : Shared} {Q : VK} {us : List Value} {vs : List V} (M : Mk X.K C f) (F : FnOk X.prog X.w X.K X.mg X.base (L2.CX X.prog X.w) k f fd ps sp) (hr : Room (k + 1) X.A) (hb : Binds X.K fd ps [])
    (hx : PassesAt (L2.CX X.prog X.w) X σ K0) (I : L2.Inv X pins σ H s) (r : Vals vs us)
    (h : ∀ x dx, H x = none → H dx = none → dx ≠ x → sp (.ref x :: vs) (upd (upd H dx (.own x)) x (.ins C dx [])) (fun v H2 => v = .non ∧ Q (.ref x) H2) K0) :
    wpAny (model X.prog X.w) X.A (call (.ref C) us) (EP X pins σ Q) X.xe s := by
  have nx := s.heap.objs.size
  have hq := h (s.heap.objs.size + 1) s.heap.objs.size (I.hok.fresh (Nat.le_succ _)) (I.hok.fresh (Nat.le_refl _)) (Nat.ne_of_lt (Nat.lt_succ_self _))
  have J := L2.Inv.made (C := C) I
  have rr : Vals (V.ref (s.heap.objs.size + 1) :: vs) (Value.ref (s.heap.objs.size + 1) :: us) := .cons rfl r
  have len : (Value.ref (s.heap.objs.size + 1) :: us).length = ps.length := by rw [← rr.length]; exact F.len _ _ _ _ hq
  have bd := hb _ (Value.ref (s.heap.objs.size + 1) :: us) J.kIn (by rw [List.append_nil]; exact len)
  rw [List.append_nil] at bd
  have run := F.run _ X.stack _ _ ⟨Value.ref (s.heap.objs.size + 1) :: us, []⟩ (Value.ref (s.heap.objs.size + 1) :: us) _ _ K0 (hr.make C us []) (J.env0.make C us []) bd rr hq
  refine wpAny_call (make_map (f := f) I.kIn M.makes M.init (beq_iff_eq.mp M.fn) (codeAny_mono run fun t s' back => ?_))
  match t, back with
  | .error z, back => exact hx pins _ _ z s' J back
  | .ok (.ret u), back =>
    obtain ⟨v, H', J', rv, ev, fin⟩ := J.after back
    subst ev
    exact ⟨rv, ⟨V.ref (s.heap.objs.size + 1), H', J', rfl, fin⟩⟩
/-- Ledger(e) -/
def KpI (P : Program) (w : World) (K : PySem.W.Frag) (mg : Str → Option Value) (base : Heap) (C : Addr) (cls : Nat → Addr) (x : Str) (k : Nat) (fi : D → LW → Res LW D) : Prop :=
  ∃ f fd ps, mg x = some (.ref C) ∧ Mk K C f ∧ Binds K fd ps [] ∧ FnOk P w K mg base (L2.CX P w) k f fd ps (spI C cls K fi)
def xMake (fi : D → LW → Res LW D) (f : XF LW) : XF LW := fun δ w => (f δ w).bind fi
theorem s_make {fi : D → LW → Res LW D} {f : XF LW} {x : Str} {p : Pos} (ke : Ok e) (F : KpI X.prog X.w X.K X.mg X.base C cls x k fi) (hr : Room (k + 1) X.A) (tk : Takes X Wx) (ha : PE X a (tS cls X.K e Wx f)) (hg : Gl X x := by rfl) (hdb : (x == ("__debug__" : Str)) = false := by decide)
    (he : starEach (a :: []) X.env = (false, eval a X.env) :: starEach [] X.env := by rfl) (hpl : (backTo pos (starEach [] X.env)).any (·.1) = false := by rfl) : PE X (.Call (.Name x p) [a] [] pos) (tS cls X.K e Wx (xMake fi f)) := ⟨fun pins s σ H Q I ⟨c, δ, eH, r, q⟩ => by
  subst eH
  obtain ⟨g, fd, ps, hm, hM, hb, hF⟩ := F
  unfold xMake at q
  refine wpAny_Call_Name_kw (ld_glob I hg hm ?_ hdb)
  refine PySem.W.callWith_K (h₀ := X.base) I.ok.mod.kin hM.kp (thn ((pa_cons ha pa_nil he).run pos pins s σ c.H (fun vs H1 => ∃ v, vs = [v] ∧ ∃ (y : D) (c1 : Cur (WL C)), c1.H = H1 ∧ Bs c c1 ∧ Rz cls X.K e c1 δ σ ∧ Dv cls X.K c1 y v ∧ after cls X.K c1 σ Wx (fi y c1.w) Q) I ?_) fun us s1 ⟨vs, H1, I1, rv, v, hv, y, c1, e1, b1, r1, qy, q1⟩ => ⟨I1.kIn, ?_⟩) he hpl
  · show tS cls X.K e Wx f σ c.H _
    refine tS_imp (after_one (K := X.K) ke r q) fun v H1 ⟨y, c1, e1, b1, r1, qy, q1⟩ => ?_
    exact ⟨v, rfl, y, c1, e1, b1, r1, qy, q1⟩
  · subst e1 hv
    refine run_makeS hM hF hr hb (passAt tk σ) I1 rv fun x dx hx hdx hne => ⟨c1, x, dx, y, v, rfl, hx, hdx, hne, rfl, r1.ok, qy, ?_⟩
    cases z2 : fi y c1.w with
    | bad => rw [z2] at q1; exact q1
    | exc m w2 => rw [z2] at q1; exact q1
    | ok dd w2 => rw [z2] at q1; exact fun c' hw' b' q' => ⟨rfl, q1 _ c' hw' b' q'⟩⟩
end
end Z

set_option Elab.async false
set_option linter.all false
set_option maxRecDepth 100000
/-! # Z32: a ledger's length; the law's end with ledgers -/
namespace PySem.W
open PySem PySem.Calls PyProof.Rows Builtin
def LenEnd (Q : Value → Shared → Prop) (v : Value) (s' : Shared) : Prop := ∃ (n : Int) (t : Tok), v = .int n t ∧ 0 ≤ n ∧ n < 2 ^ 63 ∧ Q (.int n s'.toks) { s' with toks := s'.toks + 1 }
theorem len_self {prog : Program} {w : World} {A : Around} {E : Value → Shared → Prop} {s : Shared} {K : Frag} {x C f : Addr} {ox : Obj} {od : Option Obj} {Q : Value → Shared → Prop} (X : K.In s.heap) (I : InstAt s.heap x ox C od)
    (hs : findIn K (.ref C) "__len__" = some (some (.ref f))) (hf : isFn K (.ref f) = true) (h : wpAny (model prog w) A.in1 (call (.ref f) [.ref x]) (LenEnd Q) E s) : wpAny (model prog w) A (call (.builtin "len") [.ref x]) Q E s :=
  Calls.call_function_entry kind_len plain_len entry_len (args_len1 _) <| by
    unfold Builtin.«len»
    refine wpAny_bind (m := oneArg "len" _) (wpAny_pure (wpAny_bind (m := callSpecial? (.ref x) (Str.ofString "__len__")) (special_fn X I hs (beq_iff_eq.mp hf) (wpAny_mono h ?_ fun _ _ y => y))))
    rintro r s' ⟨n, t, rfl, h0, h1, hq⟩
    refine wpAny_bind (wpAny_holding (wpAny_pure (wpAny_bind (wpAny_letGo ?_))))
    show wpAny _ _ (if n < 0 then _ else _) _ _ _
    rw [if_neg (Int.not_lt.mpr h0)]
    show wpAny _ _ (if n ≥ 2 ^ 63 then _ else _) _ _ _
    rw [if_neg (Int.not_le.mpr h1)]
    exact wpAny_bind (wpAny_mkInt (wpAny_pure ⟨_, rfl, hq⟩))
end PySem.W
namespace Z
open PySem PySem.Spec PyProof.Rows L2
section
variable {C : Addr} {X : Cx} {cls : Nat → Addr} {e : Cur (WL C)} {Wx : WX} {o a b ex : Expr} {es : List Expr} {pos : Pos} {k n : Nat}
theorem call_lenLed {f : Addr} {fd : FuncData} {ps : List Str} {sp : Sp} (hm : Meth X.K C "__len__" f) (hb : Binds X.K fd ps []) (hF : FnOk X.prog X.w X.K X.mg X.base (L2.CX X.prog X.w) k f fd ps sp) (hr : Room (k + 1) X.A) :
    CallR X (.builtin "len") (fun xs H Q => ∃ (p dx : Addr) (fs : List (Str × V)), xs = [.ref p] ∧ H p = some (.ins C dx fs) ∧ sp [.ref p] H (fun v H2 => ∃ m : Int, v = .int m ∧ 0 ≤ m ∧ m < 2 ^ 63 ∧ Q (.int m) H2) E0) := by
  rintro pins s σ H xs us Q I rs ⟨p, dx, fs, rfl, hp, h⟩
  obtain ⟨u, rfl, ru⟩ := vals1 rs
  cases (ru : u = Value.ref p)
  obtain ⟨mA, O, _⟩ := ins_get I.hok hp
  obtain ⟨od, J, _⟩ := O.look
  refine PySem.W.len_self I.kIn J hm.at_ hm.fn ?_
  have rr : Vals [V.ref p] [Value.ref p] := .cons rfl .nil
  have len : [Value.ref p].length = ps.length := by rw [← rr.length]; exact hF.len _ _ _ _ h
  have bd := hb s [Value.ref p] I.kIn (by rw [List.append_nil]; exact len)
  rw [List.append_nil] at bd
  have run := hF.run X.A.in1 X.stack s H ⟨[Value.ref p], []⟩ [Value.ref p] [V.ref p] _ E0 hr.in1 I.env0.in1 bd rr h
  refine wpAny_call (codeAny_mono run fun t s' back => ?_)
  match t, back with
  | .error z, back => exact (passL pins σ H s z s' I back : X.xe z s')
  | .ok (.ret u), back =>
    obtain ⟨v, H', J', rv, m, ev, h0, h1, fin⟩ := I.after back
    subst ev
    obtain ⟨t, rfl⟩ := (show ∃ t, u = Value.int m t from rv)
    exact ⟨m, t, rfl, h0, h1, ⟨.int m, H', J'.tok _, ⟨_, rfl⟩, fin⟩⟩
def xLenL (fz : FZ LW) (f : XF LW) : XF LW := fun δ w => (f δ w).bind fun d w1 => if isLed d w1 = true then match fz [d] w1 with
    | .ok (.p (.int m)) w2 => if 0 ≤ m ∧ m < 2 ^ 63 then .ok (.p (.int m)) w2 else .bad
    | _ => .bad
  else .bad
theorem s_lenL {p : Pos} {fz : FZ LW} {f : XF LW} (ke : Ok e) (F : KpM X.prog X.w X.K X.mg X.base C cls "__len__" k 1 fz) (hr : Room (k + 1) X.A) (hm : X.mg "len" = none) (ho : PE X o (tS cls X.K e Wx f)) (hg : Gl X "len" := by rfl)
    (he : starEach (o :: []) X.env = (false, eval o X.env) :: starEach [] X.env := by rfl) (hpl : (backTo pos (starEach [] X.env)).any (·.1) = false := by rfl) : PE X (.Call (.Name "len" p) [o] [] pos) (tS cls X.K e Wx (xLenL fz f)) := by
  obtain ⟨g, fd, ps, hM, hb, hF⟩ := F
  refine pe_imp (pe_callB (call_lenLed hM hb hF hr) hg hm PySem.boot_len (pa_cons ho pa_nil he) (by decide) (by decide) he hpl) fun σ H Q ⟨c, δ, eH, r, q⟩ => ?_
  subst eH
  unfold xLenL at q
  show tS cls X.K e Wx f σ c.H _
  refine tS_imp (after_one (K := X.K) ke r q) fun v H1 ⟨y, c1, e1, b1, r1, qy, q1⟩ => ?_
  subst e1
  by_cases hy : isLed y c1.w = true
  · rw [if_pos hy] at q1
    obtain ⟨kk, hx, hins⟩ := led_of r1.ok hy qy
    subst hx
    refine ⟨kk.p, kk.dx, lFs kk, rfl, hins, c1, [y], rfl, r1.ok, ⟨_, [], rfl, qy, rfl⟩, rfl, ?_⟩
    split at q1
    · rename_i m w2 hz
      rw [hz]
      by_cases h01 : 0 ≤ m ∧ m < 2 ^ 63
      · rw [if_pos h01] at q1
        intro u c' hw b q'
        cases dv_int.mp q'
        exact ⟨m, rfl, h01.1, h01.2, q1 _ c' hw b (dv_int.mpr rfl)⟩
      · rw [if_neg h01] at q1; exact q1.elim
    · exact q1.elim
  · rw [if_neg hy] at q1; exact q1.elim
end
/-- the law's end, with ledgers -/
theorem walk_ZL {l : PySem.W.OpenLaw} {k : Nat} {q : Program} {loose : List Str} {XP : (Str → Option Value) → Heap → Prop} {YP : World → Heap → Prop} {d : DefRec} {fz : FZ LW}
    (hn : l.most = some 63) (hdf : d.params.defaults = []) (hr : Room k callerA)
    (F : ∀ (w : World) (mg : Str → Option Value) (fa : Addr) (h : Heap), YP w h → h.Ns mainGlobals mg → mg d.name = some (.ref fa) → ∃ (K : PySem.W.Frag) (C : Addr) (cls : Nat → Addr) (fd : FuncData), K.In h ∧ (∀ (s : Shared) (u : Value), BindsTo s fd ⟨[u], []⟩ [("_law_script", u)]) ∧
      ∀ base : Heap, K.In base → base.Ns mainGlobals mg → FnOk l.prog w K mg base (L2.CX l.prog w) k fa fd ["_law_script"] (spZ cls K (WL C) 1 fz))
    (hm : ∀ ns : List Int, ns.length ≤ 63 → ∃ w', fz [.scr ns] (none, []) = .ok (.p (.bool true)) w') :
    PySem.W.WalkO q loose XP YP l.row.toRowW d [] (fun f vs => PySem.call f vs) :=
  Att.attach_call hn hdf fun w s₀ s₁ mg mb fa o pm cd doc a vs ns G Y ho hd hcd hmg hobj hints hlen hg => by
    obtain ⟨K, C, cls, fd, KX, hb, hF⟩ := F w mg fa _ Y G.T.g hmg
    refine law_call KX G.T.g G.T.b G.T.builtins G.T.nolimit hg hobj hints (Nat.le_trans hlen (by decide)) hr hF hb (fun H hO hS => ?_) fun H e s' => ?_
    · obtain ⟨w', e⟩ := hm ns hlen
      let c : Cur (WL C) := ⟨(none, []), H, (none, []), H⟩
      have kc : Ok c := ⟨Sub.refl _, ⟨trivial, List.nodup_nil, (fun _ h => nomatch h), rfl, (fun i kk l h => nomatch h)⟩, fun _ h => by
        rcases h with h | h
        · exact h.elim
        · cases h⟩
      refine ⟨c, [.scr ns], rfl, kc, ⟨_, [], rfl, ⟨a, rfl, hS⟩, rfl⟩, rfl, ?_⟩
      show afterF cls K c (fz [.scr ns] (none, [])) _ _
      rw [e]
      exact fun u c' _ _ q => dv_bl.mp q
    · rintro ⟨_, _, _, _, _, _, _, _, _, _, _, _, z⟩
      exact z
theorem dfM_of {K : PySem.W.Frag} {cl m qual : Str} {st : Stmt} (hm : (He.Fa.meth cl m).ok K = true)
    (hd : ∃ oc od osl kV doc pm an cdv ct, K.lookup (He.fAd K (cl, some m)) = some ⟨oc, od, .func (PySem.W.fnOf m qual (defArgs st) (defBody st) (defScope st) .none kV doc pm an cdv ct), osl⟩ ∧ PySem.W.codeIn K cdv qual = true) : DfM K (He.ga K cl) m qual st := by
  obtain ⟨_, _, _, _, _, _, _, _, _, l1, l2⟩ := hd
  exact ⟨_, _, He.meth_ok hm, fun_mk l1 l2 (He.meth_ok hm).kp⟩
end Z

set_option Elab.async false
set_option linter.all false
set_option maxRecDepth 100000
/-! # Z33: a def without arguments, called -/
namespace Z
open PySem PySem.Spec PyProof.Rows L2
theorem s_callK0 {X : Cx} {W : Type} {wd : WD W} {cls : Nat → Addr} {e : Cur wd} {Wx : WX} {pos p : Pos} {k : Nat} {fz : FZ W} {x : Str} (ke : Ok e) (F : Kp X.prog X.w X.K X.mg X.base cls wd x k 0 fz) (hr : Room k X.A) (tk : Takes X Wx) (hg : Gl X x := by rfl)
    (hdb : (x == ("__debug__" : Str)) = false := by decide) : PE X (.Call (.Name x p) [] [] pos) (tS cls X.K e Wx (xCall fz lNil)) := ⟨fun pins s σ H Q I h => by
  obtain ⟨f, fd, ps, h1, h2, h3, h4⟩ := F
  have q := callS_imp (n := 0) ke ln_nil h
  refine wpAny_Call_Name_kw (ld_glob I hg h1 ?_ hdb)
  refine PySem.W.callWith_K0 I.kIn h2 ?_
  obtain ⟨c, δ, eH, r, q2⟩ := q
  subst eH
  exact run_fnS (us := []) (vs := []) h4 hr h3 (passAt tk σ) I .nil (q2 [] c rfl (Bs.refl r.ok) rfl)⟩
end Z

set_option Elab.async false
set_option linter.all false
set_option maxRecDepth 100000
/-! # Z34: a tuple sorted -/
namespace PySem.W
open PySem PySem.Calls PyProof.Rows Builtin
section
variable {prog : Program} {w : World} {A : Around} {E : Value → Shared → Prop} {s : Shared} {l : Addr} {vs : List Value}
theorem gather_tup {Q : List Value → Shared → Prop} (hl : IsTup s.heap l vs.toArray) (hL : vs.length ≤ sizeLine)
    (h : Q vs { s with heap := (s.heap.push (seqObj "list" #[] 0)).update s.heap.objs.size (Obj.mapSeq (· ++ vs.toArray)) }) : wpAny (model prog w) A (collect (.ref l)) Q E s := by
  obtain ⟨o, ho, hc, n, hd⟩ := id hl; unfold collect; refine wpAny_bind (wpAny_runValue (codeAny_builtin entry_proto_collect' ?_))
  show wpAny _ _ (newList [] >>= fun v => again (.builtin "list.__iadd__" ⟨[v, .ref l], []⟩)) _ _ s
  refine wpAny_bind (wpAny_newList (wpAny_pure ⟨Code.quiet_builtin _ (by decide +kernel), codeAny_builtin entry_list_iadd' ?step⟩))
  case step =>
    have hold : (s.heap.push (seqObj "list" #[] 0)).get? l = some o := Heap.get?_push_of_some _ ho
    have hnew : (s.heap.push (seqObj "list" #[] 0)).get? s.heap.objs.size = some (seqObj "list" #[] 0) := Heap.get?_push_size _ rfl
    have hb : (Value.type "tuple" == Value.type "tuple") = true := by rfl
    show wpAny _ _ (Builtin.List.listExtendWith (.ref s.heap.objs.size) (.ref l) (.ref s.heap.objs.size)) _ _ ({ s with heap := s.heap.push (seqObj "list" #[] 0) } : Shared)
    unfold Builtin.List.listExtendWith; refine wpAny_bind (wpAny_typeOf (T := "tuple") ⟨o, hold, hc⟩ ?_); rw [if_pos (by rw [hb]; simp)]
    refine wpAny_bind (listItems_at hold hd (wpAny_bind (listItems_at hnew rfl ?_))); rw [if_neg (by simp)]
    refine wpAny_bind (listUpdate_at hnew rfl (wpAny_pure ?_) (Nat.zero_le _) (by show (#[] ++ vs.toArray).size ≤ sizeLine + 1; simp only [Array.size_append, List.size_toArray, List.length_nil]; omega))
    show wpAny (model prog w) A (load s.heap.objs.size >>= fun o => match o.data with
      | .seq xs _ => pure xs.toList
      | _ => unsupported "internal:collect") Q E ({ s with heap := (s.heap.push (seqObj "list" #[] 0)).update s.heap.objs.size (Obj.mapSeq (· ++ vs.toArray)) } : Shared)
    refine wpAny_bind (wpAny_load (get?_update_seq hnew _) ?_); have e0 : ((#[] : Array Value) ++ vs.toArray).toList = vs := by simp
    show wpAny _ _ (pure ((#[] : Array Value) ++ vs.toArray).toList) Q E ({ s with heap := (s.heap.push (seqObj "list" #[] 0)).update s.heap.objs.size (Obj.mapSeq (· ++ vs.toArray)) } : Shared)
    rw [e0]; exact wpAny_pure h
theorem sorted_tupOf {Q : Value → Shared → Prop} (hl : IsTup s.heap l vs.toArray) (hL : vs.length ≤ sizeLine)
    (body : ∀ E' : Value → Shared → Prop, wpAny (model prog w) A.in1.in1 (Builtin.«list.sort» ⟨[.ref (s.heap.objs.size + 1)], []⟩) (fun f s' => f = .done (.ret .none) ∧ Q (.ref (s.heap.objs.size + 1)) s') E' { s with heap := copyHeap s.heap vs }) :
    wpAny (model prog w) A (call (.builtin "sorted") [.ref l]) Q E s :=
  call_function_entry_kw kind_sorted plain_sorted entry_sorted (args_sorted1 _) <| by
    have hsz : ((s.heap.push (seqObj "list" #[] 0)).update s.heap.objs.size (Obj.mapSeq (· ++ vs.toArray))).objs.size = s.heap.objs.size + 1 := by rw [Heap.size_update, size_push']
    unfold Builtin.«sorted»; refine wpAny_bind (m := checkCount "sorted" 1 1 _) (wpAny_pure (wpAny_bind (gather_tup hl hL (wpAny_bind (wpAny_newList ?_ hL)))))
    show wpAny _ _ _ _ _ ({ s with heap := copyHeap s.heap vs } : Shared)
    rw [hsz]; refine wpAny_bind (wpAny_holding (wpAny_call_entry_kw slot_list_sort ⟨_, copyHeap_at s.heap vs, rfl⟩ entry_list_sort (wpAny_mono (body _) ?_ fun _ _ e => e) (args_list_sort _)))
    rintro f s' ⟨rfl, hq⟩
    exact ⟨_, rfl, wpAny_pure ⟨_, rfl, hq⟩⟩
variable {β : Type} {bs : List β} {enc : β → PyData} {R : Value → β → Prop}
theorem sorted_tupData {Q : Value → Shared → Prop} (hl : IsTup s.heap l vs.toArray) (e : EachIs R vs bs) (er : EachIs (fun v b => ∃ as, Reads s.heap v (enc b) as) vs bs) (hal : AllAlike (bs.map enc)) (hk : Sortable (bs.map enc)) (hL : bs.length ≤ sizeLine)
    (hu : ∀ b, b ∈ bs → A.units + 2 + (enc b).depth < cLine) (h : ∀ out, out.length = bs.length → EachIs R out (bs.mergeSort (dataLe false enc)) → Q (.ref (s.heap.objs.size + 1)) { s with heap := sortedAll s.heap vs (List.toArray out) }) :
    wpAny (model prog w) A (call (.builtin "sorted") [.ref l]) Q E s := by
  have hv : vs.length ≤ sizeLine := by rw [e.length]; exact hL
  have later : EachIs (fun v b => ∃ as, Reads (sortingHeap (copyHeap s.heap vs) (s.heap.objs.size + 1) vs) v (enc b) as) vs bs := er.mono fun _ _ ⟨as, r⟩ => ⟨as, PyProof.Rows.Reads.keeps (fun _ _ => sorting_copy_old) r⟩
  have S := SortsAt.data (prog := prog) (w := w) (A := A.in1.in1) (s := { s with heap := sortingHeap (copyHeap s.heap vs) (s.heap.objs.size + 1) vs }) (each_map (R := fun v d => ∃ as, Reads (sortingHeap (copyHeap s.heap vs) (s.heap.objs.size + 1) vs) v d as) enc later) hal hk (bound_map hu)
  exact sorted_tupOf hl hv fun _ => list_sort_vals (s := { s with heap := copyHeap s.heap vs }) (copyHeap_at s.heap vs) S hv ⟨rfl, h _ (by rw [sortVals_length false rfl]; exact e.length) (sortVals_data false e later hal)⟩
end
end PySem.W
namespace Z
open PySem PySem.Spec PyProof.Rows L2
/-- sorted(t), t a tuple -/
def gSortedT : List D → Option D
  | [.p (.tuple xs)] => if sortOk xs = true then some (.p (.list (sortP xs))) else none
  | _ => none
section
variable {X : Cx} {W : Type} {wd : WD W} {cls : Nat → Addr}
theorem cg_sortedT (hu : X.A.units + 64 < cLine) (hc : X.calm = true) : CallG X cls wd (.builtin "sorted") gSortedT := by
  intro pins s σ H vs us Q I r ⟨c, ds, eH, k, qs, q⟩
  unfold gSortedT at q
  split at q
  · rename_i xs
    obtain ⟨u, rfl, q1⟩ := qs.one
    obtain ⟨p, ws, rfl, h1, r1⟩ := dv_tup.mp q1
    by_cases z : sortOk xs = true
    · rw [if_pos z] at q
      simp only [sortOk, Bool.and_eq_true, decide_eq_true_eq] at z
      obtain ⟨⟨⟨z1, z2⟩, z3⟩, z4⟩ := z
      rw [Vals.ref1 r]
      have hq : SqT X.K H p ws := by rw [← eH]; exact SqT.of (k.fh _ _ h1)
      obtain ⟨its, rv, hl, hz⟩ := I.tuple hq
      obtain ⟨e1, e2⟩ := each_of (K := X.K) I (by rw [← eH]; exact k.fh) r1 rv
      have hal : PySem.W.AllAlike (xs.map id) := by
        rw [List.map_id]
        simp only [allAlike, List.all_eq_true] at z1
        exact fun d hd d' hd' => z1 d hd d' hd'
      have hk : PySem.W.Sortable (xs.map id) := by
        rw [List.map_id]
        simp only [Bool.or_eq_true, List.all_eq_true] at z2
        rcases z2 with z2 | z2
        · refine .inl fun d hd => ?_
          have := z2 d hd
          unfold isTup1 at this
          split at this
          · exact ⟨_, _, rfl⟩
          · cases this
        · refine .inr fun d hd => ?_
          have := z2 d hd
          unfold isOther at this
          split at this
          · cases this
          · cases this
          · rename_i h1 h2
            exact ⟨h1, h2⟩
      refine PySem.W.sorted_tupData hl e1 e2 hal hk (by rw [← lim_eq]; exact z3) (fun b hb => ?_) fun out hlen eo => ?_
      · simp only [List.all_eq_true, decide_eq_true_eq] at z4
        have := z4 b hb
        show X.A.units + 2 + b.depth < cLine
        omega
      · rw [le0_eq, sortP_merge z1] at eo
        obtain ⟨vs', g1, g2⟩ := each_back eo
        obtain ⟨ep, he'⟩ := PyProof.Rows.sortedAll_at s.heap its (List.toArray out)
        have hlv : vs'.length ≤ sizeLine := by rw [g2.len, (sortP_perm xs).length_eq, ← lim_eq]; exact z3
        refine ⟨.ref _, upd H (s.heap.objs.size + 1) (.lst vs'), I.laid (t' := s.toks) (fun _ _ => PyProof.Rows.sortedAll_old) (Nat.le_succ _) ⟨hlv, out, ep, g1, he'⟩, rfl, ?_⟩
        have hf : c.H (s.heap.objs.size + 1) = none := by rw [eH]; exact I.hok.fresh (Nat.le_succ _)
        rw [← eH]
        exact gives_lst q k g2 _ hf
    · rw [if_neg z] at q; exact gives_no q
  · exact gives_no q
end
end Z

set_option Elab.async false
set_option linter.all false
set_option maxRecDepth 100000
/-! # Z35: the sum of a tuple -/
namespace Z
open PySem PySem.Spec PyProof.Rows L2
theorem preSum_getD (ns : List Int) : ∀ n, n ≤ ns.length → PySem.preSum (fun i => ns.getD i 0) n = (ns.take n).sum
  | 0, _ => by simp [PySem.preSum]
  | n + 1, h => by
    rw [PySem.preSum, preSum_getD ns n (by omega), List.take_add_one, List.sum_append]
    simp [List.getD_eq_getElem?_getD, List.getElem?_eq_getElem (show n < ns.length by omega)]
section
variable {X : Cx} {W : Type} {wd : WD W} {cls : Nat → Addr}
theorem cr_sumT (hc : X.calm = true) : CallR X (.builtin "sum") (fun vs H Q => ∃ (p : Addr) (ns : List Int), vs = [V.ref p] ∧ SqT X.K H p (ns.map V.int) ∧ Q (.int ns.sum) H) := by
  rintro pins s σ H vs us Q I r ⟨p, ns, rfl, hs, q⟩
  obtain ⟨its, rv, hl, _⟩ := I.tuple hs
  rw [Vals.ref1 r]
  have hlen : its.length = ns.length := by rw [← rv.length]; simp
  have ht : s.heap.IsTuple p its.toArray := hl
  have hlt : p < s.heap.objs.size := by obtain ⟨_, e, _⟩ := ht; exact Heap.lt_size e
  refine PySem.call_sum_walkAnyS (wpAny_pyIter_tuple ht ?_)
  refine ⟨s.heap.objs.size, _, _, _, _, _, _, fun i => ns.getD i 0, rfl, (Walks.tuple (A := X.A.in1) (I.ok.hd hc) s.heap.objs.size p (Nat.ne_of_lt hlt) its.toArray).toS, ⟨⟨_, Heap.get?_push_size _ rfl, rfl, rfl⟩, ht.push _⟩, fun b hb => ?_, fun i v hv => ?_, fun s' t' hm => ?_⟩
  · have e1 : (s.heap.push ⟨.type "tuple_iterator", none, .fields #[.ref p, .int 0 0], #[]⟩).objs.size = s.heap.objs.size + 1 := Heap.size_push _ _
    show b < Array.size (Heap.objs (s.heap.push _))
    rw [Heap.size_push]
    rcases List.mem_cons.mp hb with rfl | hb
    · exact Nat.lt_succ_self _
    · rw [List.mem_singleton.mp hb]; exact Nat.lt_succ_of_lt hlt
  · have hi : i < its.length := by
      have := (Array.getElem?_eq_some_iff.mp hv).1
      simpa using this
    have hv' : its[i]? = some v := by rw [← hv]; simp
    have hn : (ns.map V.int)[i]? = some (V.int ns[i]) := by
      rw [List.getElem?_map, List.getElem?_eq_getElem (show i < ns.length by omega)]; rfl
    obtain ⟨u, hu, ru⟩ := rv.get hn
    rw [hv'] at hu
    cases hu
    obtain ⟨t, rfl⟩ := ru
    exact ⟨t, by simp [List.getD_eq_getElem?_getD, List.getElem?_eq_getElem (show i < ns.length by omega)]⟩
  · rw [List.size_toArray, hlen, preSum_getD ns ns.length (Nat.le_refl _), List.take_length]
    rw [Moved.eq_with hm]
    refine ⟨.int _, H, I.kept fun b o e => hm.heap b o (fun hmem => ?_) (Heap.get?_push_of_some _ e), ⟨_, rfl⟩, q⟩
    exact Nat.ne_of_lt (Heap.lt_size e) (List.mem_singleton.mp hmem)
/-- sum(xs), a list or a tuple of ints -/
def gSumT : List D → Option D
  | [.p (.tuple xs)] => (ints? xs).map fun ns => .p (.int ns.sum)
  | _ => none
theorem cg_sumT (hc : X.calm = true) : CallG X cls wd (.builtin "sum") gSumT := callR_imp (cr_sumT hc) fun vs H Q ⟨c, ds, eH, k, qs, q⟩ => by
  unfold gSumT at q
  split at q
  · rename_i xs
    obtain ⟨u, rfl, q1⟩ := qs.one
    cases z : ints? xs with
    | none => rw [z] at q; exact gives_no q
    | some ns =>
      rw [z] at q
      obtain ⟨p, vs, rfl, h1, r1⟩ := dv_tup.mp q1
      rw [ints?_eq z] at r1
      rw [r1.ints] at h1
      exact ⟨p, ns, rfl, by rw [← eH]; exact SqT.of (k.fh _ _ h1), by rw [← eH]; exact gives_v q k (dv_int.mpr rfl)⟩
  · exact gives_no q
end
end Z

set_option Elab.async false
set_option linter.all false
/-! # Z36: ends of laws with ledgers -/
namespace Z
open PySem
theorem liftL_ok {fz : FZ Wd} {ds : List D} {w : LW} {d : D} {w1 : Wd} (e : fz ds w.1 = .ok d w1) (h : ds.all noLed = true) (hd : noLed d = true) : liftL fz ds w = .ok d (w1, w.2) := by
  unfold liftL
  rw [if_pos h, e]
  dsimp only
  rw [if_pos hd]
def isTrue {W : Type} (r : SRes W) : Bool := match r with
  | .rt (.p (.bool true)) _ => true
  | _ => false
theorem of_isTrue {W : Type} {r : SRes W} (h : isTrue r = true) : ∃ w', r = .rt (.p (.bool true)) w' := by
  unfold isTrue at h
  split at h
  · exact ⟨_, rfl⟩
  · cases h
theorem runZ_rt {W : Type} {n : Nat} {sf : SF W} {ds : List D} {w : W} {d : D} {w' : W} (h : sf (ds.map Sl.v ++ List.replicate (n - ds.length) .no) w = .rt d w') : runZ n sf ds w = .ok d w' := by
  unfold runZ
  rw [h]
end Z

set_option Elab.async false
set_option linter.all false
set_option maxRecDepth 100000
set_option maxHeartbeats 1000000
/-! # Z37: zip of a tuple and a list -/
namespace ZM
open PySem RZ
open PySem.Sem (wp)
section
variable {prog : Program} {w : World} {A : Around} {E : Value → Shared → Prop} {s : Shared}
theorem zipM_next_item {z tA tB j1 j2 u1 u2 : Addr} {m1 m2 : Nat} {xs ys : Array Value} {x y a b : Value} {Q : Value → Shared → Prop} (D : ZipApart z tA tB j1 j2 u1 u2)
    (zz : IsZip s.heap z tA tB .none) (gA : IsPair s.heap tA (.ref j1) (.ref j2)) (gB : IsPair s.heap tB a b)
    (h1 : s.heap.IsTupleIter j1 u1 m1) (h2 : s.heap.IsListIter j2 u2 m2) (hl1 : s.heap.IsTuple u1 xs) (hl2 : s.heap.IsList u2 ys) (ex : xs[m1]? = some x) (ey : ys[m2]? = some y)
    (fin : ∀ h', IsZip h' z tA tB (rawInt s.heap.objs.size) → IsPair h' tB x y → h'.IsTupleIter j1 u1 (m1 + 1) → h'.IsListIter j2 u2 (m2 + 1) → IsPair h' s.heap.objs.size x y → h'.objs.size = s.heap.objs.size + 1 →
      (∀ c o, c ≠ z → c ≠ tB → c ≠ j1 → c ≠ j2 → s.heap.get? c = some o → h'.get? c = some o) → Q (.ref s.heap.objs.size) { s with heap := h' }) :
    wpAny (model prog w) A (Builtin.«zip.__next__» ⟨[.ref z], []⟩) (fun fin s' => ∃ v, fin = .done (.ret v) ∧ Q v s') E s := by
  show wpAny _ _ (field (.ref z) 2 >>= _) _ _ _
  refine wpAny_bind (wpAny_field zz rfl (x := .bool false) rfl ?_)
  show wpAny _ _ (field (.ref z) 3 >>= _) _ _ _
  refine wpAny_bind (wpAny_field zz rfl (x := .ref tA) rfl ?_)
  refine wpAny_bind (wpAny_seqItems gA rfl ?_)
  show wpAny _ _ (Builtin.SmallTypes.ownedTupleIsFree (.ref z) >>= _) _ _ _
  refine wpAny_bind ?_
  unfold Builtin.SmallTypes.ownedTupleIsFree
  refine wpAny_bind (wpAny_field zz rfl (x := .none) rfl (wpAny_pure ?_))
  simp only [if_true]
  refine wpAny_bind (wpAny_rule ?_)
  refine wpAny_bind (wpAny_field zz rfl (x := .ref tB) rfl ?_)
  refine wpAny_bind (wpAny_setField_rec zz (by simp) fun g1 zz₁ ks1 => ?_)
  replace zz₁ : IsZip g1 z tA tB .ellipsis := zz₁
  refine wpAny_bind ?_
  simp only [List.zipIdx_cons, List.zipIdx_nil, List.forIn_cons, List.forIn_nil]

  refine wpAny_bind (wpAny_bind (wpAny_onRaise ?_))
  show wpAny _ _ (Builtin.SmallTypes.nextOf (.ref j1) >>= _) _ _ _
  refine wpAny_bind (RZ.nextOf_tuple_item (h1.extBut ks1.extBut D.i1z) (hl1.extBut ks1.extBut D.l1z) ex fun g2 h1₂ ks2 => wpAny_pure ?_)
  have gB₂ : IsPair g2 tB a b := ks2.extBut _ _ D.TOi1 (ks1.extBut _ _ D.TOz gB)
  refine wpAny_bind (wpAny_seqItems gB₂ rfl ?_)
  refine wpAny_bind (wpAny_updateSeq_pair gB₂ fun g3 gB₃ ks3 => ?_)
  replace gB₃ : IsPair g3 tB x b := gB₃
  refine wpAny_bind (wpAny_letGo (wpAny_pure ?_))

  refine wpAny_bind (wpAny_bind (wpAny_onRaise ?_))
  show wpAny _ _ (Builtin.SmallTypes.nextOf (.ref j2) >>= _) _ _ _
  refine wpAny_bind (wpAny_nextOf_list_item (((h2.extBut ks1.extBut D.i2z).extBut ks2.extBut D.i12.symm).extBut ks3.extBut D.TOi2.symm)
    (((hl2.extBut ks1.extBut D.l2z).extBut ks2.extBut D.l2i1).extBut ks3.extBut D.l2TO) ey fun g4 h2₄ ks4 => wpAny_pure ?_)
  have gB₄ : IsPair g4 tB x b := ks4.extBut _ _ D.TOi2 gB₃
  refine wpAny_bind (wpAny_seqItems gB₄ rfl ?_)
  refine wpAny_bind (wpAny_updateSeq_pair gB₄ fun g5 gB₅ ks5 => ?_)
  replace gB₅ : IsPair g5 tB x y := gB₅
  refine wpAny_bind (wpAny_letGo (wpAny_pure (wpAny_pure ?_)))

  refine wpAny_bind (wpAny_seqItems gB₅ rfl ?_)
  refine wpAny_bind (wpAny_newTuple ?_)
  have hsz : g5.objs.size = s.heap.objs.size := by rw [ks5.1, ks4.1, ks3.1, ks2.1, ks1.1]
  have zz₅ : IsZip g5 z tA tB .ellipsis := ks5.extBut _ _ D.TOz.symm (ks4.extBut _ _ D.i2z.symm (ks3.extBut _ _ D.TOz.symm (ks2.extBut _ _ D.i1z.symm zz₁)))
  have hk₅ : ∀ c o, c ≠ z → c ≠ tB → c ≠ j1 → c ≠ j2 → s.heap.get? c = some o → g5.get? c = some o := fun c o c1 c2 c3 c4 e =>
    ks5.extBut _ _ c2 (ks4.extBut _ _ c4 (ks3.extBut _ _ c2 (ks2.extBut _ _ c3 (ks1.extBut _ _ c1 e))))
  have h1₅ : g5.IsTupleIter j1 u1 (m1 + 1) := ((h1₂.extBut ks3.extBut D.TOi1.symm).extBut ks4.extBut D.i12).extBut ks5.extBut D.TOi1.symm
  have h2₅ : g5.IsListIter j2 u2 (m2 + 1) := h2₄.extBut ks5.extBut D.TOi2.symm
  have hzlt : z < g5.objs.size := Heap.lt_size zz₅
  have hTOlt : tB < g5.objs.size := Heap.lt_size gB₅
  have hi1lt : j1 < g5.objs.size := by obtain ⟨_, e, _⟩ := h1₅; exact Heap.lt_size e
  have hi2lt : j2 < g5.objs.size := by obtain ⟨_, e, _⟩ := h2₅; exact Heap.lt_size e
  show wpAny _ _ (Builtin.SmallTypes.ownedTupleHandOut (.ref z) (.ref g5.objs.size) >>= _) _ _ _
  refine wpAny_bind ?_
  unfold Builtin.SmallTypes.ownedTupleHandOut
  have zz₆ : IsZip (g5.push { cls := .type "tuple", data := .seq #[x, y] }) z tA tB .ellipsis := Heap.get?_push_of_some _ zz₅
  refine wpAny_bind (wpAny_setField_rec zz₆ (by simp) fun g7 zz₇ ks7 => ?_)
  replace zz₇ : IsZip g7 z tA tB (rawInt g5.objs.size) := zz₇
  refine wpAny_setField_rec zz₇ (by simp) fun g8 zz₈ ks8 => ?_
  replace zz₈ : IsZip g8 z tA tB (rawInt g5.objs.size) := zz₈
  have up : ∀ c o, c ≠ z → g5.get? c = some o → g8.get? c = some o := fun c o c1 e => ks8.extBut _ _ c1 (ks7.extBut _ _ c1 (Heap.get?_push_of_some _ e))
  have hT₈ : IsPair g8 g5.objs.size x y := ks8.extBut _ _ (Nat.ne_of_gt hzlt) (ks7.extBut _ _ (Nat.ne_of_gt hzlt) (Heap.get?_push_size _ rfl))
  have hz8 : g8.objs.size = g5.objs.size + 1 := by rw [ks8.1, ks7.1, Heap.size_push]
  rw [hsz] at zz₈ hT₈ hz8
  refine wpAny_pure ⟨_, rfl, ?_⟩
  show Q (.ref g5.objs.size) _
  rw [hsz]
  exact fin g8 zz₈ (up _ _ D.TOz gB₅) (h1₅.at fun o e => up _ o D.i1z e) (h2₅.at fun o e => up _ o D.i2z e) hT₈ hz8 fun c o c1 c2 c3 c4 e => up c o c1 (hk₅ c o c1 c2 c3 c4 e)

theorem zipM_next_end {z tA tB j1 j2 u1 u2 : Addr} {m1 m2 : Nat} {xs ys : Array Value} {a b : Value} {Q : Fin → Shared → Prop} (hh : A.handled = none) (D : ZipApart z tA tB j1 j2 u1 u2)
    (zz : IsZip s.heap z tA tB .none) (gA : IsPair s.heap tA (.ref j1) (.ref j2)) (gB : IsPair s.heap tB a b)
    (h1 : s.heap.IsTupleIter j1 u1 m1) (h2 : s.heap.IsListIter j2 u2 m2) (hl1 : s.heap.IsTuple u1 xs) (hl2 : s.heap.IsList u2 ys) (hend : xs[m1]? = none ∨ ys[m2]? = none)
    (hE : ∀ h' e, (∀ c o, c ≠ z → c ≠ tB → c ≠ j1 → c ≠ j2 → s.heap.get? c = some o → h'.get? c = some o) → (∃ o, h'.get? e = some o ∧ o.cls = .type "StopIteration") → E (.ref e) { s with heap := h' }) :
    wpAny (model prog w) A (Builtin.«zip.__next__» ⟨[.ref z], []⟩) Q E s := by
  show wpAny _ _ (field (.ref z) 2 >>= _) _ _ _
  refine wpAny_bind (wpAny_field zz rfl (x := .bool false) rfl ?_)
  show wpAny _ _ (field (.ref z) 3 >>= _) _ _ _
  refine wpAny_bind (wpAny_field zz rfl (x := .ref tA) rfl ?_)
  refine wpAny_bind (wpAny_seqItems gA rfl ?_)
  show wpAny _ _ (Builtin.SmallTypes.ownedTupleIsFree (.ref z) >>= _) _ _ _
  refine wpAny_bind ?_
  unfold Builtin.SmallTypes.ownedTupleIsFree
  refine wpAny_bind (wpAny_field zz rfl (x := .none) rfl (wpAny_pure ?_))
  simp only [if_true]
  refine wpAny_bind (wpAny_rule ?_)
  refine wpAny_bind (wpAny_field zz rfl (x := .ref tB) rfl ?_)
  refine wpAny_bind (wpAny_setField_rec zz (by simp) fun g1 zz₁ ks1 => ?_)
  replace zz₁ : IsZip g1 z tA tB .ellipsis := zz₁
  refine wpAny_bind ?_
  simp only [List.zipIdx_cons, List.zipIdx_nil, List.forIn_cons, List.forIn_nil]
  refine wpAny_bind (wpAny_bind (wpAny_onRaise ?_))
  show wpAny _ _ (Builtin.SmallTypes.nextOf (.ref j1) >>= _) _ _ _
  cases ex : xs[m1]? with
  | none =>
    refine wpAny_bind (RZ.nextOf_tuple_end hh (h1.extBut ks1.extBut D.i1z) (hl1.extBut ks1.extBut D.l1z) ex fun g2 e ks2 he => ?_)
    obtain ⟨oe, hoe, hce⟩ := he
    have zz₂ : IsZip g2 z tA tB .ellipsis := ks2 _ _ D.i1z.symm zz₁
    have hez : e ≠ z := fun x => by subst x; rw [zz₂] at hoe; cases hoe; simp at hce
    refine wpAny_setField_rec zz₂ (by simp) fun g3 _ ks3 => hE g3 e (fun c o c1 _ c3 _ x => ks3.extBut _ _ c1 (ks2 _ _ c3 (ks1.extBut _ _ c1 x))) ⟨oe, ks3.extBut _ _ hez hoe, hce⟩
  | some x =>
    have ey : ys[m2]? = none := by rcases hend with h | h; rw [ex] at h; cases h; exact h
    refine wpAny_bind (RZ.nextOf_tuple_item (h1.extBut ks1.extBut D.i1z) (hl1.extBut ks1.extBut D.l1z) ex fun g2 h1₂ ks2 => wpAny_pure ?_)
    have gB₂ : IsPair g2 tB a b := ks2.extBut _ _ D.TOi1 (ks1.extBut _ _ D.TOz gB)
    refine wpAny_bind (wpAny_seqItems gB₂ rfl ?_)
    refine wpAny_bind (wpAny_updateSeq_pair gB₂ fun g3 gB₃ ks3 => ?_)
    refine wpAny_bind (wpAny_letGo (wpAny_pure ?_))
    refine wpAny_bind (wpAny_bind (wpAny_onRaise ?_))
    show wpAny _ _ (Builtin.SmallTypes.nextOf (.ref j2) >>= _) _ _ _
    refine wpAny_bind (wpAny_nextOf_list_end hh (((h2.extBut ks1.extBut D.i2z).extBut ks2.extBut D.i12.symm).extBut ks3.extBut D.TOi2.symm)
      (((hl2.extBut ks1.extBut D.l2z).extBut ks2.extBut D.l2i1).extBut ks3.extBut D.l2TO) ey fun g4 e ks4 he => ?_)
    obtain ⟨oe, hoe, hce⟩ := he
    have zz₄ : IsZip g4 z tA tB .ellipsis := ks4 _ _ D.i2z.symm (ks3.extBut _ _ D.TOz.symm (ks2.extBut _ _ D.i1z.symm zz₁))
    have hez : e ≠ z := fun x => by subst x; rw [zz₄] at hoe; cases hoe; simp at hce
    refine wpAny_setField_rec zz₄ (by simp) fun g5 _ ks5 => hE g5 e (fun c o c1 c2 c3 c4 x => ks5.extBut _ _ c1 (ks4 _ _ c4 (ks3.extBut _ _ c2 (ks2.extBut _ _ c3 (ks1.extBut _ _ c1 x))))) ⟨oe, ks5.extBut _ _ hez hoe, hce⟩

theorem pyNext_zipM_item {z tA tB j1 j2 u1 u2 : Addr} {m1 m2 : Nat} {xs ys : Array Value} {x y a b : Value} {Q : Option Value → Shared → Prop} (D : ZipApart z tA tB j1 j2 u1 u2)
    (zz : IsZip s.heap z tA tB .none) (gA : IsPair s.heap tA (.ref j1) (.ref j2)) (gB : IsPair s.heap tB a b)
    (h1 : s.heap.IsTupleIter j1 u1 m1) (h2 : s.heap.IsListIter j2 u2 m2) (hl1 : s.heap.IsTuple u1 xs) (hl2 : s.heap.IsList u2 ys) (ex : xs[m1]? = some x) (ey : ys[m2]? = some y)
    (fin : ∀ h', IsZip h' z tA tB (rawInt s.heap.objs.size) → IsPair h' tB x y → h'.IsTupleIter j1 u1 (m1 + 1) → h'.IsListIter j2 u2 (m2 + 1) → IsPair h' s.heap.objs.size x y → h'.objs.size = s.heap.objs.size + 1 →
      (∀ c o, c ≠ z → c ≠ tB → c ≠ j1 → c ≠ j2 → s.heap.get? c = some o → h'.get? c = some o) → Q (some (.ref s.heap.objs.size)) { s with heap := h' }) :
    wpAny (model prog w) A (pyNext (.ref z)) Q E s := by
  have hT : s.TypeIs (.ref z) "zip" := ⟨_, zz, rfl⟩
  unfold pyNext
  exact wpAny_bind (wpAny_attempt (wpAny_callSpecial?_slot (name := Str.ofString "__next__") hT F.slot_zip_next
    (wpAny_call_entry F.slot_zip_next hT F.entry_zip_next
      (zipM_next_item D zz gA gB h1 h2 hl1 hl2 ex ey fun h' a1 a2 a3 a4 a5 a6 a7 => wpAny_pure (fin h' a1 a2 a3 a4 a5 a6 a7)) (F.args_zip_next_1 _))))

theorem pyNext_zipM_end {z tA tB j1 j2 u1 u2 : Addr} {m1 m2 : Nat} {xs ys : Array Value} {a b : Value} {Q : Option Value → Shared → Prop} (hh : A.handled = none) (D : ZipApart z tA tB j1 j2 u1 u2)
    (zz : IsZip s.heap z tA tB .none) (gA : IsPair s.heap tA (.ref j1) (.ref j2)) (gB : IsPair s.heap tB a b)
    (h1 : s.heap.IsTupleIter j1 u1 m1) (h2 : s.heap.IsListIter j2 u2 m2) (hl1 : s.heap.IsTuple u1 xs) (hl2 : s.heap.IsList u2 ys) (hend : xs[m1]? = none ∨ ys[m2]? = none)
    (fin : ∀ h', (∀ c o, c ≠ z → c ≠ tB → c ≠ j1 → c ≠ j2 → s.heap.get? c = some o → h'.get? c = some o) → Q none { s with heap := h' }) : wpAny (model prog w) A (pyNext (.ref z)) Q E s := by
  have hT : s.TypeIs (.ref z) "zip" := ⟨_, zz, rfl⟩
  unfold pyNext
  refine wpAny_bind (wpAny_attempt (wpAny_callSpecial?_slot (name := Str.ofString "__next__") hT F.slot_zip_next
    (wpAny_call_entry F.slot_zip_next hT F.entry_zip_next (zipM_next_end hh D zz gA gB h1 h2 hl1 hl2 hend fun h' e hk he => ?_) (F.args_zip_next_1 _))))
  obtain ⟨o, ho, hc⟩ := he
  refine wpAny_bind (wpAny_isInstance (T := "StopIteration") (b := true) ⟨o, ho, hc⟩ isSubtype_stop ?_)
  exact wpAny_pure (fin _ hk)
end

abbrev zmH1 (h : Heap) (u1 : Addr) : Heap := h.push { cls := .type "tuple_iterator", data := .fields #[.ref u1, .int 0 0] }
abbrev zmH2 (h : Heap) (u1 u2 : Addr) : Heap := (zmH1 h u1).push { cls := .type "list_iterator", data := .fields #[.ref u2, .int 0 0] }
abbrev zmH3 (h : Heap) (u1 u2 : Addr) : Heap := (zmH2 h u1 u2).push { cls := .type "tuple", data := .seq #[.ref h.objs.size, .ref (zmH1 h u1).objs.size] }
abbrev zmH4 (h : Heap) (u1 u2 : Addr) : Heap := (zmH3 h u1 u2).push { cls := .type "tuple", data := .seq #[.none, .none] }
abbrev zmH5 (h : Heap) (u1 u2 : Addr) : Heap := (zmH4 h u1 u2).push { cls := .type "zip", data := .fields #[.none, .bool false, .bool false, .ref (zmH2 h u1 u2).objs.size, .ref (zmH3 h u1 u2).objs.size] }

theorem meets_zipM_new (u1 u2 : Addr) (xs ys : Array Value) :
    Meets (Builtin.«zip.__new__» ⟨[.type "zip", .ref u1, .ref u2], []⟩) (fun _ R s => s.heap.IsTuple u1 xs ∧ s.heap.IsList u2 ys ∧
      R (.ok (.ret (.ref (zmH4 s.heap u1 u2).objs.size))) { s with heap := zmH5 s.heap u1 u2 }) :=
  .of_wp fun prog w A R s h => by
    obtain ⟨hp, g, d, tk, os⟩ := s; obtain ⟨hl1, hl2, h⟩ := h
    have hsub := sub_zip
    have hL1 : Heap.IsTuple (Shared.heap ⟨hp, g, d, tk, os⟩) u1 xs := hl1
    have hL2 : Heap.IsList (Shared.heap ⟨hp.push { cls := .type "tuple_iterator", data := .fields #[.ref u1, .int 0 0] }, g, d, tk, os⟩) u2 ys := Heap.IsList.push hl2 _
    wp_walk using wpAny_pyIter_tuple hL1, wpAny_pyIter_list hL2
    exact ⟨_, rfl, h⟩

section
variable {prog : Program} {w : World} {A : Around} {E : Value → Shared → Prop} {s : Shared}

theorem call_zipM {u1 u2 : Addr} {xs ys : Array Value} {Q : Value → Shared → Prop} (hl1 : s.heap.IsTuple u1 xs) (hl2 : s.heap.IsList u2 ys)
    (h : ∀ h', IsZip h' (s.heap.objs.size + 4) (s.heap.objs.size + 2) (s.heap.objs.size + 3) .none → IsPair h' (s.heap.objs.size + 2) (.ref s.heap.objs.size) (.ref (s.heap.objs.size + 1)) →
      IsPair h' (s.heap.objs.size + 3) .none .none → h'.IsTupleIter s.heap.objs.size u1 0 → h'.IsListIter (s.heap.objs.size + 1) u2 0 → h'.objs.size = s.heap.objs.size + 5 →
      (∀ c o, s.heap.get? c = some o → h'.get? c = some o) → Q (.ref (s.heap.objs.size + 4)) { s with heap := h' }) :
    wpAny (model prog w) A (call (.type "zip") [.ref u1, .ref u2]) Q E s := by
  refine callType_new F.called_zip (by decide) (F.typeCall_zip_2 _ _) (F.newCall_zip_2 _ _) (fun obj => F.args_object_init_3 obj _ _) F.entry_zip_new
    (meets_zipM_new u1 u2 xs ys) ⟨hl1, hl2, ?_⟩
  have z1 : (zmH1 s.heap u1).objs.size = s.heap.objs.size + 1 := Heap.size_push ..
  have z2 : (zmH2 s.heap u1 u2).objs.size = s.heap.objs.size + 2 := by rw [Heap.size_push, z1]
  have z3 : (zmH3 s.heap u1 u2).objs.size = s.heap.objs.size + 3 := by rw [Heap.size_push, z2]
  have z4 : (zmH4 s.heap u1 u2).objs.size = s.heap.objs.size + 4 := by rw [Heap.size_push, z3]
  have z5 : (zmH5 s.heap u1 u2).objs.size = s.heap.objs.size + 5 := by rw [Heap.size_push, z4]
  have g5 : (zmH5 s.heap u1 u2).get? (zmH4 s.heap u1 u2).objs.size = some _ := Heap.get?_push_size _ rfl
  have g4 : (zmH5 s.heap u1 u2).get? (zmH3 s.heap u1 u2).objs.size = some _ := Heap.get?_push_of_some _ (Heap.get?_push_size _ rfl)
  have g3 : (zmH5 s.heap u1 u2).get? (zmH2 s.heap u1 u2).objs.size = some _ := Heap.get?_push_of_some _ (Heap.get?_push_of_some _ (Heap.get?_push_size _ rfl))
  have g2 : (zmH5 s.heap u1 u2).get? (zmH1 s.heap u1).objs.size = some _ := Heap.get?_push_of_some _ (Heap.get?_push_of_some _ (Heap.get?_push_of_some _ (Heap.get?_push_size _ rfl)))
  have g1 : (zmH5 s.heap u1 u2).get? s.heap.objs.size = some _ := Heap.get?_push_of_some _ (Heap.get?_push_of_some _ (Heap.get?_push_of_some _ (Heap.get?_push_of_some _ (Heap.get?_push_size _ rfl))))
  show _ ∧ _
  rw [z2, z3, z4] at g5
  rw [z1, z2] at g3
  rw [z3] at g4
  rw [z1] at g2
  rw [z4]
  exact ⟨⟨_, g5, rfl⟩, h _ g5 g3 g4 ⟨_, g1, rfl, rfl⟩ ⟨_, g2, rfl, rfl⟩ z5 fun c o x =>
    Heap.get?_push_of_some _ (Heap.get?_push_of_some _ (Heap.get?_push_of_some _ (Heap.get?_push_of_some _ (Heap.get?_push_of_some _ x))))⟩
end
open PySem.Spec PyProof.Rows L2
/-- the tuples at a and b as they stand at each turn, the items in new pairs -/
def ItzM (K : PySem.W.Frag) (a b : Addr) : It :=
  ⟨fun i H => ∃ (xs ys : List V) (x y : V), SqT K H a xs ∧ SqL K H b ys ∧ xs[i]? = some x ∧ ys[i]? = some y,
    fun i H v H' => ∃ T x y, v = .ref T ∧ H T = none ∧ H' = upd H T (.tup [x, y]) ∧ (∀ xs, SqT K H a xs → xs[i]? = some x) ∧ ∀ ys, SqL K H b ys → ys[i]? = some y,
    fun i H => ∃ xs ys : List V, SqT K H a xs ∧ SqL K H b ys ∧ (xs.length ≤ i ∨ ys.length ≤ i)⟩
theorem turn_zipM {P : Program} {w : World} {K : PySem.W.Frag} {elts : List Expr} {kk : Nat} {tpos : Pos} {a b z tA tB j1 j2 : Addr} (D : ZipApart z tA tB j1 j2 a b) :
    Turn P w K (.Tuple elts kk tpos) (ItzM K a b) [z, tA, tB, j1, j2] z (fun i h => IsZip h z tA tB .none ∧ IsPair h tA (.ref j1) (.ref j2) ∧ (∃ x y, IsPair h tB x y) ∧ h.IsTupleIter j1 a i ∧ h.IsListIter j2 b i) where
  mem := by simp
  obj := fun i h st c hc => by
    obtain ⟨zz, gA, ⟨x, y, gB⟩, ⟨o1, e1, _, d1⟩, ⟨o2, e2, _, d2⟩⟩ := st
    have e' : c = z ∨ c = tA ∨ c = tB ∨ c = j1 ∨ c = j2 := by simpa using hc
    rcases e' with q | q | q | q | q
    · rw [q]; exact ⟨_, zz, fun v q => nomatch q⟩
    · rw [q]; exact ⟨_, gA, fun v q => nomatch q⟩
    · rw [q]; exact ⟨_, gB, fun v q => nomatch q⟩
    · rw [q]; exact ⟨o1, e1, fun v q => by rw [d1] at q; cases q⟩
    · rw [q]; exact ⟨o2, e2, fun v q => by rw [d2] at q; cases q⟩
  keep := fun i h h' st k => by
    obtain ⟨zz, gA, ⟨x, y, gB⟩, h1, h2⟩ := st
    exact ⟨k z (by simp) _ zz, k tA (by simp) _ gA, ⟨x, y, k tB (by simp) _ gB⟩, h1.at fun o q => k j1 (by simp) o q, h2.at fun o q => k j2 (by simp) o q⟩
  item := by
    intro X hP hw hK hc i pins s σ H E I hf st hg
    subst hP hw hK
    obtain ⟨zz, gA, ⟨x0, y0, gB⟩, h1, h2⟩ := st
    obtain ⟨xs, ys, x, y, hqx, hqy, ex, ey⟩ := hg
    obtain ⟨its, rv, p, _⟩ := I.tuple hqx
    obtain ⟨its2, rv2, p2', _⟩ := I.list hqy
    have p2 := p2'.isList
    obtain ⟨u, hu, ru⟩ := rv.get ex
    obtain ⟨u2, hu2, ru2⟩ := rv2.get ey
    have hzl : z < s.heap.objs.size := Heap.lt_size zz
    refine pyNext_zipM_item D zz gA gB h1 h2 p p2 (x := u) (y := u2) (by simpa using hu) (by simpa using hu2) fun h' z' tB' h1' h2' hT hsz hk => ?_
    refine ⟨_, rfl, wpAny_letOwnedTupleGo_zip (s := { s with heap := h' }) z' fun h'' z'' sb => ?_⟩
    have hT2 : h''.get? s.heap.objs.size = some { cls := .type "tuple", data := .seq #[u, u2] } := (sb.2 _ (Nat.ne_of_gt hzl)).trans hT
    have new : ObjOk X.prog X.w (upd H s.heap.objs.size (.tup [x, y])) h'' s.heap.objs.size (.tup [x, y]) :=
      ⟨by show 2 ≤ sizeLine; decide, [u, u2], .cons ru (.cons ru2 .nil), ⟨_, hT2, rfl, _, rfl⟩⟩
    have I1 : Inv X pins σ (upd H s.heap.objs.size (.tup [x, y])) { s with heap := h'' } :=
      I.turnedNew (t' := s.toks) (ch := [z, tA, tB, j1, j2]) (fun c o hb q => (sb.2 c (fun q' => hb (by simp [q']))).trans (hk c o (fun q' => hb (by simp [q'])) (fun q' => hb (by simp [q'])) (fun q' => hb (by simp [q'])) (fun q' => hb (by simp [q'])) q)) hf (Nat.le_refl _) new
    refine ⟨.ref s.heap.objs.size, _, I1, rfl, ⟨_, x, y, rfl, I.hok.fresh (Nat.le_refl _), rfl, fun l hl => by rw [I.tuple_inj hl hqx]; exact ex, fun l hl => by rw [I.list_inj hl hqy]; exact ey⟩, ⟨z'', ?_, ⟨u, u2, ?_⟩, ?_, ?_⟩, fun c hcm => ?_⟩
    · exact (sb.2 _ D.TIz).trans (hk _ _ D.TIz D.TITO D.TIi1 D.TIi2 gA)
    · exact (sb.2 _ D.TOz).trans tB'
    · exact h1'.at fun o q => (sb.2 _ D.i1z).trans q
    · exact h2'.at fun o q => (sb.2 _ D.i2z).trans q
    · have hlt : c < s.heap.objs.size := by
        have e' : c = z ∨ c = tA ∨ c = tB ∨ c = j1 ∨ c = j2 := by simpa using hcm
        rcases e' with q | q | q | q | q
        · rw [q]; exact hzl
        · rw [q]; exact Heap.lt_size gA
        · rw [q]; exact Heap.lt_size gB
        · rw [q]; obtain ⟨_, e1, _⟩ := h1; exact Heap.lt_size e1
        · rw [q]; obtain ⟨_, e2, _⟩ := h2; exact Heap.lt_size e2
      rw [upd_ne (Nat.ne_of_lt hlt)]
      exact (hf c hcm).1
  done := by
    intro X hP hw hK hc i pins s σ H E I hf st hg
    subst hP hw hK
    obtain ⟨zz, gA, ⟨x0, y0, gB⟩, h1, h2⟩ := st
    obtain ⟨xs, ys, hqx, hqy, hend⟩ := hg
    obtain ⟨its, rv, p, _⟩ := I.tuple hqx
    obtain ⟨its2, rv2, p2', _⟩ := I.list hqy
    have p2 := p2'.isList
    have u1 := rv.length
    have u2 := rv2.length
    have he : its.toArray[i]? = none ∨ its2.toArray[i]? = none := by
      rcases hend with q | q
      · exact .inl (by simp; omega)
      · exact .inr (by simp; omega)
    exact pyNext_zipM_end (I.ok.hd hc) D zz gA gB h1 h2 p p2 he fun h' hk => ⟨rfl, I.turnedL (t' := s.toks) (ch := [z, tA, tB, j1, j2]) (fun c o hb q =>
      hk c o (fun q' => hb (by simp [q'])) (fun q' => hb (by simp [q'])) (fun q' => hb (by simp [q'])) (fun q' => hb (by simp [q'])) q) hf⟩
  self := fun A i s Q E st h => wpAny_pyIter_zip st.1 h

def iZipM (K : PySem.W.Frag) (ta : TA) : TI := fun σ H R => ta σ H fun vs H1 => ∃ a b xs ys, vs = [.ref a, .ref b] ∧ SqT K H1 a xs ∧ SqL K H1 b ys ∧ R (ItzM K a b) H1
theorem pi_zipM {X : Cx} {e e2 : Expr} {ta : TA} {p pos tpos : Pos} {elts : List Expr} {kk : Nat} (hg : Gl X "zip") (hm : X.mg "zip" = none) (ha : PA X [e, e2] ta)
    (hs : starEach [e, e2] X.env = (false, eval e X.env) :: starEach [e2] X.env := by rfl) (hpl : (backTo pos (starEach [e2] X.env)).any (·.1) = false := by rfl) :
    PI X (.Tuple elts kk tpos) (.Call (.Name "zip" p) [e, e2] [] pos) (iZipM X.K ta) := by
  refine ⟨fun pins s σ H R I h => ?_⟩
  refine Call_ (ld_blt I hg hm PyProof.Rows.boot_zip (PyProof.Rows.callWith_type1 (thn (ha.run pos pins s σ H _ I h) fun us s1 ⟨vs, H1, I1, r1, q1⟩ => ?_) hs hpl))
  obtain ⟨a, b, xs, ys, ex, q1⟩ := q1
  subst ex
  cases r1 with
  | cons r rr =>
    cases rr with
    | cons r' rr =>
      cases rr
      cases r
      cases r'
      have fresh5 : ∀ c, c ∈ [s1.heap.objs.size + 4, s1.heap.objs.size + 2, s1.heap.objs.size + 3, s1.heap.objs.size, s1.heap.objs.size + 1] → FpOk X pins H1 c := fun c hcm => by
        have e' : c = s1.heap.objs.size + 4 ∨ c = s1.heap.objs.size + 2 ∨ c = s1.heap.objs.size + 3 ∨ c = s1.heap.objs.size ∨ c = s1.heap.objs.size + 1 := by simpa using hcm
        have hle : s1.heap.objs.size ≤ c := by
          rcases e' with z | z | z | z | z
          · rw [z]; exact Nat.le_add_right _ _
          · rw [z]; exact Nat.le_add_right _ _
          · rw [z]; exact Nat.le_add_right _ _
          · rw [z]; exact Nat.le_refl _
          · rw [z]; exact Nat.le_add_right _ _
        exact I1.fpOk hle (I1.hok.fresh hle)
      obtain ⟨hqx, hqy, q⟩ := q1
      obtain ⟨its, rv, p1, _⟩ := I1.tuple hqx
      obtain ⟨its2, rv2, p2, _⟩ := I1.list hqy
      obtain ⟨o1, ho1, _⟩ := id p1
      refine call_zipM (show s1.heap.IsTuple a its.toArray from p1) p2.isList fun h' zz gA gB h1 h2 hsz hk => wpAny_pyIter_zip zz ?_
      have I2 : Inv X pins σ H1 { s1 with heap := h' } := I1.kept (t' := s1.toks) hk
      exact ⟨s1.heap.objs.size + 4, [s1.heap.objs.size + 4, s1.heap.objs.size + 2, s1.heap.objs.size + 3, s1.heap.objs.size, s1.heap.objs.size + 1], _, _, H1, rfl, I2, turn_zipM (PySem.W.ktu_apart s1.heap.objs.size a b (Heap.lt_size ho1) p2.lt), ⟨zz, gA, ⟨_, _, gB⟩, h1, h2⟩, fresh5, q⟩

end ZM
namespace Z
open PySem PySem.Spec PyProof.Rows L2
section
variable {X : Cx} {W : Type} {wd : WD W} {cls : Nat → Addr} {e : Cur wd} {Wx : WX} {a b : Expr} {f h : XF W}
def zpOfM (x y : D) : Option (List PyData) := match x, y with
  | .p (.tuple xs), .p (.list ys) => some (zipL xs ys)
  | _, _ => none
theorem si_zipM {p pos tpos : Pos} {elts : List Expr} {kk : Nat} (ke : Ok e) (hm : X.mg "zip" = none) (ha : PE X a (tS cls X.K e Wx f)) (hb : PE X b (tS cls X.K e Wx h)) (hg : Gl X "zip" := by rfl)
    (hs : starEach [a, b] X.env = (false, eval a X.env) :: starEach [b] X.env := by rfl) (hs2 : starEach [b] X.env = (false, eval b X.env) :: starEach [] X.env := by rfl) (hpl : (backTo pos (starEach [b] X.env)).any (·.1) = false := by rfl) :
    PI X (.Tuple elts kk tpos) (.Call (.Name "zip" p) [a, b] [] pos) (tSI cls X.K e Wx keepF (iOf2 zpOfM f h)) := pi_imp (ZM.pi_zipM hg hm (pa_cons ha (pa_cons hb pa_nil hs2) hs) hs hpl) fun σ H R ⟨c, δ, eH, r, q⟩ => by
  rw [← eH]
  show tS cls X.K e Wx f σ c.H _
  refine tS_mk r ?_
  unfold iOf2 at q
  cases z : f δ c.w with
  | bad => rw [z] at q; exact q
  | exc n w' => rw [z] at q; exact q
  | ok x w' =>
    rw [z] at q
    dsimp only [Res.bind] at q
    intro u c1 hw b1 q1
    show tS cls X.K e Wx h σ c1.H _
    have r1 := r.step ke b1
    refine tS_mk r1 ?_
    rw [hw]
    cases z2 : h δ w' with
    | bad => rw [z2] at q; exact q
    | exc n w2 => rw [z2] at q; exact fun c2 hw2 b2 => q c2 hw2 (b1.trans r.ok b2)
    | ok y w2 =>
      rw [z2] at q
      dsimp only at q
      intro v c2 hw2 b2 q2
      have q1' := q1.mono b2
      have k2 := b2.ok
      unfold zpOfM at q
      split at q
      · rename_i l hl
        split at hl
        · rename_i xs ys
          cases hl
          obtain ⟨p, vs, rfl, h1, r1⟩ := dv_tup.mp q1'
          obtain ⟨p', vs', rfl, h1', r1'⟩ := dv_lst.mp q2
          refine ⟨p, p', vs, vs', rfl, SqT.of (k2.fh _ _ h1), SqL.of (k2.fh _ _ h1'), q _ c2 hw2 (b1.trans r.ok b2) ?_⟩
          refine ⟨fun i c ⟨k, s⟩ hi => ?_, fun i c ⟨k, s⟩ hi => ⟨vs, vs', SqT.of (k.fh _ _ (s _ _ h1)), SqL.of (k.fh _ _ (s _ _ h1')), ?_⟩, fun i c x H' d ⟨k, s⟩ hy hd => ?_⟩
          · rw [zipL_len] at hi
            obtain ⟨v, e1, _⟩ := r1.get (List.getElem?_eq_getElem (show i < xs.length by omega))
            obtain ⟨v', e1', _⟩ := r1'.get (List.getElem?_eq_getElem (show i < ys.length by omega))
            exact ⟨vs, vs', v, v', SqT.of (k.fh _ _ (s _ _ h1)), SqL.of (k.fh _ _ (s _ _ h1')), e1, e1'⟩
          · rw [zipL_len] at hi; rw [r1.len, r1'.len]; omega
          · obtain ⟨T, x1, x2, rfl, hT, rfl, hx1, hx2⟩ := hy
            obtain ⟨y1, y2, g1, g2, rfl⟩ := zipL_get xs ys i d hd
            obtain ⟨v, e1, qv⟩ := r1.get g1
            obtain ⟨v', e1', qv'⟩ := r1'.get g2
            have e2 := hx1 vs (SqT.of (k.fh _ _ (s _ _ h1)))
            rw [e1] at e2
            cases e2
            have e3 := hx2 vs' (SqL.of (k.fh _ _ (s _ _ h1')))
            rw [e1'] at e3
            cases e3
            have b := Bs.put k (.tup [x1, x2]) hT
            refine ⟨c.put T (.tup [x1, x2]), rfl, rfl, b, ?_⟩
            simp only [Dq]
            exact ⟨T, _, rfl, upd_same, .cons (Dq.mono (s.trans b.ff) _ _ qv) (.cons (Dq.mono (s.trans b.ff) _ _ qv') .nil)⟩
        · cases hl
      · exact q.elim
end
end Z

set_option Elab.async false
set_option linter.all false
set_option maxRecDepth 100000
set_option maxHeartbeats 2000000
namespace Z
open PySem PySem.Spec PyProof.Rows L2
def topS (i : Nat) : Stmt := PySem.Challenge.pw_crosssums_k19_whole_cuts.main.body.getD i (.Pass ⟨0, 0, 0, 0⟩)
section
variable {P : Program} {w : World} {K : PySem.W.Frag} {mg : Str → Option Value} {base : Heap} {cls : Nat → Addr}
/-! ## is_int -/
abbrev s_is_int : Stmt := topS 4
theorem sc_is_int : FnScope ["value", "low", "high"] ["value", "low", "high"] (defScope s_is_int) := ⟨rfl, rfl, rfl, by decide +kernel, rfl, by decide +kernel, by decide +kernel⟩
def b_is_int : SF Unit :=
  (sRet (xAnd (x1 (gIsi "int") (xVar 0)) (xAnd (x1 gNot (x1 (gIsi "bool") (xVar 0))) (xChain gLe gLe (xVar 1) (xVar 0) (xVar 2)))))
def f_is_int : FZ Unit := runZ 3 b_is_int
theorem k_is_int (D : Df K mg "is_int" s_is_int) (B : Bt mg) : Kp P w K mg base cls W0 "is_int" 1 3 f_is_int :=
  kpZ (k := 0) (N := ["value", "low", "high"]) (ps := ["value", "low", "high"]) D sc_is_int (fun _ _ _ _ _ _ us hl => match us, hl with | [_, _, _], _ => rfl) fun f cdv A outer s H E e ke hr =>
    (ss_one (ss_ret ke (s_and ke (s_isi ke (by simp) B.isi B.int bt_int (sv 0)) (s_and ke (s_not ke (s_isi ke (by simp) B.isi B.bool bt_bool (sv 0))) (s_one (s_chain ke og_le og_le (sv 1) (sv 0) (sv 2)))))))
/-! ## check_sums -/
abbrev s_check_sums : Stmt := topS 5
theorem sc_check_sums : FnScope ["value", "one"] ["value"] (defScope s_check_sums) := ⟨rfl, rfl, rfl, by decide +kernel, rfl, by decide +kernel, by decide +kernel⟩
def b_check_sums : SF Unit :=
  (sIf (bOr (bNot (xB truth (x1 (gIsi "list") (xVar 0)))) (bOr (bNot (xB asB (xChain gLe gLe (xInt 1) (xN gLen (lCons (xVar 0) lNil)) (xInt 3)))) (bNot (xB truth (xN gAll (lCons (xLc (iOf seqOf (xVar 0)) (zN 1) bYes (xCall f_is_int (lCons (xVar 1) (lCons (xInt 0) (lCons (xInt 27) lNil)))) [1]) lNil)))))) (sRaise 2) sNil)
def f_check_sums : FZ Unit := runZ 2 b_check_sums
theorem k_check_sums (D : Df K mg "check_sums" s_check_sums) (B : Bt mg) (h_is_int : Kp P w K mg base cls W0 "is_int" 1 3 f_is_int) (E_BadSums : ExC K mg "BadSums" (cls 2)) : Kp P w K mg base cls W0 "check_sums" 2 1 f_check_sums :=
  kpZ (k := 1) (N := ["value", "one"]) (ps := ["value"]) D sc_check_sums (fun _ _ _ _ _ _ us hl => match us, hl with | [_], _ => rfl) fun f cdv A outer s H E e ke hr =>
    (ss_one (ss_if ke (sw_or ke (st_not ke (st_val ke (s_isi ke (by simp) B.isi B.list bt_list (sv 0)))) (sw_or ke (st_not ke (st_chain ke og_le og_le s_int (s_callB ke cg_len B.len bt_len (sa_cons ke (sv 0) sa_nil)) s_int)) (pw_or1 (st_not ke (st_val ke (s_callB ke (cg_all rfl) B.all bt_all (sa_cons ke (s_lc ke rfl sc_check_sums.nd (pi_strong (si_seq ke (sv 0))) (blkOk_by (own := [("one", 1)]) rfl) (fun _ _ _ _ _ => (pg_name (i := 1) sc_check_sums.nd rfl (Or.inl rfl))) t3_name (fun _ _ _ _ _ => sts_nil) (fun _ _ _ _ _ => (s_callK ke h_is_int (hr.mono (by decide)) takes0 (sa_cons ke (sv 1) (sa_cons ke s_int (sa_cons ke s_int sa_nil))) (ln_cons (ln_cons (ln_cons ln_nil)))))) sa_nil))))))).pt (ss_one (ss_raise rfl (takes_of rfl rfl rfl rfl) E_BadSums)) ss_nil))
/-! ## check_most -/
abbrev s_check_most : Stmt := topS 6
theorem sc_check_most : FnScope ["value"] ["value"] (defScope s_check_most) := ⟨rfl, rfl, rfl, by decide +kernel, rfl, by decide +kernel, by decide +kernel⟩
def b_check_most : SF Unit :=
  (sIf (bNot (xB truth (xCall f_is_int (lCons (xVar 0) (lCons (xInt 0) (lCons (xInt 9) lNil)))))) (sRaise 3) sNil)
def f_check_most : FZ Unit := runZ 1 b_check_most
theorem k_check_most (D : Df K mg "check_most" s_check_most) (B : Bt mg) (h_is_int : Kp P w K mg base cls W0 "is_int" 1 3 f_is_int) (E_BadNumber : ExC K mg "BadNumber" (cls 3)) : Kp P w K mg base cls W0 "check_most" 2 1 f_check_most :=
  kpZ (k := 1) (N := ["value"]) (ps := ["value"]) D sc_check_most (fun _ _ _ _ _ _ us hl => match us, hl with | [_], _ => rfl) fun f cdv A outer s H E e ke hr =>
    (ss_one (ss_if ke (st_not ke (st_val ke (s_callK ke h_is_int (hr.mono (by decide)) (takes_of rfl rfl rfl rfl) (sa_cons ke (sv 0) (sa_cons ke s_int (sa_cons ke s_int sa_nil))) (ln_cons (ln_cons (ln_cons ln_nil)))))) (ss_one (ss_raise rfl (takes_of rfl rfl rfl rfl) E_BadNumber)) ss_nil))
/-! ## check_kind -/
abbrev s_check_kind : Stmt := topS 8
theorem sc_check_kind : FnScope ["rows", "columns", "most"] ["rows", "columns", "most"] (defScope s_check_kind) := ⟨rfl, rfl, rfl, by decide +kernel, rfl, by decide +kernel, by decide +kernel⟩
def b_check_kind : SF Unit :=
  (sSeq (sDrop (xCall f_check_sums (lCons (xVar 0) lNil)))
    (sSeq (sDrop (xCall f_check_sums (lCons (xVar 1) lNil)))
    (sDrop (xCall f_check_most (lCons (xVar 2) lNil)))))
def f_check_kind : FZ Unit := runZ 3 b_check_kind
theorem k_check_kind (D : Df K mg "check_kind" s_check_kind) (B : Bt mg) (h_check_sums : Kp P w K mg base cls W0 "check_sums" 2 1 f_check_sums) (h_check_most : Kp P w K mg base cls W0 "check_most" 2 1 f_check_most) : Kp P w K mg base cls W0 "check_kind" 3 3 f_check_kind :=
  kpZ (k := 2) (N := ["rows", "columns", "most"]) (ps := ["rows", "columns", "most"]) D sc_check_kind (fun _ _ _ _ _ _ us hl => match us, hl with | [_, _, _], _ => rfl) fun f cdv A outer s H E e ke hr =>
    (ss_cons (ss_expr ke (s_callK ke h_check_sums (hr.mono (by decide)) (takes_of rfl rfl rfl rfl) (sa_cons ke (sv 0) sa_nil) (ln_cons ln_nil)))
    (ss_cons (ss_expr ke (s_callK ke h_check_sums (hr.mono (by decide)) (takes_of rfl rfl rfl rfl) (sa_cons ke (sv 1) sa_nil) (ln_cons ln_nil)))
    (ss_one (ss_expr ke (s_callK ke h_check_most (hr.mono (by decide)) (takes_of rfl rfl rfl rfl) (sa_cons ke (sv 2) sa_nil) (ln_cons ln_nil))))))
/-! ## chosen -/
abbrev s_chosen : Stmt := topS 9
theorem sc_chosen : FnScope ["many", "found", "k", "one", "size"] ["many"] (defScope s_chosen) := ⟨rfl, rfl, rfl, by decide +kernel, rfl, by decide +kernel, by decide +kernel⟩
def b_chosen : SF Unit :=
  (sSeq (sSet 1 (xOwn (lCons (xN gList lNil) lNil)))
    (sSeq (sFor (iOf rgOf1 (xVar 0)) (zN 2) (sExt 1 (xLc (iOwn 1) (zN 3) bYes (x2 gAdd (xVar 3) (xN gList (lCons (xVar 2) lNil))) [3])))
    (sRet (xLc (iOf seqOf (xN gSorted (lCons (xLc (iOwn 1) (zN 3) bYes (xN gTupD (lCons (xN gLen (lCons (xVar 3) lNil)) (lCons (xVar 3) lNil))) [3]) lNil))) (zT 2 (zCons (zN 4) (zCons (zN 3) zNil))) bYes (xVar 3) [4, 3]))))
def f_chosen : FZ Unit := runZ 5 b_chosen
theorem k_chosen (D : Df K mg "chosen" s_chosen) (B : Bt mg) : Kp P w K mg base cls W0 "chosen" 1 1 f_chosen :=
  kpZ (k := 0) (N := ["many", "found", "k", "one", "size"]) (ps := ["many"]) D sc_chosen (fun _ _ _ _ _ _ us hl => match us, hl with | [_], _ => rfl) fun f cdv A outer s H E e ke hr =>
    (ss_cons (ss_set (i := 1) ke sc_chosen.nd rfl (Or.inl rfl) (x_own ke (sa_cons ke (s_list ke sa_nil) sa_nil)))
    (ss_cons (ss_for (vs := [2]) ke PassesOwn.leaving rfl (si_range1 ke B.range (sv 0)) (pg_name (i := 2) sc_chosen.nd rfl (Or.inr rfl)) t3_name (ss_one (ss_ext (i := 1) ke sc_chosen.nd rfl (Or.inl rfl) (s_lc ke rfl sc_chosen.nd (si_own ke (L2.pv 1)) (blkOk_by (own := [("one", 3)]) rfl) (fun _ _ _ _ _ => (pg_name (i := 3) sc_chosen.nd rfl (Or.inl rfl))) t3_name (fun _ _ _ _ _ => sts_nil) (fun _ _ _ _ _ => (s_bin ke og_add (sv 3) (s_list ke (sa_cons ke (sv 2) sa_nil))))))))
    (ss_one (ss_ret ke (s_lc ke rfl sc_chosen.nd (pi_strong (si_seq ke (s_callB ke (cg_sorted hr.units rfl) B.sorted bt_sorted (sa_cons ke (s_lc ke rfl sc_chosen.nd (si_own ke (L2.pv 1)) (blkOk_by (own := [("one", 3)]) rfl) (fun _ _ _ _ _ => (pg_name (i := 3) sc_chosen.nd rfl (Or.inl rfl))) t3_name (fun _ _ _ _ _ => sts_nil) (fun _ _ _ _ _ => (s_tup ke (sa_cons ke (s_callB ke cg_len B.len bt_len (sa_cons ke (sv 3) sa_nil)) (sa_cons ke (sv 3) sa_nil))))) sa_nil)))) (blkOk_by (own := [("size", 4), ("one", 3)]) rfl) (fun _ _ _ _ _ => (pg_tup rfl (pgs_cons (pg_name (i := 4) sc_chosen.nd rfl (Or.inl rfl)) (pgs_cons (pg_name (i := 3) sc_chosen.nd rfl (Or.inl rfl)) pgs_nil)))) (t3_tup (t3_cons t3_name (t3_cons t3_name t3_nil))) (fun _ _ _ _ _ => sts_nil) (fun _ _ _ _ _ => (sv 3)))))))
/-! ## is_cut -/
abbrev s_is_cut : Stmt := topS 10
theorem sc_is_cut : FnScope ["rows", "columns", "most", "some", "far", "asked", "k"] ["rows", "columns", "most", "some", "far"] (defScope s_is_cut) := ⟨rfl, rfl, rfl, by decide +kernel, rfl, by decide +kernel, by decide +kernel⟩
def b_is_cut : SF Unit :=
  (sSeq (sSet 5 (xV (xN gSum (lCons (xLc (iOf seqOf (xVar 3)) (zN 6) bYes (x2 gIx (xVar 0) (xVar 6)) [6]) lNil))))
    (sRet (x2 gGt (xVar 5) (x2 gAdd (xN gSum (lCons (xLc (iOf seqOf (xVar 4)) (zN 6) bYes (x2 gIx (xVar 1) (xVar 6)) [6]) lNil)) (x2 gMul (x2 gMul (xVar 2) (xN gLen (lCons (xVar 3) lNil))) (x2 gSub (xN gLen (lCons (xVar 1) lNil)) (xN gLen (lCons (xVar 4) lNil))))))))
def f_is_cut : FZ Unit := runZ 7 b_is_cut
theorem k_is_cut (D : Df K mg "is_cut" s_is_cut) (B : Bt mg) : Kp P w K mg base cls W0 "is_cut" 1 5 f_is_cut :=
  kpZ (k := 0) (N := ["rows", "columns", "most", "some", "far", "asked", "k"]) (ps := ["rows", "columns", "most", "some", "far"]) D sc_is_cut (fun _ _ _ _ _ _ us hl => match us, hl with | [_, _, _, _, _], _ => rfl) fun f cdv A outer s H E e ke hr =>
    (ss_cons (ss_set (i := 5) ke sc_is_cut.nd rfl (Or.inl rfl) (x_v (s_callB ke (cg_sum rfl) B.sum bt_sum (sa_cons ke (s_lc ke rfl sc_is_cut.nd (pi_strong (si_seq ke (sv 3))) (blkOk_by (own := [("k", 6)]) rfl) (fun _ _ _ _ _ => (pg_name (i := 6) sc_is_cut.nd rfl (Or.inl rfl))) t3_name (fun _ _ _ _ _ => sts_nil) (fun _ _ _ _ _ => (s_ix ke (sv 0) (sv 6)))) sa_nil))))
    (ss_one (ss_ret ke (s_cmp ke og_gt (sv 5) (s_bin ke og_add (s_callB ke (cg_sum rfl) B.sum bt_sum (sa_cons ke (s_lc ke rfl sc_is_cut.nd (pi_strong (si_seq ke (sv 4))) (blkOk_by (own := [("k", 6)]) rfl) (fun _ _ _ _ _ => (pg_name (i := 6) sc_is_cut.nd rfl (Or.inl rfl))) t3_name (fun _ _ _ _ _ => sts_nil) (fun _ _ _ _ _ => (s_ix ke (sv 1) (sv 6)))) sa_nil)) (s_bin ke og_mul (s_bin ke og_mul (sv 2) (s_callB ke cg_len B.len bt_len (sa_cons ke (sv 3) sa_nil))) (s_bin ke og_sub (s_callB ke cg_len B.len bt_len (sa_cons ke (sv 1) sa_nil)) (s_callB ke cg_len B.len bt_len (sa_cons ke (sv 4) sa_nil))))) (nomark _)))))
/-! ## cut_of -/
abbrev s_cut_of : Stmt := topS 11
theorem sc_cut_of : FnScope ["rows", "columns", "most", "some", "far"] ["rows", "columns", "most"] (defScope s_cut_of) := ⟨rfl, rfl, rfl, by decide +kernel, rfl, by decide +kernel, by decide +kernel⟩
def b_cut_of : SF Unit :=
  (sSeq (sFor (iOf seqOf (xCall f_chosen (lCons (xN gLen (lCons (xVar 0) lNil)) lNil))) (zN 3) (sFor (iOf seqOf (xCall f_chosen (lCons (xN gLen (lCons (xVar 1) lNil)) lNil))) (zN 4) (sIf (xB truth (xCall f_is_cut (lCons (xVar 0) (lCons (xVar 1) (lCons (xVar 2) (lCons (xVar 3) (lCons (xVar 4) lNil))))))) (sRet (xN gTupD (lCons (xVar 3) (lCons (xVar 4) lNil)))) sNil)))
    (sRet xNon))
def f_cut_of : FZ Unit := runZ 5 b_cut_of
theorem k_cut_of (D : Df K mg "cut_of" s_cut_of) (B : Bt mg) (h_chosen : Kp P w K mg base cls W0 "chosen" 1 1 f_chosen) (h_is_cut : Kp P w K mg base cls W0 "is_cut" 1 5 f_is_cut) : Kp P w K mg base cls W0 "cut_of" 2 3 f_cut_of :=
  kpZ (k := 1) (N := ["rows", "columns", "most", "some", "far"]) (ps := ["rows", "columns", "most"]) D sc_cut_of (fun _ _ _ _ _ _ us hl => match us, hl with | [_, _, _], _ => rfl) fun f cdv A outer s H E e ke hr =>
    (ss_cons (ss_for (vs := [3]) ke PassesOwn.leaving rfl (si_seq ke (s_callK ke h_chosen (hr.mono (by decide)) (takes_of rfl rfl rfl rfl) (sa_cons ke (s_callB ke cg_len B.len bt_len (sa_cons ke (sv 0) sa_nil)) sa_nil) (ln_cons ln_nil))) (pg_name (i := 3) sc_cut_of.nd rfl (Or.inl rfl)) t3_name (ss_one (ss_for (vs := [4]) ke PassesOwn.leaving rfl (si_seq ke (s_callK ke h_chosen (hr.mono (by decide)) (takes_of rfl rfl rfl rfl) (sa_cons ke (s_callB ke cg_len B.len bt_len (sa_cons ke (sv 1) sa_nil)) sa_nil) (ln_cons ln_nil))) (pg_name (i := 4) sc_cut_of.nd rfl (Or.inl rfl)) t3_name (ss_one (ss_if ke (st_val ke (s_callK ke h_is_cut (hr.mono (by decide)) (takes_of rfl rfl rfl rfl) (sa_cons ke (sv 0) (sa_cons ke (sv 1) (sa_cons ke (sv 2) (sa_cons ke (sv 3) (sa_cons ke (sv 4) sa_nil))))) (ln_cons (ln_cons (ln_cons (ln_cons (ln_cons ln_nil))))))) (ss_one (ss_ret ke (s_tup ke (sa_cons ke (sv 3) (sa_cons ke (sv 4) sa_nil))))) ss_nil)))))
    (ss_one (ss_ret ke s_non)))
/-! ## can_be -/
abbrev s_can_be : Stmt := topS 12
theorem sc_can_be : FnScope ["rows", "columns", "most"] ["rows", "columns", "most"] (defScope s_can_be) := ⟨rfl, rfl, rfl, by decide +kernel, rfl, by decide +kernel, by decide +kernel⟩
def b_can_be : SF Unit :=
  (sSeq (sDrop (xCall f_check_kind (lCons (xVar 0) (lCons (xVar 1) (lCons (xVar 2) lNil)))))
    (sRet (xAnd (x2 gEq (xN gSum (lCons (xVar 0) lNil)) (xN gSum (lCons (xVar 1) lNil))) (x2 (gIs false) (xCall f_cut_of (lCons (xVar 0) (lCons (xVar 1) (lCons (xVar 2) lNil)))) xNon))))
def f_can_be : FZ Unit := runZ 3 b_can_be
theorem k_can_be (D : Df K mg "can_be" s_can_be) (B : Bt mg) (h_check_kind : Kp P w K mg base cls W0 "check_kind" 3 3 f_check_kind) (h_cut_of : Kp P w K mg base cls W0 "cut_of" 2 3 f_cut_of) : Kp P w K mg base cls W0 "can_be" 4 3 f_can_be :=
  kpZ (k := 3) (N := ["rows", "columns", "most"]) (ps := ["rows", "columns", "most"]) D sc_can_be (fun _ _ _ _ _ _ us hl => match us, hl with | [_, _, _], _ => rfl) fun f cdv A outer s H E e ke hr =>
    (ss_cons (ss_expr ke (s_callK ke h_check_kind (hr.mono (by decide)) (takes_of rfl rfl rfl rfl) (sa_cons ke (sv 0) (sa_cons ke (sv 1) (sa_cons ke (sv 2) sa_nil))) (ln_cons (ln_cons (ln_cons ln_nil)))))
    (ss_one (ss_ret ke (s_and ke (s_cmp ke (og_eq hr.units) (s_callB ke (cg_sum rfl) B.sum bt_sum (sa_cons ke (sv 0) sa_nil)) (s_callB ke (cg_sum rfl) B.sum bt_sum (sa_cons ke (sv 1) sa_nil)) (nomark _)) (s_one (s_cmp ke og_is (s_callK ke h_cut_of (hr.mono (by decide)) (takes_of rfl rfl rfl rfl) (sa_cons ke (sv 0) (sa_cons ke (sv 1) (sa_cons ke (sv 2) sa_nil))) (ln_cons (ln_cons (ln_cons ln_nil)))) s_non (nomark _)))))))
/-! ## first_cut -/
abbrev s_first_cut : Stmt := topS 13
theorem sc_first_cut : FnScope ["rows", "columns", "most"] ["rows", "columns", "most"] (defScope s_first_cut) := ⟨rfl, rfl, rfl, by decide +kernel, rfl, by decide +kernel, by decide +kernel⟩
def b_first_cut : SF Unit :=
  (sSeq (sDrop (xCall f_check_kind (lCons (xVar 0) (lCons (xVar 1) (lCons (xVar 2) lNil)))))
    (sSeq (sIf (xB asB (x2 gNe (xN gSum (lCons (xVar 0) lNil)) (xN gSum (lCons (xVar 1) lNil)))) (sRaise 2) sNil)
    (sRet (xCall f_cut_of (lCons (xVar 0) (lCons (xVar 1) (lCons (xVar 2) lNil)))))))
def f_first_cut : FZ Unit := runZ 3 b_first_cut
theorem k_first_cut (D : Df K mg "first_cut" s_first_cut) (B : Bt mg) (h_check_kind : Kp P w K mg base cls W0 "check_kind" 3 3 f_check_kind) (h_cut_of : Kp P w K mg base cls W0 "cut_of" 2 3 f_cut_of) (E_BadSums : ExC K mg "BadSums" (cls 2)) : Kp P w K mg base cls W0 "first_cut" 4 3 f_first_cut :=
  kpZ (k := 3) (N := ["rows", "columns", "most"]) (ps := ["rows", "columns", "most"]) D sc_first_cut (fun _ _ _ _ _ _ us hl => match us, hl with | [_, _, _], _ => rfl) fun f cdv A outer s H E e ke hr =>
    (ss_cons (ss_expr ke (s_callK ke h_check_kind (hr.mono (by decide)) (takes_of rfl rfl rfl rfl) (sa_cons ke (sv 0) (sa_cons ke (sv 1) (sa_cons ke (sv 2) sa_nil))) (ln_cons (ln_cons (ln_cons ln_nil)))))
    (ss_cons (ss_if ke (st_cmp ke (og_ne hr.units) (s_callB ke (cg_sum rfl) B.sum bt_sum (sa_cons ke (sv 0) sa_nil)) (s_callB ke (cg_sum rfl) B.sum bt_sum (sa_cons ke (sv 1) sa_nil)) (nomark _)) (ss_one (ss_raise rfl (takes_of rfl rfl rfl rfl) E_BadSums)) ss_nil)
    (ss_one (ss_ret ke (s_callK ke h_cut_of (hr.mono (by decide)) (takes_of rfl rfl rfl rfl) (sa_cons ke (sv 0) (sa_cons ke (sv 1) (sa_cons ke (sv 2) sa_nil))) (ln_cons (ln_cons (ln_cons ln_nil))))))))
/-! ## rows_with -/
abbrev s_rows_with : Stmt := topS 14
theorem sc_rows_with : FnScope ["total", "parts", "found", "first", "rest"] ["total", "parts"] (defScope s_rows_with) := ⟨rfl, rfl, rfl, by decide +kernel, rfl, by decide +kernel, by decide +kernel⟩
def b_rows_with (rec : FZ Unit) : SF Unit :=
  (sSeq (sIf (xB asB (x2 gEq (xVar 1) (xN gTupD lNil))) (sRet (xIf (xB asB (x2 gEq (xVar 0) (xInt 0))) (xN gList (lCons (xN gTupD lNil) lNil)) (xN gList lNil))) sNil)
    (sSeq (sSet 2 (xOwn lNil))
    (sSeq (sFor (iOf rgOf1 (x2 gAdd (xN gMin (lCons (xVar 0) (lCons (x2 gIx (xVar 1) (xInt 0)) lNil))) (xInt 1))) (zN 3) (sIf (xB asB (x2 gLe (x2 gSub (xVar 0) (xVar 3)) (xN gSumT (lCons (xSl (some (xInt 1)) none (xVar 1)) lNil)))) (sExt 2 (xLc (iOf seqOf (xCall rec (lCons (x2 gSub (xVar 0) (xVar 3)) (lCons (xSl (some (xInt 1)) none (xVar 1)) lNil)))) (zN 4) bYes (x2 gAdd (xN gTupD (lCons (xVar 3) lNil)) (xVar 4)) [4])) sNil))
    (sFrz 2 (sRet (xVar 2))))))
def f_rows_with : Nat → FZ Unit
  | 0 => runZ 5 (fun _ _ => .bad)
  | n + 1 => runZ 5 (b_rows_with (f_rows_with n))
theorem k_rows_with_ (D : Df K mg "rows_with" s_rows_with) (B : Bt mg) : ∀ n, Kp P w K mg base cls W0 "rows_with" (1 + n) 2 (f_rows_with n)
  | 0 => kpZ (k := 0) (N := ["total", "parts", "found", "first", "rest"]) (ps := ["total", "parts"]) D sc_rows_with (fun _ _ _ _ _ _ us hl => match us, hl with | [_, _], _ => rfl) fun f cdv A outer s H E e ke hr => ss_bad
  | n + 1 =>
    have h_rows_with := k_rows_with_ D B n
    kpZ (k := 1 + n) (N := ["total", "parts", "found", "first", "rest"]) (ps := ["total", "parts"]) D sc_rows_with (fun _ _ _ _ _ _ us hl => match us, hl with | [_, _], _ => rfl) fun f cdv A outer s H E e ke hr =>
    (ss_cons (ss_if ke (st_cmp ke (og_eq hr.units) (sv 1) (s_tup ke sa_nil) (nomark _)) (ss_one (ss_ret ke (s_if ke (st_cmp ke (og_eq hr.units) (sv 0) s_int (nomark _)) (s_list ke (sa_cons ke (s_tup ke sa_nil) sa_nil)) (s_list ke sa_nil)))) ss_nil)
    (ss_cons (ss_set (i := 2) ke sc_rows_with.nd rfl (Or.inl rfl) (x_own ke sa_nil))
    (ss_cons (ss_for (vs := [3]) ke PassesOwn.leaving rfl (si_range1 ke B.range (s_bin ke og_add (s_callB ke (cg_min rfl) B.min bt_min (sa_cons ke (sv 0) (sa_cons ke (s_ix ke (sv 1) s_int) sa_nil))) s_int)) (pg_name (i := 3) sc_rows_with.nd rfl (Or.inr rfl)) t3_name (ss_one (ss_if ke (st_cmp ke og_le (s_bin ke og_sub (sv 0) (sv 3)) (s_callB ke (cg_sumT rfl) B.sum bt_sum (sa_cons ke (s_slice (lo := (some (xInt 1))) (hi := none) ke (sv 1) (poS s_int) poN) sa_nil)) (nomark _)) (ss_one (ss_ext (i := 2) ke sc_rows_with.nd rfl (Or.inl rfl) (s_lc ke rfl sc_rows_with.nd (pi_strong (si_seq ke (s_callK ke h_rows_with (hr.mono (by omega)) (takes_of rfl rfl rfl rfl) (sa_cons ke (s_bin ke og_sub (sv 0) (sv 3)) (sa_cons ke (s_slice (lo := (some (xInt 1))) (hi := none) ke (sv 1) (poS s_int) poN) sa_nil)) (ln_cons (ln_cons ln_nil))))) (blkOk_by (own := [("rest", 4)]) rfl) (fun _ _ _ _ _ => (pg_name (i := 4) sc_rows_with.nd rfl (Or.inl rfl))) t3_name (fun _ _ _ _ _ => sts_nil) (fun _ _ _ _ _ => (s_bin ke og_add (s_tup ke (sa_cons ke (sv 3) sa_nil)) (sv 4)))))) ss_nil)))
    (ss_frz (i := 2) (ss_one (ss_ret ke (sv 2)))))))
theorem k_rows_with (D : Df K mg "rows_with" s_rows_with) (B : Bt mg) : Kp P w K mg base cls W0 "rows_with" 11 2 (f_rows_with 10) := k_rows_with_ D B 10
/-! ## ways_from -/
abbrev s_ways_from : Stmt := topS 15
theorem sc_ways_from : FnScope ["rows", "left", "most", "known", "found", "row", "one", "a", "b"] ["rows", "left", "most", "known"] (defScope s_ways_from) := ⟨rfl, rfl, rfl, by decide +kernel, rfl, by decide +kernel, by decide +kernel⟩
def b_ways_from (rec : FZ (List Memo)) : SF (List Memo) :=
  (sSeq (sIf (xB asB (x2 gEq (xVar 0) (xN gTupD lNil))) (sRet (xIf (bNot (xB truth (xN gAny (lCons (xVar 1) lNil)))) (xInt 1) (xInt 0))) sNil)
    (sSeq (sIf (xB asB (x2W (gInM true) (xN gTupD (lCons (xVar 0) (lCons (xVar 1) lNil))) (xVar 3))) (sSeq (sSet 4 (xV (xInt 0)))
    (sSeq (sFor (iOf seqOf (xCall (liftZ (f_rows_with 10)) (lCons (x2 gIx (xVar 0) (xInt 0)) (lCons (xN gTupOf (lCons (xLc (iOf seqOf (xVar 1)) (zN 6) bYes (xN gMin (lCons (xVar 2) (lCons (xVar 6) lNil))) [6]) lNil)) lNil)))) (zN 5) (sAug 4 (fun i j => i + j) (xCall rec (lCons (xSl (some (xInt 1)) none (xVar 0)) (lCons (xN gTupOf (lCons (xLc (iOf2 zpOf (xVar 1) (xVar 5)) (zT 2 (zCons (zN 7) (zCons (zN 8) zNil))) bYes (x2 gSub (xVar 7) (xVar 8)) [7, 8]) lNil)) (lCons (xVar 2) (lCons (xVar 3) lNil)))))))
    (sSetM (xVar 3) (xN gTupD (lCons (xVar 0) (lCons (xVar 1) lNil))) (xVar 4)))) sNil)
    (sRet (x2W gIxM (xVar 3) (xN gTupD (lCons (xVar 0) (lCons (xVar 1) lNil)))))))
def f_ways_from : Nat → FZ (List Memo)
  | 0 => runZ 9 (fun _ _ => .bad)
  | n + 1 => runZ 9 (b_ways_from (f_ways_from n))
theorem k_ways_from_ (D : Df K mg "ways_from" s_ways_from) (B : Bt mg) (h_rows_with : Kp P w K mg base cls W0 "rows_with" 11 2 (f_rows_with 10)) : ∀ n, Kp P w K mg base cls (WM P w) "ways_from" (12 + n) 4 (f_ways_from n)
  | 0 => kpZ (k := 11) (N := ["rows", "left", "most", "known", "found", "row", "one", "a", "b"]) (ps := ["rows", "left", "most", "known"]) D sc_ways_from (fun _ _ _ _ _ _ us hl => match us, hl with | [_, _, _, _], _ => rfl) fun f cdv A outer s H E e ke hr => ss_bad
  | n + 1 =>
    have h_ways_from := k_ways_from_ D B h_rows_with n
    kpZ (k := 12 + n) (N := ["rows", "left", "most", "known", "found", "row", "one", "a", "b"]) (ps := ["rows", "left", "most", "known"]) D sc_ways_from (fun _ _ _ _ _ _ us hl => match us, hl with | [_, _, _, _], _ => rfl) fun f cdv A outer s H E e ke hr =>
    (ss_cons (ss_if ke (st_cmp ke (og_eq hr.units) (sv 0) (s_tup ke sa_nil) (nomark _)) (ss_one (ss_ret ke (s_if ke (st_not ke (st_val ke (s_callB ke (cg_any rfl) B.any bt_any (sa_cons ke (sv 1) sa_nil)))) s_int s_int))) ss_nil)
    (ss_cons (ss_if ke (st_cmpW ke (og_notInM hr.units) (s_tup ke (sa_cons ke (sv 0) (sa_cons ke (sv 1) sa_nil))) (sv 3) (by rfl)) (ss_cons (ss_set (i := 4) ke sc_ways_from.nd rfl (Or.inl rfl) (x_v s_int))
    (ss_cons (ss_for (vs := [5]) ke PassesOwn.leaving rfl (si_seq ke (s_callK ke h_rows_with.lift (hr.mono (by omega)) (takes_of rfl rfl rfl rfl) (sa_cons ke (s_ix ke (sv 0) s_int) (sa_cons ke (s_callTy ke cg_tuple B.tuple bt_tuple (sa_cons ke (s_lc ke rfl sc_ways_from.nd (pi_strong (si_seq ke (sv 1))) (blkOk_by (own := [("one", 6)]) rfl) (fun _ _ _ _ _ => (pg_name (i := 6) sc_ways_from.nd rfl (Or.inl rfl))) t3_name (fun _ _ _ _ _ => sts_nil) (fun _ _ _ _ _ => (s_callB ke (cg_min rfl) B.min bt_min (sa_cons ke (sv 2) (sa_cons ke (sv 6) sa_nil))))) sa_nil)) sa_nil)) (ln_cons (ln_cons ln_nil)))) (pg_name (i := 5) sc_ways_from.nd rfl (Or.inl rfl)) t3_name (ss_one (ss_aug (i := 4) ke sc_ways_from.nd rfl (Or.inl rfl) (s_callK ke h_ways_from (hr.mono (by omega)) (takes_of rfl rfl rfl rfl) (sa_cons ke (s_slice (lo := (some (xInt 1))) (hi := none) ke (sv 0) (poS s_int) poN) (sa_cons ke (s_callTy ke cg_tuple B.tuple bt_tuple (sa_cons ke (s_lc ke rfl sc_ways_from.nd (pi_strong (si_zip ke B.zip (sv 1) (sv 5))) (blkOk_by (own := [("a", 7), ("b", 8)]) rfl) (fun _ _ _ _ _ => (pg_tup rfl (pgs_cons (pg_name (i := 7) sc_ways_from.nd rfl (Or.inl rfl)) (pgs_cons (pg_name (i := 8) sc_ways_from.nd rfl (Or.inl rfl)) pgs_nil)))) (t3_tup (t3_cons t3_name (t3_cons t3_name t3_nil))) (fun _ _ _ _ _ => sts_nil) (fun _ _ _ _ _ => (s_bin ke og_sub (sv 7) (sv 8)))) sa_nil)) (sa_cons ke (sv 2) (sa_cons ke (sv 3) sa_nil)))) (ln_cons (ln_cons (ln_cons (ln_cons ln_nil))))) ip_add)))
    (ss_one (ss_setM ke hr.units (sv 3) (s_tup ke (sa_cons ke (sv 0) (sa_cons ke (sv 1) sa_nil))) (sv 4))))) ss_nil)
    (ss_one (ss_ret ke (s_ixM ke hr.units (sv 3) (s_tup ke (sa_cons ke (sv 0) (sa_cons ke (sv 1) sa_nil))))))))
theorem k_ways_from (D : Df K mg "ways_from" s_ways_from) (B : Bt mg) (h_rows_with : Kp P w K mg base cls W0 "rows_with" 11 2 (f_rows_with 10)) : Kp P w K mg base cls (WM P w) "ways_from" 22 4 (f_ways_from 10) := k_ways_from_ D B h_rows_with 10
/-! ## count_tables -/
abbrev s_count_tables : Stmt := topS 16
theorem sc_count_tables : FnScope ["rows", "columns", "most"] ["rows", "columns", "most"] (defScope s_count_tables) := ⟨rfl, rfl, rfl, by decide +kernel, rfl, by decide +kernel, by decide +kernel⟩
def b_count_tables : SF (List Memo) :=
  (sSeq (sDrop (xCall (liftZ f_check_kind) (lCons (xVar 0) (lCons (xVar 1) (lCons (xVar 2) lNil)))))
    (sRet (xCall (f_ways_from 10) (lCons (xN gTupOf (lCons (xVar 0) lNil)) (lCons (xN gTupOf (lCons (xVar 1) lNil)) (lCons (xVar 2) (lCons xNewM lNil)))))))
def f_count_tables : FZ (List Memo) := runZ 3 b_count_tables
theorem k_count_tables (D : Df K mg "count_tables" s_count_tables) (B : Bt mg) (h_check_kind : Kp P w K mg base cls W0 "check_kind" 3 3 f_check_kind) (h_ways_from : Kp P w K mg base cls (WM P w) "ways_from" 22 4 (f_ways_from 10)) : Kp P w K mg base cls (WM P w) "count_tables" 23 3 f_count_tables :=
  kpZ (k := 22) (N := ["rows", "columns", "most"]) (ps := ["rows", "columns", "most"]) D sc_count_tables (fun _ _ _ _ _ _ us hl => match us, hl with | [_, _, _], _ => rfl) fun f cdv A outer s H E e ke hr =>
    (ss_cons (ss_expr ke (s_callK ke h_check_kind.lift (hr.mono (by decide)) (takes_of rfl rfl rfl rfl) (sa_cons ke (sv 0) (sa_cons ke (sv 1) (sa_cons ke (sv 2) sa_nil))) (ln_cons (ln_cons (ln_cons ln_nil)))))
    (ss_one (ss_ret ke (s_callK ke h_ways_from (hr.mono (by decide)) (takes_of rfl rfl rfl rfl) (sa_cons ke (s_callTy ke cg_tuple B.tuple bt_tuple (sa_cons ke (sv 0) sa_nil)) (sa_cons ke (s_callTy ke cg_tuple B.tuple bt_tuple (sa_cons ke (sv 1) sa_nil)) (sa_cons ke (sv 2) (sa_cons ke (s_newM ke) sa_nil)))) (ln_cons (ln_cons (ln_cons (ln_cons ln_nil))))))))
/-! ## table_at -/
abbrev s_table_at : Stmt := topS 17
theorem sc_table_at : FnScope ["rows", "columns", "most", "rank", "known", "found", "left", "k", "row", "rest", "many", "one", "a", "b"] ["rows", "columns", "most", "rank"] (defScope s_table_at) := ⟨rfl, rfl, rfl, by decide +kernel, rfl, by decide +kernel, by decide +kernel⟩
def b_table_at : SF (List Memo) :=
  (sSeq (sDrop (xCall (liftZ f_check_kind) (lCons (xVar 0) (lCons (xVar 1) (lCons (xVar 2) lNil)))))
    (sSeq (sSet 4 (xV xNewM))
    (sSeq (sIf (bNot (xB truth (xCall (liftZ f_is_int) (lCons (xVar 3) (lCons (xInt 0) (lCons (x2 gSub (xCall (f_ways_from 10) (lCons (xN gTupOf (lCons (xVar 0) lNil)) (lCons (xN gTupOf (lCons (xVar 1) lNil)) (lCons (xVar 2) (lCons (xVar 4) lNil))))) (xInt 1)) lNil)))))) (sRaise 3) sNil)
    (sSeq (sPar2 5 6 (xOwn lNil) (xV (xN gTupOf (lCons (xVar 1) lNil))))
    (sSeq (sFor (iOf rgOf1 (xN gLen (lCons (xVar 0) lNil))) (zN 7) (sFor (iOf seqOf (xCall (liftZ (f_rows_with 10)) (lCons (x2 gIx (xVar 0) (xVar 7)) (lCons (xN gTupOf (lCons (xLc (iOf seqOf (xVar 6)) (zN 11) bYes (xN gMin (lCons (xVar 2) (lCons (xVar 11) lNil))) [11]) lNil)) lNil)))) (zN 8) (sSeq (sSet 9 (xV (xN gTupOf (lCons (xLc (iOf2 zpOf (xVar 6) (xVar 8)) (zT 2 (zCons (zN 12) (zCons (zN 13) zNil))) bYes (x2 gSub (xVar 12) (xVar 13)) [12, 13]) lNil))))
    (sSeq (sSet 10 (xV (xCall (f_ways_from 10) (lCons (xN gTupOf (lCons (xSl (some (x2 gAdd (xVar 7) (xInt 1))) none (xVar 0)) lNil)) (lCons (xVar 9) (lCons (xVar 2) (lCons (xVar 4) lNil)))))))
    (sSeq (sIf (xB asB (x2 gLt (xVar 3) (xVar 10))) (sSeq (sApp 5 (xN gListOf (lCons (xVar 8) lNil)))
    (sSeq (sSet 6 (xV (xVar 9)))
    sBrk)) sNil)
    (sAug 3 (fun i j => i - j) (xVar 10)))))))
    (sFrz 5 (sRet (xVar 5))))))))
def f_table_at : FZ (List Memo) := runZ 14 b_table_at
theorem k_table_at (D : Df K mg "table_at" s_table_at) (B : Bt mg) (h_check_kind : Kp P w K mg base cls W0 "check_kind" 3 3 f_check_kind) (h_is_int : Kp P w K mg base cls W0 "is_int" 1 3 f_is_int) (h_ways_from : Kp P w K mg base cls (WM P w) "ways_from" 22 4 (f_ways_from 10)) (h_rows_with : Kp P w K mg base cls W0 "rows_with" 11 2 (f_rows_with 10)) (E_BadNumber : ExC K mg "BadNumber" (cls 3)) : Kp P w K mg base cls (WM P w) "table_at" 23 4 f_table_at :=
  kpZ (k := 22) (N := ["rows", "columns", "most", "rank", "known", "found", "left", "k", "row", "rest", "many", "one", "a", "b"]) (ps := ["rows", "columns", "most", "rank"]) D sc_table_at (fun _ _ _ _ _ _ us hl => match us, hl with | [_, _, _, _], _ => rfl) fun f cdv A outer s H E e ke hr =>
    (ss_cons (ss_expr ke (s_callK ke h_check_kind.lift (hr.mono (by decide)) (takes_of rfl rfl rfl rfl) (sa_cons ke (sv 0) (sa_cons ke (sv 1) (sa_cons ke (sv 2) sa_nil))) (ln_cons (ln_cons (ln_cons ln_nil)))))
    (ss_cons (ss_set (i := 4) ke sc_table_at.nd rfl (Or.inl rfl) (x_v (s_newM ke)))
    (ss_cons (ss_if ke (st_not ke (st_val ke (s_callK ke h_is_int.lift (hr.mono (by decide)) (takes_of rfl rfl rfl rfl) (sa_cons ke (sv 3) (sa_cons ke s_int (sa_cons ke (s_bin ke og_sub (s_callK ke h_ways_from (hr.mono (by decide)) (takes_of rfl rfl rfl rfl) (sa_cons ke (s_callTy ke cg_tuple B.tuple bt_tuple (sa_cons ke (sv 0) sa_nil)) (sa_cons ke (s_callTy ke cg_tuple B.tuple bt_tuple (sa_cons ke (sv 1) sa_nil)) (sa_cons ke (sv 2) (sa_cons ke (sv 4) sa_nil)))) (ln_cons (ln_cons (ln_cons (ln_cons ln_nil))))) s_int) sa_nil))) (ln_cons (ln_cons (ln_cons ln_nil)))))) (ss_one (ss_raise rfl (takes_of rfl rfl rfl rfl) E_BadNumber)) ss_nil)
    (ss_cons (ss_par2 (i := 5) (j := 6) ke rfl sc_table_at.nd rfl rfl (by decide) rfl rfl (x_own ke sa_nil) (x_v (s_callTy ke cg_tuple B.tuple bt_tuple (sa_cons ke (sv 1) sa_nil))))
    (ss_cons (ss_for (vs := [7]) ke PassesOwn.leaving rfl (si_range1 ke B.range (s_callB ke cg_len B.len bt_len (sa_cons ke (sv 0) sa_nil))) (pg_name (i := 7) sc_table_at.nd rfl (Or.inl rfl)) t3_name (ss_one (ss_for (vs := [8]) ke PassesOwn.leaving rfl (si_seq ke (s_callK ke h_rows_with.lift (hr.mono (by decide)) (takes_of rfl rfl rfl rfl) (sa_cons ke (s_ix ke (sv 0) (sv 7)) (sa_cons ke (s_callTy ke cg_tuple B.tuple bt_tuple (sa_cons ke (s_lc ke rfl sc_table_at.nd (pi_strong (si_seq ke (sv 6))) (blkOk_by (own := [("one", 11)]) rfl) (fun _ _ _ _ _ => (pg_name (i := 11) sc_table_at.nd rfl (Or.inl rfl))) t3_name (fun _ _ _ _ _ => sts_nil) (fun _ _ _ _ _ => (s_callB ke (cg_min rfl) B.min bt_min (sa_cons ke (sv 2) (sa_cons ke (sv 11) sa_nil))))) sa_nil)) sa_nil)) (ln_cons (ln_cons ln_nil)))) (pg_name (i := 8) sc_table_at.nd rfl (Or.inl rfl)) t3_name (ss_cons (ss_set (i := 9) ke sc_table_at.nd rfl (Or.inl rfl) (x_v (s_callTy ke cg_tuple B.tuple bt_tuple (sa_cons ke (s_lc ke rfl sc_table_at.nd (pi_strong (si_zip ke B.zip (sv 6) (sv 8))) (blkOk_by (own := [("a", 12), ("b", 13)]) rfl) (fun _ _ _ _ _ => (pg_tup rfl (pgs_cons (pg_name (i := 12) sc_table_at.nd rfl (Or.inl rfl)) (pgs_cons (pg_name (i := 13) sc_table_at.nd rfl (Or.inl rfl)) pgs_nil)))) (t3_tup (t3_cons t3_name (t3_cons t3_name t3_nil))) (fun _ _ _ _ _ => sts_nil) (fun _ _ _ _ _ => (s_bin ke og_sub (sv 12) (sv 13)))) sa_nil))))
    (ss_cons (ss_set (i := 10) ke sc_table_at.nd rfl (Or.inl rfl) (x_v (s_callK ke h_ways_from (hr.mono (by decide)) (takes_of rfl rfl rfl rfl) (sa_cons ke (s_callTy ke cg_tuple B.tuple bt_tuple (sa_cons ke (s_slice (lo := (some (x2 gAdd (xVar 7) (xInt 1)))) (hi := none) ke (sv 0) (poS (s_bin ke og_add (sv 7) s_int)) poN) sa_nil)) (sa_cons ke (sv 9) (sa_cons ke (sv 2) (sa_cons ke (sv 4) sa_nil)))) (ln_cons (ln_cons (ln_cons (ln_cons ln_nil)))))))
    (ss_cons (ss_if ke (st_cmp ke og_lt (sv 3) (sv 10) (nomark _)) (ss_cons (ss_app (to := tVar 5) ke (L2.pv 5) (s_callTy ke cg_list B.list bt_list (sa_cons ke (sv 8) sa_nil)))
    (ss_cons (ss_set (i := 6) ke sc_table_at.nd rfl (Or.inl rfl) (x_v (sv 9)))
    (ss_one ss_brk))) ss_nil)
    (ss_one (ss_aug (i := 3) ke sc_table_at.nd rfl (Or.inl rfl) (sv 10) ip_sub))))))))
    (ss_frz (i := 5) (ss_one (ss_ret ke (sv 5)))))))))
/-! ## _law_start -/
abbrev s_Lstart : Stmt := topS 19
theorem sc_Lstart : FnScope ["_law_script"] ["_law_script"] (defScope s_Lstart) := ⟨rfl, rfl, rfl, by decide +kernel, rfl, by decide +kernel, by decide +kernel⟩
def b_Lstart : SF Wd :=
  (sStart (xIfX (xB asB (x2 gNeS (xVar 0) (xN gList lNil))) (xListS (xVar 0)) (xOwn (lCons (xInt 0) lNil))))
def f_Lstart : FZ Wd := runZ 1 b_Lstart
theorem k_Lstart (D : Df K mg "_law_start" s_Lstart) (B : Bt mg) : Kp P w K mg base cls WW "_law_start" 1 1 f_Lstart :=
  kpZ (k := 0) (N := ["_law_script"]) (ps := ["_law_script"]) D sc_Lstart (fun _ _ _ _ _ _ us hl => match us, hl with | [_], _ => rfl) fun f cdv A outer s H E e ke hr =>
    (ss_one (ss_start ke (x_if ke (st_cmp ke (og_neS hr.units) (sv 0) (s_list ke sa_nil) (nomark _)) (x_listS ke B.list (sv 0)) (x_own ke (sa_cons ke s_int sa_nil)))))
/-! ## _law_draw -/
abbrev s_Ldraw : Stmt := topS 20
theorem sc_Ldraw : FnScope ["_law_draws", "_law_limit", "_law_numbers", "_law_at", "_law_cell", "_law_mixed"] ["_law_draws", "_law_limit"] (defScope s_Ldraw) := ⟨rfl, rfl, rfl, by decide +kernel, rfl, by decide +kernel, by decide +kernel⟩
def b_Ldraw : SF Wd :=
  (sSeq (sSet 2 (xV (xIxW (xVar 0) (xInt 0))))
    (sSeq (sSetW (xVar 0) (xInt 1) (x2 gAdd (xIxW (xVar 0) (xInt 1)) (xInt 1)))
    (sSeq (sSet 3 (xV (x2 gMod (xIxW (xVar 0) (xInt 1)) (xLenW (xVar 2)))))
    (sSeq (sSet 4 (xV (xIxW (xVar 2) (xVar 3))))
    (sSeq (sIf (xB asB (x2 gGe (xVar 4) (xInt 1000000000000000000))) (sSeq (sSetW (xVar 2) (xVar 3) (x2 gDiv (xVar 4) (xVar 1)))
    (sRet (x2 gMod (xVar 4) (xVar 1)))) sNil)
    (sSeq (sSet 5 (xV (x2 gMod (x2 gAdd (xVar 4) (x2 gMul (xInt 104729) (xIxW (xVar 0) (xInt 1)))) (xInt 4294967291))))
    (sSeq (sSet 5 (xV (x2 gMod (x2 gPow (xVar 5) (xInt 5)) (xInt 4294967279))))
    (sRet (x2 gMod (x2 gDiv (x2 gMod (x2 gAdd (x2 gMul (x2 gDiv (xVar 5) (xInt 64)) (xInt 69621)) (xVar 5)) (xInt 4294967231)) (xInt 8)) (xVar 1))))))))))
def f_Ldraw : FZ Wd := runZ 6 b_Ldraw
theorem k_Ldraw (D : Df K mg "_law_draw" s_Ldraw) (B : Bt mg) : Kp P w K mg base cls WW "_law_draw" 1 2 f_Ldraw :=
  kpZ (k := 0) (N := ["_law_draws", "_law_limit", "_law_numbers", "_law_at", "_law_cell", "_law_mixed"]) (ps := ["_law_draws", "_law_limit"]) D sc_Ldraw (fun _ _ _ _ _ _ us hl => match us, hl with | [_, _], _ => rfl) fun f cdv A outer s H E e ke hr =>
    (ss_cons (ss_set (i := 2) ke sc_Ldraw.nd rfl (Or.inl rfl) (x_v (s_ixW ke (sv 0) s_int)))
    (ss_cons (ss_setW ke (sv 0) s_int (s_bin ke og_add (s_ixW ke (sv 0) s_int) s_int))
    (ss_cons (ss_set (i := 3) ke sc_Ldraw.nd rfl (Or.inl rfl) (x_v (s_bin ke og_mod (s_ixW ke (sv 0) s_int) (s_lenW ke B.len (sv 2)))))
    (ss_cons (ss_set (i := 4) ke sc_Ldraw.nd rfl (Or.inl rfl) (x_v (s_ixW ke (sv 2) (sv 3))))
    (ss_cons (ss_if ke (st_cmp ke og_ge (sv 4) s_int (nomark _)) (ss_cons (ss_setW ke (sv 2) (sv 3) (s_bin ke og_div (sv 4) (sv 1)))
    (ss_one (ss_ret ke (s_bin ke og_mod (sv 4) (sv 1))))) ss_nil)
    (ss_cons (ss_set (i := 5) ke sc_Ldraw.nd rfl (Or.inl rfl) (x_v (s_bin ke og_mod (s_bin ke og_add (sv 4) (s_bin ke og_mul s_int (s_ixW ke (sv 0) s_int))) s_int)))
    (ss_cons (ss_set (i := 5) ke sc_Ldraw.nd rfl (Or.inl rfl) (x_v (s_bin ke og_mod (s_bin ke og_pow (sv 5) s_int) s_int)))
    (ss_one (ss_ret ke (s_bin ke og_mod (s_bin ke og_div (s_bin ke og_mod (s_bin ke og_add (s_bin ke og_mul (s_bin ke og_div (sv 5) s_int) s_int) (sv 5)) s_int) s_int) (sv 1)))))))))))
/-! ## law -/
abbrev s_law : Stmt := topS 21
theorem sc_law : FnScope ["_law_script", "_law_draws", "_law_rows", "_law_wide", "_law_left", "_law_columns", "_law_j", "_law_part", "_law_good", "_law_most", "_law_cut", "_law_some", "_law_far", "_law_asked", "_law_given_all", "_law_least", "_law_table", "_law_k", "_law_row"] ["_law_script"] (defScope s_law) := ⟨rfl, rfl, rfl, by decide +kernel, rfl, by decide +kernel, by decide +kernel⟩
def b_law_8 : SF Wd :=
  (sSet 4 (xV (x2 gSub (xVar 4) (xVar 7))))
def b_law_7 : SF Wd :=
  (sSeq (sApp 5 (xVar 7))
    b_law_8)
def b_law_6 : SF Wd :=
  (sSeq (sSet 7 (xV (xIf (xB asB (x2 gEq (xVar 6) (x2 gSub (xVar 3) (xInt 1)))) (xN gMin (lCons (xInt 27) (lCons (xVar 4) lNil))) (xCall f_Ldraw (lCons (xVar 1) (lCons (x2 gAdd (xN gMin (lCons (xInt 27) (lCons (xVar 4) lNil))) (xInt 1)) lNil))))))
    b_law_7)
def b_law_15 : SF Wd :=
  (sIf (xB asB (x2 (gIs true) (xVar 10) xNon)) (sSeq (sAsg (zT 2 (zCons (zN 11) (zCons (zN 12) zNil))) (xVar 10))
    (sSeq (sPar2 13 14 (xV (xN gSum (lCons (xLc (iOf seqOf (xVar 11)) (zN 17) bYes (x2 gIx (xVar 2) (xVar 17)) [17]) lNil))) (xV (xN gSum (lCons (xLc (iOf seqOf (xVar 12)) (zN 6) bYes (x2 gIx (xVar 5) (xVar 6)) [6]) lNil))))
    (sIf (bOr (xB asB (x2 gLe (xVar 13) (x2 gAdd (xVar 14) (x2 gMul (x2 gMul (xVar 9) (xN gLen (lCons (xVar 11) lNil))) (x2 gSub (xVar 3) (xN gLen (lCons (xVar 12) lNil))))))) (xB asB (x2 gEq (xVar 11) (xN gList lNil)))) (sRet (xBl false)) sNil))) sNil)
def b_law_14 : SF Wd :=
  (sSeq (sIf (xB asB (x2 gNe (x2 (gIs false) (xVar 10) xNon) (x2 (gIn false) (xVar 9) (xVar 8)))) (sRet (xBl false)) sNil)
    b_law_15)
def b_law_13 : SF Wd :=
  (sSeq (sSet 10 (xV (xCall (liftZ f_first_cut) (lCons (xVar 2) (lCons (xVar 5) (lCons (xVar 9) lNil))))))
    b_law_14)
def b_law_17 : SF Wd :=
  (sRet (xAnd (x2 (gIs false) (xCall (liftZ f_can_be) (lCons (xN gList (lCons (xInt 0) lNil)) (lCons (xN gList (lCons (xInt 0) lNil)) (lCons (xInt 0) lNil)))) (xBl true)) (xAnd (x2 gEq (xCall (liftM f_count_tables) (lCons (xN gList (lCons (xInt 0) (lCons (xInt 0) lNil))) (lCons (xN gList (lCons (xInt 0) lNil)) (lCons (xInt 0) lNil)))) (xInt 1)) (x2 (gIs false) (xCall (liftZ f_can_be) (lCons (xN gList (lCons (xInt 1) lNil)) (lCons (xN gList (lCons (xInt 0) lNil)) (lCons (xInt 9) lNil)))) (xBl false)))))
def b_law_16 : SF Wd :=
  (sSeq (sIf (xB asB (x2 gNe (xVar 8) (xN gList lNil))) (sSeq (sSet 15 (xV (x2 gIx (xVar 8) (xInt 0))))
    (sSeq (sSet 16 (xV (xCall (liftM f_table_at) (lCons (xVar 2) (lCons (xVar 5) (lCons (xVar 15) (lCons (xInt 0) lNil)))))))
    (sSeq (sIf (bOr (xB asB (x2 gNe (xN gMax (lCons (xLc (iOf seqOf (xVar 16)) (zN 18) bYes (xN gMax (lCons (xVar 18) lNil)) [18]) lNil)) (xVar 15))) (xB asB (x2 (gIs true) (xCall (liftZ f_can_be) (lCons (xVar 5) (lCons (xVar 2) (lCons (xVar 15) lNil)))) (xBl true)))) (sRet (xBl false)) sNil)
    (sIf (bOr (xB asB (x2 (gIs true) (xCall (liftZ f_can_be) (lCons (x1 gRev (xVar 2)) (lCons (x1 gRev (xVar 5)) (lCons (xVar 15) lNil)))) (xBl true))) (xB asB (x2 gLt (xCall (liftM f_count_tables) (lCons (xVar 2) (lCons (xVar 5) (lCons (xVar 15) lNil)))) (xInt 1)))) (sRet (xBl false)) sNil)))) sNil)
    b_law_17)
def b_law_12 : SF Wd :=
  (sSeq (sFor (iOf rgOf1 (xInt 10)) (zN 9) b_law_13)
    b_law_16)
def b_law_11 : SF Wd :=
  (sSeq (sIf (xB asB (x2 gNe (xVar 8) (xLc (iOf rgOf1 (xInt 10)) (zN 9) (bAnd (xB asB (x2 gNe (xVar 8) (xN gList lNil))) (xB asB (x2 gGe (xVar 9) (x2 gIx (xVar 8) (xInt 0))))) (xVar 9) [9]))) (sRet (xBl false)) sNil)
    b_law_12)
def b_law_10 : SF Wd :=
  (sSeq (sSet 8 (xV (xLc (iOf rgOf1 (xInt 10)) (zN 9) (xB asB (x2 (gIs false) (xCall (liftZ f_can_be) (lCons (xVar 2) (lCons (xVar 5) (lCons (xVar 9) lNil)))) (xBl true))) (xVar 9) [9])))
    b_law_11)
def b_law_9 : SF Wd :=
  (sFrz 5 (sSeq (sIf (xB asB (x2 gNe (xVar 4) (xInt 0))) (sRet (x2 (gIs false) (xCall (liftZ f_can_be) (lCons (xVar 2) (lCons (xVar 5) (lCons (xInt 9) lNil)))) (xBl false))) sNil)
    b_law_10))
def b_law_5 : SF Wd :=
  (sSeq (sFor (iOf rgOf1 (xVar 3)) (zN 6) b_law_6)
    b_law_9)
def b_law_4 : SF Wd :=
  (sSeq (sSet 5 (xOwn lNil))
    b_law_5)
def b_law_3 : SF Wd :=
  (sSeq (sSet 4 (xV (xN gSum (lCons (xVar 2) lNil))))
    b_law_4)
def b_law_2 : SF Wd :=
  (sSeq (sSet 3 (xV (x2 gAdd (xInt 1) (xCall f_Ldraw (lCons (xVar 1) (lCons (xInt 3) lNil))))))
    b_law_3)
def b_law_1 : SF Wd :=
  (sSeq (sSet 2 (xV (xLc (iOf rgOf1 (x2 gAdd (xInt 1) (xCall f_Ldraw (lCons (xVar 1) (lCons (xInt 3) lNil))))) (zN 17) bYes (xCall f_Ldraw (lCons (xVar 1) (lCons (xInt 10) lNil))) [17])))
    b_law_2)
def b_law_0 : SF Wd :=
  (sSeq (sSet 1 (xV (xCall f_Lstart (lCons (xVar 0) lNil))))
    b_law_1)
def b_law : SF Wd :=
  b_law_0
def f_law : FZ Wd := runZ 19 b_law
theorem fn_law {f : Addr} {fd : FuncData} (F : Fun K "law" "law" s_law f fd) (B : Bt mg) (h_Lstart : Kp P w K mg base cls WW "_law_start" 1 1 f_Lstart) (h_Ldraw : Kp P w K mg base cls WW "_law_draw" 1 2 f_Ldraw) (h_can_be : Kp P w K mg base cls W0 "can_be" 4 3 f_can_be) (h_first_cut : Kp P w K mg base cls W0 "first_cut" 4 3 f_first_cut) (h_table_at : Kp P w K mg base cls (WM P w) "table_at" 23 4 f_table_at) (h_count_tables : Kp P w K mg base cls (WM P w) "count_tables" 23 3 f_count_tables) : FnOk P w K mg base (L2.CX P w) 24 f fd ["_law_script"] (spZ cls K WW 1 f_law) :=
  okZ (k := 23) (N := ["_law_script", "_law_draws", "_law_rows", "_law_wide", "_law_left", "_law_columns", "_law_j", "_law_part", "_law_good", "_law_most", "_law_cut", "_law_some", "_law_far", "_law_asked", "_law_given_all", "_law_least", "_law_table", "_law_k", "_law_row"]) (ps := ["_law_script"]) F sc_law fun cdv A outer s H E e ke hr =>
    (ss_cons (ss_set (i := 1) ke sc_law.nd rfl (Or.inr rfl) (x_v (s_callK ke h_Lstart (hr.mono (by decide)) (takes_of rfl rfl rfl rfl) (sa_cons ke (sv 0) sa_nil) (ln_cons ln_nil))))
    (ss_cons (ss_set (i := 2) ke sc_law.nd rfl (Or.inr rfl) (x_v (s_lc ke rfl sc_law.nd (pi_strong (si_range1 ke B.range (s_bin ke og_add s_int (s_callK ke h_Ldraw (hr.mono (by decide)) (takes_of rfl rfl rfl rfl) (sa_cons ke (sv 1) (sa_cons ke s_int sa_nil)) (ln_cons (ln_cons ln_nil)))))) (blkOk_by (own := [("_law_k", 17)]) rfl) (fun _ _ _ _ _ => (pg_name (i := 17) sc_law.nd rfl (Or.inl rfl))) t3_name (fun _ _ _ _ _ => sts_nil) (fun _ _ _ _ _ => (s_callK ke h_Ldraw (hr.mono (by decide)) takes0 (sa_cons ke (sv 1) (sa_cons ke s_int sa_nil)) (ln_cons (ln_cons ln_nil)))))))
    (ss_cons (ss_set (i := 3) ke sc_law.nd rfl (Or.inl rfl) (x_v (s_bin ke og_add s_int (s_callK ke h_Ldraw (hr.mono (by decide)) (takes_of rfl rfl rfl rfl) (sa_cons ke (sv 1) (sa_cons ke s_int sa_nil)) (ln_cons (ln_cons ln_nil))))))
    (ss_cons (ss_set (i := 4) ke sc_law.nd rfl (Or.inl rfl) (x_v (s_callB ke (cg_sum rfl) B.sum bt_sum (sa_cons ke (sv 2) sa_nil))))
    (ss_cons (ss_set (i := 5) ke sc_law.nd rfl (Or.inr rfl) (x_own ke sa_nil))
    (ss_cons (ss_for (vs := [6]) ke PassesOwn.leaving rfl (si_range1 ke B.range (sv 3)) (pg_name (i := 6) sc_law.nd rfl (Or.inl rfl)) t3_name (ss_cons (ss_set (i := 7) ke sc_law.nd rfl (Or.inl rfl) (x_v (s_if ke (st_cmp ke (og_eq hr.units) (sv 6) (s_bin ke og_sub (sv 3) s_int) (nomark _)) (s_callB ke (cg_min rfl) B.min bt_min (sa_cons ke s_int (sa_cons ke (sv 4) sa_nil))) (s_callK ke h_Ldraw (hr.mono (by decide)) (takes_of rfl rfl rfl rfl) (sa_cons ke (sv 1) (sa_cons ke (s_bin ke og_add (s_callB ke (cg_min rfl) B.min bt_min (sa_cons ke s_int (sa_cons ke (sv 4) sa_nil))) s_int) sa_nil)) (ln_cons (ln_cons ln_nil))))))
    (ss_cons (ss_app (to := tVar 5) ke (L2.pv 5) (sv 7))
    (ss_one (ss_set (i := 4) ke sc_law.nd rfl (Or.inl rfl) (x_v (s_bin ke og_sub (sv 4) (sv 7))))))))
    (ss_frz (i := 5) (ss_cons (ss_if ke (st_cmp ke (og_ne hr.units) (sv 4) s_int (nomark _)) (ss_one (ss_ret ke (s_cmp ke og_is (s_callK ke h_can_be.lift (hr.mono (by decide)) (takes_of rfl rfl rfl rfl) (sa_cons ke (sv 2) (sa_cons ke (sv 5) (sa_cons ke s_int sa_nil))) (ln_cons (ln_cons (ln_cons ln_nil)))) s_bl (nomark _)))) ss_nil)
    (ss_cons (ss_set (i := 8) ke sc_law.nd rfl (Or.inr rfl) (x_v (s_lc ke rfl sc_law.nd (pi_strong (si_range1 ke B.range s_int)) (blkOk_by (own := [("_law_most", 9)]) rfl) (fun _ _ _ _ _ => (pg_name (i := 9) sc_law.nd rfl (Or.inl rfl))) t3_name (fun _ _ _ _ _ => (pts_one (st_cmp ke og_is (s_callK ke h_can_be.lift (hr.mono (by decide)) takes0 (sa_cons ke (sv 2) (sa_cons ke (sv 5) (sa_cons ke (sv 9) sa_nil))) (ln_cons (ln_cons (ln_cons ln_nil)))) s_bl (nomark _)))) (fun _ _ _ _ _ => (sv 9)))))
    (ss_cons (ss_if ke (st_cmp ke (og_ne hr.units) (sv 8) (s_lc ke rfl sc_law.nd (pi_strong (si_range1 ke B.range s_int)) (blkOk_by (own := [("_law_most", 9)]) rfl) (fun _ _ _ _ _ => (pg_name (i := 9) sc_law.nd rfl (Or.inl rfl))) t3_name (fun _ _ _ _ _ => (pts_one (sw_and ke (st_cmp ke (og_ne hr.units) (sv 8) (s_list ke sa_nil) (nomark _)) (pw_and1 (st_cmp ke og_ge (sv 9) (s_ix ke (sv 8) s_int) (nomark _)))).pt)) (fun _ _ _ _ _ => (sv 9))) (nomark _)) (ss_one (ss_ret ke s_bl)) ss_nil)
    (ss_cons (ss_for (vs := [9]) ke PassesOwn.leaving rfl (si_range1 ke B.range s_int) (pg_name (i := 9) sc_law.nd rfl (Or.inl rfl)) t3_name (ss_cons (ss_set (i := 10) ke sc_law.nd rfl (Or.inl rfl) (x_v (s_callK ke h_first_cut.lift (hr.mono (by decide)) (takes_of rfl rfl rfl rfl) (sa_cons ke (sv 2) (sa_cons ke (sv 5) (sa_cons ke (sv 9) sa_nil))) (ln_cons (ln_cons (ln_cons ln_nil))))))
    (ss_cons (ss_if ke (st_cmp ke (og_ne hr.units) (s_cmp ke og_is (sv 10) s_non (nomark _)) (s_cmp ke (og_in hr.units) (sv 9) (sv 8) (by rfl)) (nomark _)) (ss_one (ss_ret ke s_bl)) ss_nil)
    (ss_one (ss_if ke (st_cmp ke og_isNot (sv 10) s_non (nomark _)) (ss_cons (ss_asg (vs := [11, 12]) ke (sv 10) (pg_tup rfl (pgs_cons (pg_name (i := 11) sc_law.nd rfl (Or.inl rfl)) (pgs_cons (pg_name (i := 12) sc_law.nd rfl (Or.inl rfl)) pgs_nil))) (t3_tup (t3_cons t3_name (t3_cons t3_name t3_nil))))
    (ss_cons (ss_par2 (i := 13) (j := 14) ke rfl sc_law.nd rfl rfl (by decide) rfl rfl (x_v (s_callB ke (cg_sum rfl) B.sum bt_sum (sa_cons ke (s_lc ke rfl sc_law.nd (pi_strong (si_seq ke (sv 11))) (blkOk_by (own := [("_law_k", 17)]) rfl) (fun _ _ _ _ _ => (pg_name (i := 17) sc_law.nd rfl (Or.inl rfl))) t3_name (fun _ _ _ _ _ => sts_nil) (fun _ _ _ _ _ => (s_ix ke (sv 2) (sv 17)))) sa_nil))) (x_v (s_callB ke (cg_sum rfl) B.sum bt_sum (sa_cons ke (s_lc ke rfl sc_law.nd (pi_strong (si_seq ke (sv 12))) (blkOk_by (own := [("_law_j", 6)]) rfl) (fun _ _ _ _ _ => (pg_name (i := 6) sc_law.nd rfl (Or.inl rfl))) t3_name (fun _ _ _ _ _ => sts_nil) (fun _ _ _ _ _ => (s_ix ke (sv 5) (sv 6)))) sa_nil))))
    (ss_one (ss_if ke (sw_or ke (st_cmp ke og_le (sv 13) (s_bin ke og_add (sv 14) (s_bin ke og_mul (s_bin ke og_mul (sv 9) (s_callB ke cg_len B.len bt_len (sa_cons ke (sv 11) sa_nil))) (s_bin ke og_sub (sv 3) (s_callB ke cg_len B.len bt_len (sa_cons ke (sv 12) sa_nil))))) (nomark _)) (pw_or1 (st_cmp ke (og_eq hr.units) (sv 11) (s_list ke sa_nil) (nomark _)))).pt (ss_one (ss_ret ke s_bl)) ss_nil)))) ss_nil)))))
    (ss_cons (ss_if ke (st_cmp ke (og_ne hr.units) (sv 8) (s_list ke sa_nil) (nomark _)) (ss_cons (ss_set (i := 15) ke sc_law.nd rfl (Or.inl rfl) (x_v (s_ix ke (sv 8) s_int)))
    (ss_cons (ss_set (i := 16) ke sc_law.nd rfl (Or.inl rfl) (x_v (s_callK ke h_table_at.liftM (hr.mono (by decide)) (takes_of rfl rfl rfl rfl) (sa_cons ke (sv 2) (sa_cons ke (sv 5) (sa_cons ke (sv 15) (sa_cons ke s_int sa_nil)))) (ln_cons (ln_cons (ln_cons (ln_cons ln_nil)))))))
    (ss_cons (ss_if ke (sw_or ke (st_cmp ke (og_ne hr.units) (s_callB ke (cg_max rfl) B.max bt_max (sa_cons ke (s_lc ke rfl sc_law.nd (pi_strong (si_seq ke (sv 16))) (blkOk_by (own := [("_law_row", 18)]) rfl) (fun _ _ _ _ _ => (pg_name (i := 18) sc_law.nd rfl (Or.inl rfl))) t3_name (fun _ _ _ _ _ => sts_nil) (fun _ _ _ _ _ => (s_callB ke (cg_max rfl) B.max bt_max (sa_cons ke (sv 18) sa_nil)))) sa_nil)) (sv 15) (nomark _)) (pw_or1 (st_cmp ke og_isNot (s_callK ke h_can_be.lift (hr.mono (by decide)) (takes_of rfl rfl rfl rfl) (sa_cons ke (sv 5) (sa_cons ke (sv 2) (sa_cons ke (sv 15) sa_nil))) (ln_cons (ln_cons (ln_cons ln_nil)))) s_bl (nomark _)))).pt (ss_one (ss_ret ke s_bl)) ss_nil)
    (ss_one (ss_if ke (sw_or ke (st_cmp ke og_isNot (s_callK ke h_can_be.lift (hr.mono (by decide)) (takes_of rfl rfl rfl rfl) (sa_cons ke (s_rev ke (sv 2)) (sa_cons ke (s_rev ke (sv 5)) (sa_cons ke (sv 15) sa_nil))) (ln_cons (ln_cons (ln_cons ln_nil)))) s_bl (nomark _)) (pw_or1 (st_cmp ke og_lt (s_callK ke h_count_tables.liftM (hr.mono (by decide)) (takes_of rfl rfl rfl rfl) (sa_cons ke (sv 2) (sa_cons ke (sv 5) (sa_cons ke (sv 15) sa_nil))) (ln_cons (ln_cons (ln_cons ln_nil)))) s_int (nomark _)))).pt (ss_one (ss_ret ke s_bl)) ss_nil))))) ss_nil)
    (ss_one (ss_ret ke (s_and ke (s_cmp ke og_is (s_callK ke h_can_be.lift (hr.mono (by decide)) (takes_of rfl rfl rfl rfl) (sa_cons ke (s_list ke (sa_cons ke s_int sa_nil)) (sa_cons ke (s_list ke (sa_cons ke s_int sa_nil)) (sa_cons ke s_int sa_nil))) (ln_cons (ln_cons (ln_cons ln_nil)))) s_bl (nomark _)) (s_and ke (s_cmp ke (og_eq hr.units) (s_callK ke h_count_tables.liftM (hr.mono (by decide)) (takes_of rfl rfl rfl rfl) (sa_cons ke (s_list ke (sa_cons ke s_int (sa_cons ke s_int sa_nil))) (sa_cons ke (s_list ke (sa_cons ke s_int sa_nil)) (sa_cons ke s_int sa_nil))) (ln_cons (ln_cons (ln_cons ln_nil)))) s_int (nomark _)) (s_one (s_cmp ke og_is (s_callK ke h_can_be.lift (hr.mono (by decide)) (takes_of rfl rfl rfl rfl) (sa_cons ke (s_list ke (sa_cons ke s_int sa_nil)) (sa_cons ke (s_list ke (sa_cons ke s_int sa_nil)) (sa_cons ke s_int sa_nil))) (ln_cons (ln_cons (ln_cons ln_nil)))) s_bl (nomark _)))))))))))))))))))
end
end Z

set_option Elab.async false
set_option linter.all false
set_option maxRecDepth 100000
set_option maxHeartbeats 2000000
namespace Z
open PySem
theorem p_is_int (v lo hi : Int) (w : Unit) : f_is_int [pv v, pv lo, pv hi] w = .ok (pv (decide (lo ≤ v) && decide (v ≤ hi))) w := by
  unfold f_is_int b_is_int
  simp (disch := (first | assumption | decide | omega | (simp only [List.length_map, List.length_append, List.length_cons, List.length_nil, List.length_range, len_rg, len_enum, len_cut1]; first | assumption | omega) | (simp only [List.length_map, List.length_append, List.length_cons, List.length_nil, List.length_range, len_rg, len_enum, len_cut1, lim] at *; omega))) only [run_ev, runD_nx, runD_rt, runD_exc, runD_ite, sSeq_ev, seqD_nx, seqD_rt, seqD_exc, seqD_ite, sIf_ev, ifD_ev, xAnd_ev, xOr_ev, xChain_ev, andD_ev, orD_ev, i_and, i_or, i_ff, lim_if, lim_if2, lim_ifL, xOwn_nil, Nat.reduceAdd, Nat.reduceSub, Int.reduceEq, Int.reduceLT, Int.reduceLE, Nat.reduceLT, Nat.reduceLeDiff, Nat.zero_add, Bool.false_eq_true, decide_false, decide_true, reduceCtorEq,  i_andP, i_orP, i_ok, i_pv, t_ii, t_ib, t_il, t_it, t_bi, t_bb, t_bl, t_bt, t_li, t_lb, t_ll, t_lt, t_ti, t_tb, t_tl, t_tt, sRet, sNil, sDrop, sAsg, sRaise, xIf, x2, x1, xN, xCall, xSl, oEv, xLc, wipeZ, iOf, iOf2, xB, bAnd, bOr, bNot, bYes, lNil, lCons, sSet, xV, sFrz, sPar2, sPar3, r_bind, r_bindX, r_bindB, r_calm, r_opt, r_optB, r_int, r_bl, r_non, xVar, e_eq, e_ne, e_add, e_sub, e_cat, e_mul, e_div, e_mod, e_neg, e_not, e_lt, e_le, e_gt, e_ge, e_isB, e_asB, e_truB, e_truI, e_asI, e_oInt, e_asP, e_listOf0, e_lstOf, sExt, sApp, sFor, e_isiI, e_isiB, e_isiL, e_isiP, e_len, e_lenP, e_sum, e_max, e_min, e_max2, e_min2, e_min3, e_all, e_anyI, e_anyB, e_l1, e_l2, e_l3, e_t2, keepD_pv, keepD_p, tzD_some, e_t3, e_asPp, e_zT3, e_listL, e_ix, e_ixP0, e_ixP1, e_sl, e_rev, e_in, e_seq, e_rg, e_en, e_zp, e_zN, e_zT, e_zCons, e_zNil, e_pl, e_noObj, e_noObjP, lift_ev, liftD_ok, liftD_exc, List.all_cons, List.all_nil, iOwn, lcGo_map, lcS_pure, lcS_filt, Option.bind_some, Option.map_some, List.map_cons, List.map_nil, List.length_cons, List.length_nil, List.replicate_succ, List.replicate_zero, List.cons_append, List.nil_append, List.set_cons_zero, List.set_cons_succ, List.getElem?_cons_zero, List.getElem?_cons_succ, Bool.not_true, eq_self, not_true_eq_false, not_false_eq_true, Bool.true_xor, Bool.false_xor, Bool.not_false, Bool.not_not, Bool.true_and, Bool.and_true, Bool.false_and, Bool.and_false, Bool.true_or, Bool.or_true, Bool.or_false, Bool.false_or, decide_eq_true_eq, Bool.not_eq_true', decide_eq_false_iff_not, ne_eq, if_true, if_false, reduceIte, List.getElem?_nil, List.all_map, List.any_map, Function.id_comp, Function.comp_def, id, Bool.decide_eq_false, Bool.decide_eq_true]
abbrev Rows := List (List Int)
/-- a block -/
def isBlock (s : Rows) (lo hi least most : Int) : Bool :=
  decide (lo ≤ s.length) && decide ((s.length : Int) ≤ hi) && (s.all (fun r => decide (lo ≤ r.length) && decide ((r.length : Int) ≤ hi)) && (s.all (fun r => decide ((r.length : Int) = (ixD s 0).length)) && s.all fun r => r.all fun x => decide (least ≤ x) && decide (x ≤ most)))
/-- small enough to be asked -/
def Fit (s : Rows) : Prop := s.length ≤ lim ∧ ∀ r ∈ s, r.length ≤ lim
def isSheet (s : Rows) : Bool := isBlock s 2 4 (-999) 999
def isTable (s : Rows) : Bool := isBlock s 1 3 0 9
structure IsB (s : Rows) (lo hi : Nat) (least most : Int) : Prop where
  n1 : lo ≤ s.length
  n2 : s.length ≤ hi
  m1 : ∀ r ∈ s, lo ≤ r.length
  m2 : ∀ r ∈ s, r.length ≤ hi
  eq : ∀ r ∈ s, r.length = (ixD s 0).length
  en : ∀ r ∈ s, ∀ x ∈ r, least ≤ x ∧ x ≤ most
theorem isBlock_iff (s : Rows) (lo hi : Nat) (least most : Int) : isBlock s lo hi least most = true ↔ IsB s lo hi least most := by
  unfold isBlock
  simp only [Bool.and_eq_true, decide_eq_true_eq, List.all_eq_true]
  constructor
  · rintro ⟨⟨h1, h2⟩, h3, h4, h5⟩
    exact ⟨by omega, by omega, fun r hr => by have := h3 r hr; omega, fun r hr => by have := h3 r hr; omega, fun r hr => by have := h4 r hr; omega, fun r hr x hx => h5 r hr x hx⟩
  · rintro ⟨h1, h2, h3, h4, h5, h6⟩
    exact ⟨⟨by omega, by omega⟩, fun r hr => ⟨by have := h3 r hr; omega, by have := h4 r hr; omega⟩, fun r hr => by have := h5 r hr; omega, fun r hr x hx => h6 r hr x hx⟩
abbrev Sh (s : Rows) : Prop := IsB s 2 4 (-999) 999
abbrev Ta (s : Rows) : Prop := IsB s 1 3 0 9
theorem isSheet_iff (s : Rows) : isSheet s = true ↔ Sh s := isBlock_iff s 2 4 _ _
theorem isTable_iff (s : Rows) : isTable s = true ↔ Ta s := isBlock_iff s 1 3 _ _
theorem IsB.fit {s : Rows} {lo hi : Nat} {a b : Int} (h : IsB s lo hi a b) (hh : hi ≤ 4) : Fit s := ⟨by have := h.n2; unfold lim; omega, fun r hr => by have := h.m2 r hr; unfold lim; omega⟩
def rowGap (r : List Int) : Int := (cut r none (some (-1))).sum - ixD r (-1)
def rowsOf (s : Rows) : List Int := s.map rowGap
def columnsOf (s : Rows) : List Int := (rg 0 (ixD s 0).length).map fun k => rowGap (s.map fun row => ixD row k)
theorem IsB.ix0 {s : Rows} {lo hi : Nat} {a b : Int} (h : IsB s lo hi a b) (hl : 0 < lo) : ixD s 0 ∈ s := ixD_mem (by have := h.n1; omega)
def rightS (s : Rows) : Bool := !(rowsOf s).any (· != 0) && !(columnsOf s).any (· != 0)
/-! inner parts, sums -/
def wrongL (g : List Int) : List Int := ((enum 0 g).filter fun p => decide ¬p.2 = 0).map fun p => p.1
def turned (g : List Int) : List Int := cut g none (some (-1)) ++ [-ixD g (-1)]
/-- with its sums -/
def full (t : Rows) : Rows := t.map (fun row => row ++ [row.sum]) ++ [(rg 0 (ixD (t.map fun row => row ++ [row.sum]) 0).length).map fun k => ((t.map fun row => row ++ [row.sum]).map fun row => ixD row k).sum]
/-- even rows -/
structure Rect (f : Rows) (n m : Nat) : Prop where
  n : f.length = n
  m : ∀ r ∈ f, r.length = m
theorem Rect.ix0 {f : Rows} {n m : Nat} (h : Rect f n m) (hn : 0 < n) : (ixD f 0).length = m := h.m _ (ixD_mem (by have := h.n; omega))
theorem IsB.rect {s : Rows} {lo hi : Nat} {a b : Int} (h : IsB s lo hi a b) : Rect s s.length (ixD s 0).length := ⟨rfl, h.eq⟩
theorem Rect.map {f : Rows} {n m m' : Nat} (h : Rect f n m) (g : List Int → List Int) (hg : ∀ r ∈ f, r.length = m → (g r).length = m') : Rect (f.map g) n m' := ⟨by rw [List.length_map]; exact h.n, fun r hr => by
  obtain ⟨x, hx, rfl⟩ := List.mem_map.mp hr
  exact hg x hx (h.m x hx)⟩
def withSums (f : Rows) : Rows := f ++ [(rg 0 (ixD f 0).length).map fun k => (f.map fun row => ixD row k).sum]
def rowSums (t : Rows) : Rows := t.map fun row => row ++ [row.sum]
theorem full_eq (t : Rows) : full t = withSums (rowSums t) := rfl
theorem rowSums_rect {t : Rows} {n m : Nat} (h : Rect t n m) : Rect (rowSums t) n (m + 1) := h.map _ fun r _ e => by rw [List.length_append, e]; rfl
def inner (s : Rows) : Rows := (cut s none (some (-1))).map fun row => cut row none (some (-1))
def toldSums (s : Rows) : List Int × List Int := ((cut s none (some (-1))).map fun row => ixD row (-1), cut (ixD s (-1)) none (some (-1)))
def resummed (s : Rows) : Rows := full (inner s)
theorem cut_rect {s : Rows} {n m : Nat} (h : Rect s n m) : Rect (cut s none (some (-1))) (n - 1) m := ⟨by rw [len_cut1, h.n], fun r hr => h.m r (mem_cut1 hr)⟩
/-! places -/
def rowPlaces (m : Nat) (k : Int) : List (Int × Int) := (rg 0 m).map fun j => (k, j)
def places (n m : Nat) : List (Int × Int) := (rg 0 n).flatMap (rowPlaces m)
theorem foldl_app {α β : Type} (g : α → List β) : ∀ (xs : List α) (s : List β), xs.foldl (fun s x => s ++ g x) s = s ++ xs.flatMap g
  | [], s => by simp
  | x :: xs, s => by rw [List.foldl_cons, foldl_app g xs, List.flatMap_cons, List.append_assoc]
theorem len_flat {α β : Type} (g : α → List β) (m : Nat) : ∀ (xs : List α), (∀ x ∈ xs, (g x).length ≤ m) → (xs.flatMap g).length ≤ xs.length * m
  | [], _ => by simp
  | x :: xs, h => by
    rw [List.flatMap_cons, List.length_append, List.length_cons, Nat.succ_mul]
    have := h x List.mem_cons_self
    have := len_flat g m xs fun y hy => h y (List.mem_cons_of_mem _ hy)
    omega
theorem len_rowPlaces (m : Nat) (k : Int) : (rowPlaces m k).length = m := by simp [rowPlaces, len_rg]
def rowUnlike (one other : Rows) (m : Nat) (k : Int) : List (Int × Int) := ((rg 0 m).filter fun j => decide ¬ixD (ixD one k) j = ixD (ixD other k) j).map fun j => (k, j)
def unlike (one other : Rows) : List (Int × Int) := (rg 0 one.length).flatMap (rowUnlike one other (ixD one 0).length)
theorem len_rowUnlike (one other : Rows) (m : Nat) (k : Int) : (rowUnlike one other m k).length ≤ m := by
  unfold rowUnlike
  rw [List.length_map]
  refine Nat.le_trans (List.length_filter_le _ _) ?_
  rw [len_rg]; omega
/-! the law's own -/
def lawRight (s : Rows) : Bool := decide ((rowsOf s ++ columnsOf s).filter (fun g => decide ¬g = 0) = [])
/-! changed entries -/
def setRC (s : Rows) (k j v : Int) : Rows := s.set k.toNat ((s.getD k.toNat []).set j.toNat v)
abbrev Chg := List ((Int × Int) × Int)
def put (s : Rows) (cs : Chg) : Rows := cs.foldl (fun s c => setRC s c.1.1 c.1.2 c.2) s
theorem ixN_of {n : Nat} {i : Int} (h : 0 ≤ i ∧ i < n) : L2.ixN n i = some i.toNat := by
  unfold L2.ixN
  rw [if_pos h.1, if_pos h.2]
theorem lcGoO_rows {W : Type} (i : Nat) (δ : Ev) (w : W) (hi : i < δ.length) : ∀ s : Rows, lcGoO (zN i) (xListO (xVar i)) δ (s.map Py.enc) w = .ok (s.map fun r => r.map Py.enc) w
  | [] => rfl
  | r :: s => by
    show lcGoO (zN i) (xListO (xVar i)) δ (Py.enc r :: s.map Py.enc) w = _
    unfold lcGoO
    rw [e_zN, if_pos hi]
    have e1 : xListO (xVar i) (δ.set i (.v (pv r))) w = .ok (.own (r.map Py.enc)) w := by
      unfold xListO xVar
      rw [List.getElem?_set_self hi]; rfl
    dsimp only
    rw [e1]
    dsimp only
    rw [lcGoO_rows i δ w hi s]; rfl
theorem setRC_rect {s : Rows} {n m : Nat} (h : Rect s n m) (k j v : Int) (hk : 0 ≤ k ∧ k < n) : Rect (setRC s k j v) n m := ⟨by unfold setRC; rw [List.length_set]; exact h.n, fun r hr => by
  unfold setRC at hr
  rcases List.mem_or_eq_of_mem_set hr with hr | rfl
  · exact h.m r hr
  · rw [List.length_set]
    have hl : k.toNat < s.length := by have := h.n; omega
    rw [List.getD_eq_getElem?_getD, List.getElem?_eq_getElem hl]
    exact h.m _ (List.getElem_mem hl)⟩
theorem put_rect {n m : Nat} : ∀ (cs : Chg) (s : Rows), Rect s n m → (∀ c ∈ cs, 0 ≤ c.1.1 ∧ c.1.1 < n) → Rect (put s cs) n m
  | [], _, h, _ => h
  | c :: cs, s, h, hc => put_rect cs _ (setRC_rect h _ _ _ (hc c List.mem_cons_self)) fun d hd => hc d (List.mem_cons_of_mem _ hd)
theorem put_snoc (s : Rows) (cs : Chg) (c : (Int × Int) × Int) : put s (cs ++ [c]) = setRC (put s cs) c.1.1 c.1.2 c.2 := by
  unfold put; rw [List.foldl_append]; rfl
theorem e_frz2 (s : Rows) : D.p (.list ((s.map fun r => r.map Py.enc).map PyData.list)) = pv s := by
  rw [List.map_map]; rfl
/-- one stored entry -/
theorem setII_ev {W : Type} {δ : Ev} {w : W} {i : Nat} {k h f : XF W} {s : Rows} {n m : Nat} {a b v : Int} (R : Rect s n m) (hδ : δ[i]? = some (.own2 (s.map fun r => r.map Py.enc))) (e1 : f δ w = .ok (pv v) w) (e2 : k δ w = .ok (pv a) w) (e3 : h δ w = .ok (pv b) w)
    (ha : 0 ≤ a ∧ a < n) (hb : 0 ≤ b ∧ b < m) : sSetII i k h f δ w = .nx (δ.set i (.own2 ((setRC s a b v).map fun r => r.map Py.enc))) w := by
  have hl : a.toNat < s.length := by have := R.n; omega
  have hr := R.m _ (List.getElem_mem hl)
  have g1 : (s.map fun r => r.map Py.enc).getD a.toNat [] = s[a.toNat].map Py.enc := by
    rw [List.getD_eq_getElem?_getD, List.getElem?_map, List.getElem?_eq_getElem hl]; rfl
  have g2 : s.getD a.toNat [] = s[a.toNat] := by
    rw [List.getD_eq_getElem?_getD, List.getElem?_eq_getElem hl]; rfl
  unfold sSetII
  rw [hδ]
  dsimp only
  rw [e1]
  dsimp only
  rw [e2]
  dsimp only
  rw [e_asI]
  show (match L2.ixN (s.map fun r => r.map Py.enc).length a with
    | some j => _
    | none => _) = _
  rw [List.length_map, R.n, ixN_of ha]
  dsimp only
  rw [e3]
  dsimp only
  rw [e_asI, e_asP, g1]
  show (match some (Py.enc v), L2.ixN (s[a.toNat].map Py.enc).length b with
    | some p, some l => _
    | _, _ => _) = _
  rw [List.length_map, hr, ixN_of hb]
  dsimp only
  unfold setRC
  rw [g2, List.map_set, List.map_set]
/-! the draws -/
def Gd (w : Wd) : Prop := ∃ ns n, w = some (ns, n) ∧ ns ≠ []
theorem w_start (ns : List Int) : ∃ w', f_Lstart [.scr ns] none = .ok (.obj 0) w' ∧ Gd w' := by
  cases ns with
  | nil => exact ⟨some ([0], 0), rfl, [0], 0, rfl, by simp⟩
  | cons x r =>
    refine ⟨some (x :: r, 0), ?_, _, _, rfl, by simp⟩
    have e1 : ints? (.int x :: r.map PyData.int) = some (x :: r) := ints?_map (x :: r)
    have e2 : gNeS (.scr (x :: r)) (.p (.list [])) = some (pv true) := by
      show (if eqOk (.list (.int x :: r.map .int)) (.list []) = true then some (D.p (.bool (!PyData.eqv (.list (.int x :: r.map .int)) (.list [])))) else none) = _
      have e3 : eqOk (.list (.int x :: r.map .int)) (.list []) = true := eqOk_pv (x :: r) ([] : List Int) (by decide)
      rw [if_pos e3]
      have e4 : PyData.eqv (.list (.int x :: r.map .int)) (.list []) = false := by simp [PyData.eqv, PyData.eqvAll]
      rw [e4]; rfl
    unfold f_Lstart b_Lstart
    simp (disch := (first | assumption | decide | omega | (simp only [List.length_map, List.length_append, List.length_cons, List.length_nil, List.length_range, len_rg, len_enum, len_cut1]; first | assumption | omega) | (simp only [List.length_map, List.length_append, List.length_cons, List.length_nil, List.length_range, len_rg, len_enum, len_cut1, lim] at *; omega))) only [run_ev, runD_nx, runD_rt, runD_exc, runD_ite, sSeq_ev, seqD_nx, seqD_rt, seqD_exc, seqD_ite, sIf_ev, ifD_ev, xAnd_ev, xOr_ev, xChain_ev, andD_ev, orD_ev, i_and, i_or, i_ff, lim_if, lim_if2, lim_ifL, xOwn_nil, Nat.reduceAdd, Nat.reduceSub, Int.reduceEq, Int.reduceLT, Int.reduceLE, Nat.reduceLT, Nat.reduceLeDiff, Nat.zero_add, Bool.false_eq_true, decide_false, decide_true, reduceCtorEq,  i_andP, i_orP, i_ok, i_pv, t_ii, t_ib, t_il, t_it, t_bi, t_bb, t_bl, t_bt, t_li, t_lb, t_ll, t_lt, t_ti, t_tb, t_tl, t_tt, sRet, sNil, sDrop, sAsg, sRaise, xIf, x2, x1, xN, xCall, xSl, oEv, xLc, wipeZ, iOf, iOf2, xB, bAnd, bOr, bNot, bYes, lNil, lCons, sSet, xV, sFrz, sPar2, sPar3, r_bind, r_bindX, r_bindB, r_calm, r_opt, r_optB, r_int, r_bl, r_non, xVar, e_eq, e_ne, e_add, e_sub, e_cat, e_mul, e_div, e_mod, e_neg, e_not, e_lt, e_le, e_gt, e_ge, e_isB, e_asB, e_truB, e_truI, e_asI, e_oInt, e_asP, e_listOf0, e_lstOf, sExt, sApp, sFor, e_isiI, e_isiB, e_isiL, e_isiP, e_len, e_lenP, e_sum, e_max, e_min, e_max2, e_min2, e_min3, e_all, e_anyI, e_anyB, e_l1, e_l2, e_l3, e_t2, keepD_pv, keepD_p, tzD_some, e_t3, e_asPp, e_zT3, e_listL, e_ix, e_ixP0, e_ixP1, e_sl, e_rev, e_in, e_seq, e_rg, e_en, e_zp, e_zN, e_zT, e_zCons, e_zNil, e_pl, e_noObj, e_noObjP, lift_ev, liftD_ok, liftD_exc, List.all_cons, List.all_nil, iOwn, lcGo_map, lcS_pure, lcS_filt, Option.bind_some, Option.map_some, List.map_cons, List.map_nil, List.length_cons, List.length_nil, List.replicate_succ, List.replicate_zero, List.cons_append, List.nil_append, List.set_cons_zero, List.set_cons_succ, List.getElem?_cons_zero, List.getElem?_cons_succ, Bool.not_true, eq_self, not_true_eq_false, not_false_eq_true, Bool.true_xor, Bool.false_xor, Bool.not_false, Bool.not_not, Bool.true_and, Bool.and_true, Bool.false_and, Bool.and_false, Bool.true_or, Bool.or_true, Bool.or_false, Bool.false_or, decide_eq_true_eq, Bool.not_eq_true', decide_eq_false_iff_not, ne_eq, if_true, if_false, reduceIte, List.getElem?_nil, List.all_map, List.any_map, Function.id_comp, Function.comp_def, id, Bool.decide_eq_false, Bool.decide_eq_true, sStart, xIfX, e_nil, e2, xListS, e1]
theorem g_ix00 (ns : List Int) (n : Int) : gIxW (.obj 0) (pv (0 : Int)) (some (ns, n)) = some (.obj 1) := rfl
theorem g_ix01 (ns : List Int) (n : Int) : gIxW (.obj 0) (pv (1 : Int)) (some (ns, n)) = some (pv n) := rfl
theorem g_ix1 (ns : List Int) (n i : Int) (h : 0 ≤ i ∧ i < ns.length) : gIxW (.obj 1) (pv i) (some (ns, n)) = some (pv (ixD ns i)) := by
  have hl : i.toNat < ns.length := by omega
  show ((L2.atI ns i).map fun m => D.p (.int m)) = some (pv ((L2.atI ns i).getD default))
  unfold L2.atI
  rw [ixN_of h]
  show ((ns[i.toNat]?).map fun m => D.p (.int m)) = some (pv ((ns[i.toNat]?).getD default))
  rw [List.getElem?_eq_getElem hl]; rfl
theorem g_up0 (ns : List Int) (n m : Int) : upW (pv m) (.obj 0) (pv (1 : Int)) (some (ns, n)) = some (some (ns, m)) := rfl
theorem g_up1 (ns : List Int) (n m i : Int) (h : 0 ≤ i ∧ i < ns.length) : upW (pv m) (.obj 1) (pv i) (some (ns, n)) = some (some (ns.set i.toNat m, n)) := by
  show ((L2.ixN ns.length i).map fun j => some (ns.set j m, n)) = _
  rw [ixN_of h]; rfl
theorem g_len (ns : List Int) (n : Int) : gLenW (.obj 1) (some (ns, n)) = some (pv (ns.length : Int)) := rfl
theorem e_pow5 (a : Int) (h : a.natAbs < 2 ^ 64) : gPow (pv a) (pv (5 : Int)) = some (pv (a ^ 5)) := by
  show (if cPow a 5 = true then some (D.p (.int (a ^ 5))) else none) = _
  rw [if_pos (by simp [cPow]; exact h)]; rfl
theorem w_draw (L : Int) (h0 : 0 < L) (h1 : L < 1073741824) (w : Wd) (g : Gd w) : ∃ (r : Int) (w' : Wd), f_Ldraw [.obj 0, pv L] w = .ok (pv r) w' ∧ (0 ≤ r ∧ r < L) ∧ Gd w' := by
  obtain ⟨ns, n, rfl, hn⟩ := g
  have hl : 0 < ns.length := List.length_pos_iff.mpr hn
  have hk : 0 ≤ (n + 1) % (ns.length : Int) ∧ (n + 1) % (ns.length : Int) < ns.length := ⟨Int.emod_nonneg _ (by omega), Int.emod_lt_of_pos _ (by omega)⟩
  by_cases hc : 1000000000000000000 ≤ ixD ns ((n + 1) % (ns.length : Int))
  · refine ⟨ixD ns ((n + 1) % (ns.length : Int)) % L, some (ns.set ((n + 1) % (ns.length : Int)).toNat (ixD ns ((n + 1) % (ns.length : Int)) / L), n + 1), ?_, ⟨Int.emod_nonneg _ (by omega), Int.emod_lt_of_pos _ h0⟩, _, _, rfl, fun z => hn (by simpa using z)⟩
    unfold f_Ldraw b_Ldraw
    simp (disch := (first | assumption | decide | omega | (simp only [List.length_map, List.length_append, List.length_cons, List.length_nil, List.length_range, len_rg, len_enum, len_cut1]; first | assumption | omega) | (simp only [List.length_map, List.length_append, List.length_cons, List.length_nil, List.length_range, len_rg, len_enum, len_cut1, lim] at *; omega))) only [run_ev, runD_nx, runD_rt, runD_exc, runD_ite, sSeq_ev, seqD_nx, seqD_rt, seqD_exc, seqD_ite, sIf_ev, ifD_ev, xAnd_ev, xOr_ev, xChain_ev, andD_ev, orD_ev, i_and, i_or, i_ff, lim_if, lim_if2, lim_ifL, xOwn_nil, Nat.reduceAdd, Nat.reduceSub, Int.reduceEq, Int.reduceLT, Int.reduceLE, Nat.reduceLT, Nat.reduceLeDiff, Nat.zero_add, Bool.false_eq_true, decide_false, decide_true, reduceCtorEq,  i_andP, i_orP, i_ok, i_pv, t_ii, t_ib, t_il, t_it, t_bi, t_bb, t_bl, t_bt, t_li, t_lb, t_ll, t_lt, t_ti, t_tb, t_tl, t_tt, sRet, sNil, sDrop, sAsg, sRaise, xIf, x2, x1, xN, xCall, xSl, oEv, xLc, wipeZ, iOf, iOf2, xB, bAnd, bOr, bNot, bYes, lNil, lCons, sSet, xV, sFrz, sPar2, sPar3, r_bind, r_bindX, r_bindB, r_calm, r_opt, r_optB, r_int, r_bl, r_non, xVar, e_eq, e_ne, e_add, e_sub, e_cat, e_mul, e_div, e_mod, e_neg, e_not, e_lt, e_le, e_gt, e_ge, e_isB, e_asB, e_truB, e_truI, e_asI, e_oInt, e_asP, e_listOf0, e_lstOf, sExt, sApp, sFor, e_isiI, e_isiB, e_isiL, e_isiP, e_len, e_lenP, e_sum, e_max, e_min, e_max2, e_min2, e_min3, e_all, e_anyI, e_anyB, e_l1, e_l2, e_l3, e_t2, keepD_pv, keepD_p, tzD_some, e_t3, e_asPp, e_zT3, e_listL, e_ix, e_ixP0, e_ixP1, e_sl, e_rev, e_in, e_seq, e_rg, e_en, e_zp, e_zN, e_zT, e_zCons, e_zNil, e_pl, e_noObj, e_noObjP, lift_ev, liftD_ok, liftD_exc, List.all_cons, List.all_nil, iOwn, lcGo_map, lcS_pure, lcS_filt, Option.bind_some, Option.map_some, List.map_cons, List.map_nil, List.length_cons, List.length_nil, List.replicate_succ, List.replicate_zero, List.cons_append, List.nil_append, List.set_cons_zero, List.set_cons_succ, List.getElem?_cons_zero, List.getElem?_cons_succ, Bool.not_true, eq_self, not_true_eq_false, not_false_eq_true, Bool.true_xor, Bool.false_xor, Bool.not_false, Bool.not_not, Bool.true_and, Bool.and_true, Bool.false_and, Bool.and_false, Bool.true_or, Bool.or_true, Bool.or_false, Bool.false_or, decide_eq_true_eq, Bool.not_eq_true', decide_eq_false_iff_not, ne_eq, if_true, if_false, reduceIte, List.getElem?_nil, List.all_map, List.any_map, Function.id_comp, Function.comp_def, id, Bool.decide_eq_false, Bool.decide_eq_true, xIxW, xLenW, sSetW, g_ix00, g_ix01, g_ix1, g_up0, g_up1, g_len, hc]
  · have hm : ∀ x : Int, cMul 104729 x = true := fun x => rfl
    have hm2 : ∀ x : Int, cMul x 69621 = true := fun x => by unfold cMul; simp
    have hx : ∀ x : Int, (x % 4294967291).natAbs < 2 ^ 64 := fun x => by
      have := Int.emod_nonneg x (b := 4294967291) (by decide)
      have := Int.emod_lt_of_pos x (b := 4294967291) (by decide)
      omega
    let y : Int := ((ixD ns ((n + 1) % (ns.length : Int)) + 104729 * (n + 1)) % 4294967291) ^ 5 % 4294967279
    refine ⟨((y / 64 * 69621 + y) % 4294967231 / 8) % L, some (ns, n + 1), ?_, ⟨Int.emod_nonneg _ (by omega), Int.emod_lt_of_pos _ h0⟩, _, _, rfl, hn⟩
    unfold f_Ldraw b_Ldraw
    simp (disch := (first | assumption | decide | omega | (simp only [List.length_map, List.length_append, List.length_cons, List.length_nil, List.length_range, len_rg, len_enum, len_cut1]; first | assumption | omega) | (simp only [List.length_map, List.length_append, List.length_cons, List.length_nil, List.length_range, len_rg, len_enum, len_cut1, lim] at *; omega) | grind)) only [run_ev, runD_nx, runD_rt, runD_exc, runD_ite, sSeq_ev, seqD_nx, seqD_rt, seqD_exc, seqD_ite, sIf_ev, ifD_ev, xAnd_ev, xOr_ev, xChain_ev, andD_ev, orD_ev, i_and, i_or, i_ff, lim_if, lim_if2, lim_ifL, xOwn_nil, Nat.reduceAdd, Nat.reduceSub, Int.reduceEq, Int.reduceLT, Int.reduceLE, Nat.reduceLT, Nat.reduceLeDiff, Nat.zero_add, Bool.false_eq_true, decide_false, decide_true, reduceCtorEq,  i_andP, i_orP, i_ok, i_pv, t_ii, t_ib, t_il, t_it, t_bi, t_bb, t_bl, t_bt, t_li, t_lb, t_ll, t_lt, t_ti, t_tb, t_tl, t_tt, sRet, sNil, sDrop, sAsg, sRaise, xIf, x2, x1, xN, xCall, xSl, oEv, xLc, wipeZ, iOf, iOf2, xB, bAnd, bOr, bNot, bYes, lNil, lCons, sSet, xV, sFrz, sPar2, sPar3, r_bind, r_bindX, r_bindB, r_calm, r_opt, r_optB, r_int, r_bl, r_non, xVar, e_eq, e_ne, e_add, e_sub, e_cat, e_mul, e_div, e_mod, e_neg, e_not, e_lt, e_le, e_gt, e_ge, e_isB, e_asB, e_truB, e_truI, e_asI, e_oInt, e_asP, e_listOf0, e_lstOf, sExt, sApp, sFor, e_isiI, e_isiB, e_isiL, e_isiP, e_len, e_lenP, e_sum, e_max, e_min, e_max2, e_min2, e_min3, e_all, e_anyI, e_anyB, e_l1, e_l2, e_l3, e_t2, keepD_pv, keepD_p, tzD_some, e_t3, e_asPp, e_zT3, e_listL, e_ix, e_ixP0, e_ixP1, e_sl, e_rev, e_in, e_seq, e_rg, e_en, e_zp, e_zN, e_zT, e_zCons, e_zNil, e_pl, e_noObj, e_noObjP, lift_ev, liftD_ok, liftD_exc, List.all_cons, List.all_nil, iOwn, lcGo_map, lcS_pure, lcS_filt, Option.bind_some, Option.map_some, List.map_cons, List.map_nil, List.length_cons, List.length_nil, List.replicate_succ, List.replicate_zero, List.cons_append, List.nil_append, List.set_cons_zero, List.set_cons_succ, List.getElem?_cons_zero, List.getElem?_cons_succ, Bool.not_true, eq_self, not_true_eq_false, not_false_eq_true, Bool.true_xor, Bool.false_xor, Bool.not_false, Bool.not_not, Bool.true_and, Bool.and_true, Bool.false_and, Bool.and_false, Bool.true_or, Bool.or_true, Bool.or_false, Bool.false_or, decide_eq_true_eq, Bool.not_eq_true', decide_eq_false_iff_not, ne_eq, if_true, if_false, reduceIte, List.getElem?_nil, List.all_map, List.any_map, Function.id_comp, Function.comp_def, id, Bool.decide_eq_false, Bool.decide_eq_true, xIxW, xLenW, sSetW, g_ix00, g_ix01, g_ix1, g_up0, g_up1, g_len, hc, hm, hm2, e_pow5, hx]
    rfl
/-! sheets: plain laws -/
theorem cut1_snoc {α : Type} (xs : List α) (x : α) : cut (xs ++ [x]) none (some (-1)) = xs := by
  rw [cut1_eq, List.length_append, List.length_singleton, Nat.add_sub_cancel, List.take_left]
theorem ixD_nat {α : Type} [Inhabited α] (xs : List α) (k : Int) (h : 0 ≤ k ∧ k < xs.length) : ixD xs k = xs[k.toNat]'(by omega) := by
  unfold ixD L2.atI
  rw [ixN_of h]
  show (xs[k.toNat]?).getD default = _
  rw [List.getElem?_eq_getElem (by omega)]; rfl
theorem ixD_last {α : Type} [Inhabited α] (xs : List α) (x : α) : ixD (xs ++ [x]) (-1) = x := by
  unfold ixD
  rw [L2.atI_last]; rfl
theorem snoc_of {α : Type} [Inhabited α] {xs : List α} (h : 0 < xs.length) : xs = cut xs none (some (-1)) ++ [ixD xs (-1)] := by
  have hne : xs ≠ [] := List.length_pos_iff.mp h
  rw [← List.dropLast_concat_getLast hne, cut1_snoc, ixD_last]
theorem ixD_left {α : Type} [Inhabited α] (xs ys : List α) (k : Int) (h : 0 ≤ k ∧ k < xs.length) : ixD (xs ++ ys) k = ixD xs k := by
  rw [ixD_nat xs k h, ixD_nat (xs ++ ys) k (by rw [List.length_append]; omega), List.getElem_append_left (by omega)]
theorem ixD_right {α : Type} [Inhabited α] (xs : List α) (y : α) (k : Int) (h : k = xs.length) : ixD (xs ++ [y]) k = y := by
  subst h
  rw [ixD_nat _ _ (by rw [List.length_append, List.length_singleton]; omega), List.getElem_append_right (by simp)]
  simp
theorem ixD_map {α β : Type} [Inhabited α] [Inhabited β] (f : α → β) (xs : List α) (k : Int) (h : 0 ≤ k ∧ k < xs.length) : ixD (xs.map f) k = f (ixD xs k) := by
  rw [ixD_nat xs k h, ixD_nat _ k (by rw [List.length_map]; exact h), List.getElem_map]
theorem ixD_rg (a b k : Int) (h : 0 ≤ k ∧ k < b - a) : ixD (rg a b) k = a + k := by
  rw [ixD_nat _ _ (by rw [len_rg]; omega)]
  unfold rg
  rw [List.getElem_map, List.getElem_range]
  omega
theorem map_ixD {α : Type} [Inhabited α] (xs : List α) (m : Nat) (h : xs.length = m) : (rg 0 m).map (ixD xs) = xs := by
  subst h
  refine List.ext_getElem (by rw [List.length_map, len_rg]; omega) fun i h1 h2 => ?_
  rw [List.getElem_map]
  have e : (rg 0 (xs.length : Int))[i]'(by rw [len_rg]; omega) = (i : Int) := by
    unfold rg
    rw [List.getElem_map, List.getElem_range]; omega
  rw [e, ixD_nat _ _ (by omega)]
  simp
theorem map_ixD' {α : Type} [Inhabited α] (xs : List α) (m : Nat) (h : m ≤ xs.length) : (rg 0 m).map (ixD xs) = xs.take m := by
  have hl : (xs.take m).length = m := by rw [List.length_take]; omega
  rw [← map_ixD (xs.take m) m hl]
  refine List.map_congr_left fun k hk => ?_
  have hk := mem_rg.mp hk
  rw [ixD_nat _ _ (by omega), ixD_nat _ _ (by omega), List.getElem_take]
theorem rg_snoc (m : Nat) : rg 0 ((m + 1 : Nat) : Int) = rg 0 m ++ [(m : Int)] := by
  unfold rg
  have e1 : (((m + 1 : Nat) : Int) - 0).toNat = m + 1 := by omega
  have e2 : ((m : Int) - 0).toNat = m := by omega
  rw [e1, e2, List.range_succ, List.map_append]
  simp
theorem sum_app (a b : List Int) : (a ++ b).sum = a.sum + b.sum := List.sum_append
theorem sum_one (a : Int) : [a].sum = a := by simp
theorem sum_swap {α β : Type} (g : α → β → Int) (xs : List α) : ∀ f : List β, (xs.map fun k => (f.map fun r => g k r).sum).sum = (f.map fun r => (xs.map fun k => g k r).sum).sum
  | [] => by
    simp only [List.map_nil, List.sum_nil]
    induction xs with
    | nil => rfl
    | cons x xs ih => rw [List.map_cons, List.sum_cons, ih]; rfl
  | r :: f => by
    simp only [List.map_cons, List.sum_cons]
    rw [← sum_swap g xs f]
    induction xs with
    | nil => rfl
    | cons x xs ih =>
      simp only [List.map_cons, List.sum_cons]
      rw [ih]; omega
theorem sum_sub {α : Type} (a b : α → Int) : ∀ xs : List α, (xs.map fun x => a x - b x).sum = (xs.map a).sum - (xs.map b).sum
  | [] => rfl
  | x :: xs => by
    simp only [List.map_cons, List.sum_cons]
    rw [sum_sub a b xs]; omega
theorem rowGap_snoc (r : List Int) (x : Int) : rowGap (r ++ [x]) = r.sum - x := by
  unfold rowGap
  rw [cut1_snoc, ixD_last]
/-- the columns' gaps, the last row apart -/
theorem columns_snoc (f : Rows) (l : List Int) (m : Nat) (R : Rect f f.length m) (hl : l.length = m) : columnsOf (f ++ [l]) = (rg 0 m).map fun k => (f.map fun r => ixD r k).sum - ixD l k := by
  have e0 : (ixD (f ++ [l]) 0).length = m := by
    cases f with
    | nil => exact hl
    | cons a f => rw [ixD_left _ _ _ (by rw [List.length_cons]; omega)]; exact R.m _ (ixD_mem (by rw [List.length_cons]; omega))
  unfold columnsOf
  rw [e0]
  refine List.map_congr_left fun k _ => ?_
  rw [List.map_append, List.map_cons, List.map_nil, rowGap_snoc]
/-- rows and columns have the same common gap -/
theorem gap_eq (s : Rows) (n m : Nat) (R : Rect s n m) (hn : 0 < n) (hm : 0 < m) : (cut (rowsOf s) none (some (-1))).sum - ixD (rowsOf s) (-1) = (cut (columnsOf s) none (some (-1))).sum - ixD (columnsOf s) (-1) := by
  have hs : 0 < s.length := by rw [R.n]; exact hn
  have es := snoc_of hs
  generalize cut s none (some (-1)) = f at es
  generalize ixD s (-1) = l at es
  subst es
  have hl : l.length = m := R.m l (by simp)
  have Rf : Rect f f.length m := ⟨rfl, fun r hr => R.m r (List.mem_append_left _ hr)⟩
  rw [columns_snoc f l m Rf hl]
  obtain ⟨m', rfl⟩ : ∃ m', m = m' + 1 := ⟨m - 1, by omega⟩
  unfold rowsOf
  rw [List.map_append, List.map_cons, List.map_nil, cut1_snoc, ixD_last, rg_snoc, List.map_append, List.map_cons, List.map_nil, cut1_snoc, ixD_last]
  rw [sum_sub (fun k : Int => (f.map fun r => ixD r k).sum) (fun k => ixD l k), sum_swap (fun (k : Int) (r : List Int) => ixD r k)]
  have e1 : ∀ r : List Int, r.length = m' + 1 → ((rg 0 m').map fun k => ixD r k).sum - ixD r m' = rowGap r := fun r hr => by
    have h1 : (rg 0 (m' : Int)).map (fun k => ixD r k) = cut r none (some (-1)) := by
      rw [cut1_eq, hr, Nat.add_sub_cancel]
      exact map_ixD' r m' (by omega)
    have h2 : ixD r (m' : Int) = ixD r (-1) := by
      have := snoc_of (xs := r) (by omega)
      have hc : (cut r none (some (-1))).length = m' := by rw [len_cut1]; omega
      rw [this, ixD_right _ _ _ (by rw [hc]), ixD_last]
    rw [h1, h2]; rfl
  have e2 := e1 l hl
  have e3 : (f.map rowGap).sum = (f.map fun r => ((rg 0 m').map fun k => ixD r k).sum).sum - (f.map fun r => ixD r (m' : Int)).sum := by
    rw [← sum_sub]
    congr 1
    refine List.map_congr_left fun r hr => (e1 r (Rf.m r hr)).symm
  rw [e3, ← e2]
  omega
theorem turned_sum (g : List Int) : (turned g).sum = (cut g none (some (-1))).sum - ixD g (-1) := by
  unfold turned
  rw [sum_app, sum_one]; omega
theorem any_filter (g : List Int) : (!g.any (· != 0)) = decide (g.filter (fun x => decide ¬x = 0) = []) := by
  induction g with
  | nil => rfl
  | cons x g ih =>
    rw [List.any_cons]
    by_cases h : x = 0
    · subst h
      rw [List.filter_cons_of_neg (by simp)]
      simpa using ih
    · rw [List.filter_cons_of_pos (by simpa using h)]
      simp [h]
theorem right_law (s : Rows) : lawRight s = rightS s := by
  unfold lawRight rightS
  rw [any_filter, any_filter, List.filter_append]
  simp [Bool.decide_and]
theorem enum_eq {α : Type} [Inhabited α] (g : List α) : enum 0 g = (rg 0 g.length).map fun k => (k, ixD g k) := by
  have key : ∀ (l pre : List α), enum pre.length l = (rg pre.length ((pre ++ l).length : Int)).map fun k => (k, ixD (pre ++ l) k) := by
    intro l
    induction l with
    | nil =>
      intro pre
      have : rg (pre.length : Int) ((pre ++ []).length : Int) = [] := by
        unfold rg; simp
      rw [this]; rfl
    | cons x l ih =>
      intro pre
      have h1 := ih (pre ++ [x])
      rw [List.append_assoc, List.length_append] at h1
      have e2 : rg (pre.length : Int) ((pre ++ x :: l).length : Int) = (pre.length : Int) :: rg ((pre.length + 1 : Nat) : Int) ((pre ++ x :: l).length : Int) := by
        unfold rg
        have e3 : (((pre ++ x :: l).length : Int) - (pre.length : Int)).toNat = l.length + 1 := by simp; omega
        have e4 : (((pre ++ x :: l).length : Int) - ((pre.length + 1 : Nat) : Int)).toNat = l.length := by simp; omega
        rw [e3, e4, List.range_succ_eq_map, List.map_cons, List.map_map]
        refine congr (congrArg _ (by simp)) (List.map_congr_left fun i _ => ?_)
        show (pre.length : Int) + ((i + 1 : Nat) : Int) = ((pre.length + 1 : Nat) : Int) + (i : Int)
        omega
      rw [e2, List.map_cons]
      show ((pre.length : Int), x) :: enum (pre.length + 1) l = _
      have e5 : ixD (pre ++ x :: l) (pre.length : Int) = x := by
        rw [ixD_nat _ _ (by rw [List.length_append, List.length_cons]; omega), List.getElem_append_right (by simp)]
        simp
      rw [e5]
      congr 1
  have := key g []
  simpa using this
theorem wrong_eq (g : List Int) : wrongL g = (rg 0 g.length).filter fun k => decide ¬ixD g k = 0 := by
  unfold wrongL
  rw [enum_eq, List.filter_map, List.map_map]
  show List.map (fun k : Int => k) _ = _
  rw [List.map_id']
  rfl
/-! sums written out -/
theorem inner_full (t : Rows) : inner (full t) = t := by
  rw [full_eq]
  unfold inner withSums
  rw [cut1_snoc]
  unfold rowSums
  rw [List.map_map]
  have : ((fun row : List Int => cut row none (some (-1))) ∘ fun row => row ++ [row.sum]) = id := by
    funext row
    show cut (row ++ [row.sum]) none (some (-1)) = row
    exact cut1_snoc _ _
  rw [this, List.map_id]
theorem right_full (t : Rows) (n m : Nat) (R : Rect t n m) (hn : 0 < n) : rightS (full t) = true := by
  have Rf := rowSums_rect R
  have R0 := Rf.ix0 hn
  have hc : columnsOf (full t) = (rg 0 ((m + 1 : Nat) : Int)).map fun _ => 0 := by
    rw [full_eq]
    unfold withSums
    rw [columns_snoc _ _ (m + 1) ⟨rfl, Rf.m⟩ (by rw [List.length_map, R0, len_rg]; omega), R0]
    refine List.map_congr_left fun k hk => ?_
    have hk := mem_rg.mp hk
    rw [ixD_map _ _ _ (by rw [len_rg]; omega), ixD_rg _ _ _ (by omega)]
    simp
  have hr : ∀ g ∈ rowsOf (full t), g = 0 := by
    intro g hg
    rw [full_eq] at hg
    unfold rowsOf withSums at hg
    rw [List.map_append, List.mem_append] at hg
    rcases hg with hg | hg
    · unfold rowSums at hg
      rw [List.map_map] at hg
      obtain ⟨r, _, rfl⟩ := List.mem_map.mp hg
      show rowGap (r ++ [r.sum]) = 0
      rw [rowGap_snoc]; omega
    · simp only [List.map_cons, List.map_nil, List.mem_singleton] at hg
      subst hg
      rw [R0, rg_snoc, List.map_append, List.map_cons, List.map_nil, rowGap_snoc, sum_swap (fun (k : Int) (r : List Int) => ixD r k)]
      unfold rowSums
      rw [List.map_map, List.map_map]
      have : (t.map ((fun r => ((rg 0 (m : Int)).map fun k => ixD r k).sum) ∘ fun row => row ++ [row.sum])).sum = (t.map ((fun row => ixD row (m : Int)) ∘ fun row => row ++ [row.sum])).sum := by
        congr 1
        refine List.map_congr_left fun r hr => ?_
        show ((rg 0 (m : Int)).map fun k => ixD (r ++ [r.sum]) k).sum = ixD (r ++ [r.sum]) (m : Int)
        rw [ixD_right _ _ _ (by rw [R.m r hr])]
        have e1 : (rg 0 (m : Int)).map (fun k => ixD (r ++ [r.sum]) k) = r := by
          have h2 := map_ixD' (r ++ [r.sum]) m (by rw [List.length_append, R.m r hr]; omega)
          rw [h2, ← R.m r hr, List.take_left]
        rw [e1]
      rw [this]; omega
  unfold rightS
  rw [hc]
  have h1 : (rowsOf (full t)).any (· != 0) = false := by
    rw [List.any_eq_false]
    intro g hg
    rw [hr g hg]; simp
  rw [h1]
  simp
/-! changed sheets: plain laws -/
open PySem.W (alike dataLt)
theorem sum_bound (a b : Int) : ∀ (xs : List Int), (∀ x ∈ xs, a ≤ x ∧ x ≤ b) → a * xs.length ≤ xs.sum ∧ xs.sum ≤ b * xs.length
  | [], _ => by simp
  | x :: xs, h => by
    have h1 := h x List.mem_cons_self
    have h2 := sum_bound a b xs fun y hy => h y (List.mem_cons_of_mem _ hy)
    rw [List.sum_cons, List.length_cons]
    have e1 : a * ((xs.length + 1 : Nat) : Int) = a * xs.length + a := by push_cast; rw [Int.mul_add, Int.mul_one]
    have e2 : b * ((xs.length + 1 : Nat) : Int) = b * xs.length + b := by push_cast; rw [Int.mul_add, Int.mul_one]
    rw [e1, e2]
    omega
theorem len3 {n : Nat} (h : n ≤ 3) : n = 0 ∨ n = 1 ∨ n = 2 ∨ n = 3 := by omega
theorem sum_bound3 (a b : Int) (ha : a ≤ 0) (hb : 0 ≤ b) (xs : List Int) (hl : xs.length ≤ 3) (h : ∀ x ∈ xs, a ≤ x ∧ x ≤ b) : 3 * a ≤ xs.sum ∧ xs.sum ≤ 3 * b := by
  have := sum_bound a b xs h
  rcases len3 hl with e | e | e | e <;> rw [e] at this <;> omega
theorem full_block (t : Rows) (a b : Int) (ha : a ≤ 0) (hb : 0 ≤ b) (h : IsB t 1 3 a b) : IsB (full t) 2 4 (9 * a) (9 * b) := by
  have R := h.rect
  have R1 := rowSums_rect R
  have h1 := h.n1
  have h2 := h.n2
  have h3 := h.m2 _ (h.ix0 (by decide))
  have h4 := h.m1 _ (h.ix0 (by decide))
  have R0 := R1.ix0 (by omega)
  have hm : ∀ r ∈ full t, r.length = (ixD t 0).length + 1 := fun r hr => by
    rw [full_eq] at hr
    unfold withSums at hr
    rcases List.mem_append.mp hr with hr | hr
    · exact R1.m r hr
    · rw [List.mem_singleton.mp hr, List.length_map, len_rg, R0]; omega
  have hlen : (full t).length = t.length + 1 := by rw [full_eq]; unfold withSums; rw [List.length_append, R1.n]; rfl
  have hrow : ∀ r ∈ rowSums t, ∀ x ∈ r, 3 * a ≤ x ∧ x ≤ 3 * b := fun r hr x hx => by
    unfold rowSums at hr
    obtain ⟨q, hq, rfl⟩ := List.mem_map.mp hr
    rcases List.mem_append.mp hx with hx | hx
    · have := h.en q hq x hx; omega
    · rw [List.mem_singleton.mp hx]
      exact sum_bound3 a b ha hb q (h.m2 q hq) (h.en q hq)
  have h0 : ixD (full t) 0 ∈ full t := ixD_mem (by omega)
  refine ⟨by omega, by omega, fun r hr => by rw [hm r hr]; omega, fun r hr => by rw [hm r hr]; omega, fun r hr => by rw [hm r hr, hm _ h0], fun r hr x hx => ?_⟩
  rw [full_eq] at hr
  unfold withSums at hr
  rcases List.mem_append.mp hr with hr | hr
  · have := hrow r hr x hx; omega
  · rw [List.mem_singleton.mp hr] at hx
    obtain ⟨k, hk, rfl⟩ := List.mem_map.mp hx
    have hk := mem_rg.mp hk
    have := sum_bound3 (3 * a) (3 * b) (by omega) (by omega) ((rowSums t).map fun row => ixD row k) (by rw [List.length_map, R1.n]; exact h2) fun x hx => by
      obtain ⟨r, hr, rfl⟩ := List.mem_map.mp hx
      exact hrow r hr _ (ixD_mem (by rw [R1.m r hr, ← R0]; omega))
    omega
theorem IsB.weak {s : Rows} {lo hi : Nat} {a b c d : Int} (h : IsB s lo hi a b) (h1 : c ≤ a) (h2 : b ≤ d) : IsB s lo hi c d := ⟨h.n1, h.n2, h.m1, h.m2, h.eq, fun r hr x hx => by have := h.en r hr x hx; omega⟩
theorem full_rect (t : Rows) (n m : Nat) (R : Rect t n m) (hn : 0 < n) : Rect (full t) (n + 1) (m + 1) := by
  have R1 := rowSums_rect R
  have R0 := R1.ix0 hn
  refine ⟨by rw [full_eq]; unfold withSums; rw [List.length_append, R1.n]; rfl, fun r hr => ?_⟩
  rw [full_eq] at hr
  unfold withSums at hr
  rcases List.mem_append.mp hr with hr | hr
  · exact R1.m r hr
  · rw [List.mem_singleton.mp hr, List.length_map, len_rg, R0]; omega
/-! an entry by its place -/
def get (s : Rows) (p : Int × Int) : Int := ixD (ixD s p.1) p.2
def InR (n m : Nat) (p : Int × Int) : Prop := (0 ≤ p.1 ∧ p.1 < n) ∧ 0 ≤ p.2 ∧ p.2 < m
theorem get_set {s : Rows} {n m : Nat} (R : Rect s n m) {p q : Int × Int} (v : Int) (hp : InR n m p) (hq : InR n m q) : get (setRC s p.1 p.2 v) q = if q = p then v else get s q := by
  obtain ⟨k, j⟩ := p
  obtain ⟨k', j'⟩ := q
  obtain ⟨⟨a1, a2⟩, a3, a4⟩ := hp
  obtain ⟨⟨b1, b2⟩, b3, b4⟩ := hq
  dsimp only at a1 a2 a3 a4 b1 b2 b3 b4
  have hn := R.n
  have R' := setRC_rect R k j v ⟨a1, a2⟩
  have hl' := R'.n
  have kl : k.toNat < s.length := by omega
  have g2 : s.getD k.toNat [] = s[k.toNat] := by
    rw [List.getD_eq_getElem?_getD, List.getElem?_eq_getElem kl]; rfl
  have rl := R.m _ (List.getElem_mem kl)
  unfold get
  dsimp only
  have es : setRC s k j v = s.set k.toNat (s[k.toNat].set j.toNat v) := by unfold setRC; rw [g2]
  rw [es, ixD_nat (s.set _ _) k' (by rw [List.length_set]; omega), ixD_nat s k' (by omega), List.getElem_set]
  by_cases e : k.toNat = k'.toNat
  · have ek : k = k' := by omega
    subst ek
    rw [if_pos rfl, ixD_nat _ j' (by rw [List.length_set, rl]; omega), List.getElem_set]
    by_cases e2 : j.toNat = j'.toNat
    · have ej : j = j' := by omega
      subst ej
      simp
    · rw [if_neg e2, if_neg (fun z => e2 (by cases z; rfl)), ixD_nat _ j' (by rw [rl]; omega)]
  · rw [if_neg e, if_neg (fun z => e (by cases z; rfl))]
theorem get_put_no {n m : Nat} : ∀ (cs : Chg) (s : Rows), Rect s n m → (∀ c ∈ cs, InR n m c.1) → ∀ q, InR n m q → q ∉ cs.map (·.1) → get (put s cs) q = get s q
  | [], _, _, _, _, _, _ => rfl
  | c :: cs, s, R, hc, q, hq, hn => by
    have h1 := hc c List.mem_cons_self
    show get (put (setRC s c.1.1 c.1.2 c.2) cs) q = _
    rw [get_put_no cs _ (setRC_rect R _ _ _ h1.1) (fun d hd => hc d (List.mem_cons_of_mem _ hd)) q hq (fun z => hn (by rw [List.map_cons]; exact List.mem_cons_of_mem _ z)), get_set R _ h1 hq, if_neg fun z => hn (by rw [List.map_cons, z]; exact List.mem_cons_self)]
theorem get_put_yes {n m : Nat} : ∀ (cs : Chg) (s : Rows), Rect s n m → (∀ c ∈ cs, InR n m c.1) → (cs.map (·.1)).Nodup → ∀ c ∈ cs, get (put s cs) c.1 = c.2
  | c :: cs, s, R, hc, nd, d, hd => by
    have h1 := hc c List.mem_cons_self
    rw [List.map_cons, List.nodup_cons] at nd
    have R' := setRC_rect R c.1.1 c.1.2 c.2 h1.1
    have hc' := fun d hd => hc d (List.mem_cons_of_mem c hd)
    show get (put (setRC s c.1.1 c.1.2 c.2) cs) d.1 = _
    rcases List.mem_cons.mp hd with rfl | hd
    · rw [get_put_no cs _ R' hc' _ h1 nd.1, get_set R _ h1 h1, if_pos rfl]
    · exact get_put_yes cs _ R' hc' nd.2 d hd
theorem en_set {s : Rows} {a b : Int} (h : ∀ r ∈ s, ∀ x ∈ r, a ≤ x ∧ x ≤ b) (k j v : Int) (hv : a ≤ v ∧ v ≤ b) : ∀ r ∈ setRC s k j v, ∀ x ∈ r, a ≤ x ∧ x ≤ b := fun r hr x hx => by
  unfold setRC at hr
  rcases List.mem_or_eq_of_mem_set hr with hr | rfl
  · exact h r hr x hx
  · rcases List.mem_or_eq_of_mem_set hx with hx | rfl
    · rw [List.getD_eq_getElem?_getD] at hx
      cases e : s[k.toNat]? with
      | none => rw [e] at hx; cases hx
      | some r =>
        rw [e] at hx
        exact h r (List.mem_of_getElem? e) x hx
    · exact hv
theorem en_put {a b : Int} : ∀ (cs : Chg) (s : Rows), (∀ r ∈ s, ∀ x ∈ r, a ≤ x ∧ x ≤ b) → (∀ c ∈ cs, a ≤ c.2 ∧ c.2 ≤ b) → ∀ r ∈ put s cs, ∀ x ∈ r, a ≤ x ∧ x ≤ b
  | [], _, h, _ => h
  | c :: cs, s, h, hc => en_put cs _ (en_set h _ _ _ (hc c List.mem_cons_self)) fun d hd => hc d (List.mem_cons_of_mem _ hd)
theorem get_en {s : Rows} {n m : Nat} {a b : Int} (R : Rect s n m) (h : ∀ r ∈ s, ∀ x ∈ r, a ≤ x ∧ x ≤ b) {p : Int × Int} (hp : InR n m p) : a ≤ get s p ∧ get s p ≤ b := by
  have hn := R.n
  obtain ⟨h1, h2⟩ := hp
  have hr : ixD s p.1 ∈ s := ixD_mem (by omega)
  exact h _ hr _ (ixD_mem (by rw [R.m _ hr]; omega))
theorem block_put {s : Rows} {lo hi n m : Nat} {a b c d : Int} (h : IsB s lo hi a b) (R : Rect s n m) (hn : 0 < n) (cs : Chg) (hc : ∀ x ∈ cs, InR n m x.1 ∧ c ≤ x.2 ∧ x.2 ≤ d) (h1 : c ≤ a) (h2 : b ≤ d) : IsB (put s cs) lo hi c d := by
  have R' := put_rect cs s R fun x hx => (hc x hx).1.1
  have l1 := R.n
  have l2 := R'.n
  have g1 := h.n1
  have g2 := h.n2
  have hs : ixD s 0 ∈ s := ixD_mem (by omega)
  have hm := R.m _ hs
  have hm1 := h.m1 _ hs
  have hm2 := h.m2 _ hs
  have hp : ixD (put s cs) 0 ∈ put s cs := ixD_mem (by omega)
  refine ⟨by omega, by omega, fun r hr => by rw [R'.m r hr]; omega, fun r hr => by rw [R'.m r hr]; omega, fun r hr => by rw [R'.m r hr, R'.m _ hp], en_put cs s (fun r hr x hx => by have := h.en r hr x hx; omega) fun x hx => (hc x hx).2⟩
/-! the places, in order -/
def ltPl (p q : Int × Int) : Prop := p.1 < q.1 ∨ (p.1 = q.1 ∧ p.2 < q.2)
theorem rg_sorted (a b : Int) : (rg a b).Pairwise (· < ·) := by
  unfold rg
  rw [List.pairwise_map]
  refine List.Pairwise.imp (fun h => by omega) List.pairwise_lt_range
theorem places_sorted (n m : Nat) : (places n m).Pairwise ltPl := by
  unfold places
  rw [List.pairwise_flatMap]
  refine ⟨fun k _ => ?_, List.Pairwise.imp (fun h x hx y hy => ?_) (rg_sorted 0 n)⟩
  · unfold rowPlaces
    rw [List.pairwise_map]
    exact List.Pairwise.imp (fun h => .inr ⟨rfl, h⟩) (rg_sorted 0 m)
  · unfold rowPlaces at hx hy
    obtain ⟨_, _, rfl⟩ := List.mem_map.mp hx
    obtain ⟨_, _, rfl⟩ := List.mem_map.mp hy
    exact .inl h
theorem mem_places {n m : Nat} {p : Int × Int} : p ∈ places n m ↔ InR n m p := by
  obtain ⟨k, j⟩ := p
  unfold places rowPlaces InR
  simp only [List.mem_flatMap, List.mem_map, mem_rg, Prod.mk.injEq]
  constructor
  · rintro ⟨_, h1, _, h2, rfl, rfl⟩; exact ⟨h1, h2⟩
  · rintro ⟨h1, h2⟩; exact ⟨k, h1, j, h2, rfl, rfl⟩
theorem unlike_eq (s o : Rows) (n m : Nat) (h1 : s.length = n) (h2 : (ixD s 0).length = m) : unlike s o = (places n m).filter fun p => decide ¬get s p = get o p := by
  unfold unlike places
  rw [h1, h2, List.filter_flatMap]
  congr 1
  funext k
  unfold rowUnlike rowPlaces
  rw [List.filter_map]; rfl
/-! sorted lists -/
def insT {α : Type} [Py α] (x : α) : List α → List α
  | [] => [x]
  | y :: ys => if le0 (Py.enc x) (Py.enc y) = true then x :: y :: ys else y :: insT x ys
def sortT {α : Type} [Py α] : List α → List α
  | [] => []
  | x :: xs => insT x (sortT xs)
theorem insT_enc {α : Type} [Py α] (x : α) : ∀ ys : List α, insP (Py.enc x) (ys.map Py.enc) = (insT x ys).map Py.enc
  | [] => rfl
  | y :: ys => by
    show insP (Py.enc x) (Py.enc y :: ys.map Py.enc) = _
    unfold insP insT
    split
    · rfl
    · rw [insT_enc x ys]; rfl
theorem sortT_enc {α : Type} [Py α] : ∀ xs : List α, sortP (xs.map Py.enc) = (sortT xs).map Py.enc
  | [] => rfl
  | x :: xs => by
    show insP (Py.enc x) (sortP (xs.map Py.enc)) = _
    rw [sortT_enc xs, insT_enc]; rfl
theorem insT_perm {α : Type} [Py α] (x : α) : ∀ ys : List α, (insT x ys).Perm (x :: ys)
  | [] => List.Perm.refl _
  | y :: ys => by
    unfold insT
    split
    · exact List.Perm.refl _
    · exact (List.Perm.cons y (insT_perm x ys)).trans (List.Perm.swap x y ys)
theorem sortT_perm {α : Type} [Py α] : ∀ xs : List α, (sortT xs).Perm xs
  | [] => List.Perm.refl _
  | x :: xs => (insT_perm x _).trans (List.Perm.cons x (sortT_perm xs))
theorem sortT_sd {α : Type} [Py α] (xs : List α) : (sortT xs).Pairwise fun a b => le0 (Py.enc a) (Py.enc b) = true := by
  have := sortP_sd (xs.map Py.enc)
  rw [sortT_enc] at this
  exact List.pairwise_map.mp this
theorem e_sortedT {α : Type} [Py α] (xs : List α) (h1 : ∀ a b : α, alike (Py.enc a) (Py.enc b) = true) (h2 : (∀ a : α, isTup1 (Py.enc a) = true) ∨ ∀ a : α, isOther (Py.enc a) = true) (h3 : xs.length ≤ lim) (h4 : Py.dep α ≤ 32) : gSorted [pv xs] = some (pv (sortT xs)) := by
  show (if sortOk (xs.map Py.enc) = true then some (D.p (.list (sortP (xs.map Py.enc)))) else none) = _
  have ok : sortOk (xs.map Py.enc) = true := by
    unfold sortOk allAlike
    simp only [Bool.and_eq_true, Bool.or_eq_true, List.all_eq_true, List.mem_map, decide_eq_true_eq, List.length_map]
    refine ⟨⟨⟨?_, ?_⟩, h3⟩, ?_⟩
    · rintro _ ⟨a, _, rfl⟩ _ ⟨b, _, rfl⟩; exact h1 a b
    · rcases h2 with h2 | h2
      · left; rintro _ ⟨a, _, rfl⟩; exact h2 a
      · right; rintro _ ⟨a, _, rfl⟩; exact h2 a
    · rintro _ ⟨a, _, rfl⟩
      have := Py.hdep a; omega
  rw [if_pos ok, sortT_enc]; rfl
theorem e_sortC (xs : Chg) (h3 : xs.length ≤ lim) : gSorted [pv xs] = some (pv (sortT xs)) :=
  e_sortedT xs (fun a b => by simp [Py.enc, alike, PySem.W.alikeAll]) (.inl fun a => rfl) h3 (by decide)
theorem le0_chg {a b : (Int × Int) × Int} (h : le0 (Py.enc a) (Py.enc b) = true) (hne : a.1 ≠ b.1) : ltPl a.1 b.1 := by
  obtain ⟨⟨k, j⟩, e⟩ := a
  obtain ⟨⟨k', j'⟩, e'⟩ := b
  have h : (!dataLt (.tuple [.tuple [.int k', .int j'], .int e']) (.tuple [.tuple [.int k, .int j], .int e])) = true := h
  rw [PySem.W.dataLt_pair (by simp [alike, PySem.W.alikeAll]) (by simp [alike])] at h
  have hq : PyData.eqv (.tuple [.int k', .int j']) (.tuple [.int k, .int j]) = decide ((k', j') = (k, j)) := eqv_pv ((k', j') : Int × Int) (k, j)
  have hne' : ¬(k', j') = (k, j) := fun z => hne (by rw [Prod.mk.injEq] at z; simp [z.1, z.2])
  rw [hq, decide_eq_false hne', if_neg Bool.false_ne_true, PySem.W.dataLt_ii] at h
  simp only [Bool.not_eq_true', decide_eq_false_iff_not] at h
  have hne2 : ¬(k = k' ∧ j = j') := fun z => hne (by simp [z.1, z.2])
  unfold ltPl
  dsimp only
  omega
theorem sortC_sorted (cs : Chg) (nd : (cs.map (·.1)).Nodup) : ((sortT cs).map (·.1)).Pairwise ltPl := by
  have nd' : ((sortT cs).map (·.1)).Nodup := ((sortT_perm cs).map _).nodup_iff.mpr nd
  rw [List.pairwise_map]
  have h1 := sortT_sd cs
  rw [List.Nodup, List.pairwise_map] at nd'
  exact h1.imp₂ (fun a b h1 h2 => le0_chg h1 h2) nd'
/-- the changed places, in order, are those where the sheets differ -/
theorem unlike_put (s : Rows) (n m : Nat) (R : Rect s n m) (h2 : (ixD s 0).length = m) (cs : Chg) (hc : ∀ c ∈ cs, InR n m c.1 ∧ c.2 ≠ get s c.1) (nd : (cs.map (·.1)).Nodup) : unlike s (put s cs) = (sortT cs).map (·.1) := by
  have hc1 : ∀ c ∈ cs, InR n m c.1 := fun c h => (hc c h).1
  rw [unlike_eq s _ n m R.n h2]
  have s1 : ((places n m).filter fun p => decide ¬get s p = get (put s cs) p).Pairwise ltPl := (places_sorted n m).filter _
  have s2 := sortC_sorted cs nd
  have irr : ∀ p : Int × Int, ¬ltPl p p := fun p h => by unfold ltPl at h; omega
  have nd1 : ((places n m).filter fun p => decide ¬get s p = get (put s cs) p).Nodup := List.Pairwise.imp (S := (· ≠ ·)) (fun {a b} (h : ltPl a b) (e : a = b) => irr b (e ▸ h)) s1
  have nd2 : ((sortT cs).map (·.1)).Nodup := List.Pairwise.imp (S := (· ≠ ·)) (fun {a b} (h : ltPl a b) (e : a = b) => irr b (e ▸ h)) s2
  refine List.Perm.eq_of_pairwise (le := ltPl) (fun a b _ _ h1 h2 => ?_) s1 s2 ((List.perm_ext_iff_of_nodup nd1 nd2).mpr fun p => ?_)
  · unfold ltPl at h1 h2; omega
  · rw [List.mem_filter, mem_places, ((sortT_perm cs).map _).mem_iff, decide_eq_true_eq]
    constructor
    · rintro ⟨hp, hne⟩
      by_cases hm : p ∈ cs.map (·.1)
      · exact hm
      · exact absurd (get_put_no cs s R hc1 p hp hm).symm hne
    · intro hm
      obtain ⟨c, h, rfl⟩ := List.mem_map.mp hm
      refine ⟨hc1 c h, ?_⟩
      rw [get_put_yes cs s R hc1 nd c h]
      exact fun z => (hc c h).2 z.symm
theorem unlike_self (s : Rows) : unlike s s = [] := by
  rw [unlike_eq s s _ _ rfl rfl]
  simp
end Z

set_option Elab.async false
set_option linter.all false
set_option maxRecDepth 100000
set_option maxHeartbeats 2000000
namespace Z
open PySem
/-! # sums over lists; the transport theorem -/
def sS {α : Type} (X : List α) (f : α → Int) : Int := (X.map f).sum
section
variable {α β : Type}
theorem sS_nil (f : α → Int) : sS [] f = 0 := rfl
theorem sS_cons (x : α) (X : List α) (f : α → Int) : sS (x :: X) f = f x + sS X f := rfl
theorem sS_congr {X : List α} {f g : α → Int} (h : ∀ x ∈ X, f x = g x) : sS X f = sS X g := by
  unfold sS
  rw [List.map_congr_left h]
theorem sS_le {f g : α → Int} : ∀ {X : List α}, (∀ x ∈ X, f x ≤ g x) → sS X f ≤ sS X g
  | [], _ => Int.le_refl _
  | x :: X, h => by
    have := sS_le (X := X) fun y hy => h y (List.mem_cons_of_mem _ hy)
    have := h x List.mem_cons_self
    rw [sS_cons, sS_cons]; omega
theorem sS_add (X : List α) (f g : α → Int) : sS X (fun x => f x + g x) = sS X f + sS X g := by
  induction X with
  | nil => rfl
  | cons x X ih => rw [sS_cons, sS_cons, sS_cons, ih]; omega
theorem sS_sub (X : List α) (f g : α → Int) : sS X (fun x => f x - g x) = sS X f - sS X g := by
  induction X with
  | nil => rfl
  | cons x X ih => rw [sS_cons, sS_cons, sS_cons, ih]; omega
theorem sS_zero {X : List α} {f : α → Int} (h : ∀ x ∈ X, f x = 0) : sS X f = 0 := by
  rw [sS_congr h]
  induction X with
  | nil => rfl
  | cons x X ih => rw [sS_cons, ih fun y hy => h y (List.mem_cons_of_mem _ hy)]; rfl
theorem sS_nn {X : List α} {f : α → Int} (h : ∀ x ∈ X, 0 ≤ f x) : 0 ≤ sS X f := by
  have := sS_le (f := fun _ => 0) h
  rwa [sS_zero fun _ _ => rfl] at this
theorem sS_ind [DecidableEq α] {X : List α} (nd : X.Nodup) {a : α} (ha : a ∈ X) (d : Int) : sS X (fun x => if x = a then d else 0) = d := by
  induction X with
  | nil => cases ha
  | cons x X ih =>
    have hnd := List.nodup_cons.mp nd
    rw [sS_cons]
    rcases List.mem_cons.mp ha with rfl | h
    · rw [if_pos rfl, sS_zero fun y hy => if_neg fun e : y = a => hnd.1 (e ▸ hy)]
      omega
    · rw [if_neg fun e : x = a => hnd.1 (e ▸ h), ih hnd.2 h]
      omega
theorem sS_swap (X : List α) (Y : List β) (f : α → β → Int) : sS X (fun x => sS Y (f x)) = sS Y fun y => sS X fun x => f x y := by
  induction X with
  | nil => exact (sS_zero (f := fun y => sS ([] : List α) fun x => f x y) fun _ _ => rfl).symm
  | cons x X ih =>
    rw [sS_cons, ih, ← sS_add]
    rfl
end
/-- what is left over at a cut -/
def slk (X Y : List Int) (r c : Int → Int) (u : Int → Int → Int) (I J : Int → Bool) : Int :=
  (sS Y fun j => if J j = true then c j else 0) + (sS X fun i => sS Y fun j => if I i = true ∧ J j = false then u i j else 0) - sS X fun i => if I i = true then r i else 0
theorem slk_sub {X Y : List Int} (nx : X.Nodup) (ny : Y.Nodup) {r c : Int → Int} {u : Int → Int → Int} (hu : ∀ i ∈ X, ∀ j ∈ Y, 0 ≤ u i j) {a b : Int} (ha : a ∈ X) (hb : b ∈ Y) {I1 J1 I2 J2 : Int → Bool} (h1 : I1 a = false) (h2 : J1 b = true) (h3 : I2 a = true) (h4 : J2 b = false) :
    slk X Y r c u (fun i => I1 i || I2 i) (fun j => J1 j || J2 j) + slk X Y r c u (fun i => I1 i && I2 i) (fun j => J1 j && J2 j) + u a b ≤ slk X Y r c u I1 J1 + slk X Y r c u I2 J2 := by
  have e1 : (sS Y fun j => if (J1 j || J2 j) = true then c j else 0) + (sS Y fun j => if (J1 j && J2 j) = true then c j else 0) = (sS Y fun j => if J1 j = true then c j else 0) + sS Y fun j => if J2 j = true then c j else 0 := by
    rw [← sS_add, ← sS_add]
    refine sS_congr fun j _ => ?_
    cases J1 j <;> cases J2 j <;> simp
  have e2 : (sS X fun j => if (I1 j || I2 j) = true then r j else 0) + (sS X fun j => if (I1 j && I2 j) = true then r j else 0) = (sS X fun j => if I1 j = true then r j else 0) + sS X fun j => if I2 j = true then r j else 0 := by
    rw [← sS_add, ← sS_add]
    refine sS_congr fun j _ => ?_
    cases I1 j <;> cases I2 j <;> simp
  have e0 : u a b = sS X fun i => sS Y fun j => if i = a then (if j = b then u a b else 0) else 0 := by
    rw [sS_congr (g := fun i => if i = a then u a b else 0) fun i _ => ?_, sS_ind nx ha]
    by_cases h : i = a
    · simp only [if_pos h]
      exact sS_ind ny hb _
    · simp only [if_neg h]
      exact sS_zero fun _ _ => rfl
  have e3 : (sS X fun i => sS Y fun j => if (I1 i || I2 i) = true ∧ (J1 j || J2 j) = false then u i j else 0) + (sS X fun i => sS Y fun j => if (I1 i && I2 i) = true ∧ (J1 j && J2 j) = false then u i j else 0) + u a b ≤ (sS X fun i => sS Y fun j => if I1 i = true ∧ J1 j = false then u i j else 0) + (sS X fun i => sS Y fun j => if I2 i = true ∧ J2 j = false then u i j else 0) := by
    rw [← sS_add, ← sS_add]
    rw [show ∀ A : Int, A + u a b = A + sS X (fun i => sS Y fun j => if i = a then (if j = b then u a b else 0) else 0) from fun A => by rw [← e0]]
    rw [← sS_add]
    refine sS_le fun i hi => ?_
    rw [← sS_add, ← sS_add, ← sS_add]
    refine sS_le fun j hj => ?_
    have hn := hu i hi j hj
    by_cases ea : i = a
    · subst ea
      by_cases eb : j = b
      · subst eb
        simp [h1, h2, h3, h4]
      · rw [if_pos rfl, if_neg eb]
        cases I1 i <;> cases I2 i <;> cases J1 j <;> cases J2 j <;> simp <;> omega
    · rw [if_neg ea]
      cases I1 i <;> cases I2 i <;> cases J1 j <;> cases J2 j <;> simp <;> omega
  unfold slk
  dsimp only
  omega
/-- one less at a place -/
def dec1 (a : Int) (r : Int → Int) : Int → Int := fun i => if i = a then r i - 1 else r i
def dec2 (a b : Int) (u : Int → Int → Int) : Int → Int → Int := fun i j => if i = a ∧ j = b then u i j - 1 else u i j
theorem sS_dec {X : List Int} (nx : X.Nodup) {a : Int} (ha : a ∈ X) (r : Int → Int) (I : Int → Bool) : (sS X fun i => if I i = true then dec1 a r i else 0) = (sS X fun i => if I i = true then r i else 0) - if I a = true then 1 else 0 := by
  have e : (if I a = true then (1 : Int) else 0) = sS X fun i => if i = a then (if I a = true then 1 else 0) else 0 := (sS_ind nx ha _).symm
  rw [e, ← sS_sub]
  refine sS_congr fun i _ => ?_
  unfold dec1
  by_cases h : i = a
  · subst h; simp; split <;> rfl
  · simp [h]
theorem sS_dec2 {X Y : List Int} (nx : X.Nodup) (ny : Y.Nodup) {a b : Int} (ha : a ∈ X) (hb : b ∈ Y) (u : Int → Int → Int) (I J : Int → Bool) : (sS X fun i => sS Y fun j => if I i = true ∧ J j = false then dec2 a b u i j else 0) = (sS X fun i => sS Y fun j => if I i = true ∧ J j = false then u i j else 0) - if I a = true ∧ J b = false then 1 else 0 := by
  have e0 : (if I a = true ∧ J b = false then (1 : Int) else 0) = sS X fun i => sS Y fun j => if i = a then (if j = b then (if I a = true ∧ J b = false then 1 else 0) else 0) else 0 := by
    rw [sS_congr (X := X) (g := fun i => if i = a then (if I a = true ∧ J b = false then 1 else 0) else 0) fun i _ => ?_, sS_ind nx ha]
    by_cases h : i = a
    · simp only [if_pos h]
      exact sS_ind ny hb _
    · simp only [if_neg h]
      exact sS_zero fun _ _ => rfl
  rw [e0, ← sS_sub]
  refine sS_congr fun i _ => ?_
  rw [← sS_sub]
  refine sS_congr fun j _ => ?_
  unfold dec2
  by_cases h : i = a
  · subst h
    by_cases h' : j = b
    · subst h'
      simp; split <;> rfl
    · simp [h']
  · simp [h]
theorem slk_use {X Y : List Int} (nx : X.Nodup) (ny : Y.Nodup) {a b : Int} (ha : a ∈ X) (hb : b ∈ Y) (r c : Int → Int) (u : Int → Int → Int) (I J : Int → Bool) :
    slk X Y (dec1 a r) (dec1 b c) (dec2 a b u) I J = slk X Y r c u I J - if I a = false ∧ J b = true then 1 else 0 := by
  unfold slk
  rw [sS_dec nx ha, sS_dec ny hb, sS_dec2 nx ny ha hb]
  cases I a <;> cases J b <;> simp <;> omega
theorem slk_del {X Y : List Int} (nx : X.Nodup) (ny : Y.Nodup) {a b : Int} (ha : a ∈ X) (hb : b ∈ Y) (r c : Int → Int) (u : Int → Int → Int) (I J : Int → Bool) :
    slk X Y r c (dec2 a b u) I J = slk X Y r c u I J - if I a = true ∧ J b = false then 1 else 0 := by
  unfold slk
  rw [sS_dec2 nx ny ha hb]
  cases I a <;> cases J b <;> simp <;> omega
theorem sS_pick {X : List Int} (nx : X.Nodup) {a : Int} (ha : a ∈ X) (r : Int → Int) : (sS X fun i => if decide (i = a) = true then r i else 0) = r a := by
  have := sS_ind nx ha (r a)
  refine Eq.trans (sS_congr fun i _ => ?_) this
  by_cases h : i = a
  · subst h; simp
  · simp [h]
theorem sS_drop {X : List Int} (nx : X.Nodup) {a : Int} (ha : a ∈ X) (r : Int → Int) : (sS X fun i => if (!decide (i = a)) = true then r i else 0) = sS X r - r a := by
  have := sS_pick nx ha r
  rw [← this, ← sS_sub]
  refine sS_congr fun i _ => ?_
  by_cases h : i = a <;> simp [h]
/-- if no cut is too small there is a table -/
theorem transport {X Y : List Int} (nx : X.Nodup) (ny : Y.Nodup) : ∀ (N : Nat) (r c : Int → Int) (u : Int → Int → Int), (∀ i ∈ X, ∀ j ∈ Y, 0 ≤ u i j) → (sS X fun i => sS Y fun j => u i j) ≤ N → sS X r = sS Y c → (∀ I J, 0 ≤ slk X Y r c u I J) →
    ∃ x : Int → Int → Int, (∀ i ∈ X, ∀ j ∈ Y, 0 ≤ x i j ∧ x i j ≤ u i j) ∧ (∀ i ∈ X, sS Y (x i) = r i) ∧ ∀ j ∈ Y, (sS X fun i => x i j) = c j
  | N, r, c, u, hu, hN, hs, hc => by
    by_cases hz : ∃ a ∈ X, ∃ b ∈ Y, 0 < u a b
    · obtain ⟨a, ha, b, hb, hp⟩ := hz
      have htot : (sS X fun i => sS Y fun j => dec2 a b u i j) = (sS X fun i => sS Y fun j => u i j) - 1 := by
        have := sS_dec2 nx ny ha hb u (fun _ => true) (fun _ => false)
        simpa using this
      have hnn : 0 ≤ sS X fun i => sS Y fun j => dec2 a b u i j := sS_nn fun i hi => sS_nn fun j hj => by
        unfold dec2
        have := hu i hi j hj
        split
        · rename_i h; obtain ⟨rfl, rfl⟩ := h; omega
        · exact this
      have hu' : ∀ i ∈ X, ∀ j ∈ Y, 0 ≤ dec2 a b u i j := fun i hi j hj => by
        unfold dec2
        have := hu i hi j hj
        split
        · rename_i h; obtain ⟨rfl, rfl⟩ := h; omega
        · exact this
      match N with
      | 0 => omega
      | N + 1 =>
        by_cases A : ∀ I J, 0 ≤ slk X Y (dec1 a r) (dec1 b c) (dec2 a b u) I J
        · have hs' : sS X (dec1 a r) = sS Y (dec1 b c) := by
            have h1 := sS_dec nx ha r (fun _ => true)
            have h2 := sS_dec ny hb c (fun _ => true)
            simp only [if_true] at h1 h2
            have h1 : sS X (dec1 a r) = sS X r - 1 := h1
            have h2 : sS Y (dec1 b c) = sS Y c - 1 := h2
            omega
          obtain ⟨x, x1, x2, x3⟩ := transport nx ny N (dec1 a r) (dec1 b c) (dec2 a b u) hu' (by omega) hs' A
          refine ⟨fun i j => x i j + if i = a then (if j = b then 1 else 0) else 0, fun i hi j hj => ?_, fun i hi => ?_, fun j hj => ?_⟩
          · have := x1 i hi j hj
            unfold dec2 at this
            by_cases h : i = a
            · by_cases h' : j = b
              · simp [h, h'] at this ⊢; omega
              · simp [h, h'] at this ⊢; omega
            · simp [h] at this ⊢; omega
          · rw [sS_add, x2 i hi]
            unfold dec1
            by_cases h : i = a
            · rw [if_pos h]
              simp only [if_pos h]
              rw [sS_ind ny hb]; omega
            · rw [if_neg h]
              simp only [if_neg h]
              rw [sS_zero fun _ _ => rfl]; omega
          · rw [sS_add, x3 j hj]
            unfold dec1
            by_cases h : j = b
            · rw [if_pos h]
              simp only [if_pos h]
              rw [sS_ind nx ha]; omega
            · rw [if_neg h]
              simp only [if_neg h]
              rw [sS_zero fun i _ => by split <;> rfl]; omega
        · by_cases B : ∀ I J, 0 ≤ slk X Y r c (dec2 a b u) I J
          · obtain ⟨x, x1, x2, x3⟩ := transport nx ny N r c (dec2 a b u) hu' (by omega) hs B
            refine ⟨x, fun i hi j hj => ?_, x2, x3⟩
            have := x1 i hi j hj
            unfold dec2 at this
            split at this <;> omega
          · exfalso
            have A' : ∃ I J, ¬0 ≤ slk X Y (dec1 a r) (dec1 b c) (dec2 a b u) I J := Classical.byContradiction fun z => A fun I J => Classical.byContradiction fun h => z ⟨I, J, h⟩
            have B' : ∃ I J, ¬0 ≤ slk X Y r c (dec2 a b u) I J := Classical.byContradiction fun z => B fun I J => Classical.byContradiction fun h => z ⟨I, J, h⟩
            obtain ⟨I1, J1, h1⟩ := A'
            obtain ⟨I2, J2, h2⟩ := B'
            rw [slk_use nx ny ha hb] at h1
            rw [slk_del nx ny ha hb] at h2
            have p1 := hc I1 J1
            have p2 := hc I2 J2
            have q1 : I1 a = false ∧ J1 b = true := Classical.byContradiction fun z => by rw [if_neg z] at h1; omega
            have q2 : I2 a = true ∧ J2 b = false := Classical.byContradiction fun z => by rw [if_neg z] at h2; omega
            rw [if_pos q1] at h1
            rw [if_pos q2] at h2
            have := slk_sub (r := r) (c := c) nx ny hu ha hb q1.1 q1.2 q2.1 q2.2
            have := hc (fun i => I1 i || I2 i) (fun j => J1 j || J2 j)
            have := hc (fun i => I1 i && I2 i) (fun j => J1 j && J2 j)
            omega
    · have hu0 : ∀ i ∈ X, ∀ j ∈ Y, u i j = 0 := fun i hi j hj => by
        have := hu i hi j hj
        have : ¬0 < u i j := fun h => hz ⟨i, hi, j, hj, h⟩
        omega
      have z0 : ∀ I J : Int → Bool, (sS X fun i => sS Y fun j => if I i = true ∧ J j = false then u i j else 0) = 0 := fun I J => sS_zero fun i hi => sS_zero fun j hj => by rw [hu0 i hi j hj]; split <;> rfl
      have f0 : ∀ (Z : List Int) (f : Int → Int), (sS Z fun j => if false = true then f j else 0) = 0 := fun Z f => sS_zero fun _ _ => rfl
      have f1 : ∀ (Z : List Int) (f : Int → Int), (sS Z fun j => if true = true then f j else 0) = sS Z f := fun Z f => sS_congr fun _ _ => rfl
      refine ⟨fun _ _ => 0, fun i hi j hj => ⟨Int.le_refl _, hu i hi j hj⟩, fun i hi => ?_, fun j hj => ?_⟩
      · rw [sS_zero fun _ _ => rfl]
        have g1 := hc (fun k => decide (k = i)) fun _ => false
        have g2 := hc (fun k => !decide (k = i)) fun _ => true
        unfold slk at g1 g2
        rw [sS_pick nx hi, z0, f0] at g1
        rw [sS_drop nx hi, z0, f1] at g2
        omega
      · rw [sS_zero fun _ _ => rfl]
        have g1 := hc (fun _ => false) fun k => decide (k = j)
        have g2 := hc (fun _ => true) fun k => !decide (k = j)
        unfold slk at g1 g2
        rw [sS_pick ny hj, z0, f0] at g1
        rw [sS_drop ny hj, z0, f1] at g2
        omega

/-! # all rows with a sum, all tables with sums -/
def subL (a b : List Int) : List Int := (a.zip b).map fun p => p.1 - p.2
def rwT : List Int → Int → Rows
  | [], t => if t = 0 then [[]] else []
  | p :: ps, t => (rg 0 ((if p < t then p else t) + 1)).flatMap fun f => if t - f ≤ ps.sum then (rwT ps (t - f)).map (f :: ·) else []
/-- cells from 0 to their tops -/
def Fits : List Int → List Int → Prop
  | [], [] => True
  | x :: xs, p :: ps => (0 ≤ x ∧ x ≤ p) ∧ Fits xs ps
  | _, _ => False
theorem Fits.len : ∀ {xs ps : List Int}, Fits xs ps → xs.length = ps.length
  | [], [], _ => rfl
  | x :: xs, p :: ps, h => by rw [List.length_cons, List.length_cons, Fits.len h.2]
theorem Fits.sum : ∀ {xs ps : List Int}, Fits xs ps → 0 ≤ xs.sum ∧ xs.sum ≤ ps.sum
  | [], [], _ => ⟨Int.le_refl _, Int.le_refl _⟩
  | x :: xs, p :: ps, h => by
    have := Fits.sum h.2
    have := h.1
    rw [List.sum_cons, List.sum_cons]; omega
theorem mem_rwT : ∀ (ps : List Int) (t : Int) (row : List Int), row ∈ rwT ps t ↔ Fits row ps ∧ row.sum = t
  | [], t, row => by
    unfold rwT
    cases row with
    | nil =>
      by_cases h : t = 0
      · simp [h, Fits]
      · simp [h, Fits]; omega
    | cons x xs => by_cases h : t = 0 <;> simp [h, Fits]
  | p :: ps, t, row => by
    unfold rwT
    rw [List.mem_flatMap]
    constructor
    · rintro ⟨f, hf, hr⟩
      have hf := mem_rg.mp hf
      split at hr
      · obtain ⟨r, hr', rfl⟩ := List.mem_map.mp hr
        have ih := (mem_rwT ps _ r).mp hr'
        refine ⟨⟨⟨hf.1, ?_⟩, ih.1⟩, ?_⟩
        · split at hf <;> omega
        · rw [List.sum_cons, ih.2]; omega
      · cases hr
    · rintro ⟨h, hs⟩
      cases row with
      | nil => cases h
      | cons x xs =>
        have h2 := h.2.sum
        rw [List.sum_cons] at hs
        refine ⟨x, mem_rg.mpr ⟨h.1.1, ?_⟩, ?_⟩
        · have := h.1.2; split <;> omega
        · rw [if_pos (by omega)]
          exact List.mem_map.mpr ⟨xs, (mem_rwT ps _ xs).mpr ⟨h.2, by omega⟩, rfl⟩
/-! ## order -/
def ltL : List Int → List Int → Prop
  | x :: xs, y :: ys => x < y ∨ (x = y ∧ ltL xs ys)
  | [], _ :: _ => True
  | _, _ => False
theorem ltL_irr : ∀ a : List Int, ¬ltL a a
  | [], h => h
  | x :: xs, h => by
    rcases h with h | h
    · omega
    · exact ltL_irr xs h.2
theorem ltL_trans : ∀ {a b c : List Int}, ltL a b → ltL b c → ltL a c
  | [], _ :: _, _ :: _, _, _ => trivial
  | x :: xs, y :: ys, z :: zs, h1, h2 => by
    rcases h1 with h1 | ⟨rfl, h1⟩
    · rcases h2 with h2 | ⟨rfl, h2⟩
      · exact .inl (by omega)
      · exact .inl h1
    · rcases h2 with h2 | ⟨rfl, h2⟩
      · exact .inl h2
      · exact .inr ⟨rfl, ltL_trans h1 h2⟩
theorem ltL_tri : ∀ a b : List Int, ltL a b ∨ a = b ∨ ltL b a
  | [], [] => .inr (.inl rfl)
  | [], _ :: _ => .inl trivial
  | _ :: _, [] => .inr (.inr trivial)
  | x :: xs, y :: ys => by
    by_cases h : x < y
    · exact .inl (.inl h)
    · by_cases h2 : y < x
      · exact .inr (.inr (.inl h2))
      · have : x = y := by omega
        subst this
        rcases ltL_tri xs ys with h | h | h
        · exact .inl (.inr ⟨rfl, h⟩)
        · exact .inr (.inl (by rw [h]))
        · exact .inr (.inr (.inr ⟨rfl, h⟩))
theorem pw_flat {α β : Type} {R : β → β → Prop} {S : α → α → Prop} {g : α → List β} : ∀ {xs : List α}, xs.Pairwise S → (∀ x ∈ xs, (g x).Pairwise R) → (∀ x ∈ xs, ∀ y ∈ xs, S x y → ∀ a ∈ g x, ∀ b ∈ g y, R a b) → (xs.flatMap g).Pairwise R
  | [], _, _, _ => List.Pairwise.nil
  | x :: xs, h1, h2, h3 => by
    rw [List.flatMap_cons]
    have h1 := List.pairwise_cons.mp h1
    refine List.pairwise_append.mpr ⟨h2 x List.mem_cons_self, pw_flat h1.2 (fun y hy => h2 y (List.mem_cons_of_mem _ hy)) (fun y hy z hz => h3 y (List.mem_cons_of_mem _ hy) z (List.mem_cons_of_mem _ hz)), fun a ha b hb => ?_⟩
    obtain ⟨y, hy, hb⟩ := List.mem_flatMap.mp hb
    exact h3 x List.mem_cons_self y (List.mem_cons_of_mem _ hy) (h1.1 y hy) a ha b hb
theorem rg_lt (a b : Int) : (rg a b).Pairwise (· < ·) := by
  unfold rg
  refine List.Pairwise.map (R := (· < ·)) _ (fun x y h => by omega) ?_
  exact List.pairwise_lt_range
theorem rwT_sorted : ∀ (ps : List Int) (t : Int), (rwT ps t).Pairwise ltL
  | [], t => by unfold rwT; split <;> simp
  | p :: ps, t => by
    unfold rwT
    refine pw_flat (rg_lt _ _) (fun f _ => ?_) fun f _ f' _ h a ha b hb => ?_
    · split
      · exact List.Pairwise.map (R := ltL) _ (fun a b h => .inr ⟨rfl, h⟩) (rwT_sorted ps _)
      · exact List.Pairwise.nil
    · split at ha
      · split at hb
        · obtain ⟨a', _, rfl⟩ := List.mem_map.mp ha
          obtain ⟨b', _, rfl⟩ := List.mem_map.mp hb
          exact .inl h
        · cases hb
      · cases ha
def topsM (M : Int) (left : List Int) : List Int := left.map fun c => if c < M then c else M
def tabs (M : Int) : List Int → List Int → List Rows
  | [], left => if (left.any (· != 0)) = true then [] else [[]]
  | r :: rs, left => (rwT (topsM M left) r).flatMap fun row => (tabs M rs (subL left row)).map (row :: ·)
theorem tabs_nil (M : Int) (left : List Int) : tabs M [] left = if (left.any (· != 0)) = true then [] else [[]] := rfl
theorem tabs_cons (M r : Int) (rs left : List Int) : tabs M (r :: rs) left = (rwT (topsM M left) r).flatMap fun row => (tabs M rs (subL left row)).map (row :: ·) := rfl
/-- tables, one after another -/
def ltR : Rows → Rows → Prop
  | x :: xs, y :: ys => ltL x y ∨ (x = y ∧ ltR xs ys)
  | [], _ :: _ => True
  | _, _ => False
theorem ltR_irr : ∀ a : Rows, ¬ltR a a
  | [], h => h
  | x :: xs, h => by
    rcases h with h | h
    · exact ltL_irr x h
    · exact ltR_irr xs h.2
theorem ltR_trans : ∀ {a b c : Rows}, ltR a b → ltR b c → ltR a c
  | [], _ :: _, _ :: _, _, _ => trivial
  | x :: xs, y :: ys, z :: zs, h1, h2 => by
    rcases h1 with h1 | ⟨rfl, h1⟩
    · rcases h2 with h2 | ⟨rfl, h2⟩
      · exact .inl (ltL_trans h1 h2)
      · exact .inl h1
    · rcases h2 with h2 | ⟨rfl, h2⟩
      · exact .inl h2
      · exact .inr ⟨rfl, ltR_trans h1 h2⟩
theorem tabs_sorted (M : Int) : ∀ (rows left : List Int), (tabs M rows left).Pairwise ltR
  | [], left => by unfold tabs; split <;> simp
  | r :: rs, left => by
    unfold tabs
    refine pw_flat (rwT_sorted _ _) (fun row _ => List.Pairwise.map (R := ltR) _ (fun a b h => .inr ⟨rfl, h⟩) (tabs_sorted M rs _)) fun f _ f' _ h a ha b hb => ?_
    obtain ⟨a', _, rfl⟩ := List.mem_map.mp ha
    obtain ⟨b', _, rfl⟩ := List.mem_map.mp hb
    exact .inl h
theorem pw_nodup {α : Type} {R : α → α → Prop} (hi : ∀ a, ¬R a a) {l : List α} (h : l.Pairwise R) : l.Nodup :=
  List.Pairwise.imp (fun {a b} h (e : a = b) => hi a (by rw [← e] at h; exact h)) h
theorem tabs_nodup (M : Int) (rows left : List Int) : (tabs M rows left).Nodup := pw_nodup ltR_irr (tabs_sorted M rows left)
/-- two sorted lists of the same things are the same -/
theorem sorted_ext {α : Type} {R : α → α → Prop} (hi : ∀ a, ¬R a a) (ht : ∀ {a b c}, R a b → R b c → R a c) : ∀ {a b : List α}, a.Pairwise R → b.Pairwise R → (∀ x, x ∈ a ↔ x ∈ b) → a = b
  | [], [], _, _, _ => rfl
  | [], y :: b, _, _, h => by have := (h y).mpr List.mem_cons_self; cases this
  | x :: a, [], _, _, h => by have := (h x).mp List.mem_cons_self; cases this
  | x :: a, y :: b, ha, hb, h => by
    have pa := List.pairwise_cons.mp ha
    have pb := List.pairwise_cons.mp hb
    have e : x = y := by
      rcases List.mem_cons.mp ((h x).mp List.mem_cons_self) with e | hx
      · exact e
      · rcases List.mem_cons.mp ((h y).mpr List.mem_cons_self) with e | hy
        · exact e.symm
        · exact absurd (ht (pb.1 x hx) (pa.1 y hy)) (hi y)
    subst e
    rw [sorted_ext hi ht pa.2 pb.2 fun z => ?_]
    constructor
    · intro hz
      rcases List.mem_cons.mp ((h z).mp (List.mem_cons_of_mem _ hz)) with e | hz'
      · subst e; exact absurd (pa.1 z hz) (hi z)
      · exact hz'
    · intro hz
      rcases List.mem_cons.mp ((h z).mpr (List.mem_cons_of_mem _ hz)) with e | hz'
      · subst e; exact absurd (pb.1 z hz) (hi z)
      · exact hz'
/-! ## what the tables are -/
def colS (m : Nat) (T : Rows) : List Int := (rg 0 m).map fun j => (T.map fun row => ixD row j).sum
structure IsT (M : Int) (rows cols : List Int) (T : Rows) : Prop where
  en : ∀ row ∈ T, ∀ x ∈ row, 0 ≤ x ∧ x ≤ M
  ln : ∀ row ∈ T, row.length = cols.length
  rs : T.map List.sum = rows
  cs : colS cols.length T = cols
theorem ixD_cons0 {α : Type} [Inhabited α] (x : α) (xs : List α) : ixD (x :: xs) 0 = x := by
  rw [ixD_nat _ 0 ⟨by omega, by simp⟩]
  rfl
theorem ixD_consS {α : Type} [Inhabited α] (x : α) (xs : List α) (k : Int) (h : 0 ≤ k ∧ k < xs.length) : ixD (x :: xs) (k + 1) = ixD xs k := by
  rw [ixD_nat _ _ ⟨by omega, by rw [List.length_cons]; omega⟩, ixD_nat _ _ h]
  have : (k + 1).toNat = k.toNat + 1 := by omega
  simp only [this, List.getElem_cons_succ]
theorem ixD_ext {α : Type} [Inhabited α] {a b : List α} (h : a.length = b.length) (e : ∀ k : Int, 0 ≤ k ∧ k < a.length → ixD a k = ixD b k) : a = b := by
  rw [← map_ixD a a.length rfl, ← map_ixD b a.length h.symm]
  exact List.map_congr_left fun k hk => e k (mem_rg.mp hk)
theorem len_subL {a b : List Int} (h : b.length = a.length) : (subL a b).length = a.length := by
  unfold subL
  rw [List.length_map, List.length_zip]; omega
theorem ixD_subL {a b : List Int} (h : b.length = a.length) (k : Int) (hk : 0 ≤ k ∧ k < a.length) : ixD (subL a b) k = ixD a k - ixD b k := by
  rw [ixD_nat _ _ (by rw [len_subL h]; exact hk), ixD_nat _ _ hk, ixD_nat _ _ (by omega)]
  unfold subL
  rw [List.getElem_map, List.getElem_zip]
theorem len_colS (m : Nat) (T : Rows) : (colS m T).length = m := by
  unfold colS
  rw [List.length_map, len_rg]; omega
theorem ixD_colS {m : Nat} (T : Rows) (k : Int) (hk : 0 ≤ k ∧ k < m) : ixD (colS m T) k = (T.map fun row => ixD row k).sum := by
  unfold colS
  rw [ixD_map _ _ _ (by rw [len_rg]; omega), ixD_rg _ _ _ (by omega)]
  simp
theorem fits_ix : ∀ (xs ps : List Int), Fits xs ps ↔ xs.length = ps.length ∧ ∀ k : Int, 0 ≤ k ∧ k < xs.length → 0 ≤ ixD xs k ∧ ixD xs k ≤ ixD ps k
  | [], [] => by simp [Fits]; intro k h1 h2; omega
  | [], p :: ps => by simp [Fits]
  | x :: xs, [] => by simp [Fits]
  | x :: xs, p :: ps => by
    have ih := fits_ix xs ps
    show (0 ≤ x ∧ x ≤ p) ∧ Fits xs ps ↔ _
    rw [ih]
    constructor
    · rintro ⟨h0, h1, h2⟩
      refine ⟨by simp [h1], fun k hk => ?_⟩
      by_cases e : k = 0
      · subst e
        rw [ixD_cons0, ixD_cons0]; exact h0
      · obtain ⟨k', rfl⟩ : ∃ k', k = k' + 1 := ⟨k - 1, by omega⟩
        rw [List.length_cons] at hk
        rw [ixD_consS _ _ _ (by omega), ixD_consS _ _ _ (by omega)]
        exact h2 k' (by omega)
    · rintro ⟨h1, h2⟩
      have h1' : xs.length = ps.length := by simpa using h1
      refine ⟨?_, h1', fun k hk => ?_⟩
      · have := h2 0 ⟨by omega, by simp⟩
        rwa [ixD_cons0, ixD_cons0] at this
      · have := h2 (k + 1) ⟨by omega, by rw [List.length_cons]; omega⟩
        rwa [ixD_consS _ _ _ (by omega), ixD_consS _ _ _ (by omega)] at this
theorem len_topsM (M : Int) (left : List Int) : (topsM M left).length = left.length := by unfold topsM; rw [List.length_map]
theorem ixD_topsM (M : Int) (left : List Int) (k : Int) (hk : 0 ≤ k ∧ k < left.length) : ixD (topsM M left) k = if ixD left k < M then ixD left k else M := by
  unfold topsM
  rw [ixD_map _ _ _ hk]
theorem mem_ix {α : Type} [Inhabited α] {x : α} {xs : List α} (h : x ∈ xs) : ∃ k : Int, (0 ≤ k ∧ k < xs.length) ∧ ixD xs k = x := by
  obtain ⟨i, hi, rfl⟩ := List.getElem_of_mem h
  exact ⟨i, by omega, by rw [ixD_nat _ _ (by omega)]; rfl⟩
theorem mem_tops {M t : Int} {left row : List Int} : row ∈ rwT (topsM M left) t ↔ (row.length = left.length ∧ row.sum = t) ∧ (∀ x ∈ row, 0 ≤ x ∧ x ≤ M) ∧ ∀ k : Int, 0 ≤ k ∧ k < left.length → ixD row k ≤ ixD left k := by
  rw [mem_rwT, fits_ix, len_topsM]
  constructor
  · rintro ⟨⟨h1, h2⟩, h3⟩
    refine ⟨⟨h1, h3⟩, fun x hx => ?_, fun k hk => ?_⟩
    · obtain ⟨k, hk, rfl⟩ := mem_ix hx
      have := h2 k hk
      rw [ixD_topsM _ _ _ (by omega)] at this
      split at this <;> omega
    · have := h2 k (by omega)
      rw [ixD_topsM _ _ _ (by omega)] at this
      split at this <;> omega
  · rintro ⟨⟨h1, h3⟩, h4, h5⟩
    refine ⟨⟨h1, fun k hk => ?_⟩, h3⟩
    have := h4 _ (ixD_mem ⟨by omega, hk.2⟩)
    have := h5 k (by omega)
    rw [ixD_topsM _ _ _ (by omega)]
    split <;> omega
theorem sum_nn : ∀ {l : List Int}, (∀ x ∈ l, 0 ≤ x) → 0 ≤ l.sum
  | [], _ => Int.le_refl _
  | x :: l, h => by
    have := sum_nn fun y hy => h y (List.mem_cons_of_mem _ hy)
    have := h x List.mem_cons_self
    rw [List.sum_cons]; omega
theorem mem_tabs (M : Int) : ∀ (rows cols : List Int) (T : Rows), T ∈ tabs M rows cols ↔ IsT M rows cols T
  | [], cols, T => by
    unfold tabs
    have key : IsT M [] cols T ↔ T = [] ∧ ∀ c ∈ cols, c = 0 := by
      constructor
      · intro h
        have e : T = [] := by
          have := h.rs
          cases T with
          | nil => rfl
          | cons _ _ => simp at this
        subst e
        refine ⟨rfl, fun c hc => ?_⟩
        have := h.cs
        rw [← this] at hc
        unfold colS at hc
        obtain ⟨j, _, rfl⟩ := List.mem_map.mp hc
        rfl
      · rintro ⟨rfl, h⟩
        refine ⟨(fun _ h => nomatch h), (fun _ h => nomatch h), rfl, ixD_ext (len_colS _ _) fun k hk => ?_⟩
        rw [len_colS] at hk
        rw [ixD_colS _ _ hk, h _ (ixD_mem ⟨by omega, hk.2⟩)]
        rfl
    rw [key]
    by_cases h : cols.any (· != 0) = true
    · rw [if_pos h]
      simp only [List.any_eq_true, bne_iff_ne] at h
      obtain ⟨x, hx, h0⟩ := h
      constructor
      · intro h; cases h
      · rintro ⟨_, h⟩; exact absurd (h x hx) h0
    · rw [if_neg h]
      simp only [List.any_eq_true, bne_iff_ne, not_exists, not_and, Decidable.not_not] at h
      rw [List.mem_singleton]
      exact ⟨fun e => ⟨e, h⟩, fun e => e.1⟩
  | r :: rs, cols, T => by
    unfold tabs
    rw [List.mem_flatMap]
    constructor
    · rintro ⟨row, hrow, hT⟩
      obtain ⟨T', hT', rfl⟩ := List.mem_map.mp hT
      obtain ⟨⟨l1, l2⟩, l3, l4⟩ := mem_tops.mp hrow
      have ih := (mem_tabs M rs _ T').mp hT'
      have hl := len_subL l1
      refine ⟨fun x hx => ?_, fun x hx => ?_, ?_, ?_⟩
      · rcases List.mem_cons.mp hx with rfl | hx
        · exact l3
        · exact ih.en x hx
      · rcases List.mem_cons.mp hx with rfl | hx
        · exact l1
        · rw [ih.ln x hx, hl]
      · rw [List.map_cons, l2, ih.rs]
      · refine ixD_ext (len_colS _ _) fun k hk => ?_
        rw [len_colS] at hk
        rw [ixD_colS _ _ hk, List.map_cons, List.sum_cons]
        have := ih.cs
        rw [hl] at this
        rw [← ixD_colS T' k hk, this, ixD_subL l1 _ hk]
        omega
    · intro h
      cases T with
      | nil => have := h.rs; simp at this
      | cons row T' =>
        have hrs := h.rs
        rw [List.map_cons] at hrs
        injection hrs with hr hrs
        have l1 := h.ln row List.mem_cons_self
        have hl := len_subL l1
        have hcol : ∀ k : Int, 0 ≤ k ∧ k < cols.length → ixD cols k = ixD row k + (T'.map fun row => ixD row k).sum := fun k hk => by
          have := h.cs
          rw [← this, ixD_colS _ _ hk, List.map_cons, List.sum_cons]
        refine ⟨row, mem_tops.mpr ⟨⟨l1, hr⟩, h.en row List.mem_cons_self, fun k hk => ?_⟩, List.mem_map.mpr ⟨T', (mem_tabs M rs _ T').mpr ⟨fun x hx => h.en x (List.mem_cons_of_mem _ hx), fun x hx => ?_, hrs, ?_⟩, rfl⟩⟩
        · rw [hcol k hk]
          have := sum_nn (l := T'.map fun row => ixD row k) fun x hx => by
            obtain ⟨y, hy, rfl⟩ := List.mem_map.mp hx
            have := h.ln y (List.mem_cons_of_mem _ hy)
            exact (h.en y (List.mem_cons_of_mem _ hy) _ (ixD_mem ⟨by omega, by omega⟩)).1
          omega
        · rw [h.ln x (List.mem_cons_of_mem _ hx), hl]
        · refine ixD_ext (by rw [len_colS]) fun k hk => ?_
          rw [len_colS, hl] at hk
          rw [hl, ixD_colS _ _ hk, ixD_subL l1 _ hk, hcol k hk]
          omega

/-! # tables as functions; cuts; numbers between -/
def gt2 (T : Rows) (k j : Int) : Int := ixD (ixD T k) j
def mkT (n m : Nat) (x : Int → Int → Int) : Rows := (rg 0 n).map fun k => (rg 0 m).map fun j => x k j
structure Feas (X Y : List Int) (r c : Int → Int) (u x : Int → Int → Int) : Prop where
  en : ∀ i ∈ X, ∀ j ∈ Y, 0 ≤ x i j ∧ x i j ≤ u i j
  rs : ∀ i ∈ X, sS Y (x i) = r i
  cs : ∀ j ∈ Y, (sS X fun i => x i j) = c j
theorem feas_slk {X Y : List Int} {r c : Int → Int} {u x : Int → Int → Int} (h : Feas X Y r c u x) (I J : Int → Bool) : 0 ≤ slk X Y r c u I J := by
  have e1 : (sS Y fun j => if J j = true then c j else 0) = sS X fun i => sS Y fun j => if J j = true then x i j else 0 := by
    rw [sS_swap]
    refine sS_congr fun j hj => ?_
    cases J j
    · exact (sS_zero fun _ _ => rfl).symm
    · exact (h.cs j hj).symm
  have e2 : (sS X fun i => if I i = true then r i else 0) = sS X fun i => sS Y fun j => if I i = true then x i j else 0 := by
    refine sS_congr fun i hi => ?_
    cases I i
    · exact (sS_zero fun _ _ => rfl).symm
    · exact (h.rs i hi).symm
  unfold slk
  rw [e1, e2, ← sS_add, ← sS_sub]
  refine sS_nn fun i hi => ?_
  rw [← sS_add, ← sS_sub]
  refine sS_nn fun j hj => ?_
  have := h.en i hi j hj
  cases I i <;> cases J j <;> simp <;> omega
theorem feas_ex {X Y : List Int} (nx : X.Nodup) (ny : Y.Nodup) {r c : Int → Int} {u : Int → Int → Int} (hu : ∀ i ∈ X, ∀ j ∈ Y, 0 ≤ u i j) (hs : sS X r = sS Y c) (hc : ∀ I J, 0 ≤ slk X Y r c u I J) : ∃ x, Feas X Y r c u x := by
  obtain ⟨x, h1, h2, h3⟩ := transport nx ny (sS X fun i => sS Y fun j => u i j).toNat r c u hu (by omega) hs hc
  exact ⟨x, h1, h2, h3⟩
/-- so much less at a place -/
def lsn (a v : Int) (r : Int → Int) : Int → Int := fun i => if i = a then r i - v else r i
def at0 (a b : Int) (u : Int → Int → Int) : Int → Int → Int := fun i j => if i = a ∧ j = b then 0 else u i j
theorem sS_lsn {X : List Int} (nx : X.Nodup) {a : Int} (ha : a ∈ X) (v : Int) (r : Int → Int) (I : Int → Bool) : (sS X fun i => if I i = true then lsn a v r i else 0) = (sS X fun i => if I i = true then r i else 0) - if I a = true then v else 0 := by
  have e : (if I a = true then v else 0) = sS X fun i => if i = a then (if I a = true then v else 0) else 0 := (sS_ind nx ha _).symm
  rw [e, ← sS_sub]
  refine sS_congr fun i _ => ?_
  unfold lsn
  by_cases h : i = a
  · subst h; simp; split <;> simp
  · simp [h]
theorem slk_lsn {X Y : List Int} (nx : X.Nodup) (ny : Y.Nodup) {a b : Int} (ha : a ∈ X) (hb : b ∈ Y) (v : Int) (r c : Int → Int) (u : Int → Int → Int) (I J : Int → Bool) :
    slk X Y (lsn a v r) (lsn b v c) u I J = slk X Y r c u I J + (if I a = true then v else 0) - if J b = true then v else 0 := by
  unfold slk
  rw [sS_lsn nx ha, sS_lsn ny hb]
  omega
theorem feas_fix {X Y : List Int} (nx : X.Nodup) (ny : Y.Nodup) {a b : Int} (ha : a ∈ X) (hb : b ∈ Y) {r c : Int → Int} {u x : Int → Int → Int} (h : Feas X Y r c u x) : Feas X Y (lsn a (x a b) r) (lsn b (x a b) c) (at0 a b u) fun i j => if i = a ∧ j = b then 0 else x i j := by
  refine ⟨fun i hi j hj => ?_, fun i hi => ?_, fun j hj => ?_⟩
  · have := h.en i hi j hj
    unfold at0
    by_cases e : i = a ∧ j = b
    · rw [if_pos e, if_pos e]; exact ⟨Int.le_refl _, Int.le_refl _⟩
    · rw [if_neg e, if_neg e]; exact this
  · have e1 : (sS Y fun j => if i = a ∧ j = b then 0 else x i j) = sS Y (x i) - sS Y fun j => if j = b then (if i = a then x a b else 0) else 0 := by
      rw [← sS_sub]
      refine sS_congr fun j _ => ?_
      by_cases e : i = a <;> by_cases e' : j = b <;> simp [e, e']
    rw [e1, h.rs i hi, sS_ind ny hb]
    unfold lsn
    by_cases e : i = a <;> simp [e]
  · have e1 : (sS X fun i => if i = a ∧ j = b then 0 else x i j) = (sS X fun i => x i j) - sS X fun i => if i = a then (if j = b then x a b else 0) else 0 := by
      rw [← sS_sub]
      refine sS_congr fun i _ => ?_
      by_cases e : i = a <;> by_cases e' : j = b <;> simp [e, e']
    rw [e1, h.cs j hj, sS_ind nx ha]
    unfold lsn
    by_cases e : j = b <;> simp [e]
theorem between {X Y : List Int} (nx : X.Nodup) (ny : Y.Nodup) {a b : Int} (ha : a ∈ X) (hb : b ∈ Y) {r c : Int → Int} {u x x' : Int → Int → Int} (h : Feas X Y r c u x) (h' : Feas X Y r c u x') {v : Int} (h1 : x a b ≤ v) (h2 : v ≤ x' a b) :
    ∃ z, Feas X Y r c u z ∧ z a b = v := by
  have f1 := feas_slk (feas_fix nx ny ha hb h)
  have f2 := feas_slk (feas_fix nx ny ha hb h')
  have hu : ∀ i ∈ X, ∀ j ∈ Y, 0 ≤ at0 a b u i j := fun i hi j hj => by
    have := h.en i hi j hj
    unfold at0
    split <;> omega
  have hs0 : sS X r = sS Y c := by
    rw [← sS_congr h.rs, ← sS_congr h.cs, sS_swap]
  have hs : sS X (lsn a v r) = sS Y (lsn b v c) := by
    have e1 := sS_lsn nx ha v r fun _ => true
    have e2 := sS_lsn ny hb v c fun _ => true
    simp only [if_true] at e1 e2
    have e1 : sS X (lsn a v r) = sS X r - v := e1
    have e2 : sS Y (lsn b v c) = sS Y c - v := e2
    omega
  obtain ⟨z, hz⟩ := feas_ex nx ny hu hs fun I J => by
    have g1 := f1 I J
    have g2 := f2 I J
    rw [slk_lsn nx ny ha hb] at g1 g2 ⊢
    by_cases p : I a = true <;> by_cases q : J b = true <;> simp [p, q] at g1 g2 ⊢ <;> omega
  have hv0 : 0 ≤ v := by have := (h.en a ha b hb).1; omega
  have hvu : v ≤ u a b := by have := (h'.en a ha b hb).2; omega
  have hz0 : z a b = 0 := by
    have := hz.en a ha b hb
    unfold at0 at this
    simp at this
    omega
  refine ⟨fun i j => z i j + if i = a then (if j = b then v else 0) else 0, ⟨fun i hi j hj => ?_, fun i hi => ?_, fun j hj => ?_⟩, by simp [hz0]⟩
  · have := hz.en i hi j hj
    unfold at0 at this
    by_cases e : i = a
    · by_cases e' : j = b
      · subst e; subst e'; simp [hz0]; omega
      · simp [e, e'] at this ⊢; omega
    · simp [e] at this ⊢; omega
  · rw [sS_add, hz.rs i hi]
    unfold lsn
    by_cases e : i = a
    · simp only [if_pos e]
      rw [sS_ind ny hb]; omega
    · simp only [if_neg e]
      rw [sS_zero fun _ _ => rfl]; omega
  · rw [sS_add, hz.cs j hj]
    unfold lsn
    by_cases e : j = b
    · simp only [if_pos e]
      rw [sS_ind nx ha]; omega
    · simp only [if_neg e]
      rw [sS_zero fun i _ => by split <;> rfl]; omega
/-! ## tables and functions -/
theorem rg_nd (a b : Int) : (rg a b).Nodup := pw_nodup (R := (· < ·)) (fun a h => by omega) (rg_lt a b)
theorem map_sS {α : Type} (X : List α) (f : α → Int) : (X.map f).sum = sS X f := rfl
theorem list_sS (xs : List Int) : xs.sum = sS (rg 0 xs.length) (ixD xs) := by
  unfold sS
  rw [map_ixD xs xs.length rfl]
theorem sS_rows (T : Rows) (f : List Int → Int) : (T.map f).sum = sS (rg 0 T.length) fun k => f (ixD T k) := by
  rw [list_sS, List.length_map]
  refine sS_congr fun k hk => ?_
  exact ixD_map _ _ _ (mem_rg.mp hk)
theorem IsT.len {M : Int} {rows cols : List Int} {T : Rows} (h : IsT M rows cols T) : T.length = rows.length := by
  rw [← h.rs, List.length_map]
theorem isT_feas {M : Int} {rows cols : List Int} {T : Rows} (h : IsT M rows cols T) : Feas (rg 0 rows.length) (rg 0 cols.length) (ixD rows) (ixD cols) (fun _ _ => M) (gt2 T) := by
  have hl := h.len
  refine ⟨fun i hi j hj => ?_, fun i hi => ?_, fun j hj => ?_⟩
  · have hi := mem_rg.mp hi
    have hj := mem_rg.mp hj
    have hm : ixD T i ∈ T := ixD_mem ⟨by omega, by omega⟩
    have := h.ln _ hm
    exact h.en _ hm _ (ixD_mem ⟨by omega, by omega⟩)
  · have hi := mem_rg.mp hi
    have hm : ixD T i ∈ T := ixD_mem ⟨by omega, by omega⟩
    have := h.ln _ hm
    show sS (rg 0 cols.length) (ixD (ixD T i)) = _
    rw [← this, ← list_sS]
    have e := ixD_map List.sum T i ⟨by omega, by omega⟩
    rw [h.rs] at e
    exact e.symm
  · have hj := mem_rg.mp hj
    have e := ixD_colS T j hj
    rw [h.cs, sS_rows, hl] at e
    exact e.symm
theorem len_mkT (n m : Nat) (x : Int → Int → Int) : (mkT n m x).length = n := by
  unfold mkT
  rw [List.length_map, len_rg]; omega
theorem ix_mkT {n m : Nat} (x : Int → Int → Int) (k : Int) (hk : 0 ≤ k ∧ k < n) : ixD (mkT n m x) k = (rg 0 m).map fun j => x k j := by
  unfold mkT
  rw [ixD_map _ _ _ (by rw [len_rg]; omega), ixD_rg _ _ _ (by omega)]
  simp
theorem gt2_mkT {n m : Nat} (x : Int → Int → Int) (k j : Int) (hk : 0 ≤ k ∧ k < n) (hj : 0 ≤ j ∧ j < m) : gt2 (mkT n m x) k j = x k j := by
  unfold gt2
  rw [ix_mkT x k hk, ixD_map _ _ _ (by rw [len_rg]; omega), ixD_rg _ _ _ (by omega)]
  simp
theorem feas_isT {M : Int} {rows cols : List Int} {x : Int → Int → Int} (h : Feas (rg 0 rows.length) (rg 0 cols.length) (ixD rows) (ixD cols) (fun _ _ => M) x) : IsT M rows cols (mkT rows.length cols.length x) := by
  refine ⟨fun row hr y hy => ?_, fun row hr => ?_, ?_, ?_⟩
  · obtain ⟨k, hk, rfl⟩ := List.mem_map.mp hr
    obtain ⟨j, hj, rfl⟩ := List.mem_map.mp hy
    exact h.en k hk j hj
  · obtain ⟨k, hk, rfl⟩ := List.mem_map.mp hr
    rw [List.length_map, len_rg]; omega
  · refine ixD_ext (by rw [List.length_map, len_mkT]) fun k hk => ?_
    rw [List.length_map, len_mkT] at hk
    rw [ixD_map _ _ _ (by rw [len_mkT]; exact hk), ix_mkT x k hk]
    exact h.rs k (mem_rg.mpr hk)
  · refine ixD_ext (len_colS _ _) fun j hj => ?_
    rw [len_colS] at hj
    rw [ixD_colS _ _ hj, sS_rows, len_mkT, ← h.cs j (mem_rg.mpr hj)]
    exact sS_congr fun k hk => gt2_mkT x k j (mem_rg.mp hk) hj
theorem ltT_mem {M : Int} {rows cols : List Int} {T : Rows} (h : IsT M rows cols T) (k : Int) (hk : 0 ≤ k ∧ k < rows.length) : (ixD T k).length = cols.length := by
  have hl := h.len
  exact h.ln _ (ixD_mem ⟨by omega, by omega⟩)
theorem isT_ext {M : Int} {rows cols : List Int} {T U : Rows} (h : IsT M rows cols T) (h' : IsT M rows cols U) (e : ∀ k j : Int, 0 ≤ k ∧ k < rows.length → 0 ≤ j ∧ j < cols.length → gt2 T k j = gt2 U k j) : T = U := by
  have hl := h.len
  have hl' := h'.len
  refine ixD_ext (by omega) fun k hk => ?_
  have a1 := ltT_mem h k (by omega)
  have a2 := ltT_mem h' k (by omega)
  exact ixD_ext (by omega) fun j hj => e k j (by omega) (by omega)
/-- a number between two is there, too -/
theorem tabs_between {M : Int} {rows cols : List Int} {T U : Rows} (hT : T ∈ tabs M rows cols) (hU : U ∈ tabs M rows cols) {k j v : Int} (hk : 0 ≤ k ∧ k < rows.length) (hj : 0 ≤ j ∧ j < cols.length) (h1 : gt2 T k j ≤ v) (h2 : v ≤ gt2 U k j) : ∃ W ∈ tabs M rows cols, gt2 W k j = v := by
  obtain ⟨z, hz, e⟩ := between (rg_nd _ _) (rg_nd _ _) (mem_rg.mpr hk) (mem_rg.mpr hj) (isT_feas ((mem_tabs M rows cols T).mp hT)) (isT_feas ((mem_tabs M rows cols U).mp hU)) h1 h2
  exact ⟨_, (mem_tabs M rows cols _).mpr (feas_isT hz), by rw [gt2_mkT z k j hk hj, e]⟩
/-! ## cuts -/
def cutV (rows cols : List Int) (M : Int) (some far : List Int) : Int := (far.map fun j => ixD cols j).sum + M * some.length * ((cols.length : Int) - far.length) - (some.map fun k => ixD rows k).sum
theorem sS_filter {X : List Int} (I : Int → Bool) (f : Int → Int) : ((X.filter I).map f).sum = sS X fun i => if I i = true then f i else 0 := by
  induction X with
  | nil => rfl
  | cons x X ih =>
    rw [sS_cons, ← ih, List.filter_cons]
    cases I x <;> simp
theorem sS_const {α : Type} (X : List α) (d : Int) : sS X (fun _ => d) = d * X.length := by
  induction X with
  | nil => show (0 : Int) = d * ((0 : Nat) : Int); omega
  | cons x X ih => rw [sS_cons, ih, List.length_cons, Int.natCast_succ, Int.mul_add]; omega
theorem len_not {X : List Int} (J : Int → Bool) : ((X.filter fun j => !J j).length : Int) = X.length - (X.filter J).length := by
  induction X with
  | nil => rfl
  | cons x X ih =>
    rw [List.filter_cons, List.filter_cons]
    cases J x <;> simp <;> omega
theorem slk_cutV (rows cols : List Int) (M : Int) (I J : Int → Bool) : slk (rg 0 rows.length) (rg 0 cols.length) (ixD rows) (ixD cols) (fun _ _ => M) I J = cutV rows cols M ((rg 0 rows.length).filter I) ((rg 0 cols.length).filter J) := by
  unfold slk cutV
  rw [sS_filter, sS_filter]
  have e : (sS (rg 0 rows.length) fun i => sS (rg 0 cols.length) fun j => if I i = true ∧ J j = false then M else 0) = M * ((rg 0 rows.length).filter I).length * ((cols.length : Int) - ((rg 0 cols.length).filter J).length) := by
    have e1 : (sS (rg 0 cols.length) fun j => if J j = false then M else 0) = M * ((cols.length : Int) - ((rg 0 cols.length).filter J).length) := by
      have := sS_filter (X := rg 0 cols.length) (fun j => !J j) fun _ => M
      rw [map_sS, sS_const, len_not, len_rg] at this
      have h2 : (((cols.length : Int) - 0).toNat : Int) = cols.length := by omega
      rw [h2] at this
      rw [this]
      refine sS_congr fun j _ => ?_
      cases J j <;> rfl
    have e2 : ∀ i, (sS (rg 0 cols.length) fun j => if I i = true ∧ J j = false then M else 0) = if I i = true then M * ((cols.length : Int) - ((rg 0 cols.length).filter J).length) else 0 := fun i => by
      cases I i
      · simp; exact sS_zero fun _ _ => rfl
      · simp; exact e1
    rw [sS_congr fun i _ => e2 i, ← sS_filter, map_sS, sS_const]
    rw [Int.mul_assoc, Int.mul_assoc, Int.mul_comm ((cols.length : Int) - _)]
  rw [e]
theorem filter_of {n : Int} {s : List Int} (h : s.Sublist (rg 0 n)) : (rg 0 n).filter (fun k => decide (k ∈ s)) = s := by
  refine sorted_ext (R := (· < ·)) (fun a h => by omega) (fun h1 h2 => by omega) ((rg_lt 0 n).sublist List.filter_sublist) ((rg_lt 0 n).sublist h) fun x => ?_
  rw [List.mem_filter, decide_eq_true_eq]
  exact ⟨fun z => z.2, fun z => ⟨h.mem z, z⟩⟩
theorem tab_nocut {M : Int} {rows cols : List Int} {T : Rows} (h : T ∈ tabs M rows cols) {s f : List Int} (hs : s.Sublist (rg 0 rows.length)) (hf : f.Sublist (rg 0 cols.length)) : 0 ≤ cutV rows cols M s f := by
  have := feas_slk (isT_feas ((mem_tabs M rows cols T).mp h)) (fun k => decide (k ∈ s)) fun k => decide (k ∈ f)
  rw [slk_cutV, filter_of hs, filter_of hf] at this
  exact this
theorem tab_sums {M : Int} {rows cols : List Int} {T : Rows} (h : T ∈ tabs M rows cols) : rows.sum = cols.sum := by
  have F := isT_feas ((mem_tabs M rows cols T).mp h)
  rw [list_sS, list_sS, ← sS_congr F.rs, ← sS_congr F.cs, sS_swap]
theorem nocut_tab {M : Int} (hM : 0 ≤ M) {rows cols : List Int} (hs : rows.sum = cols.sum) (h : ∀ s f : List Int, s.Sublist (rg 0 rows.length) → f.Sublist (rg 0 cols.length) → 0 ≤ cutV rows cols M s f) : ∃ T, T ∈ tabs M rows cols := by
  obtain ⟨x, hx⟩ := feas_ex (rg_nd 0 rows.length) (rg_nd 0 cols.length) (r := ixD rows) (c := ixD cols) (u := fun _ _ => M) (fun _ _ _ _ => hM) (by rw [← list_sS, ← list_sS, hs]) fun I J => by
    rw [slk_cutV]
    exact h _ _ List.filter_sublist List.filter_sublist
  exact ⟨_, (mem_tabs M rows cols _).mpr (feas_isT hx)⟩

/-! # as many: turned, reversed, in another order -/
theorem nd_len {α : Type} [DecidableEq α] : ∀ (xs ys : List α), xs.Nodup → (∀ x ∈ xs, x ∈ ys) → xs.length ≤ ys.length
  | [], _, _, _ => Nat.zero_le _
  | x :: xs, ys, nd, h => by
    have hx := h x List.mem_cons_self
    have hnd := List.nodup_cons.mp nd
    have ih := nd_len xs (ys.erase x) hnd.2 fun y hy => (List.mem_erase_of_ne (fun e => hnd.1 (by rw [← e]; exact hy))).mpr (h y (List.mem_cons_of_mem _ hy))
    rw [List.length_erase_of_mem hx] at ih
    have := List.length_pos_of_mem hx
    rw [List.length_cons]; omega
theorem nd_map {α β : Type} {f : α → β} : ∀ {l : List α}, l.Nodup → (∀ a ∈ l, ∀ b ∈ l, f a = f b → a = b) → (l.map f).Nodup
  | [], _, _ => List.nodup_nil
  | x :: l, nd, h => by
    have hnd := List.nodup_cons.mp nd
    rw [List.map_cons]
    refine List.nodup_cons.mpr ⟨fun hm => ?_, nd_map hnd.2 fun a ha b hb => h a (List.mem_cons_of_mem _ ha) b (List.mem_cons_of_mem _ hb)⟩
    obtain ⟨y, hy, e⟩ := List.mem_map.mp hm
    have := h y (List.mem_cons_of_mem _ hy) x List.mem_cons_self e
    subst this
    exact hnd.1 hy
theorem inj_len {α β : Type} [DecidableEq β] {l : List α} {l' : List β} (f : α → β) (nd : l.Nodup) (h1 : ∀ a ∈ l, f a ∈ l') (h2 : ∀ a ∈ l, ∀ b ∈ l, f a = f b → a = b) : l.length ≤ l'.length := by
  have := nd_len (l.map f) l' (nd_map nd h2) fun y hy => by
    obtain ⟨x, hx, rfl⟩ := List.mem_map.mp hy
    exact h1 x hx
  rwa [List.length_map] at this
theorem surj_len {α β : Type} [DecidableEq β] {l : List α} {l' : List β} (f : α → β) (nd' : l'.Nodup) (h3 : ∀ y ∈ l', ∃ x ∈ l, f x = y) : l'.length ≤ l.length := by
  have := nd_len l' (l.map f) nd' fun y hy => by
    obtain ⟨x, hx, rfl⟩ := h3 y hy
    exact List.mem_map.mpr ⟨x, hx, rfl⟩
  rwa [List.length_map] at this
def trT (n m : Nat) (T : Rows) : Rows := mkT m n fun j k => gt2 T k j
theorem trT_mem {M : Int} {rows cols : List Int} {T : Rows} (h : T ∈ tabs M rows cols) : trT rows.length cols.length T ∈ tabs M cols rows := by
  have F := isT_feas ((mem_tabs M rows cols T).mp h)
  exact (mem_tabs M cols rows _).mpr (feas_isT ⟨fun i hi j hj => F.en j hj i hi, fun i hi => F.cs i hi, fun j hj => F.rs j hj⟩)
theorem gt2_trT {n m : Nat} (T : Rows) (k j : Int) (hk : 0 ≤ k ∧ k < m) (hj : 0 ≤ j ∧ j < n) : gt2 (trT n m T) k j = gt2 T j k := gt2_mkT _ k j hk hj
theorem tab_ext {M : Int} {rows cols : List Int} {T U : Rows} (h : T ∈ tabs M rows cols) (h' : U ∈ tabs M rows cols) (e : ∀ k j : Int, 0 ≤ k ∧ k < rows.length → 0 ≤ j ∧ j < cols.length → gt2 T k j = gt2 U k j) : T = U :=
  isT_ext ((mem_tabs M rows cols T).mp h) ((mem_tabs M rows cols U).mp h') e
/-- those with a number at a place -/
def wth (M : Int) (rows cols : List Int) (k j v : Int) : List Rows := (tabs M rows cols).filter fun T => decide (gt2 T k j = v)
theorem mem_wth {M : Int} {rows cols : List Int} {k j v : Int} {T : Rows} : T ∈ wth M rows cols k j v ↔ T ∈ tabs M rows cols ∧ gt2 T k j = v := by
  unfold wth
  rw [List.mem_filter, decide_eq_true_eq]
theorem wth_nd (M : Int) (rows cols : List Int) (k j v : Int) : (wth M rows cols k j v).Nodup := (tabs_nodup M rows cols).sublist List.filter_sublist
theorem tr_le (M : Int) (rows cols : List Int) : (tabs M rows cols).length ≤ (tabs M cols rows).length := by
  refine inj_len (trT rows.length cols.length) (tabs_nodup _ _ _) (fun a ha => trT_mem ha) fun a ha b hb e => tab_ext ha hb fun k j hk hj => ?_
  rw [← gt2_trT a j k hj hk, e, gt2_trT b j k hj hk]
theorem tr_len (M : Int) (rows cols : List Int) : (tabs M cols rows).length = (tabs M rows cols).length := Nat.le_antisymm (tr_le _ _ _) (tr_le _ _ _)
theorem trw_le (M : Int) (rows cols : List Int) (k j v : Int) (hk : 0 ≤ k ∧ k < rows.length) (hj : 0 ≤ j ∧ j < cols.length) : (wth M rows cols k j v).length ≤ (wth M cols rows j k v).length := by
  refine inj_len (trT rows.length cols.length) (wth_nd _ _ _ _ _ _) (fun a ha => ?_) fun a ha b hb e => ?_
  · have ha := mem_wth.mp ha
    exact mem_wth.mpr ⟨trT_mem ha.1, by rw [gt2_trT a j k hj hk, ha.2]⟩
  · refine tab_ext (mem_wth.mp ha).1 (mem_wth.mp hb).1 fun k j hk hj => ?_
    rw [← gt2_trT a j k hj hk, e, gt2_trT b j k hj hk]
theorem trw_len (M : Int) (rows cols : List Int) (k j v : Int) (hk : 0 ≤ k ∧ k < rows.length) (hj : 0 ≤ j ∧ j < cols.length) : (wth M cols rows j k v).length = (wth M rows cols k j v).length := Nat.le_antisymm (trw_le _ _ _ _ _ _ hj hk) (trw_le _ _ _ _ _ _ hk hj)
theorem sum_perm {a b : List Int} (h : a.Perm b) : a.sum = b.sum := by
  induction h with
  | nil => rfl
  | cons x _ ih => rw [List.sum_cons, List.sum_cons, ih]
  | swap x y l => rw [List.sum_cons, List.sum_cons, List.sum_cons, List.sum_cons]; omega
  | trans _ _ h1 h2 => rw [h1, h2]
theorem sS_perm {α : Type} {X Y : List α} (h : X.Perm Y) (f : α → Int) : sS X f = sS Y f := sum_perm (h.map f)
/-- in another order -/
def pmT (o f : List Int) (T : Rows) : Rows := mkT o.length f.length fun a b => gt2 T (ixD o a) (ixD f b)
theorem gt2_pmT {o f : List Int} (T : Rows) (a b : Int) (ha : 0 ≤ a ∧ a < o.length) (hb : 0 ≤ b ∧ b < f.length) : gt2 (pmT o f T) a b = gt2 T (ixD o a) (ixD f b) := gt2_mkT _ a b ha hb
theorem sS_ix (o : List Int) (g : Int → Int) : (sS (rg 0 o.length) fun a => g (ixD o a)) = sS o g := by
  have : (rg 0 o.length).map (fun a => g (ixD o a)) = o.map g := by
    have e : (rg 0 o.length).map (fun a => g (ixD o a)) = ((rg 0 o.length).map (ixD o)).map g := (List.map_map).symm
    rw [e, map_ixD o _ rfl]
  unfold sS
  rw [this]
section
variable {M : Int} {rows cols o f : List Int}
theorem pm_in {n : Nat} (ho : o.Perm (rg 0 n)) {a : Int} (ha : 0 ≤ a ∧ a < o.length) : 0 ≤ ixD o a ∧ ixD o a < n := mem_rg.mp (ho.mem_iff.mp (ixD_mem ⟨by omega, ha.2⟩))
theorem pmT_mem (ho : o.Perm (rg 0 rows.length)) (hf : f.Perm (rg 0 cols.length)) {T : Rows} (h : T ∈ tabs M rows cols) : pmT o f T ∈ tabs M (o.map (ixD rows)) (f.map (ixD cols)) := by
  have F := isT_feas ((mem_tabs M rows cols T).mp h)
  refine (mem_tabs M _ _ _).mpr ?_
  have l1 : (o.map (ixD rows)).length = o.length := List.length_map _
  have l2 : (f.map (ixD cols)).length = f.length := List.length_map _
  have := feas_isT (M := M) (rows := o.map (ixD rows)) (cols := f.map (ixD cols)) (x := fun a b => gt2 T (ixD o a) (ixD f b)) ⟨fun i hi j hj => ?_, fun i hi => ?_, fun j hj => ?_⟩
  · rw [l1, l2] at this
    exact this
  · have hi := mem_rg.mp hi
    have hj := mem_rg.mp hj
    exact F.en _ (mem_rg.mpr (pm_in ho (by omega))) _ (mem_rg.mpr (pm_in hf (by omega)))
  · have hi := mem_rg.mp hi
    rw [l2, sS_ix f fun b => gt2 T (ixD o i) b, sS_perm hf, ixD_map _ _ _ (by omega)]
    exact F.rs _ (mem_rg.mpr (pm_in ho (by omega)))
  · have hj := mem_rg.mp hj
    rw [l1, sS_ix o fun a => gt2 T a (ixD f j), sS_perm ho, ixD_map _ _ _ (by omega)]
    exact F.cs _ (mem_rg.mpr (pm_in hf (by omega)))
theorem ix_of {n : Nat} (ho : o.Perm (rg 0 n)) {k : Int} (hk : 0 ≤ k ∧ k < n) : ∃ a : Int, (0 ≤ a ∧ a < o.length) ∧ ixD o a = k := mem_ix (ho.mem_iff.mpr (mem_rg.mpr hk))
theorem pmT_inj (ho : o.Perm (rg 0 rows.length)) (hf : f.Perm (rg 0 cols.length)) {T U : Rows} (h : T ∈ tabs M rows cols) (h' : U ∈ tabs M rows cols) (e : pmT o f T = pmT o f U) : T = U := tab_ext h h' fun k j hk hj => by
  obtain ⟨a, ha, rfl⟩ := ix_of ho hk
  obtain ⟨b, hb, rfl⟩ := ix_of hf hj
  rw [← gt2_pmT T a b ha hb, e, gt2_pmT U a b ha hb]
def posn (o : List Int) (k : Int) : Int := (o.idxOf k : Int)
theorem posn_ix (nd : o.Nodup) {a : Int} (ha : 0 ≤ a ∧ a < o.length) : posn o (ixD o a) = a := by
  unfold posn
  rw [ixD_nat _ _ ha, nd.idxOf_getElem]
  omega
theorem ix_posn {k : Int} (h : k ∈ o) : ixD o (posn o k) = k ∧ 0 ≤ posn o k ∧ posn o k < o.length := by
  have hl := List.idxOf_lt_length_of_mem h
  unfold posn
  rw [ixD_nat _ _ (by omega)]
  refine ⟨?_, by omega, by omega⟩
  exact List.getElem_idxOf hl
theorem pmT_surj (ho : o.Perm (rg 0 rows.length)) (hf : f.Perm (rg 0 cols.length)) {U : Rows} (h : U ∈ tabs M (o.map (ixD rows)) (f.map (ixD cols))) : ∃ T ∈ tabs M rows cols, pmT o f T = U := by
  have F := isT_feas ((mem_tabs M _ _ U).mp h)
  have l1 : (o.map (ixD rows)).length = o.length := List.length_map _
  have l2 : (f.map (ixD cols)).length = f.length := List.length_map _
  rw [l1, l2] at F
  have ndo : o.Nodup := ho.nodup_iff.mpr (rg_nd _ _)
  have ndf : f.Nodup := hf.nodup_iff.mpr (rg_nd _ _)
  have hx : mkT rows.length cols.length (fun k j => gt2 U (posn o k) (posn f j)) ∈ tabs M rows cols := by
    refine (mem_tabs M _ _ _).mpr (feas_isT ⟨fun i hi j hj => ?_, fun i hi => ?_, fun j hj => ?_⟩)
    · exact F.en _ (mem_rg.mpr (ix_posn (ho.mem_iff.mpr hi)).2) _ (mem_rg.mpr (ix_posn (hf.mem_iff.mpr hj)).2)
    · obtain ⟨e1, e2⟩ := ix_posn (ho.mem_iff.mpr hi)
      rw [← sS_perm hf, ← sS_ix f fun j => gt2 U (posn o i) (posn f j)]
      have := F.rs _ (mem_rg.mpr e2)
      rw [ixD_map _ _ _ e2, e1] at this
      rw [← this]
      exact sS_congr fun b hb => by
        show gt2 U (posn o i) (posn f (ixD f b)) = _
        rw [posn_ix ndf (mem_rg.mp hb)]
    · obtain ⟨e1, e2⟩ := ix_posn (hf.mem_iff.mpr hj)
      rw [← sS_perm ho, ← sS_ix o fun i => gt2 U (posn o i) (posn f j)]
      have := F.cs _ (mem_rg.mpr e2)
      rw [ixD_map _ _ _ e2, e1] at this
      rw [← this]
      exact sS_congr fun b hb => by
        show gt2 U (posn o (ixD o b)) (posn f j) = _
        rw [posn_ix ndo (mem_rg.mp hb)]
  refine ⟨_, hx, tab_ext (pmT_mem ho hf hx) h fun a b ha hb => ?_⟩
  rw [l1] at ha
  rw [l2] at hb
  rw [gt2_pmT _ a b ha hb, gt2_mkT _ _ _ (pm_in ho ha) (pm_in hf hb), posn_ix ndo ha, posn_ix ndf hb]
theorem pm_len (ho : o.Perm (rg 0 rows.length)) (hf : f.Perm (rg 0 cols.length)) : (tabs M (o.map (ixD rows)) (f.map (ixD cols))).length = (tabs M rows cols).length :=
  Nat.le_antisymm (surj_len (pmT o f) (tabs_nodup _ _ _) fun y hy => pmT_surj ho hf hy) (inj_len (pmT o f) (tabs_nodup _ _ _) (fun a ha => pmT_mem ho hf ha) fun a ha b hb e => pmT_inj ho hf ha hb e)
theorem pmw_len (ho : o.Perm (rg 0 rows.length)) (hf : f.Perm (rg 0 cols.length)) {a b v : Int} (ha : 0 ≤ a ∧ a < o.length) (hb : 0 ≤ b ∧ b < f.length) : (wth M (o.map (ixD rows)) (f.map (ixD cols)) a b v).length = (wth M rows cols (ixD o a) (ixD f b) v).length := by
  refine Nat.le_antisymm (surj_len (pmT o f) (wth_nd _ _ _ _ _ _) fun y hy => ?_) (inj_len (pmT o f) (wth_nd _ _ _ _ _ _) (fun x hx => ?_) fun x hx y hy e => ?_)
  · have hy := mem_wth.mp hy
    obtain ⟨T, hT, rfl⟩ := pmT_surj ho hf hy.1
    exact ⟨T, mem_wth.mpr ⟨hT, by rw [← gt2_pmT T a b ha hb]; exact hy.2⟩, rfl⟩
  · have hx := mem_wth.mp hx
    exact mem_wth.mpr ⟨pmT_mem ho hf hx.1, by rw [gt2_pmT x a b ha hb]; exact hx.2⟩
  · exact pmT_inj ho hf (mem_wth.mp hx).1 (mem_wth.mp hy).1 e
end
/-! ## the first cell given -/
def flT : List Int → Int → Rows
  | [], t => if t = 0 then [[]] else []
  | p :: ps, t => (rg 0 ((if p < t then p else t) + 1)).flatMap fun f => (flT ps (t - f)).map (f :: ·)
theorem mem_flT : ∀ (ps : List Int) (t : Int) (row : List Int), row ∈ flT ps t ↔ Fits row ps ∧ row.sum = t
  | [], t, row => by
    have := mem_rwT [] t row
    unfold rwT at this
    unfold flT
    exact this
  | p :: ps, t, row => by
    unfold flT
    rw [List.mem_flatMap]
    constructor
    · rintro ⟨f, hf, hr⟩
      have hf := mem_rg.mp hf
      obtain ⟨r, hr', rfl⟩ := List.mem_map.mp hr
      have ih := (mem_flT ps _ r).mp hr'
      refine ⟨⟨⟨hf.1, ?_⟩, ih.1⟩, ?_⟩
      · split at hf <;> omega
      · rw [List.sum_cons, ih.2]; omega
    · rintro ⟨h, hs⟩
      cases row with
      | nil => cases h
      | cons x xs =>
        have h2 := h.2.sum
        rw [List.sum_cons] at hs
        refine ⟨x, mem_rg.mpr ⟨h.1.1, ?_⟩, ?_⟩
        · have := h.1.2; split <;> omega
        · exact List.mem_map.mpr ⟨xs, (mem_flT ps _ xs).mpr ⟨h.2, by omega⟩, rfl⟩
theorem flT_sorted : ∀ (ps : List Int) (t : Int), (flT ps t).Pairwise ltL
  | [], t => by unfold flT; split <;> simp
  | p :: ps, t => by
    unfold flT
    refine pw_flat (rg_lt _ _) (fun f _ => List.Pairwise.map (R := ltL) _ (fun a b h => .inr ⟨rfl, h⟩) (flT_sorted ps _)) fun f _ f' _ h a ha b hb => ?_
    obtain ⟨a', _, rfl⟩ := List.mem_map.mp ha
    obtain ⟨b', _, rfl⟩ := List.mem_map.mp hb
    exact .inl h
/-- how many have a number in the first cell -/
def cntF (M : Int) (rs : List Int) (r0 l0 : Int) (ltl : List Int) (v : Int) : Int := sS (flT (topsM M ltl) (r0 - v)) fun row => ((tabs M rs ((l0 - v) :: subL ltl row)).length : Int)
theorem wth_first (M : Int) (rs ltl : List Int) (r0 l0 v : Int) (hv : 0 ≤ v) (h1 : v ≤ M) (h2 : v ≤ l0) : wth M (r0 :: rs) (l0 :: ltl) 0 0 v = (flT (topsM M ltl) (r0 - v)).flatMap fun row => (tabs M rs ((l0 - v) :: subL ltl row)).map ((v :: row) :: ·) := by
  refine sorted_ext ltR_irr ltR_trans ((tabs_sorted _ _ _).sublist List.filter_sublist) (pw_flat (flT_sorted _ _) (fun row _ => List.Pairwise.map (R := ltR) _ (fun a b h => .inr ⟨rfl, h⟩) (tabs_sorted M rs _)) fun f _ f' _ h a ha b hb => ?_) fun T => ?_
  · obtain ⟨a', _, rfl⟩ := List.mem_map.mp ha
    obtain ⟨b', _, rfl⟩ := List.mem_map.mp hb
    exact .inl (.inr ⟨rfl, h⟩)
  · rw [mem_wth, tabs_cons, List.mem_flatMap, List.mem_flatMap]
    constructor
    · rintro ⟨⟨row, hr, hT⟩, hg⟩
      obtain ⟨T', hT', rfl⟩ := List.mem_map.mp hT
      have hr := (mem_rwT _ _ _).mp hr
      cases row with
      | nil => exact absurd hr.1 (by show ¬Fits [] (_ :: _); exact fun z => z)
      | cons x xs =>
        have hx : x = v := by
          rw [← hg]
          unfold gt2
          rw [ixD_cons0, ixD_cons0]
        subst hx
        refine ⟨xs, (mem_flT _ _ _).mpr ⟨hr.1.2, ?_⟩, List.mem_map.mpr ⟨T', hT', rfl⟩⟩
        have := hr.2
        rw [List.sum_cons] at this
        omega
    · rintro ⟨row, hr, hT⟩
      obtain ⟨T', hT', rfl⟩ := List.mem_map.mp hT
      have hr := (mem_flT _ _ _).mp hr
      refine ⟨⟨v :: row, (mem_rwT _ _ _).mpr ⟨⟨⟨hv, ?_⟩, hr.1⟩, ?_⟩, List.mem_map.mpr ⟨T', hT', rfl⟩⟩, ?_⟩
      · show v ≤ if l0 < M then l0 else M
        split <;> omega
      · rw [List.sum_cons, hr.2]; omega
      · unfold gt2
        rw [ixD_cons0, ixD_cons0]
theorem len_flatS {α β : Type} (g : α → List β) (xs : List α) : ((xs.flatMap g).length : Int) = sS xs fun x => ((g x).length : Int) := by
  induction xs with
  | nil => rfl
  | cons x xs ih => rw [List.flatMap_cons, List.length_append, sS_cons, ← ih]; omega
theorem cntF_len (M : Int) (rs ltl : List Int) (r0 l0 v : Int) (hv : 0 ≤ v) (h1 : v ≤ M) (h2 : v ≤ l0) : cntF M rs r0 l0 ltl v = (wth M (r0 :: rs) (l0 :: ltl) 0 0 v).length := by
  rw [wth_first M rs ltl r0 l0 v hv h1 h2, len_flatS]
  unfold cntF
  exact sS_congr fun row _ => by rw [List.length_map]
/-! ## ranks -/
def pickR {α β : Type} (g : α → List β) : List α → Nat → Option (α × Nat)
  | [], _ => none
  | x :: xs, i => if i < (g x).length then some (x, i) else pickR g xs (i - (g x).length)
theorem flat_get {α β : Type} (g : α → List β) : ∀ (xs : List α) (i : Nat), (xs.flatMap g)[i]? = (pickR g xs i).bind fun p => (g p.1)[p.2]?
  | [], i => rfl
  | x :: xs, i => by
    rw [List.flatMap_cons]
    unfold pickR
    by_cases h : i < (g x).length
    · rw [if_pos h, List.getElem?_append_left h]; rfl
    · rw [if_neg h, List.getElem?_append_right (by omega), flat_get g xs]
/-- how many stand ahead of a row's -/
def ahead {α β : Type} [DecidableEq α] (g : α → List β) (x : α) : List α → Int
  | [] => 0
  | y :: ys => if y = x then 0 else (g y).length + ahead g x ys
theorem ahead_nn {α β : Type} [DecidableEq α] (g : α → List β) (x : α) : ∀ xs : List α, 0 ≤ ahead g x xs
  | [] => Int.le_refl _
  | y :: ys => by
    unfold ahead
    have := ahead_nn g x ys
    split <;> omega
theorem flat_at {α β : Type} [DecidableEq α] (g : α → List β) (x : α) : ∀ (xs : List α), x ∈ xs → ∀ i : Nat, i < (g x).length → (xs.flatMap g)[(ahead g x xs).toNat + i]? = (g x)[i]?
  | y :: ys, h, i, hi => by
    rw [List.flatMap_cons]
    unfold ahead
    by_cases e : y = x
    · subst e
      rw [if_pos rfl]
      show (g y ++ ys.flatMap g)[0 + i]? = _
      rw [Nat.zero_add, List.getElem?_append_left hi]
    · rw [if_neg e]
      have hm : x ∈ ys := by
        rcases List.mem_cons.mp h with h | h
        · exact absurd h.symm e
        · exact h
      have ih := flat_at g x ys hm i hi
      have hn := ahead_nn g x ys
      rw [List.getElem?_append_right (by omega), ← ih]
      congr 1
      omega
def rankV (M : Int) : Rows → List Int → Int
  | [], _ => 0
  | row :: T, left => ahead (fun y => tabs M (T.map List.sum) (subL left y)) row (rwT (topsM M left) row.sum) + rankV M T (subL left row)
theorem rank_at (M : Int) : ∀ (T : Rows) (left : List Int), T ∈ tabs M (T.map List.sum) left → 0 ≤ rankV M T left ∧ (tabs M (T.map List.sum) left)[(rankV M T left).toNat]? = some T
  | [], left, h => by
    refine ⟨Int.le_refl _, ?_⟩
    rw [List.map_nil, tabs_nil] at h ⊢
    by_cases hh : (left.any (· != 0)) = true
    · rw [if_pos hh] at h; cases h
    · rw [if_neg hh]; rfl
  | row :: T, left, h => by
    have hc : (row :: T).map List.sum = row.sum :: T.map List.sum := rfl
    rw [hc, tabs_cons] at h ⊢
    have hrow : row ∈ rwT (topsM M left) row.sum ∧ T ∈ tabs M (T.map List.sum) (subL left row) := by
      obtain ⟨r, hr, hT⟩ := List.mem_flatMap.mp h
      obtain ⟨T', hT', e⟩ := List.mem_map.mp hT
      injection e with e1 e2
      subst e1 e2
      exact ⟨hr, hT'⟩
    obtain ⟨ih1, ih2⟩ := rank_at M T (subL left row) hrow.2
    unfold rankV
    have hn := ahead_nn (fun y => tabs M (T.map List.sum) (subL left y)) row (rwT (topsM M left) row.sum)
    have hl : (rankV M T (subL left row)).toNat < (tabs M (T.map List.sum) (subL left row)).length := by
      have := List.getElem?_eq_some_iff.mp ih2
      exact this.1
    have a1 : ∀ xs, ahead (fun y => (tabs M (T.map List.sum) (subL left y)).map (y :: ·)) row xs = ahead (fun y => tabs M (T.map List.sum) (subL left y)) row xs := fun xs => by
      induction xs with
      | nil => rfl
      | cons y ys ih => unfold ahead; rw [ih, List.length_map]
    have := flat_at (fun y => (tabs M (T.map List.sum) (subL left y)).map (y :: ·)) row (rwT (topsM M left) row.sum) hrow.1 (rankV M T (subL left row)).toNat (by rw [List.length_map]; exact hl)
    rw [a1] at this
    refine ⟨by omega, ?_⟩
    rw [Int.toNat_add hn ih1, this, List.getElem?_map, ih2]
    rfl
theorem get_inj {α : Type} {l : List α} (nd : l.Nodup) {i j : Nat} {x : α} (h1 : l[i]? = some x) (h2 : l[j]? = some x) : i = j := by
  induction l generalizing i j with
  | nil => cases h1
  | cons y l ih =>
    have hnd := List.nodup_cons.mp nd
    cases i with
    | zero =>
      cases j with
      | zero => rfl
      | succ j =>
        have e : y = x := by simpa using h1
        have : l[j]? = some x := by simpa using h2
        exact absurd (e ▸ List.mem_of_getElem? this) hnd.1
    | succ i =>
      cases j with
      | zero =>
        have e : y = x := by simpa using h2
        have : l[i]? = some x := by simpa using h1
        exact absurd (e ▸ List.mem_of_getElem? this) hnd.1
      | succ j =>
        have h1 : l[i]? = some x := by simpa using h1
        have h2 : l[j]? = some x := by simpa using h2
        rw [ih hnd.2 h1 h2]
/-- a table's rank is where it stands -/
theorem rank_get {M : Int} {T : Rows} {left : List Int} {i : Nat} (h : (tabs M (T.map List.sum) left)[i]? = some T) : rankV M T left = i := by
  obtain ⟨h1, h2⟩ := rank_at M T left (List.mem_of_getElem? h)
  have := get_inj (tabs_nodup M (T.map List.sum) left) h h2
  omega
/-- tables one by one: the row of a rank -/
def walkR (M : Int) : List Int → List Int → Nat → Option Rows
  | [], left, i => if (left.any (· != 0)) = true ∨ 0 < i then none else some []
  | r :: rs, left, i => (pickR (fun row => tabs M rs (subL left row)) (rwT (topsM M left) r) i).bind fun p => (walkR M rs (subL left p.1) p.2).map (p.1 :: ·)
theorem walkR_eq (M : Int) : ∀ (rows left : List Int) (i : Nat), walkR M rows left i = (tabs M rows left)[i]?
  | [], left, i => by
    rw [tabs_nil]
    unfold walkR
    by_cases h : left.any (· != 0) = true
    · rw [if_pos (.inl h), if_pos h]; rfl
    · rw [if_neg h]
      cases i with
      | zero => rw [if_neg (by simp [h])]; rfl
      | succ i => rw [if_pos (.inr (by omega))]; rfl
  | r :: rs, left, i => by
    rw [tabs_cons, flat_get]
    have e : ∀ xs i, pickR (fun row => (tabs M rs (subL left row)).map (row :: ·)) xs i = pickR (fun row => tabs M rs (subL left row)) xs i := fun xs => by
      induction xs with
      | nil => intro i; rfl
      | cons y ys ih => intro i; unfold pickR; rw [ih, List.length_map]
    rw [e]
    show (pickR (fun row => tabs M rs (subL left row)) (rwT (topsM M left) r) i).bind (fun p => (walkR M rs (subL left p.1) p.2).map (p.1 :: ·)) = _
    congr 1
    funext p
    rw [walkR_eq M rs, List.getElem?_map]


end Z

set_option Elab.async false
set_option linter.all false
set_option maxRecDepth 100000
set_option maxHeartbeats 2000000
namespace Z
open PySem
/-! # rows with a sum: what the function computes -/
instance : DecidableEq (Tp Int) := fun a b => if h : a.l = b.l then Decidable.isTrue (by cases a; cases b; cases h; rfl) else Decidable.isFalse fun e => h (by rw [e])
theorem tq_eqn (ps : List Int) : gEq (pv (⟨ps⟩ : Tp Int)) (D.p (.tuple [])) = some (pv (decide (ps = []))) := by
  have h := e_eq (⟨ps⟩ : Tp Int) (⟨[]⟩ : Tp Int)
  have e : decide ((⟨ps⟩ : Tp Int) = ⟨[]⟩) = decide (ps = []) := by
    by_cases z : ps = []
    · subst z; simp
    · rw [decide_eq_false z, decide_eq_false fun w => z (by injection w)]
  rw [e] at h
  exact h
theorem tq_nil : gTupD [] = some (D.p (.tuple [])) := rfl
theorem tq_sl (l : List Int) (lo hi : Option Int) : gSl (pv (⟨l⟩ : Tp Int)) lo hi = some (pv (⟨cut l lo hi⟩ : Tp Int)) := by
  show some (D.p (.tuple (cutP (l.map Py.enc) lo hi))) = _
  unfold cutP
  rw [List.length_map, ← List.map_drop, ← List.map_take]; rfl
theorem tq_tl {α : Type} (x : α) (tl : List α) : cut (x :: tl) (some 1) none = tl := by
  unfold cut
  simp [HT.sIx]
theorem tq_ints : ∀ l : List Int, ints? (l.map Py.enc) = some l
  | [] => rfl
  | x :: l => by
    show (ints? (l.map Py.enc)).map (x :: ·) = _
    rw [tq_ints l]; rfl
theorem tq_sum (l : List Int) : gSumT [pv (⟨l⟩ : Tp Int)] = some (pv l.sum) := by
  show (ints? (l.map Py.enc)).map (fun ns => D.p (.int ns.sum)) = _
  rw [tq_ints]; rfl
theorem tq_ix0 (x : Int) (tl : List Int) : gIx (pv (⟨x :: tl⟩ : Tp Int)) (pv (0 : Int)) = some (pv x) := by
  have h : 0 < (List.map (Py.enc (α := Int)) (x :: tl)).length := by simp
  show (L2.atI ((x :: tl).map Py.enc) 0).map D.p = _
  unfold L2.atI
  rw [ixN_of ⟨by decide, by simpa using h⟩]
  rfl
theorem tq_seq (l : List Int) : seqOf (pv (⟨l⟩ : Tp Int)) = some (l.map Py.enc) := rfl
theorem tq_tupL (l : List Int) : gTupOf [pv l] = some (pv (⟨l⟩ : Tp Int)) := rfl
theorem tq_lst (l : List Int) : gListOf [pv (⟨l⟩ : Tp Int)] = some (pv l) := rfl
theorem tq_one (x : Int) : gTupD [pv x] = some (pv (⟨[x]⟩ : Tp Int)) := rfl
theorem tq_add (x : Int) (q : Tp Int) (h : q.l.length < lim) : gAdd (pv (⟨[x]⟩ : Tp Int)) (pv q) = some (pv (⟨x :: q.l⟩ : Tp Int)) := by
  show (if [Py.enc x].length + (q.l.map Py.enc).length ≤ lim then some (D.p (.tuple ([Py.enc x] ++ q.l.map Py.enc))) else none) = _
  rw [if_pos (by rw [List.length_map, List.length_singleton]; omega)]
  rfl
theorem tq_zip (l : List Int) (q : Tp Int) : zpOf (pv (⟨l⟩ : Tp Int)) (pv q) = some ((l.zip q.l).map Py.enc) := by
  show some (zipL (l.map Py.enc) (q.l.map Py.enc)) = _
  rw [zipL_map]
theorem len_rwT : ∀ (ps : List Int) (t : Int), (∀ p ∈ ps, p ≤ 9) → (rwT ps t).length ≤ 10 ^ ps.length
  | [], t, _ => by unfold rwT; split <;> simp
  | p :: ps, t, h => by
    unfold rwT
    have ih := fun t => len_rwT ps t fun q hq => h q (List.mem_cons_of_mem _ hq)
    refine Nat.le_trans (len_flat _ (10 ^ ps.length) _ fun f _ => ?_) ?_
    · split
      · rw [List.length_map]; exact ih _
      · exact Nat.zero_le _
    · rw [len_rg, List.length_cons, Nat.pow_succ, Nat.mul_comm]
      refine Nat.mul_le_mul_left _ ?_
      have := h p List.mem_cons_self
      split <;> omega
def rwG (ps : List Int) (t f : Int) : Rows := if t - f ≤ ps.sum then (rwT ps (t - f)).map (f :: ·) else []
theorem rwT_cons (p : Int) (ps : List Int) (t : Int) : rwT (p :: ps) t = (rg 0 ((if p < t then p else t) + 1)).flatMap (rwG ps t) := rfl
def tps (l : Rows) : List (Tp Int) := l.map Tp.mk
theorem len_tps (l : Rows) : (tps l).length = l.length := List.length_map _
theorem rwT_len {ps row : List Int} {t : Int} (h : row ∈ rwT ps t) : row.length = ps.length := ((mem_rwT _ _ _).mp h).1.len
theorem pow3 {n : Nat} (h : n ≤ 3) : 10 ^ n ≤ 1000 := by
  have : 10 ^ n ≤ 10 ^ 3 := Nat.pow_le_pow_right (by decide) h
  omega
theorem len_rwG (ps : List Int) (t f : Int) (h : ∀ p ∈ ps, p ≤ 9) (hl : ps.length ≤ 3) : (rwG ps t f).length ≤ 1000 := by
  have := pow3 hl
  have := len_rwT ps (t - f) h
  unfold rwG
  split
  · rw [List.length_map]; omega
  · exact Nat.zero_le _
theorem p_rows_with : ∀ (fu : Nat) (ps : List Int) (t : Int), ps.length < fu → ps.length ≤ 3 → (∀ p ∈ ps, 0 ≤ p ∧ p ≤ 9) → 0 ≤ t → t ≤ 1000 → ∀ w : Unit, f_rows_with fu [pv t, pv (⟨ps⟩ : Tp Int)] w = .ok (pv (tps (rwT ps t))) w
  | 0, _, _, h, _, _, _, _, _ => by omega
  | fu + 1, [], t, _, _, _, h0, h1, w => by
    show runZ 5 (b_rows_with (f_rows_with fu)) [pv t, pv (⟨[]⟩ : Tp Int)] w = _
    have e1 : gList [D.p (.tuple [])] = some (pv ([⟨[]⟩] : List (Tp Int))) := rfl
    unfold b_rows_with
    by_cases hz : t = 0
    · simp (disch := (first | assumption | decide | omega | (simp only [List.length_map, List.length_append, List.length_cons, List.length_nil, List.length_range, len_rg, len_enum, len_cut1]; first | assumption | omega) | (simp only [List.length_map, List.length_append, List.length_cons, List.length_nil, List.length_range, len_rg, len_enum, len_cut1, lim] at *; omega))) only [run_ev, runD_nx, runD_rt, runD_exc, runD_ite, sSeq_ev, seqD_nx, seqD_rt, seqD_exc, seqD_ite, sIf_ev, ifD_ev, xAnd_ev, xOr_ev, xChain_ev, andD_ev, orD_ev, i_and, i_or, i_ff, lim_if, lim_if2, lim_ifL, xOwn_nil, Nat.reduceAdd, Nat.reduceSub, Int.reduceEq, Int.reduceLT, Int.reduceLE, Nat.reduceLT, Nat.reduceLeDiff, Nat.zero_add, Bool.false_eq_true, decide_false, decide_true, reduceCtorEq,  i_andP, i_orP, i_ok, i_pv, t_ii, t_ib, t_il, t_it, t_bi, t_bb, t_bl, t_bt, t_li, t_lb, t_ll, t_lt, t_ti, t_tb, t_tl, t_tt, sRet, sNil, sDrop, sAsg, sRaise, xIf, x2, x1, xN, xCall, xSl, oEv, xLc, wipeZ, iOf, iOf2, xB, bAnd, bOr, bNot, bYes, lNil, lCons, sSet, xV, sFrz, sPar2, sPar3, r_bind, r_bindX, r_bindB, r_calm, r_opt, r_optB, r_int, r_bl, r_non, xVar, e_eq, e_ne, e_add, e_sub, e_cat, e_mul, e_div, e_mod, e_neg, e_not, e_lt, e_le, e_gt, e_ge, e_isB, e_asB, e_truB, e_truI, e_asI, e_oInt, e_asP, e_listOf0, e_lstOf, sExt, sApp, sFor, e_isiI, e_isiB, e_isiL, e_isiP, e_len, e_lenP, e_sum, e_max, e_min, e_max2, e_min2, e_min3, e_all, e_anyI, e_anyB, e_l1, e_l2, e_l3, e_t2, keepD_pv, keepD_p, tzD_some, e_t3, e_asPp, e_zT3, e_listL, e_ix, e_ixP0, e_ixP1, e_sl, e_rev, e_in, e_seq, e_rg, e_en, e_zp, e_zN, e_zT, e_zCons, e_zNil, e_pl, e_noObj, e_noObjP, lift_ev, liftD_ok, liftD_exc, List.all_cons, List.all_nil, iOwn, lcGo_map, lcS_pure, lcS_filt, Option.bind_some, Option.map_some, List.map_cons, List.map_nil, List.length_cons, List.length_nil, List.replicate_succ, List.replicate_zero, List.cons_append, List.nil_append, List.set_cons_zero, List.set_cons_succ, List.getElem?_cons_zero, List.getElem?_cons_succ, Bool.not_true, eq_self, not_true_eq_false, not_false_eq_true, Bool.true_xor, Bool.false_xor, Bool.not_false, Bool.not_not, Bool.true_and, Bool.and_true, Bool.false_and, Bool.and_false, Bool.true_or, Bool.or_true, Bool.or_false, Bool.false_or, decide_eq_true_eq, Bool.not_eq_true', decide_eq_false_iff_not, ne_eq, if_true, if_false, reduceIte, List.getElem?_nil, List.all_map, List.any_map, Function.id_comp, Function.comp_def, id, Bool.decide_eq_false, Bool.decide_eq_true, tq_eqn, tq_nil, e1, hz]
      rfl
    · simp (disch := (first | assumption | decide | omega | (simp only [List.length_map, List.length_append, List.length_cons, List.length_nil, List.length_range, len_rg, len_enum, len_cut1]; first | assumption | omega) | (simp only [List.length_map, List.length_append, List.length_cons, List.length_nil, List.length_range, len_rg, len_enum, len_cut1, lim] at *; omega))) only [run_ev, runD_nx, runD_rt, runD_exc, runD_ite, sSeq_ev, seqD_nx, seqD_rt, seqD_exc, seqD_ite, sIf_ev, ifD_ev, xAnd_ev, xOr_ev, xChain_ev, andD_ev, orD_ev, i_and, i_or, i_ff, lim_if, lim_if2, lim_ifL, xOwn_nil, Nat.reduceAdd, Nat.reduceSub, Int.reduceEq, Int.reduceLT, Int.reduceLE, Nat.reduceLT, Nat.reduceLeDiff, Nat.zero_add, Bool.false_eq_true, decide_false, decide_true, reduceCtorEq,  i_andP, i_orP, i_ok, i_pv, t_ii, t_ib, t_il, t_it, t_bi, t_bb, t_bl, t_bt, t_li, t_lb, t_ll, t_lt, t_ti, t_tb, t_tl, t_tt, sRet, sNil, sDrop, sAsg, sRaise, xIf, x2, x1, xN, xCall, xSl, oEv, xLc, wipeZ, iOf, iOf2, xB, bAnd, bOr, bNot, bYes, lNil, lCons, sSet, xV, sFrz, sPar2, sPar3, r_bind, r_bindX, r_bindB, r_calm, r_opt, r_optB, r_int, r_bl, r_non, xVar, e_eq, e_ne, e_add, e_sub, e_cat, e_mul, e_div, e_mod, e_neg, e_not, e_lt, e_le, e_gt, e_ge, e_isB, e_asB, e_truB, e_truI, e_asI, e_oInt, e_asP, e_listOf0, e_lstOf, sExt, sApp, sFor, e_isiI, e_isiB, e_isiL, e_isiP, e_len, e_lenP, e_sum, e_max, e_min, e_max2, e_min2, e_min3, e_all, e_anyI, e_anyB, e_l1, e_l2, e_l3, e_t2, keepD_pv, keepD_p, tzD_some, e_t3, e_asPp, e_zT3, e_listL, e_ix, e_ixP0, e_ixP1, e_sl, e_rev, e_in, e_seq, e_rg, e_en, e_zp, e_zN, e_zT, e_zCons, e_zNil, e_pl, e_noObj, e_noObjP, lift_ev, liftD_ok, liftD_exc, List.all_cons, List.all_nil, iOwn, lcGo_map, lcS_pure, lcS_filt, Option.bind_some, Option.map_some, List.map_cons, List.map_nil, List.length_cons, List.length_nil, List.replicate_succ, List.replicate_zero, List.cons_append, List.nil_append, List.set_cons_zero, List.set_cons_succ, List.getElem?_cons_zero, List.getElem?_cons_succ, Bool.not_true, eq_self, not_true_eq_false, not_false_eq_true, Bool.true_xor, Bool.false_xor, Bool.not_false, Bool.not_not, Bool.true_and, Bool.and_true, Bool.false_and, Bool.and_false, Bool.true_or, Bool.or_true, Bool.or_false, Bool.false_or, decide_eq_true_eq, Bool.not_eq_true', decide_eq_false_iff_not, ne_eq, if_true, if_false, reduceIte, List.getElem?_nil, List.all_map, List.any_map, Function.id_comp, Function.comp_def, id, Bool.decide_eq_false, Bool.decide_eq_true, tq_eqn, tq_nil, e1, hz, e_nil]
      unfold rwT
      rw [if_neg hz]
      rfl
  | fu + 1, p :: ps, t, hf, hl, hp, h0, h1, w => by
    simp only [List.length_cons] at hf hl
    have hp0 := hp p List.mem_cons_self
    have hps : ∀ q ∈ ps, 0 ≤ q ∧ q ≤ 9 := fun q hq => hp q (List.mem_cons_of_mem _ hq)
    have hps9 : ∀ q ∈ ps, q ≤ 9 := fun q hq => (hps q hq).2
    obtain ⟨δ', e, ⟨a, hδ⟩⟩ := forGo_pre (w := w) (xs := rg 0 ((if p < t then p else t) + 1)) (tz := zN 3) (body := sIf (xB asB (x2 gLe (x2 gSub (xVar 0) (xVar 3)) (xN gSumT (lCons (xSl (some (xInt 1)) none (xVar 1)) lNil)))) (sExt 2 (xLc (iOf seqOf (xCall (f_rows_with fu) (lCons (x2 gSub (xVar 0) (xVar 3)) (lCons (xSl (some (xInt 1)) none (xVar 1)) lNil)))) (zN 4) bYes (x2 gAdd (xN gTupD (lCons (xVar 3) lNil)) (xVar 4)) [4])) sNil) (δ := [.v (pv t), .v (pv (⟨p :: ps⟩ : Tp Int)), .own [], .no, .no])
      (fun pr δ => ∃ a, δ = [.v (pv t), .v (pv (⟨p :: ps⟩ : Tp Int)), .own ((tps (pr.flatMap (rwG ps t))).map Py.enc), a, .no]) ⟨_, rfl⟩ fun pr f r ex δ ⟨a, hd⟩ => by
        subst hd
        have hfm : f ∈ rg 0 ((if p < t then p else t) + 1) := by rw [ex]; simp
        have hfm := mem_rg.mp hfm
        have hft : f ≤ t := by split at hfm <;> omega
        have hpl : pr.length ≤ 10 := by
          have := congrArg List.length ex
          simp [len_rg] at this
          split at this <;> omega
        have hacc := len_flat (rwG ps t) 1000 pr fun x _ => len_rwG ps t x hps9 (by omega)
        have hnew := len_rwG ps t f hps9 (by omega)
        refine ⟨[.v (pv t), .v (pv (⟨p :: ps⟩ : Tp Int)), .own ((tps (pr.flatMap (rwG ps t))).map Py.enc), .v (pv f), .no], rfl, [.v (pv t), .v (pv (⟨p :: ps⟩ : Tp Int)), .own ((tps ((pr ++ [f]).flatMap (rwG ps t))).map Py.enc), .v (pv f), .no], .inl ?_, _, rfl⟩
        rw [List.flatMap_append, List.flatMap_singleton]
        by_cases hc : t - f ≤ ps.sum
        · have ih := p_rows_with fu ps (t - f) (by omega) (by omega) hps (by omega) (by omega)
          have hg : rwG ps t f = (rwT ps (t - f)).map (f :: ·) := if_pos hc
          have hln : ∀ q ∈ tps (rwT ps (t - f)), q.l.length < lim := fun q hq => by
            obtain ⟨r, hr, rfl⟩ := List.mem_map.mp hq
            have := rwT_len hr
            show r.length < lim
            unfold lim
            omega
          simp (disch := (first | assumption | decide | omega | (simp only [List.length_map, List.length_append, List.length_cons, List.length_nil, List.length_range, len_rg, len_enum, len_cut1]; first | assumption | omega) | (simp only [List.length_map, List.length_append, List.length_cons, List.length_nil, List.length_range, len_rg, len_enum, len_cut1, lim] at *; omega))) only [run_ev, runD_nx, runD_rt, runD_exc, runD_ite, sSeq_ev, seqD_nx, seqD_rt, seqD_exc, seqD_ite, sIf_ev, ifD_ev, xAnd_ev, xOr_ev, xChain_ev, andD_ev, orD_ev, i_and, i_or, i_ff, lim_if, lim_if2, lim_ifL, xOwn_nil, Nat.reduceAdd, Nat.reduceSub, Int.reduceEq, Int.reduceLT, Int.reduceLE, Nat.reduceLT, Nat.reduceLeDiff, Nat.zero_add, Bool.false_eq_true, decide_false, decide_true, reduceCtorEq,  i_andP, i_orP, i_ok, i_pv, t_ii, t_ib, t_il, t_it, t_bi, t_bb, t_bl, t_bt, t_li, t_lb, t_ll, t_lt, t_ti, t_tb, t_tl, t_tt, sRet, sNil, sDrop, sAsg, sRaise, xIf, x2, x1, xN, xCall, xSl, oEv, xLc, wipeZ, iOf, iOf2, xB, bAnd, bOr, bNot, bYes, lNil, lCons, sSet, xV, sFrz, sPar2, sPar3, r_bind, r_bindX, r_bindB, r_calm, r_opt, r_optB, r_int, r_bl, r_non, xVar, e_eq, e_ne, e_add, e_sub, e_cat, e_mul, e_div, e_mod, e_neg, e_not, e_lt, e_le, e_gt, e_ge, e_isB, e_asB, e_truB, e_truI, e_asI, e_oInt, e_asP, e_listOf0, e_lstOf, sExt, sApp, sFor, e_isiI, e_isiB, e_isiL, e_isiP, e_len, e_lenP, e_sum, e_max, e_min, e_max2, e_min2, e_min3, e_all, e_anyI, e_anyB, e_l1, e_l2, e_l3, e_t2, keepD_pv, keepD_p, tzD_some, e_t3, e_asPp, e_zT3, e_listL, e_ix, e_ixP0, e_ixP1, e_sl, e_rev, e_in, e_seq, e_rg, e_en, e_zp, e_zN, e_zT, e_zCons, e_zNil, e_pl, e_noObj, e_noObjP, lift_ev, liftD_ok, liftD_exc, List.all_cons, List.all_nil, iOwn, lcGo_map, lcS_pure, lcS_filt, Option.bind_some, Option.map_some, List.map_cons, List.map_nil, List.length_cons, List.length_nil, List.replicate_succ, List.replicate_zero, List.cons_append, List.nil_append, List.set_cons_zero, List.set_cons_succ, List.getElem?_cons_zero, List.getElem?_cons_succ, Bool.not_true, eq_self, not_true_eq_false, not_false_eq_true, Bool.true_xor, Bool.false_xor, Bool.not_false, Bool.not_not, Bool.true_and, Bool.and_true, Bool.false_and, Bool.and_false, Bool.true_or, Bool.or_true, Bool.or_false, Bool.false_or, decide_eq_true_eq, Bool.not_eq_true', decide_eq_false_iff_not, ne_eq, if_true, if_false, reduceIte, List.getElem?_nil, List.all_map, List.any_map, Function.id_comp, Function.comp_def, id, Bool.decide_eq_false, Bool.decide_eq_true, tq_sl, tq_tl, tq_sum, hc, ih]
          rw [lc_eq (fun q : Tp Int => (⟨f :: q.l⟩ : Tp Int)) (fun q hq w => by
            have := hln q hq
            simp (disch := (first | assumption | decide | omega | (simp only [List.length_map, List.length_append, List.length_cons, List.length_nil, List.length_range, len_rg, len_enum, len_cut1]; first | assumption | omega) | (simp only [List.length_map, List.length_append, List.length_cons, List.length_nil, List.length_range, len_rg, len_enum, len_cut1, lim] at *; omega))) only [run_ev, runD_nx, runD_rt, runD_exc, runD_ite, sSeq_ev, seqD_nx, seqD_rt, seqD_exc, seqD_ite, sIf_ev, ifD_ev, xAnd_ev, xOr_ev, xChain_ev, andD_ev, orD_ev, i_and, i_or, i_ff, lim_if, lim_if2, lim_ifL, xOwn_nil, Nat.reduceAdd, Nat.reduceSub, Int.reduceEq, Int.reduceLT, Int.reduceLE, Nat.reduceLT, Nat.reduceLeDiff, Nat.zero_add, Bool.false_eq_true, decide_false, decide_true, reduceCtorEq,  i_andP, i_orP, i_ok, i_pv, t_ii, t_ib, t_il, t_it, t_bi, t_bb, t_bl, t_bt, t_li, t_lb, t_ll, t_lt, t_ti, t_tb, t_tl, t_tt, sRet, sNil, sDrop, sAsg, sRaise, xIf, x2, x1, xN, xCall, xSl, oEv, xLc, wipeZ, iOf, iOf2, xB, bAnd, bOr, bNot, bYes, lNil, lCons, sSet, xV, sFrz, sPar2, sPar3, r_bind, r_bindX, r_bindB, r_calm, r_opt, r_optB, r_int, r_bl, r_non, xVar, e_eq, e_ne, e_add, e_sub, e_cat, e_mul, e_div, e_mod, e_neg, e_not, e_lt, e_le, e_gt, e_ge, e_isB, e_asB, e_truB, e_truI, e_asI, e_oInt, e_asP, e_listOf0, e_lstOf, sExt, sApp, sFor, e_isiI, e_isiB, e_isiL, e_isiP, e_len, e_lenP, e_sum, e_max, e_min, e_max2, e_min2, e_min3, e_all, e_anyI, e_anyB, e_l1, e_l2, e_l3, e_t2, keepD_pv, keepD_p, tzD_some, e_t3, e_asPp, e_zT3, e_listL, e_ix, e_ixP0, e_ixP1, e_sl, e_rev, e_in, e_seq, e_rg, e_en, e_zp, e_zN, e_zT, e_zCons, e_zNil, e_pl, e_noObj, e_noObjP, lift_ev, liftD_ok, liftD_exc, List.all_cons, List.all_nil, iOwn, lcGo_map, lcS_pure, lcS_filt, Option.bind_some, Option.map_some, List.map_cons, List.map_nil, List.length_cons, List.length_nil, List.replicate_succ, List.replicate_zero, List.cons_append, List.nil_append, List.set_cons_zero, List.set_cons_succ, List.getElem?_cons_zero, List.getElem?_cons_succ, Bool.not_true, eq_self, not_true_eq_false, not_false_eq_true, Bool.true_xor, Bool.false_xor, Bool.not_false, Bool.not_not, Bool.true_and, Bool.and_true, Bool.false_and, Bool.and_false, Bool.true_or, Bool.or_true, Bool.or_false, Bool.false_or, decide_eq_true_eq, Bool.not_eq_true', decide_eq_false_iff_not, ne_eq, if_true, if_false, reduceIte, List.getElem?_nil, List.all_map, List.any_map, Function.id_comp, Function.comp_def, id, Bool.decide_eq_false, Bool.decide_eq_true, tq_one, tq_add])]
          have e2 : (tps (rwT ps (t - f))).map (fun q : Tp Int => (⟨f :: q.l⟩ : Tp Int)) = tps (rwG ps t f) := by
            rw [hg]
            unfold tps
            rw [List.map_map, List.map_map]
            rfl
          have ht : (List.map Py.enc (tps (rwT ps (t - f)))).length ≤ lim := by
            rw [hg, List.length_map] at hnew
            rw [List.length_map, len_tps]
            unfold lim
            omega
          rw [e2, if_pos ht]
          show (if (List.map Py.enc (tps (pr.flatMap (rwG ps t)))).length + (List.map Py.enc (tps (rwG ps t f))).length ≤ lim then SRes.nx [Sl.v (pv t), Sl.v (pv (⟨p :: ps⟩ : Tp Int)), Sl.own (List.map Py.enc (tps (pr.flatMap (rwG ps t))) ++ List.map Py.enc (tps (rwG ps t f))), Sl.v (pv f), Sl.no] w else SRes.bad) = _
          rw [if_pos (by simp only [List.length_map, len_tps]; unfold lim; omega)]
          unfold tps
          rw [List.map_append, List.map_append]
        · have hg : rwG ps t f = [] := if_neg hc
          rw [hg, List.append_nil]
          simp (disch := (first | assumption | decide | omega | (simp only [List.length_map, List.length_append, List.length_cons, List.length_nil, List.length_range, len_rg, len_enum, len_cut1]; first | assumption | omega) | (simp only [List.length_map, List.length_append, List.length_cons, List.length_nil, List.length_range, len_rg, len_enum, len_cut1, lim] at *; omega))) only [run_ev, runD_nx, runD_rt, runD_exc, runD_ite, sSeq_ev, seqD_nx, seqD_rt, seqD_exc, seqD_ite, sIf_ev, ifD_ev, xAnd_ev, xOr_ev, xChain_ev, andD_ev, orD_ev, i_and, i_or, i_ff, lim_if, lim_if2, lim_ifL, xOwn_nil, Nat.reduceAdd, Nat.reduceSub, Int.reduceEq, Int.reduceLT, Int.reduceLE, Nat.reduceLT, Nat.reduceLeDiff, Nat.zero_add, Bool.false_eq_true, decide_false, decide_true, reduceCtorEq,  i_andP, i_orP, i_ok, i_pv, t_ii, t_ib, t_il, t_it, t_bi, t_bb, t_bl, t_bt, t_li, t_lb, t_ll, t_lt, t_ti, t_tb, t_tl, t_tt, sRet, sNil, sDrop, sAsg, sRaise, xIf, x2, x1, xN, xCall, xSl, oEv, xLc, wipeZ, iOf, iOf2, xB, bAnd, bOr, bNot, bYes, lNil, lCons, sSet, xV, sFrz, sPar2, sPar3, r_bind, r_bindX, r_bindB, r_calm, r_opt, r_optB, r_int, r_bl, r_non, xVar, e_eq, e_ne, e_add, e_sub, e_cat, e_mul, e_div, e_mod, e_neg, e_not, e_lt, e_le, e_gt, e_ge, e_isB, e_asB, e_truB, e_truI, e_asI, e_oInt, e_asP, e_listOf0, e_lstOf, sExt, sApp, sFor, e_isiI, e_isiB, e_isiL, e_isiP, e_len, e_lenP, e_sum, e_max, e_min, e_max2, e_min2, e_min3, e_all, e_anyI, e_anyB, e_l1, e_l2, e_l3, e_t2, keepD_pv, keepD_p, tzD_some, e_t3, e_asPp, e_zT3, e_listL, e_ix, e_ixP0, e_ixP1, e_sl, e_rev, e_in, e_seq, e_rg, e_en, e_zp, e_zN, e_zT, e_zCons, e_zNil, e_pl, e_noObj, e_noObjP, lift_ev, liftD_ok, liftD_exc, List.all_cons, List.all_nil, iOwn, lcGo_map, lcS_pure, lcS_filt, Option.bind_some, Option.map_some, List.map_cons, List.map_nil, List.length_cons, List.length_nil, List.replicate_succ, List.replicate_zero, List.cons_append, List.nil_append, List.set_cons_zero, List.set_cons_succ, List.getElem?_cons_zero, List.getElem?_cons_succ, Bool.not_true, eq_self, not_true_eq_false, not_false_eq_true, Bool.true_xor, Bool.false_xor, Bool.not_false, Bool.not_not, Bool.true_and, Bool.and_true, Bool.false_and, Bool.and_false, Bool.true_or, Bool.or_true, Bool.or_false, Bool.false_or, decide_eq_true_eq, Bool.not_eq_true', decide_eq_false_iff_not, ne_eq, if_true, if_false, reduceIte, List.getElem?_nil, List.all_map, List.any_map, Function.id_comp, Function.comp_def, id, Bool.decide_eq_false, Bool.decide_eq_true, tq_sl, tq_tl, tq_sum, hc]
    subst hδ
    show runZ 5 (b_rows_with (f_rows_with fu)) [pv t, pv (⟨p :: ps⟩ : Tp Int)] w = _
    unfold b_rows_with
    have hne : (p :: ps = []) ↔ False := by simp
    have hmn : -1000000000 ≤ (if p < t then p else t) + 1 ∧ (if p < t then p else t) + 1 ≤ 1000000000 := by split <;> omega
    have hrg := e_rg ((if p < t then p else t) + 1) hmn
    simp (disch := (first | assumption | decide | omega | (simp only [List.length_map, List.length_append, List.length_cons, List.length_nil, List.length_range, len_rg, len_enum, len_cut1]; first | assumption | omega) | (simp only [List.length_map, List.length_append, List.length_cons, List.length_nil, List.length_range, len_rg, len_enum, len_cut1, lim] at *; omega))) only [run_ev, runD_nx, runD_rt, runD_exc, runD_ite, sSeq_ev, seqD_nx, seqD_rt, seqD_exc, seqD_ite, sIf_ev, ifD_ev, xAnd_ev, xOr_ev, xChain_ev, andD_ev, orD_ev, i_and, i_or, i_ff, lim_if, lim_if2, lim_ifL, xOwn_nil, Nat.reduceAdd, Nat.reduceSub, Int.reduceEq, Int.reduceLT, Int.reduceLE, Nat.reduceLT, Nat.reduceLeDiff, Nat.zero_add, Bool.false_eq_true, decide_false, decide_true, reduceCtorEq,  i_andP, i_orP, i_ok, i_pv, t_ii, t_ib, t_il, t_it, t_bi, t_bb, t_bl, t_bt, t_li, t_lb, t_ll, t_lt, t_ti, t_tb, t_tl, t_tt, sRet, sNil, sDrop, sAsg, sRaise, xIf, x2, x1, xN, xCall, xSl, oEv, xLc, wipeZ, iOf, iOf2, xB, bAnd, bOr, bNot, bYes, lNil, lCons, sSet, xV, sFrz, sPar2, sPar3, r_bind, r_bindX, r_bindB, r_calm, r_opt, r_optB, r_int, r_bl, r_non, xVar, e_eq, e_ne, e_add, e_sub, e_cat, e_mul, e_div, e_mod, e_neg, e_not, e_lt, e_le, e_gt, e_ge, e_isB, e_asB, e_truB, e_truI, e_asI, e_oInt, e_asP, e_listOf0, e_lstOf, sExt, sApp, sFor, e_isiI, e_isiB, e_isiL, e_isiP, e_len, e_lenP, e_sum, e_max, e_min, e_max2, e_min2, e_min3, e_all, e_anyI, e_anyB, e_l1, e_l2, e_l3, e_t2, keepD_pv, keepD_p, tzD_some, e_t3, e_asPp, e_zT3, e_listL, e_ix, e_ixP0, e_ixP1, e_sl, e_rev, e_in, e_seq, e_rg, e_en, e_zp, e_zN, e_zT, e_zCons, e_zNil, e_pl, e_noObj, e_noObjP, lift_ev, liftD_ok, liftD_exc, List.all_cons, List.all_nil, iOwn, lcGo_map, lcS_pure, lcS_filt, Option.bind_some, Option.map_some, List.map_cons, List.map_nil, List.length_cons, List.length_nil, List.replicate_succ, List.replicate_zero, List.cons_append, List.nil_append, List.set_cons_zero, List.set_cons_succ, List.getElem?_cons_zero, List.getElem?_cons_succ, Bool.not_true, eq_self, not_true_eq_false, not_false_eq_true, Bool.true_xor, Bool.false_xor, Bool.not_false, Bool.not_not, Bool.true_and, Bool.and_true, Bool.false_and, Bool.and_false, Bool.true_or, Bool.or_true, Bool.or_false, Bool.false_or, decide_eq_true_eq, Bool.not_eq_true', decide_eq_false_iff_not, ne_eq, if_true, if_false, reduceIte, List.getElem?_nil, List.all_map, List.any_map, Function.id_comp, Function.comp_def, id, Bool.decide_eq_false, Bool.decide_eq_true, tq_eqn, tq_nil, hne, tq_ix0, hrg]
    change runD (seqD (forGo (zN 3) _ ((rg 0 ((if p < t then p else t) + 1)).map Py.enc) [.v (pv t), .v (pv (⟨p :: ps⟩ : Tp Int)), .own [], .no, .no] w) _) = _
    rw [e]
    simp (disch := (first | assumption | decide | omega | (simp only [List.length_map, List.length_append, List.length_cons, List.length_nil, List.length_range, len_rg, len_enum, len_cut1]; first | assumption | omega) | (simp only [List.length_map, List.length_append, List.length_cons, List.length_nil, List.length_range, len_rg, len_enum, len_cut1, lim] at *; omega))) only [run_ev, runD_nx, runD_rt, runD_exc, runD_ite, sSeq_ev, seqD_nx, seqD_rt, seqD_exc, seqD_ite, sIf_ev, ifD_ev, xAnd_ev, xOr_ev, xChain_ev, andD_ev, orD_ev, i_and, i_or, i_ff, lim_if, lim_if2, lim_ifL, xOwn_nil, Nat.reduceAdd, Nat.reduceSub, Int.reduceEq, Int.reduceLT, Int.reduceLE, Nat.reduceLT, Nat.reduceLeDiff, Nat.zero_add, Bool.false_eq_true, decide_false, decide_true, reduceCtorEq,  i_andP, i_orP, i_ok, i_pv, t_ii, t_ib, t_il, t_it, t_bi, t_bb, t_bl, t_bt, t_li, t_lb, t_ll, t_lt, t_ti, t_tb, t_tl, t_tt, sRet, sNil, sDrop, sAsg, sRaise, xIf, x2, x1, xN, xCall, xSl, oEv, xLc, wipeZ, iOf, iOf2, xB, bAnd, bOr, bNot, bYes, lNil, lCons, sSet, xV, sFrz, sPar2, sPar3, r_bind, r_bindX, r_bindB, r_calm, r_opt, r_optB, r_int, r_bl, r_non, xVar, e_eq, e_ne, e_add, e_sub, e_cat, e_mul, e_div, e_mod, e_neg, e_not, e_lt, e_le, e_gt, e_ge, e_isB, e_asB, e_truB, e_truI, e_asI, e_oInt, e_asP, e_listOf0, e_lstOf, sExt, sApp, sFor, e_isiI, e_isiB, e_isiL, e_isiP, e_len, e_lenP, e_sum, e_max, e_min, e_max2, e_min2, e_min3, e_all, e_anyI, e_anyB, e_l1, e_l2, e_l3, e_t2, keepD_pv, keepD_p, tzD_some, e_t3, e_asPp, e_zT3, e_listL, e_ix, e_ixP0, e_ixP1, e_sl, e_rev, e_in, e_seq, e_rg, e_en, e_zp, e_zN, e_zT, e_zCons, e_zNil, e_pl, e_noObj, e_noObjP, lift_ev, liftD_ok, liftD_exc, List.all_cons, List.all_nil, iOwn, lcGo_map, lcS_pure, lcS_filt, Option.bind_some, Option.map_some, List.map_cons, List.map_nil, List.length_cons, List.length_nil, List.replicate_succ, List.replicate_zero, List.cons_append, List.nil_append, List.set_cons_zero, List.set_cons_succ, List.getElem?_cons_zero, List.getElem?_cons_succ, Bool.not_true, eq_self, not_true_eq_false, not_false_eq_true, Bool.true_xor, Bool.false_xor, Bool.not_false, Bool.not_not, Bool.true_and, Bool.and_true, Bool.false_and, Bool.and_false, Bool.true_or, Bool.or_true, Bool.or_false, Bool.false_or, decide_eq_true_eq, Bool.not_eq_true', decide_eq_false_iff_not, ne_eq, if_true, if_false, reduceIte, List.getElem?_nil, List.all_map, List.any_map, Function.id_comp, Function.comp_def, id, Bool.decide_eq_false, Bool.decide_eq_true, rwT_cons]

/-! # how many tables: what is known, and the function -/
abbrev WK := List Int × List Int
def keyD (k : WK) : Tp Int × Tp Int := (⟨k.1⟩, ⟨k.2⟩)
def nkW (k : WK) : NestedKey := .tup [.tup (k.1.map .num), .tup (k.2.map .num)]
theorem nkL_ints : ∀ l : List Int, nkL (l.map Py.enc) = some (l.map .num)
  | [] => rfl
  | x :: r => by
    rw [List.map_cons, List.map_cons]
    show ((nk (Py.enc x)).bind fun k => (nkL (r.map Py.enc)).map (k :: ·)) = _
    rw [nkL_ints r]; rfl
theorem nk_ints (l : List Int) : nk (Py.enc (⟨l⟩ : Tp Int)) = some (.tup (l.map .num)) := by
  show (nkL (l.map Py.enc)).map NestedKey.tup = _
  rw [nkL_ints]; rfl
theorem nk_W (k : WK) : nk (Py.enc (keyD k)) = some (nkW k) := by
  show ((nk (Py.enc (⟨k.1⟩ : Tp Int))).bind fun a => ((nk (Py.enc (⟨k.2⟩ : Tp Int))).bind fun b => (nkL []).map (b :: ·)).map (a :: ·)).map NestedKey.tup = _
  rw [nk_ints, nk_ints]; rfl
theorem nums_inj {a b : List Int} (h : a.map NestedKey.num = b.map .num) : a = b := (List.map_inj_right (fun x y e => by injection e)).mp h
theorem nkW_inj {a b : WK} (h : nkW a = nkW b) : a = b := by
  unfold nkW at h
  simp only [NestedKey.tup.injEq, List.cons.injEq, and_true] at h
  exact Prod.ext (nums_inj h.1) (nums_inj h.2)
def cntW (M : Int) (k : WK) : Int := ((tabs M k.1 k.2).length : Int)
def tabW (M : Int) (ks : List WK) : Memo := ks.map fun k => (Py.enc (keyD k), Py.enc (cntW M k))
theorem look_tabW (M : Int) : ∀ (ks : List WK) (k : WK), lookM (tabW M ks) (nkW k) = if k ∈ ks then some (Py.enc (cntW M k)) else none
  | [], k => rfl
  | a :: ks, k => by
    have ih := look_tabW M ks k
    unfold lookM tabW at ih ⊢
    rw [List.map_cons, List.find?_cons]
    by_cases h : a = k
    · subst h
      have e1 : decide (nk (Py.enc (keyD a)) = some (nkW a)) = true := decide_eq_true (nk_W a)
      rw [e1, if_pos List.mem_cons_self]
      rfl
    · have e1 : decide (nk (Py.enc (keyD a)) = some (nkW k)) = false := decide_eq_false fun z => by
        rw [nk_W] at z
        exact h (nkW_inj (Option.some.inj z))
      rw [e1]
      dsimp only
      rw [ih]
      by_cases h2 : k ∈ ks
      · rw [if_pos h2, if_pos (List.mem_cons_of_mem _ h2)]
      · rw [if_neg h2, if_neg (fun z => by rcases List.mem_cons.mp z with z | z; exact h z.symm; exact h2 z)]
theorem dep_ints : ∀ l : List Int, NestedKey.depthAll (l.map .num) ≤ 2
  | [] => by simp [NestedKey.depthAll]
  | x :: r => by
    have := dep_ints r
    simp only [List.map_cons, NestedKey.depthAll, NestedKey.depth]
    omega
theorem key_W (k : WK) : keyOf (Py.enc (keyD k)) = some (nkW k) := by
  have hd : (nkW k).depth ≤ 8 := by
    have := dep_ints k.1
    have := dep_ints k.2
    unfold nkW
    simp only [NestedKey.depth, NestedKey.depthAll]
    omega
  have e := nk_W k
  have e1 : keyOf (Py.enc (keyD k)) = (nk (Py.enc (keyD k))).bind fun k => if k.depth ≤ 8 then some k else none := rfl
  rw [e1, e]
  show (if (nkW k).depth ≤ 8 then some (nkW k) else none) = _
  rw [if_pos hd]
theorem get_last {α : Type} (pre : List α) (x : α) : (pre ++ [x])[pre.length]? = some x := by
  rw [List.getElem?_append_right (Nat.le_refl _), Nat.sub_self]; rfl
theorem set_last {α : Type} (pre : List α) (x y : α) : (pre ++ [x]).set pre.length y = pre ++ [y] := by
  rw [List.set_append_right _ _ (Nat.le_refl _), Nat.sub_self]; rfl
theorem inMW (M : Int) (pre : List Memo) (k : WK) (ks : List WK) : gInM true (pv (keyD k)) (.obj pre.length) (pre ++ [tabW M ks]) = some (pv (decide ¬k ∈ ks)) := by
  show ((keyOf (Py.enc (keyD k))).bind fun q => ((pre ++ [tabW M ks])[pre.length]?).map fun m => D.p (.bool (xor true (lookM m q).isSome))) = _
  rw [key_W, get_last]
  show some (D.p (.bool (xor true (lookM (tabW M ks) (nkW k)).isSome))) = _
  rw [look_tabW]
  by_cases h : k ∈ ks
  · rw [if_pos h, decide_eq_false (by simpa using h)]; rfl
  · rw [if_neg h, decide_eq_true h]; rfl
theorem ixMW (M : Int) (pre : List Memo) (k : WK) (ks : List WK) (h : k ∈ ks) : gIxM (.obj pre.length) (pv (keyD k)) (pre ++ [tabW M ks]) = some (pv (cntW M k)) := by
  show ((keyOf (Py.enc (keyD k))).bind fun q => ((pre ++ [tabW M ks])[pre.length]?).bind fun m => (lookM m q).map D.p) = _
  rw [key_W, get_last]
  show (lookM (tabW M ks) (nkW k)).map D.p = _
  rw [look_tabW, if_pos h]; rfl
theorem upMW (M : Int) (pre : List Memo) (k : WK) (ks : List WK) (h : k ∉ ks) (hl : ks.length < 100000) : upM (pv (cntW M k)) (.obj pre.length) (pv (keyD k)) (pre ++ [tabW M ks]) = some (pre ++ [tabW M (ks ++ [k])]) := by
  show ((keyOf (Py.enc (keyD k))).bind fun q => ((pre ++ [tabW M ks])[pre.length]?).bind fun m => if lookM m q = none ∧ m.length < 100000 then some ((pre ++ [tabW M ks]).set pre.length (m ++ [(Py.enc (keyD k), Py.enc (cntW M k))])) else none) = _
  rw [key_W, get_last]
  show (if lookM (tabW M ks) (nkW k) = none ∧ (tabW M ks).length < 100000 then some ((pre ++ [tabW M ks]).set pre.length (tabW M ks ++ [(Py.enc (keyD k), Py.enc (cntW M k))])) else none) = _
  rw [if_pos ⟨by rw [look_tabW, if_neg h], by unfold tabW; rw [List.length_map]; exact hl⟩, set_last]
  unfold tabW
  rw [List.map_append]; rfl
/-! ## the keys are few -/
def sfx : List Int → List (List Int)
  | [] => [[]]
  | x :: r => (x :: r) :: sfx r
theorem sfx_len : ∀ l : List Int, (sfx l).length = l.length + 1
  | [] => rfl
  | x :: r => by
    show (sfx r).length + 1 = _
    rw [sfx_len r]; rfl
theorem sfx_self : ∀ l : List Int, l ∈ sfx l
  | [] => List.mem_singleton.mpr rfl
  | _ :: _ => List.mem_cons_self
theorem sfx_tl {x : Int} {r : List Int} : ∀ {l : List Int}, x :: r ∈ sfx l → r ∈ sfx l
  | [], h => by
    have := List.mem_singleton.mp h
    cases this
  | y :: l, h => by
    rcases List.mem_cons.mp h with e | h
    · injection e with e1 e2
      subst e2
      exact List.mem_cons_of_mem _ (sfx_self r)
    · exact List.mem_cons_of_mem _ (sfx_tl h)
theorem sfx_mem : ∀ {l r : List Int}, r ∈ sfx l → ∀ x ∈ r, x ∈ l
  | [], r, h, x, hx => by rw [List.mem_singleton.mp h] at hx; exact hx
  | y :: l, r, h, x, hx => by
    rcases List.mem_cons.mp h with e | h
    · rw [e] at hx; exact hx
    · exact List.mem_cons_of_mem _ (sfx_mem h x hx)
theorem sfx_le : ∀ {l r : List Int}, r ∈ sfx l → r.length ≤ l.length
  | [], r, h => by rw [List.mem_singleton.mp h]; exact Nat.le_refl _
  | y :: l, r, h => by
    rcases List.mem_cons.mp h with e | h
    · rw [e]; exact Nat.le_refl _
    · have := sfx_le h
      rw [List.length_cons]; omega
def boxN : Nat → List (List Int)
  | 0 => [[]]
  | m + 1 => (rg 0 28).flatMap fun x => (boxN m).map (x :: ·)
theorem boxN_len : ∀ m, (boxN m).length ≤ 28 ^ m
  | 0 => Nat.le_refl _
  | m + 1 => by
    unfold boxN
    refine Nat.le_trans (len_flat _ (28 ^ m) _ fun x _ => by rw [List.length_map]; exact boxN_len m) ?_
    rw [len_rg, Nat.pow_succ, Nat.mul_comm]
    exact Nat.mul_le_mul_left _ (by decide)
theorem boxN_mem : ∀ {m : Nat} {l : List Int}, l.length = m → (∀ x ∈ l, 0 ≤ x ∧ x ≤ 27) → l ∈ boxN m
  | 0, [], _, _ => List.mem_singleton.mpr rfl
  | m + 1, x :: l, h, hx => by
    unfold boxN
    have := hx x List.mem_cons_self
    exact List.mem_flatMap.mpr ⟨x, mem_rg.mpr (by omega), List.mem_map.mpr ⟨l, boxN_mem (by simpa using h) fun y hy => hx y (List.mem_cons_of_mem _ hy), rfl⟩⟩
structure ConsW (root : List Int) (m : Nat) (ks : List WK) : Prop where
  nd : ks.Nodup
  ok : ∀ k ∈ ks, k.1 ∈ sfx root ∧ k.2.length = m ∧ ∀ x ∈ k.2, 0 ≤ x ∧ x ≤ 27
theorem ConsW.le {root : List Int} {m : Nat} {ks : List WK} (h : ConsW root m ks) (h1 : root.length ≤ 3) (h2 : m ≤ 3) : ks.length < 100000 := by
  have := nd_len ks ((sfx root).flatMap fun r => (boxN m).map fun l => (r, l)) h.nd fun k hk => by
    obtain ⟨g1, g2, g3⟩ := h.ok k hk
    exact List.mem_flatMap.mpr ⟨k.1, g1, List.mem_map.mpr ⟨k.2, boxN_mem g2 g3, rfl⟩⟩
  have h3 := len_flat (fun r => (boxN m).map fun l => (r, l)) (28 ^ 3) (sfx root) fun r _ => by
    rw [List.length_map]
    exact Nat.le_trans (boxN_len m) (Nat.pow_le_pow_right (by decide) h2)
  rw [sfx_len] at h3
  have : (root.length + 1) * 28 ^ 3 ≤ 4 * 28 ^ 3 := Nat.mul_le_mul_right _ (by omega)
  omega
theorem ConsW.nil (root : List Int) (m : Nat) : ConsW root m [] := ⟨List.nodup_nil, fun _ h => by cases h⟩
/-- what the sums must be -/
structure OkL (m : Nat) (l : List Int) : Prop where
  len : l.length = m
  en : ∀ x ∈ l, 0 ≤ x ∧ x ≤ 27
theorem okL_sub {m : Nat} {M t : Int} {left row : List Int} (h : OkL m left) (hr : row ∈ rwT (topsM M left) t) : OkL m (subL left row) := by
  obtain ⟨⟨l1, l2⟩, l3, l4⟩ := mem_tops.mp hr
  have hl := len_subL l1
  refine ⟨by rw [hl]; exact h.len, fun x hx => ?_⟩
  obtain ⟨k, hk, rfl⟩ := mem_ix hx
  rw [hl] at hk
  rw [ixD_subL l1 _ hk]
  have := l4 k hk
  have := h.en _ (ixD_mem (xs := left) (i := k) ⟨by omega, hk.2⟩)
  have := (l3 _ (ixD_mem (xs := row) (i := k) ⟨by omega, by omega⟩)).1
  omega
theorem ok_tops {m : Nat} {M : Int} {left : List Int} (h : OkL m left) (hM : 0 ≤ M ∧ M ≤ 9) : ∀ p ∈ topsM M left, 0 ≤ p ∧ p ≤ 9 := fun p hp => by
  unfold topsM at hp
  obtain ⟨c, hc, rfl⟩ := List.mem_map.mp hp
  have := h.en c hc
  split <;> omega
theorem tq_any (l : List Int) : gAny [pv (⟨l⟩ : Tp Int)] = some (pv (l.any (· != 0))) := by
  show (ints? (l.map Py.enc)).map (fun ns => D.p (.bool (ns.any (· != 0)))) = _
  rw [tq_ints]; rfl
section
variable {root : List Int} {m : Nat} {M : Int}
abbrev WOk (root : List Int) (m : Nat) (M : Int) (pre : List Memo) (fu : Nat) : Prop := ∀ rows left : List Int, rows ∈ sfx root → rows.length < fu → OkL m left → ∀ ks, ConsW root m ks → ∃ ks', f_ways_from fu [pv (⟨rows⟩ : Tp Int), pv (⟨left⟩ : Tp Int), pv M, .obj pre.length] (pre ++ [tabW M ks]) = .ok (pv (cntW M (rows, left))) (pre ++ [tabW M ks']) ∧ ConsW root m ks' ∧ ∀ k ∈ ks', k ∈ ks ∨ k.1.length ≤ rows.length
def bodyW (rec : FZ (List Memo)) : SF (List Memo) := sAug 4 (fun i j => i + j) (xCall rec (lCons (xSl (some (xInt 1)) none (xVar 0)) (lCons (xN gTupOf (lCons (xLc (iOf2 zpOf (xVar 1) (xVar 5)) (zT 2 (zCons (zN 7) (zCons (zN 8) zNil))) bYes (x2 gSub (xVar 7) (xVar 8)) [7, 8]) lNil)) (lCons (xVar 2) (lCons (xVar 3) lNil)))))
theorem sAug_ev {W : Type} {i : Nat} {op : Int → Int → Int} {g : XF W} {δ : Ev} {w w' : W} {a n : Int} (hd : δ[i]? = some (.v (pv a))) (e : g δ w = .ok (pv n) w') : sAug i op g δ w = .nx (δ.set i (.v (pv (op a n)))) w' := by
  unfold sAug
  rw [hd]
  show (match g δ w with
    | .ok x w' => match asI x with
      | some n => SRes.nx (δ.set i (.v (.p (.int (op a n))))) w'
      | none => .bad
    | .exc n w' => .exc n δ w'
    | .bad => .bad) = _
  rw [e]
  rfl
theorem subL_map (l r : List Int) : (l.zip r).map (fun p => p.1 - p.2) = subL l r := rfl
theorem keyT (r l : List Int) : gTupD [pv (⟨r⟩ : Tp Int), pv (⟨l⟩ : Tp Int)] = some (pv (keyD (r, l))) := rfl
theorem bodyW_ev {pre : List Memo} {fu : Nat} (ih : WOk root m M pre fu) (hm : m ≤ 3) (r : Int) (rs left : List Int) (hs : r :: rs ∈ sfx root) (hl : rs.length < fu) (ho : OkL m left) (row : List Int) (hr : row ∈ rwT (topsM M left) r) (acc : Int) (ks : List WK) (hk : ConsW root m ks) :
    ∃ ks', ConsW root m ks' ∧ (∀ k ∈ ks', k ∈ ks ∨ k.1.length ≤ rs.length) ∧ bodyW (f_ways_from fu) [.v (pv (⟨r :: rs⟩ : Tp Int)), .v (pv (⟨left⟩ : Tp Int)), .v (pv M), .v (.obj pre.length), .v (pv acc), .v (pv (⟨row⟩ : Tp Int)), .no, .no, .no] (pre ++ [tabW M ks]) =
      .nx [.v (pv (⟨r :: rs⟩ : Tp Int)), .v (pv (⟨left⟩ : Tp Int)), .v (pv M), .v (.obj pre.length), .v (pv (acc + cntW M (rs, subL left row))), .v (pv (⟨row⟩ : Tp Int)), .no, .no, .no] (pre ++ [tabW M ks']) := by
  obtain ⟨ks', e1, hk', hnew⟩ := ih rs (subL left row) (sfx_tl hs) hl (okL_sub ho hr) ks hk
  refine ⟨ks', hk', hnew, ?_⟩
  have hz := tq_zip left ⟨row⟩
  have h4 := ho.len
  have hzl : (left.zip row).length ≤ 3 := by rw [List.length_zip]; omega
  have hx : xCall (f_ways_from fu) (lCons (xSl (some (xInt 1)) none (xVar 0)) (lCons (xN gTupOf (lCons (xLc (iOf2 zpOf (xVar 1) (xVar 5)) (zT 2 (zCons (zN 7) (zCons (zN 8) zNil))) bYes (x2 gSub (xVar 7) (xVar 8)) [7, 8]) lNil)) (lCons (xVar 2) (lCons (xVar 3) lNil)))) [.v (pv (⟨r :: rs⟩ : Tp Int)), .v (pv (⟨left⟩ : Tp Int)), .v (pv M), .v (.obj pre.length), .v (pv acc), .v (pv (⟨row⟩ : Tp Int)), .no, .no, .no] (pre ++ [tabW M ks]) = .ok (pv (cntW M (rs, subL left row))) (pre ++ [tabW M ks']) := by
    simp (disch := (first | assumption | decide | omega | (simp only [List.length_map, List.length_append, List.length_cons, List.length_nil, List.length_range, len_rg, len_enum, len_cut1]; first | assumption | omega) | (simp only [List.length_map, List.length_append, List.length_cons, List.length_nil, List.length_range, len_rg, len_enum, len_cut1, lim] at *; omega))) only [run_ev, runD_nx, runD_rt, runD_exc, runD_ite, sSeq_ev, seqD_nx, seqD_rt, seqD_exc, seqD_ite, sIf_ev, ifD_ev, xAnd_ev, xOr_ev, xChain_ev, andD_ev, orD_ev, i_and, i_or, i_ff, lim_if, lim_if2, lim_ifL, xOwn_nil, Nat.reduceAdd, Nat.reduceSub, Int.reduceEq, Int.reduceLT, Int.reduceLE, Nat.reduceLT, Nat.reduceLeDiff, Nat.zero_add, Bool.false_eq_true, decide_false, decide_true, reduceCtorEq,  i_andP, i_orP, i_ok, i_pv, t_ii, t_ib, t_il, t_it, t_bi, t_bb, t_bl, t_bt, t_li, t_lb, t_ll, t_lt, t_ti, t_tb, t_tl, t_tt, sRet, sNil, sDrop, sAsg, sRaise, xIf, x2, x1, xN, xCall, xSl, oEv, xLc, wipeZ, iOf, iOf2, xB, bAnd, bOr, bNot, bYes, lNil, lCons, sSet, xV, sFrz, sPar2, sPar3, r_bind, r_bindX, r_bindB, r_calm, r_opt, r_optB, r_int, r_bl, r_non, xVar, e_eq, e_ne, e_add, e_sub, e_cat, e_mul, e_div, e_mod, e_neg, e_not, e_lt, e_le, e_gt, e_ge, e_isB, e_asB, e_truB, e_truI, e_asI, e_oInt, e_asP, e_listOf0, e_lstOf, sExt, sApp, sFor, e_isiI, e_isiB, e_isiL, e_isiP, e_len, e_lenP, e_sum, e_max, e_min, e_max2, e_min2, e_min3, e_all, e_anyI, e_anyB, e_l1, e_l2, e_l3, e_t2, keepD_pv, keepD_p, tzD_some, e_t3, e_asPp, e_zT3, e_listL, e_ix, e_ixP0, e_ixP1, e_sl, e_rev, e_in, e_seq, e_rg, e_en, e_zp, e_zN, e_zT, e_zCons, e_zNil, e_pl, e_noObj, e_noObjP, lift_ev, liftD_ok, liftD_exc, List.all_cons, List.all_nil, iOwn, lcGo_map, lcS_pure, lcS_filt, Option.bind_some, Option.map_some, List.map_cons, List.map_nil, List.length_cons, List.length_nil, List.replicate_succ, List.replicate_zero, List.cons_append, List.nil_append, List.set_cons_zero, List.set_cons_succ, List.getElem?_cons_zero, List.getElem?_cons_succ, Bool.not_true, eq_self, not_true_eq_false, not_false_eq_true, Bool.true_xor, Bool.false_xor, Bool.not_false, Bool.not_not, Bool.true_and, Bool.and_true, Bool.false_and, Bool.and_false, Bool.true_or, Bool.or_true, Bool.or_false, Bool.false_or, decide_eq_true_eq, Bool.not_eq_true', decide_eq_false_iff_not, ne_eq, if_true, if_false, reduceIte, List.getElem?_nil, List.all_map, List.any_map, Function.id_comp, Function.comp_def, id, Bool.decide_eq_false, Bool.decide_eq_true, tq_sl, tq_tl, hz, subL_map, tq_tupL, e1]
  exact sAug_ev rfl hx
theorem cntW_cons (M r : Int) (rs left : List Int) : cntW M (r :: rs, left) = sS (rwT (topsM M left) r) fun row => cntW M (rs, subL left row) := by
  unfold cntW
  rw [tabs_cons, len_flatS]
  exact sS_congr fun row _ => by rw [List.length_map]
theorem p_ways (hroot : root.length ≤ 3) (hr27 : ∀ x ∈ root, 0 ≤ x ∧ x ≤ 27) (hm : m ≤ 3) (hM : 0 ≤ M ∧ M ≤ 9) (pre : List Memo) : ∀ fu, WOk root m M pre fu
  | 0 => fun rows left _ hl => by omega
  | fu + 1 => fun rows left hs hl ho ks hk => by
    have ih := p_ways hroot hr27 hm hM pre fu
    have h4 := ho.len
    show ∃ ks', runZ 9 (b_ways_from (f_ways_from fu)) [pv (⟨rows⟩ : Tp Int), pv (⟨left⟩ : Tp Int), pv M, .obj pre.length] (pre ++ [tabW M ks]) = .ok (pv (cntW M (rows, left))) (pre ++ [tabW M ks']) ∧ ConsW root m ks' ∧ ∀ k ∈ ks', k ∈ ks ∨ k.1.length ≤ rows.length
    cases rows with
    | nil =>
      refine ⟨ks, ?_, hk, fun k h => .inl h⟩
      unfold b_ways_from
      simp (disch := (first | assumption | decide | omega | (simp only [List.length_map, List.length_append, List.length_cons, List.length_nil, List.length_range, len_rg, len_enum, len_cut1]; first | assumption | omega) | (simp only [List.length_map, List.length_append, List.length_cons, List.length_nil, List.length_range, len_rg, len_enum, len_cut1, lim] at *; omega))) only [run_ev, runD_nx, runD_rt, runD_exc, runD_ite, sSeq_ev, seqD_nx, seqD_rt, seqD_exc, seqD_ite, sIf_ev, ifD_ev, xAnd_ev, xOr_ev, xChain_ev, andD_ev, orD_ev, i_and, i_or, i_ff, lim_if, lim_if2, lim_ifL, xOwn_nil, Nat.reduceAdd, Nat.reduceSub, Int.reduceEq, Int.reduceLT, Int.reduceLE, Nat.reduceLT, Nat.reduceLeDiff, Nat.zero_add, Bool.false_eq_true, decide_false, decide_true, reduceCtorEq,  i_andP, i_orP, i_ok, i_pv, t_ii, t_ib, t_il, t_it, t_bi, t_bb, t_bl, t_bt, t_li, t_lb, t_ll, t_lt, t_ti, t_tb, t_tl, t_tt, sRet, sNil, sDrop, sAsg, sRaise, xIf, x2, x1, xN, xCall, xSl, oEv, xLc, wipeZ, iOf, iOf2, xB, bAnd, bOr, bNot, bYes, lNil, lCons, sSet, xV, sFrz, sPar2, sPar3, r_bind, r_bindX, r_bindB, r_calm, r_opt, r_optB, r_int, r_bl, r_non, xVar, e_eq, e_ne, e_add, e_sub, e_cat, e_mul, e_div, e_mod, e_neg, e_not, e_lt, e_le, e_gt, e_ge, e_isB, e_asB, e_truB, e_truI, e_asI, e_oInt, e_asP, e_listOf0, e_lstOf, sExt, sApp, sFor, e_isiI, e_isiB, e_isiL, e_isiP, e_len, e_lenP, e_sum, e_max, e_min, e_max2, e_min2, e_min3, e_all, e_anyI, e_anyB, e_l1, e_l2, e_l3, e_t2, keepD_pv, keepD_p, tzD_some, e_t3, e_asPp, e_zT3, e_listL, e_ix, e_ixP0, e_ixP1, e_sl, e_rev, e_in, e_seq, e_rg, e_en, e_zp, e_zN, e_zT, e_zCons, e_zNil, e_pl, e_noObj, e_noObjP, lift_ev, liftD_ok, liftD_exc, List.all_cons, List.all_nil, iOwn, lcGo_map, lcS_pure, lcS_filt, Option.bind_some, Option.map_some, List.map_cons, List.map_nil, List.length_cons, List.length_nil, List.replicate_succ, List.replicate_zero, List.cons_append, List.nil_append, List.set_cons_zero, List.set_cons_succ, List.getElem?_cons_zero, List.getElem?_cons_succ, Bool.not_true, eq_self, not_true_eq_false, not_false_eq_true, Bool.true_xor, Bool.false_xor, Bool.not_false, Bool.not_not, Bool.true_and, Bool.and_true, Bool.false_and, Bool.and_false, Bool.true_or, Bool.or_true, Bool.or_false, Bool.false_or, decide_eq_true_eq, Bool.not_eq_true', decide_eq_false_iff_not, ne_eq, if_true, if_false, reduceIte, List.getElem?_nil, List.all_map, List.any_map, Function.id_comp, Function.comp_def, id, Bool.decide_eq_false, Bool.decide_eq_true, tq_eqn, tq_nil, tq_any]
      unfold cntW
      rw [tabs_nil]
      cases left.any (· != 0) <;> simp
    | cons r rs =>
      simp only [List.length_cons] at hl
      have hne : (r :: rs = []) ↔ False := by simp
      have hr27' := hr27 r (sfx_mem hs r List.mem_cons_self)
      by_cases hmem : (r :: rs, left) ∈ ks
      · refine ⟨ks, ?_, hk, fun k h => .inl h⟩
        have hin := inMW M pre (r :: rs, left) ks
        rw [decide_eq_false (by simpa using hmem)] at hin
        have hin : gInM true (pv ((⟨r :: rs⟩, ⟨left⟩) : Tp Int × Tp Int)) (.obj pre.length) (pre ++ [tabW M ks]) = some (pv false) := hin
        have hix : gIxM (.obj pre.length) (pv ((⟨r :: rs⟩, ⟨left⟩) : Tp Int × Tp Int)) (pre ++ [tabW M ks]) = some (pv (cntW M (r :: rs, left))) := ixMW M pre (r :: rs, left) ks hmem
        unfold b_ways_from
        simp (disch := (first | assumption | decide | omega | (simp only [List.length_map, List.length_append, List.length_cons, List.length_nil, List.length_range, len_rg, len_enum, len_cut1]; first | assumption | omega) | (simp only [List.length_map, List.length_append, List.length_cons, List.length_nil, List.length_range, len_rg, len_enum, len_cut1, lim] at *; omega))) only [run_ev, runD_nx, runD_rt, runD_exc, runD_ite, sSeq_ev, seqD_nx, seqD_rt, seqD_exc, seqD_ite, sIf_ev, ifD_ev, xAnd_ev, xOr_ev, xChain_ev, andD_ev, orD_ev, i_and, i_or, i_ff, lim_if, lim_if2, lim_ifL, xOwn_nil, Nat.reduceAdd, Nat.reduceSub, Int.reduceEq, Int.reduceLT, Int.reduceLE, Nat.reduceLT, Nat.reduceLeDiff, Nat.zero_add, Bool.false_eq_true, decide_false, decide_true, reduceCtorEq,  i_andP, i_orP, i_ok, i_pv, t_ii, t_ib, t_il, t_it, t_bi, t_bb, t_bl, t_bt, t_li, t_lb, t_ll, t_lt, t_ti, t_tb, t_tl, t_tt, sRet, sNil, sDrop, sAsg, sRaise, xIf, x2, x1, xN, xCall, xSl, oEv, xLc, wipeZ, iOf, iOf2, xB, bAnd, bOr, bNot, bYes, lNil, lCons, sSet, xV, sFrz, sPar2, sPar3, r_bind, r_bindX, r_bindB, r_calm, r_opt, r_optB, r_int, r_bl, r_non, xVar, e_eq, e_ne, e_add, e_sub, e_cat, e_mul, e_div, e_mod, e_neg, e_not, e_lt, e_le, e_gt, e_ge, e_isB, e_asB, e_truB, e_truI, e_asI, e_oInt, e_asP, e_listOf0, e_lstOf, sExt, sApp, sFor, e_isiI, e_isiB, e_isiL, e_isiP, e_len, e_lenP, e_sum, e_max, e_min, e_max2, e_min2, e_min3, e_all, e_anyI, e_anyB, e_l1, e_l2, e_l3, e_t2, keepD_pv, keepD_p, tzD_some, e_t3, e_asPp, e_zT3, e_listL, e_ix, e_ixP0, e_ixP1, e_sl, e_rev, e_in, e_seq, e_rg, e_en, e_zp, e_zN, e_zT, e_zCons, e_zNil, e_pl, e_noObj, e_noObjP, lift_ev, liftD_ok, liftD_exc, List.all_cons, List.all_nil, iOwn, lcGo_map, lcS_pure, lcS_filt, Option.bind_some, Option.map_some, List.map_cons, List.map_nil, List.length_cons, List.length_nil, List.replicate_succ, List.replicate_zero, List.cons_append, List.nil_append, List.set_cons_zero, List.set_cons_succ, List.getElem?_cons_zero, List.getElem?_cons_succ, Bool.not_true, eq_self, not_true_eq_false, not_false_eq_true, Bool.true_xor, Bool.false_xor, Bool.not_false, Bool.not_not, Bool.true_and, Bool.and_true, Bool.false_and, Bool.and_false, Bool.true_or, Bool.or_true, Bool.or_false, Bool.false_or, decide_eq_true_eq, Bool.not_eq_true', decide_eq_false_iff_not, ne_eq, if_true, if_false, reduceIte, List.getElem?_nil, List.all_map, List.any_map, Function.id_comp, Function.comp_def, id, Bool.decide_eq_false, Bool.decide_eq_true, tq_eqn, tq_nil, hne, x2W, hin, hix]
      · have hlr := fun row h => @rwT_len (topsM M left) row r h
        have hlt : (topsM M left).length ≤ 3 := by rw [len_topsM]; omega
        have hnr := len_rwT (topsM M left) r fun p hp => (ok_tops ho hM p hp).2
        have hp3 := pow3 hlt
        obtain ⟨δ', w', e, ks', a5, hk', hnew, hw, hd⟩ := forGo_preW (W := List Memo) (tz := zN 5) (body := bodyW (f_ways_from fu))
          (fun (p : List (Tp Int)) δ w => ∃ ks' a5, ConsW root m ks' ∧ (∀ k ∈ ks', k ∈ ks ∨ k.1.length ≤ rs.length) ∧ w = pre ++ [tabW M ks'] ∧ δ = [.v (pv (⟨r :: rs⟩ : Tp Int)), .v (pv (⟨left⟩ : Tp Int)), .v (pv M), .v (.obj pre.length), .v (pv (sS p fun q => cntW M (rs, subL left q.l))), a5, .no, .no, .no])
          (tps (rwT (topsM M left) r)) [] (fun p q rr ex δ w ⟨ks', a5, h1, h2, hw, hd⟩ => by
            subst hw hd
            have ex : tps (rwT (topsM M left) r) = p ++ q :: rr := ex
            have hq : q ∈ tps (rwT (topsM M left) r) := by rw [ex]; simp
            obtain ⟨row, hrow, rfl⟩ := List.mem_map.mp hq
            obtain ⟨ks2, g1, g2, g3⟩ := bodyW_ev ih hm r rs left hs (by omega) ho row hrow (sS p fun q => cntW M (rs, subL left q.l)) ks' h1
            refine ⟨[.v (pv (⟨r :: rs⟩ : Tp Int)), .v (pv (⟨left⟩ : Tp Int)), .v (pv M), .v (.obj pre.length), .v (pv (sS p fun q => cntW M (rs, subL left q.l))), .v (pv (⟨row⟩ : Tp Int)), .no, .no, .no], rfl, _, _, .inl g3, ks2, .v (pv (⟨row⟩ : Tp Int)), g1, fun k h => ?_, rfl, ?_⟩
            · rcases g2 k h with h | h
              · exact h2 k h
              · exact .inr h
            · have : (sS (p ++ [⟨row⟩]) fun q : Tp Int => cntW M (rs, subL left q.l)) = (sS p fun q => cntW M (rs, subL left q.l)) + cntW M (rs, subL left row) := by
                unfold sS
                rw [List.map_append, List.sum_append]
                simp
              rw [this])
          [.v (pv (⟨r :: rs⟩ : Tp Int)), .v (pv (⟨left⟩ : Tp Int)), .v (pv M), .v (.obj pre.length), .v (pv (0 : Int)), .no, .no, .no, .no] (pre ++ [tabW M ks]) ⟨ks, _, hk, fun k h => .inl h, rfl, rfl⟩
        subst hw hd
        have hsum : (sS ([] ++ tps (rwT (topsM M left) r)) fun q : Tp Int => cntW M (rs, subL left q.l)) = cntW M (r :: rs, left) := by
          rw [cntW_cons]
          show ((tps (rwT (topsM M left) r)).map _).sum = _
          unfold tps
          rw [List.map_map]
          rfl
        have hmm : (r :: rs, left) ∉ ks' := fun z => by
          rcases hnew _ z with h | h
          · exact hmem h
          · simp only [List.length_cons] at h; omega
        have hup : upM (pv (cntW M (r :: rs, left))) (.obj pre.length) (pv ((⟨r :: rs⟩, ⟨left⟩) : Tp Int × Tp Int)) (pre ++ [tabW M ks']) = _ := upMW M pre (r :: rs, left) ks' hmm (hk'.le hroot hm)
        have hix : gIxM (.obj pre.length) (pv ((⟨r :: rs⟩, ⟨left⟩) : Tp Int × Tp Int)) (pre ++ [tabW M (ks' ++ [(r :: rs, left)])]) = some (pv (cntW M (r :: rs, left))) := ixMW M pre (r :: rs, left) (ks' ++ [(r :: rs, left)]) (by simp)
        have hin := inMW M pre (r :: rs, left) ks
        rw [decide_eq_true hmem] at hin
        have hin : gInM true (pv ((⟨r :: rs⟩, ⟨left⟩) : Tp Int × Tp Int)) (.obj pre.length) (pre ++ [tabW M ks]) = some (pv true) := hin
        rw [hsum] at e
        have hrw := p_rows_with 10 (topsM M left) r (by omega) hlt (ok_tops ho hM) (by omega) (by omega) ()
        refine ⟨ks' ++ [(r :: rs, left)], ?_, ⟨?_, ?_⟩, fun k h => ?_⟩
        · have hT : (left.map fun c => if c < M then c else M) = topsM M left := rfl
          have e' : forGo (zN 5) (sAug 4 (fun i j => i + j) (xCall (f_ways_from fu) (lCons (xSl (some (xInt 1)) none (xVar 0)) (lCons (xN gTupOf (lCons (xLc (iOf2 zpOf (xVar 1) (xVar 5)) (zT 2 (zCons (zN 7) (zCons (zN 8) zNil))) bYes (x2 gSub (xVar 7) (xVar 8)) [7, 8]) lNil)) (lCons (xVar 2) (lCons (xVar 3) lNil)))))) ((tps (rwT (topsM M left) r)).map Py.enc) [.v (pv (⟨r :: rs⟩ : Tp Int)), .v (pv (⟨left⟩ : Tp Int)), .v (pv M), .v (.obj pre.length), .v (pv (0 : Int)), .no, .no, .no, .no] (pre ++ [tabW M ks]) = _ := e
          unfold b_ways_from
          simp (disch := (first | assumption | decide | omega | (simp only [List.length_map, List.length_append, List.length_cons, List.length_nil, List.length_range, len_rg, len_enum, len_cut1]; first | assumption | omega) | (simp only [List.length_map, List.length_append, List.length_cons, List.length_nil, List.length_range, len_rg, len_enum, len_cut1, lim] at *; omega))) only [run_ev, runD_nx, runD_rt, runD_exc, runD_ite, sSeq_ev, seqD_nx, seqD_rt, seqD_exc, seqD_ite, sIf_ev, ifD_ev, xAnd_ev, xOr_ev, xChain_ev, andD_ev, orD_ev, i_and, i_or, i_ff, lim_if, lim_if2, lim_ifL, xOwn_nil, Nat.reduceAdd, Nat.reduceSub, Int.reduceEq, Int.reduceLT, Int.reduceLE, Nat.reduceLT, Nat.reduceLeDiff, Nat.zero_add, Bool.false_eq_true, decide_false, decide_true, reduceCtorEq,  i_andP, i_orP, i_ok, i_pv, t_ii, t_ib, t_il, t_it, t_bi, t_bb, t_bl, t_bt, t_li, t_lb, t_ll, t_lt, t_ti, t_tb, t_tl, t_tt, sRet, sNil, sDrop, sAsg, sRaise, xIf, x2, x1, xN, xCall, xSl, oEv, xLc, wipeZ, iOf, iOf2, xB, bAnd, bOr, bNot, bYes, lNil, lCons, sSet, xV, sFrz, sPar2, sPar3, r_bind, r_bindX, r_bindB, r_calm, r_opt, r_optB, r_int, r_bl, r_non, xVar, e_eq, e_ne, e_add, e_sub, e_cat, e_mul, e_div, e_mod, e_neg, e_not, e_lt, e_le, e_gt, e_ge, e_isB, e_asB, e_truB, e_truI, e_asI, e_oInt, e_asP, e_listOf0, e_lstOf, sExt, sApp, sFor, e_isiI, e_isiB, e_isiL, e_isiP, e_len, e_lenP, e_sum, e_max, e_min, e_max2, e_min2, e_min3, e_all, e_anyI, e_anyB, e_l1, e_l2, e_l3, e_t2, keepD_pv, keepD_p, tzD_some, e_t3, e_asPp, e_zT3, e_listL, e_ix, e_ixP0, e_ixP1, e_sl, e_rev, e_in, e_seq, e_rg, e_en, e_zp, e_zN, e_zT, e_zCons, e_zNil, e_pl, e_noObj, e_noObjP, lift_ev, liftD_ok, liftD_exc, List.all_cons, List.all_nil, iOwn, lcGo_map, lcS_pure, lcS_filt, Option.bind_some, Option.map_some, List.map_cons, List.map_nil, List.length_cons, List.length_nil, List.replicate_succ, List.replicate_zero, List.cons_append, List.nil_append, List.set_cons_zero, List.set_cons_succ, List.getElem?_cons_zero, List.getElem?_cons_succ, Bool.not_true, eq_self, not_true_eq_false, not_false_eq_true, Bool.true_xor, Bool.false_xor, Bool.not_false, Bool.not_not, Bool.true_and, Bool.and_true, Bool.false_and, Bool.and_false, Bool.true_or, Bool.or_true, Bool.or_false, Bool.false_or, decide_eq_true_eq, Bool.not_eq_true', decide_eq_false_iff_not, ne_eq, if_true, if_false, reduceIte, List.getElem?_nil, List.all_map, List.any_map, Function.id_comp, Function.comp_def, id, Bool.decide_eq_false, Bool.decide_eq_true, tq_eqn, tq_nil, hne, x2W, hin, tq_ix0, tq_seq, hT, tq_tupL, hrw, e', sSetM, hup, hix]
        · refine List.nodup_append.mpr ⟨hk'.nd, by simp, fun a ha b hb e => ?_⟩
          rw [List.mem_singleton.mp hb] at e
          exact hmm (e ▸ ha)
        · intro k h
          rcases List.mem_append.mp h with h | h
          · exact hk'.ok k h
          · rw [List.mem_singleton.mp h]; exact ⟨hs, ho.len, ho.en⟩
        · rcases List.mem_append.mp h with h | h
          · exact (hnew k h).imp_right fun h => by simp only [List.length_cons]; omega
          · rw [List.mem_singleton.mp h]; exact .inr (Nat.le_refl _)
end

/-! # counting, taking by rank, ranking -/
structure OkS (l : List Int) : Prop where
  h1 : 1 ≤ l.length
  h3 : l.length ≤ 3
  en : ∀ x ∈ l, 0 ≤ x ∧ x ≤ 27
theorem OkS.okL {l : List Int} (h : OkS l) : OkL l.length l := ⟨rfl, h.en⟩
theorem p_check_sums (l : List Int) (h : OkS l) (w : Unit) : f_check_sums [pv l] w = .ok (.p .none) w := by
  have h1 := h.h1
  have h3 := h.h3
  have a1 : (1 : Int) ≤ l.length := by omega
  have a2 : (l.length : Int) ≤ 3 := by omega
  have a3 : (l.all fun x => decide (0 ≤ x) && decide (x ≤ 27)) = true := List.all_eq_true.mpr fun x hx => by
    have := h.en x hx
    simp [this]
  unfold f_check_sums b_check_sums
  simp (disch := (first | assumption | decide | omega | (simp only [List.length_map, List.length_append, List.length_cons, List.length_nil, List.length_range, len_rg, len_enum, len_cut1]; first | assumption | omega) | (simp only [List.length_map, List.length_append, List.length_cons, List.length_nil, List.length_range, len_rg, len_enum, len_cut1, lim] at *; omega))) only [run_ev, runD_nx, runD_rt, runD_exc, runD_ite, sSeq_ev, seqD_nx, seqD_rt, seqD_exc, seqD_ite, sIf_ev, ifD_ev, xAnd_ev, xOr_ev, xChain_ev, andD_ev, orD_ev, i_and, i_or, i_ff, lim_if, lim_if2, lim_ifL, xOwn_nil, Nat.reduceAdd, Nat.reduceSub, Int.reduceEq, Int.reduceLT, Int.reduceLE, Nat.reduceLT, Nat.reduceLeDiff, Nat.zero_add, Bool.false_eq_true, decide_false, decide_true, reduceCtorEq,  i_andP, i_orP, i_ok, i_pv, t_ii, t_ib, t_il, t_it, t_bi, t_bb, t_bl, t_bt, t_li, t_lb, t_ll, t_lt, t_ti, t_tb, t_tl, t_tt, sRet, sNil, sDrop, sAsg, sRaise, xIf, x2, x1, xN, xCall, xSl, oEv, xLc, wipeZ, iOf, iOf2, xB, bAnd, bOr, bNot, bYes, lNil, lCons, sSet, xV, sFrz, sPar2, sPar3, r_bind, r_bindX, r_bindB, r_calm, r_opt, r_optB, r_int, r_bl, r_non, xVar, e_eq, e_ne, e_add, e_sub, e_cat, e_mul, e_div, e_mod, e_neg, e_not, e_lt, e_le, e_gt, e_ge, e_isB, e_asB, e_truB, e_truI, e_asI, e_oInt, e_asP, e_listOf0, e_lstOf, sExt, sApp, sFor, e_isiI, e_isiB, e_isiL, e_isiP, e_len, e_lenP, e_sum, e_max, e_min, e_max2, e_min2, e_min3, e_all, e_anyI, e_anyB, e_l1, e_l2, e_l3, e_t2, keepD_pv, keepD_p, tzD_some, e_t3, e_asPp, e_zT3, e_listL, e_ix, e_ixP0, e_ixP1, e_sl, e_rev, e_in, e_seq, e_rg, e_en, e_zp, e_zN, e_zT, e_zCons, e_zNil, e_pl, e_noObj, e_noObjP, lift_ev, liftD_ok, liftD_exc, List.all_cons, List.all_nil, iOwn, lcGo_map, lcS_pure, lcS_filt, Option.bind_some, Option.map_some, List.map_cons, List.map_nil, List.length_cons, List.length_nil, List.replicate_succ, List.replicate_zero, List.cons_append, List.nil_append, List.set_cons_zero, List.set_cons_succ, List.getElem?_cons_zero, List.getElem?_cons_succ, Bool.not_true, eq_self, not_true_eq_false, not_false_eq_true, Bool.true_xor, Bool.false_xor, Bool.not_false, Bool.not_not, Bool.true_and, Bool.and_true, Bool.false_and, Bool.and_false, Bool.true_or, Bool.or_true, Bool.or_false, Bool.false_or, decide_eq_true_eq, Bool.not_eq_true', decide_eq_false_iff_not, ne_eq, if_true, if_false, reduceIte, List.getElem?_nil, List.all_map, List.any_map, Function.id_comp, Function.comp_def, id, Bool.decide_eq_false, Bool.decide_eq_true, p_is_int, a1, a2, a3]
theorem p_check_most (M : Int) (h : 0 ≤ M ∧ M ≤ 9) (w : Unit) : f_check_most [pv M] w = .ok (.p .none) w := by
  unfold f_check_most b_check_most
  simp (disch := (first | assumption | decide | omega | (simp only [List.length_map, List.length_append, List.length_cons, List.length_nil, List.length_range, len_rg, len_enum, len_cut1]; first | assumption | omega) | (simp only [List.length_map, List.length_append, List.length_cons, List.length_nil, List.length_range, len_rg, len_enum, len_cut1, lim] at *; omega))) only [run_ev, runD_nx, runD_rt, runD_exc, runD_ite, sSeq_ev, seqD_nx, seqD_rt, seqD_exc, seqD_ite, sIf_ev, ifD_ev, xAnd_ev, xOr_ev, xChain_ev, andD_ev, orD_ev, i_and, i_or, i_ff, lim_if, lim_if2, lim_ifL, xOwn_nil, Nat.reduceAdd, Nat.reduceSub, Int.reduceEq, Int.reduceLT, Int.reduceLE, Nat.reduceLT, Nat.reduceLeDiff, Nat.zero_add, Bool.false_eq_true, decide_false, decide_true, reduceCtorEq,  i_andP, i_orP, i_ok, i_pv, t_ii, t_ib, t_il, t_it, t_bi, t_bb, t_bl, t_bt, t_li, t_lb, t_ll, t_lt, t_ti, t_tb, t_tl, t_tt, sRet, sNil, sDrop, sAsg, sRaise, xIf, x2, x1, xN, xCall, xSl, oEv, xLc, wipeZ, iOf, iOf2, xB, bAnd, bOr, bNot, bYes, lNil, lCons, sSet, xV, sFrz, sPar2, sPar3, r_bind, r_bindX, r_bindB, r_calm, r_opt, r_optB, r_int, r_bl, r_non, xVar, e_eq, e_ne, e_add, e_sub, e_cat, e_mul, e_div, e_mod, e_neg, e_not, e_lt, e_le, e_gt, e_ge, e_isB, e_asB, e_truB, e_truI, e_asI, e_oInt, e_asP, e_listOf0, e_lstOf, sExt, sApp, sFor, e_isiI, e_isiB, e_isiL, e_isiP, e_len, e_lenP, e_sum, e_max, e_min, e_max2, e_min2, e_min3, e_all, e_anyI, e_anyB, e_l1, e_l2, e_l3, e_t2, keepD_pv, keepD_p, tzD_some, e_t3, e_asPp, e_zT3, e_listL, e_ix, e_ixP0, e_ixP1, e_sl, e_rev, e_in, e_seq, e_rg, e_en, e_zp, e_zN, e_zT, e_zCons, e_zNil, e_pl, e_noObj, e_noObjP, lift_ev, liftD_ok, liftD_exc, List.all_cons, List.all_nil, iOwn, lcGo_map, lcS_pure, lcS_filt, Option.bind_some, Option.map_some, List.map_cons, List.map_nil, List.length_cons, List.length_nil, List.replicate_succ, List.replicate_zero, List.cons_append, List.nil_append, List.set_cons_zero, List.set_cons_succ, List.getElem?_cons_zero, List.getElem?_cons_succ, Bool.not_true, eq_self, not_true_eq_false, not_false_eq_true, Bool.true_xor, Bool.false_xor, Bool.not_false, Bool.not_not, Bool.true_and, Bool.and_true, Bool.false_and, Bool.and_false, Bool.true_or, Bool.or_true, Bool.or_false, Bool.false_or, decide_eq_true_eq, Bool.not_eq_true', decide_eq_false_iff_not, ne_eq, if_true, if_false, reduceIte, List.getElem?_nil, List.all_map, List.any_map, Function.id_comp, Function.comp_def, id, Bool.decide_eq_false, Bool.decide_eq_true, p_is_int, h.1, h.2]
theorem p_check_kind (rows cols : List Int) (M : Int) (h : OkS rows) (h' : OkS cols) (hM : 0 ≤ M ∧ M ≤ 9) (w : Unit) : f_check_kind [pv rows, pv cols, pv M] w = .ok (.p .none) w := by
  have q1 := p_check_sums rows h ()
  have q2 := p_check_sums cols h' ()
  have q3 := p_check_most M hM ()
  unfold f_check_kind b_check_kind
  simp (disch := (first | assumption | decide | omega | (simp only [List.length_map, List.length_append, List.length_cons, List.length_nil, List.length_range, len_rg, len_enum, len_cut1]; first | assumption | omega) | (simp only [List.length_map, List.length_append, List.length_cons, List.length_nil, List.length_range, len_rg, len_enum, len_cut1, lim] at *; omega))) only [run_ev, runD_nx, runD_rt, runD_exc, runD_ite, sSeq_ev, seqD_nx, seqD_rt, seqD_exc, seqD_ite, sIf_ev, ifD_ev, xAnd_ev, xOr_ev, xChain_ev, andD_ev, orD_ev, i_and, i_or, i_ff, lim_if, lim_if2, lim_ifL, xOwn_nil, Nat.reduceAdd, Nat.reduceSub, Int.reduceEq, Int.reduceLT, Int.reduceLE, Nat.reduceLT, Nat.reduceLeDiff, Nat.zero_add, Bool.false_eq_true, decide_false, decide_true, reduceCtorEq,  i_andP, i_orP, i_ok, i_pv, t_ii, t_ib, t_il, t_it, t_bi, t_bb, t_bl, t_bt, t_li, t_lb, t_ll, t_lt, t_ti, t_tb, t_tl, t_tt, sRet, sNil, sDrop, sAsg, sRaise, xIf, x2, x1, xN, xCall, xSl, oEv, xLc, wipeZ, iOf, iOf2, xB, bAnd, bOr, bNot, bYes, lNil, lCons, sSet, xV, sFrz, sPar2, sPar3, r_bind, r_bindX, r_bindB, r_calm, r_opt, r_optB, r_int, r_bl, r_non, xVar, e_eq, e_ne, e_add, e_sub, e_cat, e_mul, e_div, e_mod, e_neg, e_not, e_lt, e_le, e_gt, e_ge, e_isB, e_asB, e_truB, e_truI, e_asI, e_oInt, e_asP, e_listOf0, e_lstOf, sExt, sApp, sFor, e_isiI, e_isiB, e_isiL, e_isiP, e_len, e_lenP, e_sum, e_max, e_min, e_max2, e_min2, e_min3, e_all, e_anyI, e_anyB, e_l1, e_l2, e_l3, e_t2, keepD_pv, keepD_p, tzD_some, e_t3, e_asPp, e_zT3, e_listL, e_ix, e_ixP0, e_ixP1, e_sl, e_rev, e_in, e_seq, e_rg, e_en, e_zp, e_zN, e_zT, e_zCons, e_zNil, e_pl, e_noObj, e_noObjP, lift_ev, liftD_ok, liftD_exc, List.all_cons, List.all_nil, iOwn, lcGo_map, lcS_pure, lcS_filt, Option.bind_some, Option.map_some, List.map_cons, List.map_nil, List.length_cons, List.length_nil, List.replicate_succ, List.replicate_zero, List.cons_append, List.nil_append, List.set_cons_zero, List.set_cons_succ, List.getElem?_cons_zero, List.getElem?_cons_succ, Bool.not_true, eq_self, not_true_eq_false, not_false_eq_true, Bool.true_xor, Bool.false_xor, Bool.not_false, Bool.not_not, Bool.true_and, Bool.and_true, Bool.false_and, Bool.and_false, Bool.true_or, Bool.or_true, Bool.or_false, Bool.false_or, decide_eq_true_eq, Bool.not_eq_true', decide_eq_false_iff_not, ne_eq, if_true, if_false, reduceIte, List.getElem?_nil, List.all_map, List.any_map, Function.id_comp, Function.comp_def, id, Bool.decide_eq_false, Bool.decide_eq_true, q1, q2, q3]
theorem p_count_tables (rows cols : List Int) (M : Int) (h : OkS rows) (h' : OkS cols) (hM : 0 ≤ M ∧ M ≤ 9) : ∃ Mw, f_count_tables [pv rows, pv cols, pv M] [] = .ok (pv ((tabs M rows cols).length : Int)) Mw := by
  have q1 := p_check_kind rows cols M h h' hM ()
  obtain ⟨ks, q2, _, _⟩ := p_ways h.h3 h.en h'.h3 hM [] 10 rows cols (sfx_self _) (by have := h.h3; omega) h'.okL [] (ConsW.nil _ _)
  have q2 : f_ways_from 10 [pv (⟨rows⟩ : Tp Int), pv (⟨cols⟩ : Tp Int), pv M, .obj 0] [tabW M []] = .ok (pv ((tabs M rows cols).length : Int)) [tabW M ks] := q2
  have hnew : ∀ δ : Ev, (xNewM : XF (List Memo)) δ [] = .ok (.obj 0) [tabW M []] := fun _ => rfl
  refine ⟨[tabW M ks], ?_⟩
  unfold f_count_tables b_count_tables
  simp (disch := (first | assumption | decide | omega | (simp only [List.length_map, List.length_append, List.length_cons, List.length_nil, List.length_range, len_rg, len_enum, len_cut1]; first | assumption | omega) | (simp only [List.length_map, List.length_append, List.length_cons, List.length_nil, List.length_range, len_rg, len_enum, len_cut1, lim] at *; omega))) only [run_ev, runD_nx, runD_rt, runD_exc, runD_ite, sSeq_ev, seqD_nx, seqD_rt, seqD_exc, seqD_ite, sIf_ev, ifD_ev, xAnd_ev, xOr_ev, xChain_ev, andD_ev, orD_ev, i_and, i_or, i_ff, lim_if, lim_if2, lim_ifL, xOwn_nil, Nat.reduceAdd, Nat.reduceSub, Int.reduceEq, Int.reduceLT, Int.reduceLE, Nat.reduceLT, Nat.reduceLeDiff, Nat.zero_add, Bool.false_eq_true, decide_false, decide_true, reduceCtorEq,  i_andP, i_orP, i_ok, i_pv, t_ii, t_ib, t_il, t_it, t_bi, t_bb, t_bl, t_bt, t_li, t_lb, t_ll, t_lt, t_ti, t_tb, t_tl, t_tt, sRet, sNil, sDrop, sAsg, sRaise, xIf, x2, x1, xN, xCall, xSl, oEv, xLc, wipeZ, iOf, iOf2, xB, bAnd, bOr, bNot, bYes, lNil, lCons, sSet, xV, sFrz, sPar2, sPar3, r_bind, r_bindX, r_bindB, r_calm, r_opt, r_optB, r_int, r_bl, r_non, xVar, e_eq, e_ne, e_add, e_sub, e_cat, e_mul, e_div, e_mod, e_neg, e_not, e_lt, e_le, e_gt, e_ge, e_isB, e_asB, e_truB, e_truI, e_asI, e_oInt, e_asP, e_listOf0, e_lstOf, sExt, sApp, sFor, e_isiI, e_isiB, e_isiL, e_isiP, e_len, e_lenP, e_sum, e_max, e_min, e_max2, e_min2, e_min3, e_all, e_anyI, e_anyB, e_l1, e_l2, e_l3, e_t2, keepD_pv, keepD_p, tzD_some, e_t3, e_asPp, e_zT3, e_listL, e_ix, e_ixP0, e_ixP1, e_sl, e_rev, e_in, e_seq, e_rg, e_en, e_zp, e_zN, e_zT, e_zCons, e_zNil, e_pl, e_noObj, e_noObjP, lift_ev, liftD_ok, liftD_exc, List.all_cons, List.all_nil, iOwn, lcGo_map, lcS_pure, lcS_filt, Option.bind_some, Option.map_some, List.map_cons, List.map_nil, List.length_cons, List.length_nil, List.replicate_succ, List.replicate_zero, List.cons_append, List.nil_append, List.set_cons_zero, List.set_cons_succ, List.getElem?_cons_zero, List.getElem?_cons_succ, Bool.not_true, eq_self, not_true_eq_false, not_false_eq_true, Bool.true_xor, Bool.false_xor, Bool.not_false, Bool.not_not, Bool.true_and, Bool.and_true, Bool.false_and, Bool.and_false, Bool.true_or, Bool.or_true, Bool.or_false, Bool.false_or, decide_eq_true_eq, Bool.not_eq_true', decide_eq_false_iff_not, ne_eq, if_true, if_false, reduceIte, List.getElem?_nil, List.all_map, List.any_map, Function.id_comp, Function.comp_def, id, Bool.decide_eq_false, Bool.decide_eq_true, q1, tq_tupL, hnew, q2]
theorem q_count_tables {W : Type} (rows cols : List Int) (M : Int) (h : OkS rows) (h' : OkS cols) (hM : 0 ≤ M ∧ M ≤ 9) (w : W) : liftM f_count_tables [pv rows, pv cols, pv M] w = .ok (pv ((tabs M rows cols).length : Int)) w := by
  obtain ⟨Mw, e⟩ := p_count_tables rows cols M h h' hM
  unfold liftM
  rw [if_pos (show [pv rows, pv cols, pv M].all noObj = true from rfl), e]
  rfl

/-! # taking by rank -/
theorem sfx_drop : ∀ (l : List Int) (k : Nat), l.drop k ∈ sfx l
  | [], k => by rw [List.drop_nil]; exact sfx_self _
  | x :: l, 0 => sfx_self _
  | x :: l, k + 1 => List.mem_cons_of_mem _ (sfx_drop l k)
theorem cut_drop {α : Type} (l : List α) (k : Nat) : cut l (some ((k : Int) + 1)) none = l.drop (k + 1) := by
  unfold cut
  have e : HT.sIx l.length 0 (some ((k : Int) + 1)) = min (k + 1) l.length := HT.sIx_nat l.length 0 (k + 1)
  rw [e, HT.sIx_none]
  by_cases h : k + 1 ≤ l.length
  · rw [Nat.min_eq_left h]
    exact List.take_of_length_le (by rw [List.length_drop]; omega)
  · rw [Nat.min_eq_right (by omega), List.drop_of_length_le (Nat.le_refl _), List.drop_of_length_le (by omega)]
    simp
theorem drop_cons {l : List Int} {k : Nat} (h : k < l.length) : l.drop k = ixD l (k : Int) :: l.drop (k + 1) := by
  rw [ixD_nat l (k : Int) ⟨by omega, by omega⟩, List.drop_eq_getElem_cons h]
  rfl
def bodyA : SF (List Memo) := (sSeq (sSet 9 (xV (xN gTupOf (lCons (xLc (iOf2 zpOf (xVar 6) (xVar 8)) (zT 2 (zCons (zN 12) (zCons (zN 13) zNil))) bYes (x2 gSub (xVar 12) (xVar 13)) [12, 13]) lNil))))
    (sSeq (sSet 10 (xV (xCall (f_ways_from 10) (lCons (xN gTupOf (lCons (xSl (some (x2 gAdd (xVar 7) (xInt 1))) none (xVar 0)) lNil)) (lCons (xVar 9) (lCons (xVar 2) (lCons (xVar 4) lNil)))))))
    (sSeq (sIf (xB asB (x2 gLt (xVar 3) (xVar 10))) (sSeq (sApp 5 (xN gListOf (lCons (xVar 8) lNil)))
    (sSeq (sSet 6 (xV (xVar 9)))
    sBrk)) sNil)
    (sAug 3 (fun i j => i - j) (xVar 10)))))
def envA (rows cols : List Int) (M rk : Int) (found : Rows) (left : List Int) (k : Int) (a8 a9 a10 : Sl) : Ev := [.v (pv rows), .v (pv cols), .v (pv M), .v (pv rk), .v (.obj 0), .own (found.map Py.enc), .v (pv (⟨left⟩ : Tp Int)), .v (pv k), a8, a9, a10, .no, .no, .no]
theorem pickR_map {α β γ : Type} (g : α → List β) (h : α → β → γ) : ∀ (xs : List α) (i : Nat), pickR (fun x => (g x).map (h x)) xs i = pickR g xs i
  | [], _ => rfl
  | y :: ys, i => by unfold pickR; rw [List.length_map, pickR_map g h ys]
theorem pickR_mem {α β : Type} {g : α → List β} : ∀ {xs : List α} {i : Nat} {p : α × Nat}, pickR g xs i = some p → p.1 ∈ xs
  | [], _, _, h => by cases h
  | y :: ys, i, p, h => by
    unfold pickR at h
    split at h
    · rw [← Option.some.inj h]; exact List.mem_cons_self
    · exact List.mem_cons_of_mem _ (pickR_mem h)
theorem forGo_bk {W : Type} {tz : TZ} {body : SF W} {x : PyData} {l : List PyData} {δ δ1 δ2 : Ev} {w w2 : W} (h1 : tz x δ = some δ1) (h2 : body δ1 w = .bk δ2 w2) : forGo tz body (x :: l) δ w = .nx δ2 w2 := by
  simp only [forGo, h1, h2]
theorem forGo_nx {W : Type} {tz : TZ} {body : SF W} {x : PyData} {l : List PyData} {δ δ1 δ2 : Ev} {w w2 : W} (h1 : tz x δ = some δ1) (h2 : body δ1 w = .nx δ2 w2) : forGo tz body (x :: l) δ w = forGo tz body l δ2 w2 := by
  simp only [forGo, h1, h2]
theorem seqD_bk {W : Type} (δ : Ev) (w : W) (g : Ev → W → SRes W) : seqD (.bk δ w) g = .bk δ w := rfl
section
variable {rows cols : List Int} {M : Int}
theorem bodyA_ev (h : OkS rows) (h' : OkS cols) (hM : 0 ≤ M ∧ M ≤ 9) (k : Nat) (hk : k < rows.length) (left : List Int) (hl : OkL cols.length left) (found : Rows) (hf : found.length ≤ 3) (row : List Int) (hr : row ∈ rwT (topsM M left) (ixD rows (k : Int))) (i : Nat) (ks : List WK) (hks : ConsW rows cols.length ks) (a9 a10 : Sl) :
    ∃ ks', ConsW rows cols.length ks' ∧ bodyA (envA rows cols M i found left k (.v (pv (⟨row⟩ : Tp Int))) a9 a10) [tabW M ks] = if i < (tabs M (rows.drop (k + 1)) (subL left row)).length then
        SRes.bk (envA rows cols M i (found ++ [row]) (subL left row) k (.v (pv (⟨row⟩ : Tp Int))) (.v (pv (⟨subL left row⟩ : Tp Int))) (.v (pv ((tabs M (rows.drop (k + 1)) (subL left row)).length : Int)))) [tabW M ks']
      else .nx (envA rows cols M ((i - (tabs M (rows.drop (k + 1)) (subL left row)).length : Nat) : Int) found left k (.v (pv (⟨row⟩ : Tp Int))) (.v (pv (⟨subL left row⟩ : Tp Int))) (.v (pv ((tabs M (rows.drop (k + 1)) (subL left row)).length : Int)))) [tabW M ks'] := by
  have h3 := h.h3
  have hll := hl.len
  have h3' := h'.h3
  obtain ⟨ks', q2, hks', _⟩ := p_ways h.h3 h.en h'.h3 hM [] 10 (rows.drop (k + 1)) (subL left row) (sfx_drop _ _) (by rw [List.length_drop]; omega) (okL_sub hl hr) ks hks
  have q2 : f_ways_from 10 [pv (⟨rows.drop (k + 1)⟩ : Tp Int), pv (⟨subL left row⟩ : Tp Int), pv M, .obj 0] [tabW M ks] = .ok (pv ((tabs M (rows.drop (k + 1)) (subL left row)).length : Int)) [tabW M ks'] := q2
  refine ⟨ks', hks', ?_⟩
  have hz := tq_zip left ⟨row⟩
  have hzl : (left.zip row).length ≤ 3 := by rw [List.length_zip]; omega
  have hc := cut_drop rows k
  have hrl := rwT_len hr
  rw [len_topsM] at hrl
  generalize tabs M (rows.drop (k + 1)) (subL left row) = Q at *
  by_cases hi : i < Q.length
  · rw [if_pos hi]
    have hd : (i : Int) < (Q.length : Int) := by omega
    unfold bodyA envA
    simp (disch := (first | assumption | decide | omega | (simp only [List.length_map, List.length_append, List.length_cons, List.length_nil, List.length_range, len_rg, len_enum, len_cut1]; first | assumption | omega) | (simp only [List.length_map, List.length_append, List.length_cons, List.length_nil, List.length_range, len_rg, len_enum, len_cut1, lim] at *; omega))) only [run_ev, runD_nx, runD_rt, runD_exc, runD_ite, sSeq_ev, seqD_nx, seqD_rt, seqD_exc, seqD_ite, sIf_ev, ifD_ev, xAnd_ev, xOr_ev, xChain_ev, andD_ev, orD_ev, i_and, i_or, i_ff, lim_if, lim_if2, lim_ifL, xOwn_nil, Nat.reduceAdd, Nat.reduceSub, Int.reduceEq, Int.reduceLT, Int.reduceLE, Nat.reduceLT, Nat.reduceLeDiff, Nat.zero_add, Bool.false_eq_true, decide_false, decide_true, reduceCtorEq,  i_andP, i_orP, i_ok, i_pv, t_ii, t_ib, t_il, t_it, t_bi, t_bb, t_bl, t_bt, t_li, t_lb, t_ll, t_lt, t_ti, t_tb, t_tl, t_tt, sRet, sNil, sDrop, sAsg, sRaise, xIf, x2, x1, xN, xCall, xSl, oEv, xLc, wipeZ, iOf, iOf2, xB, bAnd, bOr, bNot, bYes, lNil, lCons, sSet, xV, sFrz, sPar2, sPar3, r_bind, r_bindX, r_bindB, r_calm, r_opt, r_optB, r_int, r_bl, r_non, xVar, e_eq, e_ne, e_add, e_sub, e_cat, e_mul, e_div, e_mod, e_neg, e_not, e_lt, e_le, e_gt, e_ge, e_isB, e_asB, e_truB, e_truI, e_asI, e_oInt, e_asP, e_listOf0, e_lstOf, sExt, sApp, sFor, e_isiI, e_isiB, e_isiL, e_isiP, e_len, e_lenP, e_sum, e_max, e_min, e_max2, e_min2, e_min3, e_all, e_anyI, e_anyB, e_l1, e_l2, e_l3, e_t2, keepD_pv, keepD_p, tzD_some, e_t3, e_asPp, e_zT3, e_listL, e_ix, e_ixP0, e_ixP1, e_sl, e_rev, e_in, e_seq, e_rg, e_en, e_zp, e_zN, e_zT, e_zCons, e_zNil, e_pl, e_noObj, e_noObjP, lift_ev, liftD_ok, liftD_exc, List.all_cons, List.all_nil, iOwn, lcGo_map, lcS_pure, lcS_filt, Option.bind_some, Option.map_some, List.map_cons, List.map_nil, List.length_cons, List.length_nil, List.replicate_succ, List.replicate_zero, List.cons_append, List.nil_append, List.set_cons_zero, List.set_cons_succ, List.getElem?_cons_zero, List.getElem?_cons_succ, Bool.not_true, eq_self, not_true_eq_false, not_false_eq_true, Bool.true_xor, Bool.false_xor, Bool.not_false, Bool.not_not, Bool.true_and, Bool.and_true, Bool.false_and, Bool.and_false, Bool.true_or, Bool.or_true, Bool.or_false, Bool.false_or, decide_eq_true_eq, Bool.not_eq_true', decide_eq_false_iff_not, ne_eq, if_true, if_false, reduceIte, List.getElem?_nil, List.all_map, List.any_map, Function.id_comp, Function.comp_def, id, Bool.decide_eq_false, Bool.decide_eq_true, hz, subL_map, tq_tupL, hc, q2, hd, tq_lst, seqD_bk, sBrk]
    show SRes.bk _ _ = _
    rw [List.map_append]
    rfl
  · rw [if_neg hi]
    have hd : ¬(i : Int) < (Q.length : Int) := by omega
    have e1 : sAug (W := List Memo) 3 (fun i j => i - j) (xVar 10) (envA rows cols M i found left k (.v (pv (⟨row⟩ : Tp Int))) (.v (pv (⟨subL left row⟩ : Tp Int))) (.v (pv (Q.length : Int)))) [tabW M ks'] = .nx (envA rows cols M ((i - Q.length : Nat) : Int) found left k (.v (pv (⟨row⟩ : Tp Int))) (.v (pv (⟨subL left row⟩ : Tp Int))) (.v (pv (Q.length : Int)))) [tabW M ks'] := by
      have := sAug_ev (op := fun i j => i - j) (g := xVar 10) (w := [tabW M ks']) (w' := [tabW M ks']) (δ := envA rows cols M i found left k (.v (pv (⟨row⟩ : Tp Int))) (.v (pv (⟨subL left row⟩ : Tp Int))) (.v (pv (Q.length : Int)))) (i := 3) (a := i) (n := (Q.length : Int)) rfl rfl
      rw [this]
      have e : ((i - Q.length : Nat) : Int) = (i : Int) - Q.length := by omega
      rw [e]
      rfl
    unfold envA at e1
    unfold bodyA envA
    simp (disch := (first | assumption | decide | omega | (simp only [List.length_map, List.length_append, List.length_cons, List.length_nil, List.length_range, len_rg, len_enum, len_cut1]; first | assumption | omega) | (simp only [List.length_map, List.length_append, List.length_cons, List.length_nil, List.length_range, len_rg, len_enum, len_cut1, lim] at *; omega))) only [run_ev, runD_nx, runD_rt, runD_exc, runD_ite, sSeq_ev, seqD_nx, seqD_rt, seqD_exc, seqD_ite, sIf_ev, ifD_ev, xAnd_ev, xOr_ev, xChain_ev, andD_ev, orD_ev, i_and, i_or, i_ff, lim_if, lim_if2, lim_ifL, xOwn_nil, Nat.reduceAdd, Nat.reduceSub, Int.reduceEq, Int.reduceLT, Int.reduceLE, Nat.reduceLT, Nat.reduceLeDiff, Nat.zero_add, Bool.false_eq_true, decide_false, decide_true, reduceCtorEq,  i_andP, i_orP, i_ok, i_pv, t_ii, t_ib, t_il, t_it, t_bi, t_bb, t_bl, t_bt, t_li, t_lb, t_ll, t_lt, t_ti, t_tb, t_tl, t_tt, sRet, sNil, sDrop, sAsg, sRaise, xIf, x2, x1, xN, xCall, xSl, oEv, xLc, wipeZ, iOf, iOf2, xB, bAnd, bOr, bNot, bYes, lNil, lCons, sSet, xV, sFrz, sPar2, sPar3, r_bind, r_bindX, r_bindB, r_calm, r_opt, r_optB, r_int, r_bl, r_non, xVar, e_eq, e_ne, e_add, e_sub, e_cat, e_mul, e_div, e_mod, e_neg, e_not, e_lt, e_le, e_gt, e_ge, e_isB, e_asB, e_truB, e_truI, e_asI, e_oInt, e_asP, e_listOf0, e_lstOf, sExt, sApp, sFor, e_isiI, e_isiB, e_isiL, e_isiP, e_len, e_lenP, e_sum, e_max, e_min, e_max2, e_min2, e_min3, e_all, e_anyI, e_anyB, e_l1, e_l2, e_l3, e_t2, keepD_pv, keepD_p, tzD_some, e_t3, e_asPp, e_zT3, e_listL, e_ix, e_ixP0, e_ixP1, e_sl, e_rev, e_in, e_seq, e_rg, e_en, e_zp, e_zN, e_zT, e_zCons, e_zNil, e_pl, e_noObj, e_noObjP, lift_ev, liftD_ok, liftD_exc, List.all_cons, List.all_nil, iOwn, lcGo_map, lcS_pure, lcS_filt, Option.bind_some, Option.map_some, List.map_cons, List.map_nil, List.length_cons, List.length_nil, List.replicate_succ, List.replicate_zero, List.cons_append, List.nil_append, List.set_cons_zero, List.set_cons_succ, List.getElem?_cons_zero, List.getElem?_cons_succ, Bool.not_true, eq_self, not_true_eq_false, not_false_eq_true, Bool.true_xor, Bool.false_xor, Bool.not_false, Bool.not_not, Bool.true_and, Bool.and_true, Bool.false_and, Bool.and_false, Bool.true_or, Bool.or_true, Bool.or_false, Bool.false_or, decide_eq_true_eq, Bool.not_eq_true', decide_eq_false_iff_not, ne_eq, if_true, if_false, reduceIte, List.getElem?_nil, List.all_map, List.any_map, Function.id_comp, Function.comp_def, id, Bool.decide_eq_false, Bool.decide_eq_true, hz, subL_map, tq_tupL, hc, q2, hd, e1]
theorem pickA_ev (h : OkS rows) (h' : OkS cols) (hM : 0 ≤ M ∧ M ≤ 9) (k : Nat) (hk : k < rows.length) (left : List Int) (hl : OkL cols.length left) (found : Rows) (hf : found.length ≤ 3) (row : List Int) (i' : Nat) :
    ∀ (L : Rows), (∀ r ∈ L, r ∈ rwT (topsM M left) (ixD rows (k : Int))) → ∀ (i : Nat), pickR (fun row => tabs M (rows.drop (k + 1)) (subL left row)) L i = some (row, i') → ∀ (ks : List WK), ConsW rows cols.length ks → ∀ a8 a9 a10 : Sl,
      ∃ ks' a9' a10', ConsW rows cols.length ks' ∧ forGo (zN 8) bodyA ((tps L).map Py.enc) (envA rows cols M i found left k a8 a9 a10) [tabW M ks] = .nx (envA rows cols M i' (found ++ [row]) (subL left row) k (.v (pv (⟨row⟩ : Tp Int))) a9' a10') [tabW M ks']
  | [], _, i, hp, _, _, _, _, _ => by cases hp
  | r :: L, hL, i, hp, ks, hks, a8, a9, a10 => by
    obtain ⟨ks', g1, g2⟩ := bodyA_ev h h' hM k hk left hl found hf r (hL r List.mem_cons_self) i ks hks a9 a10
    unfold pickR at hp
    by_cases hi : i < (tabs M (rows.drop (k + 1)) (subL left r)).length
    · rw [if_pos hi] at hp g2
      have e := Option.some.inj hp
      injection e with e1 e2
      subst e1 e2
      refine ⟨ks', .v (pv (⟨subL left r⟩ : Tp Int)), .v (pv ((tabs M (rows.drop (k + 1)) (subL left r)).length : Int)), g1, ?_⟩
      exact forGo_bk (x := Py.enc (⟨r⟩ : Tp Int)) (l := (tps L).map Py.enc) (tz := zN 8) (δ1 := envA rows cols M i found left k (.v (pv (⟨r⟩ : Tp Int))) a9 a10) rfl g2
    · rw [if_neg hi] at hp g2
      obtain ⟨ks2, a9', a10', k1, k2⟩ := pickA_ev h h' hM k hk left hl found hf row i' L (fun r hr => hL r (List.mem_cons_of_mem _ hr)) _ hp ks' g1 (.v (pv (⟨r⟩ : Tp Int))) (.v (pv (⟨subL left r⟩ : Tp Int))) (.v (pv ((tabs M (rows.drop (k + 1)) (subL left r)).length : Int)))
      refine ⟨ks2, a9', a10', k1, ?_⟩
      exact (forGo_nx (x := Py.enc (⟨r⟩ : Tp Int)) (l := (tps L).map Py.enc) (tz := zN 8) (δ1 := envA rows cols M i found left k (.v (pv (⟨r⟩ : Tp Int))) a9 a10) rfl g2).trans k2
theorem p_table_at (h : OkS rows) (h' : OkS cols) (hM : 0 ≤ M ∧ M ≤ 9) (i : Nat) (T : Rows) (hi : (tabs M rows cols)[i]? = some T) : ∃ Mw, f_table_at [pv rows, pv cols, pv M, pv (i : Int)] [] = .ok (pv T) Mw := by
  have h3 := h.h3
  have h3' := h'.h3
  have q1 := p_check_kind rows cols M h h' hM ()
  obtain ⟨ks0, q2, hks0, _⟩ := p_ways h.h3 h.en h'.h3 hM [] 10 rows cols (sfx_self _) (by omega) h'.okL [] (ConsW.nil _ _)
  have q2 : f_ways_from 10 [pv (⟨rows⟩ : Tp Int), pv (⟨cols⟩ : Tp Int), pv M, .obj 0] [tabW M []] = .ok (pv ((tabs M rows cols).length : Int)) [tabW M ks0] := q2
  have hnew : ∀ δ : Ev, (xNewM : XF (List Memo)) δ [] = .ok (.obj 0) [tabW M []] := fun _ => rfl
  have hlt : i < (tabs M rows cols).length := (List.getElem?_eq_some_iff.mp hi).1
  obtain ⟨δ', w', e, ks', rk, fo, le, a7, a8, a9, a10, T2, hks', hol, hfo, hT, hT2, hw, hd⟩ := forGo_preW (W := List Memo) (tz := zN 7) (body := sFor (iOf seqOf (xCall (liftZ (f_rows_with 10)) (lCons (x2 gIx (xVar 0) (xVar 7)) (lCons (xN gTupOf (lCons (xLc (iOf seqOf (xVar 6)) (zN 11) bYes (xN gMin (lCons (xVar 2) (lCons (xVar 11) lNil))) [11]) lNil)) lNil)))) (zN 8) bodyA)
    (fun p δ w => ∃ (ks : List WK) (rk : Nat) (found : Rows) (left : List Int) (a7 a8 a9 a10 : Sl) (T2 : Rows), ConsW rows cols.length ks ∧ OkL cols.length left ∧ found.length = p.length ∧ found ++ T2 = T ∧ (tabs M (rows.drop p.length) left)[rk]? = some T2 ∧ w = [tabW M ks] ∧ δ = [.v (pv rows), .v (pv cols), .v (pv M), .v (pv (rk : Int)), .v (.obj 0), .own (found.map Py.enc), .v (pv (⟨left⟩ : Tp Int)), a7, a8, a9, a10, .no, .no, .no])
    (rg 0 rows.length) [] (fun p k r ex δ w ⟨ks, rk, found, left, a7, a8, a9, a10, T2, hks, hol, hfo, hT, hT2, hw, hd⟩ => by
      subst hw hd
      have ex : rg 0 rows.length = p ++ k :: r := ex
      have hpl : p.length < rows.length := by
        have := congrArg List.length ex
        simp [len_rg] at this
        omega
      have hkp : k = (p.length : Int) := by
        have e1 := ixD_rg 0 rows.length p.length (by omega)
        rw [ex, ixD_nat _ _ ⟨by omega, by simp; omega⟩] at e1
        simp at e1
        omega
      subst hkp
      have hd := drop_cons hpl
      rw [hd] at hT2
      have hr27 := h.en _ (ixD_mem (xs := rows) (i := (p.length : Int)) ⟨by omega, by omega⟩)
      rw [tabs_cons, flat_get] at hT2
      obtain ⟨⟨row, i'⟩, hp, hg⟩ := Option.bind_eq_some_iff.mp hT2
      have hp' : pickR (fun row => tabs M (rows.drop (p.length + 1)) (subL left row)) (rwT (topsM M left) (ixD rows (p.length : Int))) rk = some (row, i') := by
        rw [← hp, pickR_map]
      have hll := hol.len
      have hlt : (topsM M left).length ≤ 3 := by rw [len_topsM]; omega
      have hrow : row ∈ rwT (topsM M left) (ixD rows (p.length : Int)) := pickR_mem hp'
      obtain ⟨ks2, a9', a10', k1, k2⟩ := pickA_ev h h' hM p.length hpl left hol found (by omega) row i' (rwT (topsM M left) (ixD rows (p.length : Int))) (fun r hr => hr) rk hp' ks hks a8 a9 a10
      have hrw := p_rows_with 10 (topsM M left) (ixD rows (p.length : Int)) (by omega) hlt (ok_tops hol hM) (by omega) (by omega) ()
      have hT' : (left.map fun c => if c < M then c else M) = topsM M left := rfl
      unfold envA at k2
      have hg' : ((tabs M (rows.drop (p.length + 1)) (subL left row))[i']?).map (row :: ·) = some T2 := by
        rw [← hg, List.getElem?_map]
      obtain ⟨T3, hT3, rfl⟩ := Option.map_eq_some_iff.mp hg'
      refine ⟨[.v (pv rows), .v (pv cols), .v (pv M), .v (pv (rk : Int)), .v (.obj 0), .own (found.map Py.enc), .v (pv (⟨left⟩ : Tp Int)), .v (pv (p.length : Int)), a8, a9, a10, .no, .no, .no], rfl, _, _, .inl ?_, ks2, i', found ++ [row], subL left row, .v (pv (p.length : Int)), .v (pv (⟨row⟩ : Tp Int)), a9', a10', T3, k1, okL_sub hol hrow, by simp [hfo], by simp [← hT], by simpa using hT3, rfl, rfl⟩
      have hix : gIx (pv rows) (pv (p.length : Int)) = some (pv (ixD rows (p.length : Int))) := e_ix rows _ ⟨by omega, by omega⟩
      have hit : (iOf seqOf (xCall (liftZ (f_rows_with 10)) (lCons (x2 gIx (xVar 0) (xVar 7)) (lCons (xN gTupOf (lCons (xLc (iOf seqOf (xVar 6)) (zN 11) bYes (xN gMin (lCons (xVar 2) (lCons (xVar 11) lNil))) [11]) lNil)) lNil)))) [.v (pv rows), .v (pv cols), .v (pv M), .v (pv (rk : Int)), .v (.obj 0), .own (found.map Py.enc), .v (pv (⟨left⟩ : Tp Int)), .v (pv (p.length : Int)), a8, a9, a10, .no, .no, .no] [tabW M ks] = .ok ((tps (rwT (topsM M left) (ixD rows (p.length : Int)))).map Py.enc) [tabW M ks] := by
        simp (disch := (first | assumption | decide | omega | (simp only [List.length_map, List.length_append, List.length_cons, List.length_nil, List.length_range, len_rg, len_enum, len_cut1]; first | assumption | omega) | (simp only [List.length_map, List.length_append, List.length_cons, List.length_nil, List.length_range, len_rg, len_enum, len_cut1, lim] at *; omega))) only [run_ev, runD_nx, runD_rt, runD_exc, runD_ite, sSeq_ev, seqD_nx, seqD_rt, seqD_exc, seqD_ite, sIf_ev, ifD_ev, xAnd_ev, xOr_ev, xChain_ev, andD_ev, orD_ev, i_and, i_or, i_ff, lim_if, lim_if2, lim_ifL, xOwn_nil, Nat.reduceAdd, Nat.reduceSub, Int.reduceEq, Int.reduceLT, Int.reduceLE, Nat.reduceLT, Nat.reduceLeDiff, Nat.zero_add, Bool.false_eq_true, decide_false, decide_true, reduceCtorEq,  i_andP, i_orP, i_ok, i_pv, t_ii, t_ib, t_il, t_it, t_bi, t_bb, t_bl, t_bt, t_li, t_lb, t_ll, t_lt, t_ti, t_tb, t_tl, t_tt, sRet, sNil, sDrop, sAsg, sRaise, xIf, x2, x1, xN, xCall, xSl, oEv, xLc, wipeZ, iOf, iOf2, xB, bAnd, bOr, bNot, bYes, lNil, lCons, sSet, xV, sFrz, sPar2, sPar3, r_bind, r_bindX, r_bindB, r_calm, r_opt, r_optB, r_int, r_bl, r_non, xVar, e_eq, e_ne, e_add, e_sub, e_cat, e_mul, e_div, e_mod, e_neg, e_not, e_lt, e_le, e_gt, e_ge, e_isB, e_asB, e_truB, e_truI, e_asI, e_oInt, e_asP, e_listOf0, e_lstOf, sExt, sApp, sFor, e_isiI, e_isiB, e_isiL, e_isiP, e_len, e_lenP, e_sum, e_max, e_min, e_max2, e_min2, e_min3, e_all, e_anyI, e_anyB, e_l1, e_l2, e_l3, e_t2, keepD_pv, keepD_p, tzD_some, e_t3, e_asPp, e_zT3, e_listL, e_ix, e_ixP0, e_ixP1, e_sl, e_rev, e_in, e_seq, e_rg, e_en, e_zp, e_zN, e_zT, e_zCons, e_zNil, e_pl, e_noObj, e_noObjP, lift_ev, liftD_ok, liftD_exc, List.all_cons, List.all_nil, iOwn, lcGo_map, lcS_pure, lcS_filt, Option.bind_some, Option.map_some, List.map_cons, List.map_nil, List.length_cons, List.length_nil, List.replicate_succ, List.replicate_zero, List.cons_append, List.nil_append, List.set_cons_zero, List.set_cons_succ, List.getElem?_cons_zero, List.getElem?_cons_succ, Bool.not_true, eq_self, not_true_eq_false, not_false_eq_true, Bool.true_xor, Bool.false_xor, Bool.not_false, Bool.not_not, Bool.true_and, Bool.and_true, Bool.false_and, Bool.and_false, Bool.true_or, Bool.or_true, Bool.or_false, Bool.false_or, decide_eq_true_eq, Bool.not_eq_true', decide_eq_false_iff_not, ne_eq, if_true, if_false, reduceIte, List.getElem?_nil, List.all_map, List.any_map, Function.id_comp, Function.comp_def, id, Bool.decide_eq_false, Bool.decide_eq_true, hix, tq_seq, hT', tq_tupL, hrw]
      unfold sFor
      rw [hit]
      exact k2)
    [.v (pv rows), .v (pv cols), .v (pv M), .v (pv (i : Int)), .v (.obj 0), .own [], .v (pv (⟨cols⟩ : Tp Int)), .no, .no, .no, .no, .no, .no, .no] [tabW M ks0] ⟨ks0, i, [], cols, _, _, _, _, T, hks0, h'.okL, rfl, rfl, hi, rfl, rfl⟩
  subst hw hd
  have hl0 : ([] ++ rg 0 (rows.length : Int)).length = rows.length := by simp [len_rg]
  rw [hl0, List.drop_length, tabs_nil] at hT2
  have hT2 : T2 = [] := by
    split at hT2
    · cases hT2
    · have := List.mem_of_getElem? hT2
      exact List.mem_singleton.mp this
  subst hT2
  rw [List.append_nil] at hT
  subst hT
  have hB : f_table_at = runZ 14 (sSeq (sDrop (xCall (liftZ f_check_kind) (lCons (xVar 0) (lCons (xVar 1) (lCons (xVar 2) lNil)))))
    (sSeq (sSet 4 (xV xNewM))
    (sSeq (sIf (bNot (xB truth (xCall (liftZ f_is_int) (lCons (xVar 3) (lCons (xInt 0) (lCons (x2 gSub (xCall (f_ways_from 10) (lCons (xN gTupOf (lCons (xVar 0) lNil)) (lCons (xN gTupOf (lCons (xVar 1) lNil)) (lCons (xVar 2) (lCons (xVar 4) lNil))))) (xInt 1)) lNil)))))) (sRaise 3) sNil)
    (sSeq (sPar2 5 6 (xOwn lNil) (xV (xN gTupOf (lCons (xVar 1) lNil))))
    (sSeq (sFor (iOf rgOf1 (xN gLen (lCons (xVar 0) lNil))) (zN 7) (sFor (iOf seqOf (xCall (liftZ (f_rows_with 10)) (lCons (x2 gIx (xVar 0) (xVar 7)) (lCons (xN gTupOf (lCons (xLc (iOf seqOf (xVar 6)) (zN 11) bYes (xN gMin (lCons (xVar 2) (lCons (xVar 11) lNil))) [11]) lNil)) lNil)))) (zN 8) bodyA))
    (sFrz 5 (sRet (xVar 5)))))))) := rfl
  refine ⟨[tabW M ks'], ?_⟩
  have hi1 : decide ((i : Int) ≤ ((tabs M rows cols).length : Int) - 1) = true := decide_eq_true (by omega)
  have hi0 : decide ((0 : Int) ≤ (i : Int)) = true := decide_eq_true (by omega)
  rw [hB]
  generalize hbod : (sFor (iOf seqOf (xCall (liftZ (f_rows_with 10)) (lCons (x2 gIx (xVar 0) (xVar 7)) (lCons (xN gTupOf (lCons (xLc (iOf seqOf (xVar 6)) (zN 11) bYes (xN gMin (lCons (xVar 2) (lCons (xVar 11) lNil))) [11]) lNil)) lNil)))) (zN 8) bodyA) = BB at *
  simp (disch := (first | assumption | decide | omega | (simp only [List.length_map, List.length_append, List.length_cons, List.length_nil, List.length_range, len_rg, len_enum, len_cut1]; first | assumption | omega) | (simp only [List.length_map, List.length_append, List.length_cons, List.length_nil, List.length_range, len_rg, len_enum, len_cut1, lim] at *; omega))) only [run_ev, runD_nx, runD_rt, runD_exc, runD_ite, sSeq_ev, seqD_nx, seqD_rt, seqD_exc, seqD_ite, sIf_ev, ifD_ev, xAnd_ev, xOr_ev, xChain_ev, andD_ev, orD_ev, i_and, i_or, i_ff, lim_if, lim_if2, lim_ifL, xOwn_nil, Nat.reduceAdd, Nat.reduceSub, Int.reduceEq, Int.reduceLT, Int.reduceLE, Nat.reduceLT, Nat.reduceLeDiff, Nat.zero_add, Bool.false_eq_true, decide_false, decide_true, reduceCtorEq,  i_andP, i_orP, i_ok, i_pv, t_ii, t_ib, t_il, t_it, t_bi, t_bb, t_bl, t_bt, t_li, t_lb, t_ll, t_lt, t_ti, t_tb, t_tl, t_tt, sRet, sNil, sDrop, sAsg, sRaise, xIf, x2, x1, xN, xCall, xSl, oEv, xLc, wipeZ, iOf, iOf2, xB, bAnd, bOr, bNot, bYes, lNil, lCons, sSet, xV, sFrz, sPar2, sPar3, r_bind, r_bindX, r_bindB, r_calm, r_opt, r_optB, r_int, r_bl, r_non, xVar, e_eq, e_ne, e_add, e_sub, e_cat, e_mul, e_div, e_mod, e_neg, e_not, e_lt, e_le, e_gt, e_ge, e_isB, e_asB, e_truB, e_truI, e_asI, e_oInt, e_asP, e_listOf0, e_lstOf, sExt, sApp, sFor, e_isiI, e_isiB, e_isiL, e_isiP, e_len, e_lenP, e_sum, e_max, e_min, e_max2, e_min2, e_min3, e_all, e_anyI, e_anyB, e_l1, e_l2, e_l3, e_t2, keepD_pv, keepD_p, tzD_some, e_t3, e_asPp, e_zT3, e_listL, e_ix, e_ixP0, e_ixP1, e_sl, e_rev, e_in, e_seq, e_rg, e_en, e_zp, e_zN, e_zT, e_zCons, e_zNil, e_pl, e_noObj, e_noObjP, lift_ev, liftD_ok, liftD_exc, List.all_cons, List.all_nil, iOwn, lcGo_map, lcS_pure, lcS_filt, Option.bind_some, Option.map_some, List.map_cons, List.map_nil, List.length_cons, List.length_nil, List.replicate_succ, List.replicate_zero, List.cons_append, List.nil_append, List.set_cons_zero, List.set_cons_succ, List.getElem?_cons_zero, List.getElem?_cons_succ, Bool.not_true, eq_self, not_true_eq_false, not_false_eq_true, Bool.true_xor, Bool.false_xor, Bool.not_false, Bool.not_not, Bool.true_and, Bool.and_true, Bool.false_and, Bool.and_false, Bool.true_or, Bool.or_true, Bool.or_false, Bool.false_or, decide_eq_true_eq, Bool.not_eq_true', decide_eq_false_iff_not, ne_eq, if_true, if_false, reduceIte, List.getElem?_nil, List.all_map, List.any_map, Function.id_comp, Function.comp_def, id, Bool.decide_eq_false, Bool.decide_eq_true, q1, hnew, tq_tupL, q2, p_is_int, hi0, hi1, and_self]
  rw [e]
  simp (disch := (first | assumption | decide | omega | (simp only [List.length_map, List.length_append, List.length_cons, List.length_nil, List.length_range, len_rg, len_enum, len_cut1]; first | assumption | omega) | (simp only [List.length_map, List.length_append, List.length_cons, List.length_nil, List.length_range, len_rg, len_enum, len_cut1, lim] at *; omega))) only [run_ev, runD_nx, runD_rt, runD_exc, runD_ite, sSeq_ev, seqD_nx, seqD_rt, seqD_exc, seqD_ite, sIf_ev, ifD_ev, xAnd_ev, xOr_ev, xChain_ev, andD_ev, orD_ev, i_and, i_or, i_ff, lim_if, lim_if2, lim_ifL, xOwn_nil, Nat.reduceAdd, Nat.reduceSub, Int.reduceEq, Int.reduceLT, Int.reduceLE, Nat.reduceLT, Nat.reduceLeDiff, Nat.zero_add, Bool.false_eq_true, decide_false, decide_true, reduceCtorEq,  i_andP, i_orP, i_ok, i_pv, t_ii, t_ib, t_il, t_it, t_bi, t_bb, t_bl, t_bt, t_li, t_lb, t_ll, t_lt, t_ti, t_tb, t_tl, t_tt, sRet, sNil, sDrop, sAsg, sRaise, xIf, x2, x1, xN, xCall, xSl, oEv, xLc, wipeZ, iOf, iOf2, xB, bAnd, bOr, bNot, bYes, lNil, lCons, sSet, xV, sFrz, sPar2, sPar3, r_bind, r_bindX, r_bindB, r_calm, r_opt, r_optB, r_int, r_bl, r_non, xVar, e_eq, e_ne, e_add, e_sub, e_cat, e_mul, e_div, e_mod, e_neg, e_not, e_lt, e_le, e_gt, e_ge, e_isB, e_asB, e_truB, e_truI, e_asI, e_oInt, e_asP, e_listOf0, e_lstOf, sExt, sApp, sFor, e_isiI, e_isiB, e_isiL, e_isiP, e_len, e_lenP, e_sum, e_max, e_min, e_max2, e_min2, e_min3, e_all, e_anyI, e_anyB, e_l1, e_l2, e_l3, e_t2, keepD_pv, keepD_p, tzD_some, e_t3, e_asPp, e_zT3, e_listL, e_ix, e_ixP0, e_ixP1, e_sl, e_rev, e_in, e_seq, e_rg, e_en, e_zp, e_zN, e_zT, e_zCons, e_zNil, e_pl, e_noObj, e_noObjP, lift_ev, liftD_ok, liftD_exc, List.all_cons, List.all_nil, iOwn, lcGo_map, lcS_pure, lcS_filt, Option.bind_some, Option.map_some, List.map_cons, List.map_nil, List.length_cons, List.length_nil, List.replicate_succ, List.replicate_zero, List.cons_append, List.nil_append, List.set_cons_zero, List.set_cons_succ, List.getElem?_cons_zero, List.getElem?_cons_succ, Bool.not_true, eq_self, not_true_eq_false, not_false_eq_true, Bool.true_xor, Bool.false_xor, Bool.not_false, Bool.not_not, Bool.true_and, Bool.and_true, Bool.false_and, Bool.and_false, Bool.true_or, Bool.or_true, Bool.or_false, Bool.false_or, decide_eq_true_eq, Bool.not_eq_true', decide_eq_false_iff_not, ne_eq, if_true, if_false, reduceIte, List.getElem?_nil, List.all_map, List.any_map, Function.id_comp, Function.comp_def, id, Bool.decide_eq_false, Bool.decide_eq_true]
theorem q_table_at {W : Type} (h : OkS rows) (h' : OkS cols) (hM : 0 ≤ M ∧ M ≤ 9) (i : Nat) (T : Rows) (hi : (tabs M rows cols)[i]? = some T) (w : W) : liftM f_table_at [pv rows, pv cols, pv M, pv (i : Int)] w = .ok (pv T) w := by
  obtain ⟨Mw, e⟩ := p_table_at h h' hM i T hi
  unfold liftM
  rw [if_pos (show [pv rows, pv cols, pv M, pv (i : Int)].all noObj = true from rfl), e]
  rfl
end

/-! # the rank of a table -/
def bodyR : SF (List Memo) := (sSeq (sIf (xB asB (x2 gEq (xN gListOf (lCons (xVar 8) lNil)) (xVar 7))) sBrk sNil)
    (sAug 4 (fun i j => i + j) (xCall (f_ways_from 10) (lCons (xN gTupOf (lCons (xSl (some (x2 gAdd (xVar 6) (xInt 1))) none (xVar 3)) lNil)) (lCons (xN gTupOf (lCons (xLc (iOf2 zpOf (xVar 2) (xVar 8)) (zT 2 (zCons (zN 10) (zCons (zN 11) zNil))) bYes (x2 gSub (xVar 10) (xVar 11)) [10, 11]) lNil)) (lCons (xVar 1) (lCons (xVar 5) lNil)))))))
def envR (T : Rows) (M : Int) (left sums : List Int) (fo : Int) (k : Int) (own : List Int) (a8 : Sl) : Ev := [.v (pv T), .v (pv M), .v (pv (⟨left⟩ : Tp Int)), .v (pv sums), .v (pv fo), .v (.obj 0), .v (pv k), .v (pv own), a8, .no, .no, .no]
section
variable {T : Rows} {sums : List Int} {m : Nat} {M : Int}
theorem bodyR_ev (h : OkS sums) (hm : m ≤ 3) (hM : 0 ≤ M ∧ M ≤ 9) (k : Nat) (hk : k < sums.length) (left own : List Int) (hl : OkL m left) (fo : Int) (row : List Int) (hr : row ∈ rwT (topsM M left) (ixD sums (k : Int))) (ks : List WK) (hks : ConsW sums m ks) :
    ∃ ks', ConsW sums m ks' ∧ bodyR (envR T M left sums fo k own (.v (pv (⟨row⟩ : Tp Int)))) [tabW M ks] = if row = own then
        SRes.bk (envR T M left sums fo k own (.v (pv (⟨row⟩ : Tp Int)))) [tabW M ks']
      else .nx (envR T M left sums (fo + (tabs M (sums.drop (k + 1)) (subL left row)).length) k own (.v (pv (⟨row⟩ : Tp Int)))) [tabW M ks'] := by
  have h3 := h.h3
  have hll := hl.len
  by_cases hi : row = own
  · subst hi
    refine ⟨ks, hks, ?_⟩
    rw [if_pos rfl]
    unfold bodyR envR
    simp (disch := (first | assumption | decide | omega | (simp only [List.length_map, List.length_append, List.length_cons, List.length_nil, List.length_range, len_rg, len_enum, len_cut1]; first | assumption | omega) | (simp only [List.length_map, List.length_append, List.length_cons, List.length_nil, List.length_range, len_rg, len_enum, len_cut1, lim] at *; omega))) only [run_ev, runD_nx, runD_rt, runD_exc, runD_ite, sSeq_ev, seqD_nx, seqD_rt, seqD_exc, seqD_ite, sIf_ev, ifD_ev, xAnd_ev, xOr_ev, xChain_ev, andD_ev, orD_ev, i_and, i_or, i_ff, lim_if, lim_if2, lim_ifL, xOwn_nil, Nat.reduceAdd, Nat.reduceSub, Int.reduceEq, Int.reduceLT, Int.reduceLE, Nat.reduceLT, Nat.reduceLeDiff, Nat.zero_add, Bool.false_eq_true, decide_false, decide_true, reduceCtorEq,  i_andP, i_orP, i_ok, i_pv, t_ii, t_ib, t_il, t_it, t_bi, t_bb, t_bl, t_bt, t_li, t_lb, t_ll, t_lt, t_ti, t_tb, t_tl, t_tt, sRet, sNil, sDrop, sAsg, sRaise, xIf, x2, x1, xN, xCall, xSl, oEv, xLc, wipeZ, iOf, iOf2, xB, bAnd, bOr, bNot, bYes, lNil, lCons, sSet, xV, sFrz, sPar2, sPar3, r_bind, r_bindX, r_bindB, r_calm, r_opt, r_optB, r_int, r_bl, r_non, xVar, e_eq, e_ne, e_add, e_sub, e_cat, e_mul, e_div, e_mod, e_neg, e_not, e_lt, e_le, e_gt, e_ge, e_isB, e_asB, e_truB, e_truI, e_asI, e_oInt, e_asP, e_listOf0, e_lstOf, sExt, sApp, sFor, e_isiI, e_isiB, e_isiL, e_isiP, e_len, e_lenP, e_sum, e_max, e_min, e_max2, e_min2, e_min3, e_all, e_anyI, e_anyB, e_l1, e_l2, e_l3, e_t2, keepD_pv, keepD_p, tzD_some, e_t3, e_asPp, e_zT3, e_listL, e_ix, e_ixP0, e_ixP1, e_sl, e_rev, e_in, e_seq, e_rg, e_en, e_zp, e_zN, e_zT, e_zCons, e_zNil, e_pl, e_noObj, e_noObjP, lift_ev, liftD_ok, liftD_exc, List.all_cons, List.all_nil, iOwn, lcGo_map, lcS_pure, lcS_filt, Option.bind_some, Option.map_some, List.map_cons, List.map_nil, List.length_cons, List.length_nil, List.replicate_succ, List.replicate_zero, List.cons_append, List.nil_append, List.set_cons_zero, List.set_cons_succ, List.getElem?_cons_zero, List.getElem?_cons_succ, Bool.not_true, eq_self, not_true_eq_false, not_false_eq_true, Bool.true_xor, Bool.false_xor, Bool.not_false, Bool.not_not, Bool.true_and, Bool.and_true, Bool.false_and, Bool.and_false, Bool.true_or, Bool.or_true, Bool.or_false, Bool.false_or, decide_eq_true_eq, Bool.not_eq_true', decide_eq_false_iff_not, ne_eq, if_true, if_false, reduceIte, List.getElem?_nil, List.all_map, List.any_map, Function.id_comp, Function.comp_def, id, Bool.decide_eq_false, Bool.decide_eq_true, tq_lst, seqD_bk, sBrk]
  · obtain ⟨ks', q2, hks', _⟩ := p_ways h.h3 h.en hm hM [] 10 (sums.drop (k + 1)) (subL left row) (sfx_drop _ _) (by rw [List.length_drop]; omega) (okL_sub hl hr) ks hks
    have q2 : f_ways_from 10 [pv (⟨sums.drop (k + 1)⟩ : Tp Int), pv (⟨subL left row⟩ : Tp Int), pv M, .obj 0] [tabW M ks] = .ok (pv ((tabs M (sums.drop (k + 1)) (subL left row)).length : Int)) [tabW M ks'] := q2
    refine ⟨ks', hks', ?_⟩
    rw [if_neg hi]
    have hz := tq_zip left ⟨row⟩
    have hzl : (left.zip row).length ≤ 3 := by rw [List.length_zip]; omega
    have hc := cut_drop sums k
    have hx : xCall (f_ways_from 10) (lCons (xN gTupOf (lCons (xSl (some (x2 gAdd (xVar 6) (xInt 1))) none (xVar 3)) lNil)) (lCons (xN gTupOf (lCons (xLc (iOf2 zpOf (xVar 2) (xVar 8)) (zT 2 (zCons (zN 10) (zCons (zN 11) zNil))) bYes (x2 gSub (xVar 10) (xVar 11)) [10, 11]) lNil)) (lCons (xVar 1) (lCons (xVar 5) lNil)))) (envR T M left sums fo k own (.v (pv (⟨row⟩ : Tp Int)))) [tabW M ks] = .ok (pv ((tabs M (sums.drop (k + 1)) (subL left row)).length : Int)) [tabW M ks'] := by
      unfold envR
      simp (disch := (first | assumption | decide | omega | (simp only [List.length_map, List.length_append, List.length_cons, List.length_nil, List.length_range, len_rg, len_enum, len_cut1]; first | assumption | omega) | (simp only [List.length_map, List.length_append, List.length_cons, List.length_nil, List.length_range, len_rg, len_enum, len_cut1, lim] at *; omega))) only [run_ev, runD_nx, runD_rt, runD_exc, runD_ite, sSeq_ev, seqD_nx, seqD_rt, seqD_exc, seqD_ite, sIf_ev, ifD_ev, xAnd_ev, xOr_ev, xChain_ev, andD_ev, orD_ev, i_and, i_or, i_ff, lim_if, lim_if2, lim_ifL, xOwn_nil, Nat.reduceAdd, Nat.reduceSub, Int.reduceEq, Int.reduceLT, Int.reduceLE, Nat.reduceLT, Nat.reduceLeDiff, Nat.zero_add, Bool.false_eq_true, decide_false, decide_true, reduceCtorEq,  i_andP, i_orP, i_ok, i_pv, t_ii, t_ib, t_il, t_it, t_bi, t_bb, t_bl, t_bt, t_li, t_lb, t_ll, t_lt, t_ti, t_tb, t_tl, t_tt, sRet, sNil, sDrop, sAsg, sRaise, xIf, x2, x1, xN, xCall, xSl, oEv, xLc, wipeZ, iOf, iOf2, xB, bAnd, bOr, bNot, bYes, lNil, lCons, sSet, xV, sFrz, sPar2, sPar3, r_bind, r_bindX, r_bindB, r_calm, r_opt, r_optB, r_int, r_bl, r_non, xVar, e_eq, e_ne, e_add, e_sub, e_cat, e_mul, e_div, e_mod, e_neg, e_not, e_lt, e_le, e_gt, e_ge, e_isB, e_asB, e_truB, e_truI, e_asI, e_oInt, e_asP, e_listOf0, e_lstOf, sExt, sApp, sFor, e_isiI, e_isiB, e_isiL, e_isiP, e_len, e_lenP, e_sum, e_max, e_min, e_max2, e_min2, e_min3, e_all, e_anyI, e_anyB, e_l1, e_l2, e_l3, e_t2, keepD_pv, keepD_p, tzD_some, e_t3, e_asPp, e_zT3, e_listL, e_ix, e_ixP0, e_ixP1, e_sl, e_rev, e_in, e_seq, e_rg, e_en, e_zp, e_zN, e_zT, e_zCons, e_zNil, e_pl, e_noObj, e_noObjP, lift_ev, liftD_ok, liftD_exc, List.all_cons, List.all_nil, iOwn, lcGo_map, lcS_pure, lcS_filt, Option.bind_some, Option.map_some, List.map_cons, List.map_nil, List.length_cons, List.length_nil, List.replicate_succ, List.replicate_zero, List.cons_append, List.nil_append, List.set_cons_zero, List.set_cons_succ, List.getElem?_cons_zero, List.getElem?_cons_succ, Bool.not_true, eq_self, not_true_eq_false, not_false_eq_true, Bool.true_xor, Bool.false_xor, Bool.not_false, Bool.not_not, Bool.true_and, Bool.and_true, Bool.false_and, Bool.and_false, Bool.true_or, Bool.or_true, Bool.or_false, Bool.false_or, decide_eq_true_eq, Bool.not_eq_true', decide_eq_false_iff_not, ne_eq, if_true, if_false, reduceIte, List.getElem?_nil, List.all_map, List.any_map, Function.id_comp, Function.comp_def, id, Bool.decide_eq_false, Bool.decide_eq_true, hz, subL_map, tq_tupL, hc, q2]
    have ha := sAug_ev (op := fun i j => i + j) (δ := envR T M left sums fo k own (.v (pv (⟨row⟩ : Tp Int)))) (i := 4) (a := fo) rfl hx
    unfold bodyR
    unfold envR at ha ⊢
    simp (disch := (first | assumption | decide | omega | (simp only [List.length_map, List.length_append, List.length_cons, List.length_nil, List.length_range, len_rg, len_enum, len_cut1]; first | assumption | omega) | (simp only [List.length_map, List.length_append, List.length_cons, List.length_nil, List.length_range, len_rg, len_enum, len_cut1, lim] at *; omega))) only [run_ev, runD_nx, runD_rt, runD_exc, runD_ite, sSeq_ev, seqD_nx, seqD_rt, seqD_exc, seqD_ite, sIf_ev, ifD_ev, xAnd_ev, xOr_ev, xChain_ev, andD_ev, orD_ev, i_and, i_or, i_ff, lim_if, lim_if2, lim_ifL, xOwn_nil, Nat.reduceAdd, Nat.reduceSub, Int.reduceEq, Int.reduceLT, Int.reduceLE, Nat.reduceLT, Nat.reduceLeDiff, Nat.zero_add, Bool.false_eq_true, decide_false, decide_true, reduceCtorEq,  i_andP, i_orP, i_ok, i_pv, t_ii, t_ib, t_il, t_it, t_bi, t_bb, t_bl, t_bt, t_li, t_lb, t_ll, t_lt, t_ti, t_tb, t_tl, t_tt, sRet, sNil, sDrop, sAsg, sRaise, xIf, x2, x1, xN, xCall, xSl, oEv, xLc, wipeZ, iOf, iOf2, xB, bAnd, bOr, bNot, bYes, lNil, lCons, sSet, xV, sFrz, sPar2, sPar3, r_bind, r_bindX, r_bindB, r_calm, r_opt, r_optB, r_int, r_bl, r_non, xVar, e_eq, e_ne, e_add, e_sub, e_cat, e_mul, e_div, e_mod, e_neg, e_not, e_lt, e_le, e_gt, e_ge, e_isB, e_asB, e_truB, e_truI, e_asI, e_oInt, e_asP, e_listOf0, e_lstOf, sExt, sApp, sFor, e_isiI, e_isiB, e_isiL, e_isiP, e_len, e_lenP, e_sum, e_max, e_min, e_max2, e_min2, e_min3, e_all, e_anyI, e_anyB, e_l1, e_l2, e_l3, e_t2, keepD_pv, keepD_p, tzD_some, e_t3, e_asPp, e_zT3, e_listL, e_ix, e_ixP0, e_ixP1, e_sl, e_rev, e_in, e_seq, e_rg, e_en, e_zp, e_zN, e_zT, e_zCons, e_zNil, e_pl, e_noObj, e_noObjP, lift_ev, liftD_ok, liftD_exc, List.all_cons, List.all_nil, iOwn, lcGo_map, lcS_pure, lcS_filt, Option.bind_some, Option.map_some, List.map_cons, List.map_nil, List.length_cons, List.length_nil, List.replicate_succ, List.replicate_zero, List.cons_append, List.nil_append, List.set_cons_zero, List.set_cons_succ, List.getElem?_cons_zero, List.getElem?_cons_succ, Bool.not_true, eq_self, not_true_eq_false, not_false_eq_true, Bool.true_xor, Bool.false_xor, Bool.not_false, Bool.not_not, Bool.true_and, Bool.and_true, Bool.false_and, Bool.and_false, Bool.true_or, Bool.or_true, Bool.or_false, Bool.false_or, decide_eq_true_eq, Bool.not_eq_true', decide_eq_false_iff_not, ne_eq, if_true, if_false, reduceIte, List.getElem?_nil, List.all_map, List.any_map, Function.id_comp, Function.comp_def, id, Bool.decide_eq_false, Bool.decide_eq_true, tq_lst, hi, ha]
theorem pickR_ev (h : OkS sums) (hm : m ≤ 3) (hM : 0 ≤ M ∧ M ≤ 9) (k : Nat) (hk : k < sums.length) (left own : List Int) (hl : OkL m left) :
    ∀ (L : Rows), (∀ r ∈ L, r ∈ rwT (topsM M left) (ixD sums (k : Int))) → ∀ (fo : Int) (ks : List WK), ConsW sums m ks → ∀ a8 : Sl,
      ∃ ks' a8', ConsW sums m ks' ∧ forGo (zN 8) bodyR ((tps L).map Py.enc) (envR T M left sums fo k own a8) [tabW M ks] = .nx (envR T M left sums (fo + ahead (fun row => tabs M (sums.drop (k + 1)) (subL left row)) own L) k own a8') [tabW M ks']
  | [], _, fo, ks, hks, a8 => ⟨ks, a8, hks, by
    unfold ahead
    rw [Int.add_zero]
    rfl⟩
  | r :: L, hL, fo, ks, hks, a8 => by
    obtain ⟨ks', g1, g2⟩ := bodyR_ev (T := T) h hm hM k hk left own hl fo r (hL r List.mem_cons_self) ks hks
    unfold ahead
    by_cases hi : r = own
    · rw [if_pos hi] at g2 ⊢
      rw [Int.add_zero]
      exact ⟨ks', .v (pv (⟨r⟩ : Tp Int)), g1, forGo_bk (x := Py.enc (⟨r⟩ : Tp Int)) (l := (tps L).map Py.enc) (tz := zN 8) (δ1 := envR T M left sums fo k own (.v (pv (⟨r⟩ : Tp Int)))) rfl g2⟩
    · rw [if_neg hi] at g2 ⊢
      obtain ⟨ks2, a8', k1, k2⟩ := pickR_ev h hm hM k hk left own hl L (fun r hr => hL r (List.mem_cons_of_mem _ hr)) (fo + (tabs M (sums.drop (k + 1)) (subL left r)).length) ks' g1 (.v (pv (⟨r⟩ : Tp Int)))
      refine ⟨ks2, a8', k1, ?_⟩
      rw [← Int.add_assoc]
      exact (forGo_nx (x := Py.enc (⟨r⟩ : Tp Int)) (l := (tps L).map Py.enc) (tz := zN 8) (δ1 := envR T M left sums fo k own (.v (pv (⟨r⟩ : Tp Int)))) rfl g2).trans k2
end
theorem tq_zipM (l r : List Int) : zpOfM (pv (⟨l⟩ : Tp Int)) (pv r) = some ((l.zip r).map Py.enc) := by
  show some (zipL (l.map Py.enc) (r.map Py.enc)) = _
  rw [zipL_map]
theorem sumsT_ok {T : Rows} (h : Ta T) : OkS (T.map List.sum) := by
  refine ⟨by rw [List.length_map]; exact h.n1, by rw [List.length_map]; exact h.n2, fun x hx => ?_⟩
  obtain ⟨r, hr, rfl⟩ := List.mem_map.mp hx
  have := sum_bound3 0 9 (by decide) (by decide) r (h.m2 r hr) (h.en r hr)
  omega
theorem colsT_ok {T : Rows} (h : Ta T) : OkS (colS (ixD T 0).length T) := by
  refine ⟨by rw [len_colS]; exact h.m1 _ (h.ix0 (by decide)), by rw [len_colS]; exact h.m2 _ (h.ix0 (by decide)), fun x hx => ?_⟩
  unfold colS at hx
  obtain ⟨j, hj, rfl⟩ := List.mem_map.mp hx
  have hj := mem_rg.mp hj
  have := sum_bound3 0 9 (by decide) (by decide) (T.map fun row => ixD row j) (by rw [List.length_map]; exact h.n2) fun x hx => by
    obtain ⟨r, hr, rfl⟩ := List.mem_map.mp hx
    have := h.rect.m r hr
    exact h.en r hr _ (ixD_mem ⟨by omega, by omega⟩)
  omega
def maxT (T : Rows) : Int := lmax (T.map lmax)
theorem maxT_le {T : Rows} {M : Int} (h : Ta T) : maxT T ≤ M ↔ ∀ row ∈ T, ∀ x ∈ row, x ≤ M := by
  have h1 := h.n1
  have hne : T.map lmax ≠ [] := fun z => by
    have := congrArg List.length z
    rw [List.length_map] at this
    simp at this
    rw [this] at h1
    simp at h1
  have hr : ∀ row ∈ T, row ≠ [] := fun row hr z => by
    have := h.m1 row hr
    rw [z] at this
    simp at this
  obtain ⟨g1, g2⟩ := lmax_mem hne
  constructor
  · intro hm row hrow x hx
    have := g2 _ (List.mem_map.mpr ⟨row, hrow, rfl⟩)
    have := (lmax_mem (hr row hrow)).2 x hx
    unfold maxT at hm
    omega
  · intro hm
    obtain ⟨row, hrow, e⟩ := List.mem_map.mp g1
    unfold maxT
    rw [← e]
    exact hm row hrow _ (lmax_mem (hr row hrow)).1
theorem enum_at {α : Type} [Inhabited α] {T : List α} {p r : List (Int × α)} {k : Int} {own : α} (ex : enum 0 T = p ++ (k, own) :: r) : p.length < T.length ∧ k = (p.length : Int) ∧ own = ixD T (p.length : Int) := by
  have hl : p.length < T.length := by
    have := congrArg List.length ex
    rw [len_enum, List.length_append, List.length_cons] at this
    omega
  have e1 : (enum 0 T)[p.length]? = some (k, own) := by
    rw [ex, List.getElem?_append_right (Nat.le_refl _), Nat.sub_self]; rfl
  rw [enum_eq, List.getElem?_map] at e1
  obtain ⟨q, hq, e2⟩ := Option.map_eq_some_iff.mp e1
  have hq' : q = (p.length : Int) := by
    have e3 := ixD_rg 0 T.length p.length (by omega)
    rw [ixD_nat _ _ (by rw [len_rg]; omega)] at e3
    have hh : (rg 0 (T.length : Int))[p.length]? = some ((rg 0 (T.length : Int))[p.length]'(by rw [len_rg]; omega)) := List.getElem?_eq_getElem _
    rw [hh] at hq
    have hq := Option.some.inj hq
    rw [← hq]
    have e4 : (rg 0 (T.length : Int))[(p.length : Int).toNat]'(by rw [len_rg]; omega) = (rg 0 (T.length : Int))[p.length]'(by rw [len_rg]; omega) := rfl
    rw [← e4, e3]
    omega
  injection e2 with e2 e3
  exact ⟨hl, by rw [← e2, hq'], by rw [← e3, hq']⟩
theorem tabs_hd {M : Int} {row : List Int} {T' : Rows} {r : Int} {rs left : List Int} (h : row :: T' ∈ tabs M (r :: rs) left) : row ∈ rwT (topsM M left) r ∧ T' ∈ tabs M rs (subL left row) := by
  rw [tabs_cons] at h
  obtain ⟨r', hr, hT⟩ := List.mem_flatMap.mp h
  obtain ⟨T2, hT', e⟩ := List.mem_map.mp hT
  injection e with e1 e2
  subst e1 e2
  exact ⟨hr, hT'⟩
theorem drop_consT {T : Rows} {k : Nat} (h : k < T.length) : T.drop k = ixD T (k : Int) :: T.drop (k + 1) := by
  rw [ixD_nat T (k : Int) ⟨by omega, by omega⟩, List.drop_eq_getElem_cons h]
  rfl
theorem isT_self {T : Rows} {M : Int} (h : Ta T) (he : ∀ row ∈ T, ∀ x ∈ row, x ≤ M) : T ∈ tabs M (T.map List.sum) (colS (ixD T 0).length T) :=
  (mem_tabs _ _ _ _).mpr ⟨fun row hr x hx => ⟨(h.en row hr x hx).1, he row hr x hx⟩, fun row hr => by rw [len_colS]; exact h.eq row hr, rfl, by rw [len_colS]⟩
/-! # what bars a table -/
def chL (n : Int) : List (List Int) := if n = 1 then [[], [0]] else if n = 2 then [[], [0], [1], [0, 1]] else [[], [0], [1], [2], [0, 1], [0, 2], [1, 2], [0, 1, 2]]
def sbs {α : Type} : List α → List (List α)
  | [] => [[]]
  | x :: r => sbs r ++ (sbs r).map (x :: ·)
theorem sbs_mem {α : Type} {a l : List α} (h : a.Sublist l) : a ∈ sbs l := by
  induction h with
  | slnil => exact List.mem_singleton.mpr rfl
  | cons x _ ih => exact List.mem_append_left _ ih
  | cons_cons x _ ih => exact List.mem_append_right _ (List.mem_map.mpr ⟨_, ih, rfl⟩)
theorem sbs_sub {α : Type} : ∀ {l a : List α}, a ∈ sbs l → a.Sublist l
  | [], a, h => by rw [List.mem_singleton.mp h]; exact List.Sublist.refl _
  | x :: r, a, h => by
    rcases List.mem_append.mp h with h | h
    · exact (sbs_sub h).cons x
    · obtain ⟨b, hb, rfl⟩ := List.mem_map.mp h
      exact (sbs_sub hb).cons_cons x
theorem mem_chL {n : Nat} (h1 : 1 ≤ n) (h3 : n ≤ 3) {s : List Int} : s ∈ chL n ↔ s.Sublist (rg 0 n) := by
  have key : ∀ n ∈ [1, 2, 3], (∀ s ∈ sbs (rg 0 (n : Nat)), s ∈ chL n) ∧ ∀ s ∈ chL n, s ∈ sbs (rg 0 (n : Nat)) := by decide
  have hn : n ∈ [1, 2, 3] := by simp; omega
  obtain ⟨k1, k2⟩ := key n hn
  exact ⟨fun h => sbs_sub (k2 s h), fun h => k1 s (sbs_mem h)⟩
theorem p_chosen (n : Nat) (h1 : 1 ≤ n) (h3 : n ≤ 3) (w : Unit) : f_chosen [pv (n : Int)] w = .ok (pv (chL n)) w := by
  have hn : n = 1 ∨ n = 2 ∨ n = 3 := by omega
  rcases hn with rfl | rfl | rfl <;> kernel_rfl
theorem cMul_small {a : Int} (h : -1000000 ≤ a ∧ a ≤ 1000000) (b : Int) : cMul a b = true := by
  unfold cMul
  have h1 : decide (-(2 ^ 64) < a) = true := decide_eq_true (by omega)
  have h2 : decide (a < 2 ^ 64) = true := decide_eq_true (by omega)
  rw [h1, h2]; rfl
theorem p_is_cut (rows cols : List Int) (M : Int) (s f : List Int) (hM : 0 ≤ M ∧ M ≤ 9) (hs : ∀ k ∈ s, 0 ≤ k ∧ k < rows.length) (hf : ∀ k ∈ f, 0 ≤ k ∧ k < cols.length) (hsl : s.length ≤ 3) (hfl : f.length ≤ 3) (w : Unit) : f_is_cut [pv rows, pv cols, pv M, pv s, pv f] w = .ok (pv (decide (cutV rows cols M s f < 0))) w := by
  have c1 : cMul M (s.length : Int) = true := cMul_small (by omega) _
  have c2 : cMul (M * (s.length : Int)) ((cols.length : Int) - (f.length : Int)) = true := by
    refine cMul_small ?_ _
    have h1 : 0 ≤ M * (s.length : Int) := Int.mul_nonneg hM.1 (by omega)
    have h2 : M * (s.length : Int) ≤ 9 * 3 := Int.mul_le_mul hM.2 (by omega) (by omega) (by decide)
    omega
  unfold f_is_cut b_is_cut
  simp (disch := (first | assumption | decide | omega | (simp only [List.length_map, List.length_append, List.length_cons, List.length_nil, List.length_range, len_rg, len_enum, len_cut1]; first | assumption | omega) | (simp only [List.length_map, List.length_append, List.length_cons, List.length_nil, List.length_range, len_rg, len_enum, len_cut1, lim] at *; omega))) only [run_ev, runD_nx, runD_rt, runD_exc, runD_ite, sSeq_ev, seqD_nx, seqD_rt, seqD_exc, seqD_ite, sIf_ev, ifD_ev, xAnd_ev, xOr_ev, xChain_ev, andD_ev, orD_ev, i_and, i_or, i_ff, lim_if, lim_if2, lim_ifL, xOwn_nil, Nat.reduceAdd, Nat.reduceSub, Int.reduceEq, Int.reduceLT, Int.reduceLE, Nat.reduceLT, Nat.reduceLeDiff, Nat.zero_add, Bool.false_eq_true, decide_false, decide_true, reduceCtorEq,  i_andP, i_orP, i_ok, i_pv, t_ii, t_ib, t_il, t_it, t_bi, t_bb, t_bl, t_bt, t_li, t_lb, t_ll, t_lt, t_ti, t_tb, t_tl, t_tt, sRet, sNil, sDrop, sAsg, sRaise, xIf, x2, x1, xN, xCall, xSl, oEv, xLc, wipeZ, iOf, iOf2, xB, bAnd, bOr, bNot, bYes, lNil, lCons, sSet, xV, sFrz, sPar2, sPar3, r_bind, r_bindX, r_bindB, r_calm, r_opt, r_optB, r_int, r_bl, r_non, xVar, e_eq, e_ne, e_add, e_sub, e_cat, e_mul, e_div, e_mod, e_neg, e_not, e_lt, e_le, e_gt, e_ge, e_isB, e_asB, e_truB, e_truI, e_asI, e_oInt, e_asP, e_listOf0, e_lstOf, sExt, sApp, sFor, e_isiI, e_isiB, e_isiL, e_isiP, e_len, e_lenP, e_sum, e_max, e_min, e_max2, e_min2, e_min3, e_all, e_anyI, e_anyB, e_l1, e_l2, e_l3, e_t2, keepD_pv, keepD_p, tzD_some, e_t3, e_asPp, e_zT3, e_listL, e_ix, e_ixP0, e_ixP1, e_sl, e_rev, e_in, e_seq, e_rg, e_en, e_zp, e_zN, e_zT, e_zCons, e_zNil, e_pl, e_noObj, e_noObjP, lift_ev, liftD_ok, liftD_exc, List.all_cons, List.all_nil, iOwn, lcGo_map, lcS_pure, lcS_filt, Option.bind_some, Option.map_some, List.map_cons, List.map_nil, List.length_cons, List.length_nil, List.replicate_succ, List.replicate_zero, List.cons_append, List.nil_append, List.set_cons_zero, List.set_cons_succ, List.getElem?_cons_zero, List.getElem?_cons_succ, Bool.not_true, eq_self, not_true_eq_false, not_false_eq_true, Bool.true_xor, Bool.false_xor, Bool.not_false, Bool.not_not, Bool.true_and, Bool.and_true, Bool.false_and, Bool.and_false, Bool.true_or, Bool.or_true, Bool.or_false, Bool.false_or, decide_eq_true_eq, Bool.not_eq_true', decide_eq_false_iff_not, ne_eq, if_true, if_false, reduceIte, List.getElem?_nil, List.all_map, List.any_map, Function.id_comp, Function.comp_def, id, Bool.decide_eq_false, Bool.decide_eq_true]
  rw [lc_eq (fun k : Int => ixD rows k) (fun k hk w => by
    have := hs k hk
    simp (disch := (first | assumption | decide | omega | (simp only [List.length_map, List.length_append, List.length_cons, List.length_nil, List.length_range, len_rg, len_enum, len_cut1]; first | assumption | omega) | (simp only [List.length_map, List.length_append, List.length_cons, List.length_nil, List.length_range, len_rg, len_enum, len_cut1, lim] at *; omega))) only [run_ev, runD_nx, runD_rt, runD_exc, runD_ite, sSeq_ev, seqD_nx, seqD_rt, seqD_exc, seqD_ite, sIf_ev, ifD_ev, xAnd_ev, xOr_ev, xChain_ev, andD_ev, orD_ev, i_and, i_or, i_ff, lim_if, lim_if2, lim_ifL, xOwn_nil, Nat.reduceAdd, Nat.reduceSub, Int.reduceEq, Int.reduceLT, Int.reduceLE, Nat.reduceLT, Nat.reduceLeDiff, Nat.zero_add, Bool.false_eq_true, decide_false, decide_true, reduceCtorEq,  i_andP, i_orP, i_ok, i_pv, t_ii, t_ib, t_il, t_it, t_bi, t_bb, t_bl, t_bt, t_li, t_lb, t_ll, t_lt, t_ti, t_tb, t_tl, t_tt, sRet, sNil, sDrop, sAsg, sRaise, xIf, x2, x1, xN, xCall, xSl, oEv, xLc, wipeZ, iOf, iOf2, xB, bAnd, bOr, bNot, bYes, lNil, lCons, sSet, xV, sFrz, sPar2, sPar3, r_bind, r_bindX, r_bindB, r_calm, r_opt, r_optB, r_int, r_bl, r_non, xVar, e_eq, e_ne, e_add, e_sub, e_cat, e_mul, e_div, e_mod, e_neg, e_not, e_lt, e_le, e_gt, e_ge, e_isB, e_asB, e_truB, e_truI, e_asI, e_oInt, e_asP, e_listOf0, e_lstOf, sExt, sApp, sFor, e_isiI, e_isiB, e_isiL, e_isiP, e_len, e_lenP, e_sum, e_max, e_min, e_max2, e_min2, e_min3, e_all, e_anyI, e_anyB, e_l1, e_l2, e_l3, e_t2, keepD_pv, keepD_p, tzD_some, e_t3, e_asPp, e_zT3, e_listL, e_ix, e_ixP0, e_ixP1, e_sl, e_rev, e_in, e_seq, e_rg, e_en, e_zp, e_zN, e_zT, e_zCons, e_zNil, e_pl, e_noObj, e_noObjP, lift_ev, liftD_ok, liftD_exc, List.all_cons, List.all_nil, iOwn, lcGo_map, lcS_pure, lcS_filt, Option.bind_some, Option.map_some, List.map_cons, List.map_nil, List.length_cons, List.length_nil, List.replicate_succ, List.replicate_zero, List.cons_append, List.nil_append, List.set_cons_zero, List.set_cons_succ, List.getElem?_cons_zero, List.getElem?_cons_succ, Bool.not_true, eq_self, not_true_eq_false, not_false_eq_true, Bool.true_xor, Bool.false_xor, Bool.not_false, Bool.not_not, Bool.true_and, Bool.and_true, Bool.false_and, Bool.and_false, Bool.true_or, Bool.or_true, Bool.or_false, Bool.false_or, decide_eq_true_eq, Bool.not_eq_true', decide_eq_false_iff_not, ne_eq, if_true, if_false, reduceIte, List.getElem?_nil, List.all_map, List.any_map, Function.id_comp, Function.comp_def, id, Bool.decide_eq_false, Bool.decide_eq_true])]
  simp (disch := (first | assumption | decide | omega | (simp only [List.length_map, List.length_append, List.length_cons, List.length_nil, List.length_range, len_rg, len_enum, len_cut1]; first | assumption | omega) | (simp only [List.length_map, List.length_append, List.length_cons, List.length_nil, List.length_range, len_rg, len_enum, len_cut1, lim] at *; omega))) only [run_ev, runD_nx, runD_rt, runD_exc, runD_ite, sSeq_ev, seqD_nx, seqD_rt, seqD_exc, seqD_ite, sIf_ev, ifD_ev, xAnd_ev, xOr_ev, xChain_ev, andD_ev, orD_ev, i_and, i_or, i_ff, lim_if, lim_if2, lim_ifL, xOwn_nil, Nat.reduceAdd, Nat.reduceSub, Int.reduceEq, Int.reduceLT, Int.reduceLE, Nat.reduceLT, Nat.reduceLeDiff, Nat.zero_add, Bool.false_eq_true, decide_false, decide_true, reduceCtorEq,  i_andP, i_orP, i_ok, i_pv, t_ii, t_ib, t_il, t_it, t_bi, t_bb, t_bl, t_bt, t_li, t_lb, t_ll, t_lt, t_ti, t_tb, t_tl, t_tt, sRet, sNil, sDrop, sAsg, sRaise, xIf, x2, x1, xN, xCall, xSl, oEv, xLc, wipeZ, iOf, iOf2, xB, bAnd, bOr, bNot, bYes, lNil, lCons, sSet, xV, sFrz, sPar2, sPar3, r_bind, r_bindX, r_bindB, r_calm, r_opt, r_optB, r_int, r_bl, r_non, xVar, e_eq, e_ne, e_add, e_sub, e_cat, e_mul, e_div, e_mod, e_neg, e_not, e_lt, e_le, e_gt, e_ge, e_isB, e_asB, e_truB, e_truI, e_asI, e_oInt, e_asP, e_listOf0, e_lstOf, sExt, sApp, sFor, e_isiI, e_isiB, e_isiL, e_isiP, e_len, e_lenP, e_sum, e_max, e_min, e_max2, e_min2, e_min3, e_all, e_anyI, e_anyB, e_l1, e_l2, e_l3, e_t2, keepD_pv, keepD_p, tzD_some, e_t3, e_asPp, e_zT3, e_listL, e_ix, e_ixP0, e_ixP1, e_sl, e_rev, e_in, e_seq, e_rg, e_en, e_zp, e_zN, e_zT, e_zCons, e_zNil, e_pl, e_noObj, e_noObjP, lift_ev, liftD_ok, liftD_exc, List.all_cons, List.all_nil, iOwn, lcGo_map, lcS_pure, lcS_filt, Option.bind_some, Option.map_some, List.map_cons, List.map_nil, List.length_cons, List.length_nil, List.replicate_succ, List.replicate_zero, List.cons_append, List.nil_append, List.set_cons_zero, List.set_cons_succ, List.getElem?_cons_zero, List.getElem?_cons_succ, Bool.not_true, eq_self, not_true_eq_false, not_false_eq_true, Bool.true_xor, Bool.false_xor, Bool.not_false, Bool.not_not, Bool.true_and, Bool.and_true, Bool.false_and, Bool.and_false, Bool.true_or, Bool.or_true, Bool.or_false, Bool.false_or, decide_eq_true_eq, Bool.not_eq_true', decide_eq_false_iff_not, ne_eq, if_true, if_false, reduceIte, List.getElem?_nil, List.all_map, List.any_map, Function.id_comp, Function.comp_def, id, Bool.decide_eq_false, Bool.decide_eq_true]
  rw [lc_eq (fun k : Int => ixD cols k) (fun k hk w => by
    have := hf k hk
    simp (disch := (first | assumption | decide | omega | (simp only [List.length_map, List.length_append, List.length_cons, List.length_nil, List.length_range, len_rg, len_enum, len_cut1]; first | assumption | omega) | (simp only [List.length_map, List.length_append, List.length_cons, List.length_nil, List.length_range, len_rg, len_enum, len_cut1, lim] at *; omega))) only [run_ev, runD_nx, runD_rt, runD_exc, runD_ite, sSeq_ev, seqD_nx, seqD_rt, seqD_exc, seqD_ite, sIf_ev, ifD_ev, xAnd_ev, xOr_ev, xChain_ev, andD_ev, orD_ev, i_and, i_or, i_ff, lim_if, lim_if2, lim_ifL, xOwn_nil, Nat.reduceAdd, Nat.reduceSub, Int.reduceEq, Int.reduceLT, Int.reduceLE, Nat.reduceLT, Nat.reduceLeDiff, Nat.zero_add, Bool.false_eq_true, decide_false, decide_true, reduceCtorEq,  i_andP, i_orP, i_ok, i_pv, t_ii, t_ib, t_il, t_it, t_bi, t_bb, t_bl, t_bt, t_li, t_lb, t_ll, t_lt, t_ti, t_tb, t_tl, t_tt, sRet, sNil, sDrop, sAsg, sRaise, xIf, x2, x1, xN, xCall, xSl, oEv, xLc, wipeZ, iOf, iOf2, xB, bAnd, bOr, bNot, bYes, lNil, lCons, sSet, xV, sFrz, sPar2, sPar3, r_bind, r_bindX, r_bindB, r_calm, r_opt, r_optB, r_int, r_bl, r_non, xVar, e_eq, e_ne, e_add, e_sub, e_cat, e_mul, e_div, e_mod, e_neg, e_not, e_lt, e_le, e_gt, e_ge, e_isB, e_asB, e_truB, e_truI, e_asI, e_oInt, e_asP, e_listOf0, e_lstOf, sExt, sApp, sFor, e_isiI, e_isiB, e_isiL, e_isiP, e_len, e_lenP, e_sum, e_max, e_min, e_max2, e_min2, e_min3, e_all, e_anyI, e_anyB, e_l1, e_l2, e_l3, e_t2, keepD_pv, keepD_p, tzD_some, e_t3, e_asPp, e_zT3, e_listL, e_ix, e_ixP0, e_ixP1, e_sl, e_rev, e_in, e_seq, e_rg, e_en, e_zp, e_zN, e_zT, e_zCons, e_zNil, e_pl, e_noObj, e_noObjP, lift_ev, liftD_ok, liftD_exc, List.all_cons, List.all_nil, iOwn, lcGo_map, lcS_pure, lcS_filt, Option.bind_some, Option.map_some, List.map_cons, List.map_nil, List.length_cons, List.length_nil, List.replicate_succ, List.replicate_zero, List.cons_append, List.nil_append, List.set_cons_zero, List.set_cons_succ, List.getElem?_cons_zero, List.getElem?_cons_succ, Bool.not_true, eq_self, not_true_eq_false, not_false_eq_true, Bool.true_xor, Bool.false_xor, Bool.not_false, Bool.not_not, Bool.true_and, Bool.and_true, Bool.false_and, Bool.and_false, Bool.true_or, Bool.or_true, Bool.or_false, Bool.false_or, decide_eq_true_eq, Bool.not_eq_true', decide_eq_false_iff_not, ne_eq, if_true, if_false, reduceIte, List.getElem?_nil, List.all_map, List.any_map, Function.id_comp, Function.comp_def, id, Bool.decide_eq_false, Bool.decide_eq_true])]
  simp (disch := (first | assumption | decide | omega | (simp only [List.length_map, List.length_append, List.length_cons, List.length_nil, List.length_range, len_rg, len_enum, len_cut1]; first | assumption | omega) | (simp only [List.length_map, List.length_append, List.length_cons, List.length_nil, List.length_range, len_rg, len_enum, len_cut1, lim] at *; omega))) only [run_ev, runD_nx, runD_rt, runD_exc, runD_ite, sSeq_ev, seqD_nx, seqD_rt, seqD_exc, seqD_ite, sIf_ev, ifD_ev, xAnd_ev, xOr_ev, xChain_ev, andD_ev, orD_ev, i_and, i_or, i_ff, lim_if, lim_if2, lim_ifL, xOwn_nil, Nat.reduceAdd, Nat.reduceSub, Int.reduceEq, Int.reduceLT, Int.reduceLE, Nat.reduceLT, Nat.reduceLeDiff, Nat.zero_add, Bool.false_eq_true, decide_false, decide_true, reduceCtorEq,  i_andP, i_orP, i_ok, i_pv, t_ii, t_ib, t_il, t_it, t_bi, t_bb, t_bl, t_bt, t_li, t_lb, t_ll, t_lt, t_ti, t_tb, t_tl, t_tt, sRet, sNil, sDrop, sAsg, sRaise, xIf, x2, x1, xN, xCall, xSl, oEv, xLc, wipeZ, iOf, iOf2, xB, bAnd, bOr, bNot, bYes, lNil, lCons, sSet, xV, sFrz, sPar2, sPar3, r_bind, r_bindX, r_bindB, r_calm, r_opt, r_optB, r_int, r_bl, r_non, xVar, e_eq, e_ne, e_add, e_sub, e_cat, e_mul, e_div, e_mod, e_neg, e_not, e_lt, e_le, e_gt, e_ge, e_isB, e_asB, e_truB, e_truI, e_asI, e_oInt, e_asP, e_listOf0, e_lstOf, sExt, sApp, sFor, e_isiI, e_isiB, e_isiL, e_isiP, e_len, e_lenP, e_sum, e_max, e_min, e_max2, e_min2, e_min3, e_all, e_anyI, e_anyB, e_l1, e_l2, e_l3, e_t2, keepD_pv, keepD_p, tzD_some, e_t3, e_asPp, e_zT3, e_listL, e_ix, e_ixP0, e_ixP1, e_sl, e_rev, e_in, e_seq, e_rg, e_en, e_zp, e_zN, e_zT, e_zCons, e_zNil, e_pl, e_noObj, e_noObjP, lift_ev, liftD_ok, liftD_exc, List.all_cons, List.all_nil, iOwn, lcGo_map, lcS_pure, lcS_filt, Option.bind_some, Option.map_some, List.map_cons, List.map_nil, List.length_cons, List.length_nil, List.replicate_succ, List.replicate_zero, List.cons_append, List.nil_append, List.set_cons_zero, List.set_cons_succ, List.getElem?_cons_zero, List.getElem?_cons_succ, Bool.not_true, eq_self, not_true_eq_false, not_false_eq_true, Bool.true_xor, Bool.false_xor, Bool.not_false, Bool.not_not, Bool.true_and, Bool.and_true, Bool.false_and, Bool.and_false, Bool.true_or, Bool.or_true, Bool.or_false, Bool.false_or, decide_eq_true_eq, Bool.not_eq_true', decide_eq_false_iff_not, ne_eq, if_true, if_false, reduceIte, List.getElem?_nil, List.all_map, List.any_map, Function.id_comp, Function.comp_def, id, Bool.decide_eq_false, Bool.decide_eq_true, c1, c2]
  unfold cutV
  congr 2
  refine decide_eq_decide.mpr ?_
  omega
def cutP2 (rows cols : List Int) (M : Int) (s f : List Int) : Bool := decide (cutV rows cols M s f < 0)
/-- the first that bars -/
def cutO (rows cols : List Int) (M : Int) : List (List Int) → Option (List Int × List Int)
  | [] => none
  | s :: r => match (chL cols.length).find? (cutP2 rows cols M s) with
    | some f => some (s, f)
    | none => cutO rows cols M r
def encCO : Option (List Int × List Int) → PyData
  | none => .none
  | some p => Py.enc p
def bodyC : SF Unit := (sIf (xB truth (xCall f_is_cut (lCons (xVar 0) (lCons (xVar 1) (lCons (xVar 2) (lCons (xVar 3) (lCons (xVar 4) lNil))))))) (sRet (xN gTupD (lCons (xVar 3) (lCons (xVar 4) lNil)))) sNil)
theorem forGo_rt {W : Type} {tz : TZ} {body : SF W} {x : PyData} {l : List PyData} {δ δ1 : Ev} {w w2 : W} {d : D} (h1 : tz x δ = some δ1) (h2 : body δ1 w = .rt d w2) : forGo tz body (x :: l) δ w = .rt d w2 := by
  simp only [forGo, h1, h2]
theorem forGo_nil {W : Type} {tz : TZ} {body : SF W} {δ : Ev} {w : W} : forGo tz body [] δ w = .nx δ w := rfl
section
variable {rows cols : List Int} {M : Int}
theorem chL_in {n : Nat} (h1 : 1 ≤ n) (h3 : n ≤ 3) {s : List Int} (hs : s ∈ chL n) : (∀ k ∈ s, 0 ≤ k ∧ k < n) ∧ s.length ≤ 3 := by
  have h := (mem_chL h1 h3).mp hs
  refine ⟨fun k hk => mem_rg.mp (h.mem hk), ?_⟩
  have := h.length_le
  rw [len_rg] at this
  omega
theorem cutI_ev (h : OkS rows) (h' : OkS cols) (hM : 0 ≤ M ∧ M ≤ 9) (s : List Int) (hs : s ∈ chL rows.length) (w : Unit) : ∀ (L : List (List Int)), (∀ f ∈ L, f ∈ chL cols.length) → ∀ a4 : Sl, ∃ a4', forGo (zN 4) bodyC (L.map Py.enc) [.v (pv rows), .v (pv cols), .v (pv M), .v (pv s), a4] w = match L.find? (cutP2 rows cols M s) with
    | some f => SRes.rt (pv (s, f)) w
    | none => .nx [.v (pv rows), .v (pv cols), .v (pv M), .v (pv s), a4'] w
  | [], _, a4 => ⟨a4, rfl⟩
  | f :: L, hL, a4 => by
    obtain ⟨s1, s2⟩ := chL_in h.h1 h.h3 hs
    obtain ⟨f1, f2⟩ := chL_in h'.h1 h'.h3 (hL f List.mem_cons_self)
    have q := p_is_cut rows cols M s f hM s1 f1 s2 f2 ()
    have q : f_is_cut [pv rows, pv cols, pv M, pv s, pv f] () = .ok (pv (cutP2 rows cols M s f)) () := q
    rw [List.find?_cons]
    cases hc : cutP2 rows cols M s f with
    | true =>
      rw [hc] at q
      refine ⟨a4, forGo_rt (tz := zN 4) (δ1 := [.v (pv rows), .v (pv cols), .v (pv M), .v (pv s), .v (pv f)]) rfl ?_⟩
      unfold bodyC
      simp (disch := (first | assumption | decide | omega | (simp only [List.length_map, List.length_append, List.length_cons, List.length_nil, List.length_range, len_rg, len_enum, len_cut1]; first | assumption | omega) | (simp only [List.length_map, List.length_append, List.length_cons, List.length_nil, List.length_range, len_rg, len_enum, len_cut1, lim] at *; omega))) only [run_ev, runD_nx, runD_rt, runD_exc, runD_ite, sSeq_ev, seqD_nx, seqD_rt, seqD_exc, seqD_ite, sIf_ev, ifD_ev, xAnd_ev, xOr_ev, xChain_ev, andD_ev, orD_ev, i_and, i_or, i_ff, lim_if, lim_if2, lim_ifL, xOwn_nil, Nat.reduceAdd, Nat.reduceSub, Int.reduceEq, Int.reduceLT, Int.reduceLE, Nat.reduceLT, Nat.reduceLeDiff, Nat.zero_add, Bool.false_eq_true, decide_false, decide_true, reduceCtorEq,  i_andP, i_orP, i_ok, i_pv, t_ii, t_ib, t_il, t_it, t_bi, t_bb, t_bl, t_bt, t_li, t_lb, t_ll, t_lt, t_ti, t_tb, t_tl, t_tt, sRet, sNil, sDrop, sAsg, sRaise, xIf, x2, x1, xN, xCall, xSl, oEv, xLc, wipeZ, iOf, iOf2, xB, bAnd, bOr, bNot, bYes, lNil, lCons, sSet, xV, sFrz, sPar2, sPar3, r_bind, r_bindX, r_bindB, r_calm, r_opt, r_optB, r_int, r_bl, r_non, xVar, e_eq, e_ne, e_add, e_sub, e_cat, e_mul, e_div, e_mod, e_neg, e_not, e_lt, e_le, e_gt, e_ge, e_isB, e_asB, e_truB, e_truI, e_asI, e_oInt, e_asP, e_listOf0, e_lstOf, sExt, sApp, sFor, e_isiI, e_isiB, e_isiL, e_isiP, e_len, e_lenP, e_sum, e_max, e_min, e_max2, e_min2, e_min3, e_all, e_anyI, e_anyB, e_l1, e_l2, e_l3, e_t2, keepD_pv, keepD_p, tzD_some, e_t3, e_asPp, e_zT3, e_listL, e_ix, e_ixP0, e_ixP1, e_sl, e_rev, e_in, e_seq, e_rg, e_en, e_zp, e_zN, e_zT, e_zCons, e_zNil, e_pl, e_noObj, e_noObjP, lift_ev, liftD_ok, liftD_exc, List.all_cons, List.all_nil, iOwn, lcGo_map, lcS_pure, lcS_filt, Option.bind_some, Option.map_some, List.map_cons, List.map_nil, List.length_cons, List.length_nil, List.replicate_succ, List.replicate_zero, List.cons_append, List.nil_append, List.set_cons_zero, List.set_cons_succ, List.getElem?_cons_zero, List.getElem?_cons_succ, Bool.not_true, eq_self, not_true_eq_false, not_false_eq_true, Bool.true_xor, Bool.false_xor, Bool.not_false, Bool.not_not, Bool.true_and, Bool.and_true, Bool.false_and, Bool.and_false, Bool.true_or, Bool.or_true, Bool.or_false, Bool.false_or, decide_eq_true_eq, Bool.not_eq_true', decide_eq_false_iff_not, ne_eq, if_true, if_false, reduceIte, List.getElem?_nil, List.all_map, List.any_map, Function.id_comp, Function.comp_def, id, Bool.decide_eq_false, Bool.decide_eq_true, q]
    | false =>
      rw [hc] at q
      obtain ⟨a4', e⟩ := cutI_ev h h' hM s hs w L (fun f hf => hL f (List.mem_cons_of_mem _ hf)) (.v (pv f))
      refine ⟨a4', ?_⟩
      rw [List.map_cons, forGo_nx (tz := zN 4) (δ1 := [.v (pv rows), .v (pv cols), .v (pv M), .v (pv s), .v (pv f)]) (δ2 := [.v (pv rows), .v (pv cols), .v (pv M), .v (pv s), .v (pv f)]) (w2 := w) rfl (by
        unfold bodyC
        simp (disch := (first | assumption | decide | omega | (simp only [List.length_map, List.length_append, List.length_cons, List.length_nil, List.length_range, len_rg, len_enum, len_cut1]; first | assumption | omega) | (simp only [List.length_map, List.length_append, List.length_cons, List.length_nil, List.length_range, len_rg, len_enum, len_cut1, lim] at *; omega))) only [run_ev, runD_nx, runD_rt, runD_exc, runD_ite, sSeq_ev, seqD_nx, seqD_rt, seqD_exc, seqD_ite, sIf_ev, ifD_ev, xAnd_ev, xOr_ev, xChain_ev, andD_ev, orD_ev, i_and, i_or, i_ff, lim_if, lim_if2, lim_ifL, xOwn_nil, Nat.reduceAdd, Nat.reduceSub, Int.reduceEq, Int.reduceLT, Int.reduceLE, Nat.reduceLT, Nat.reduceLeDiff, Nat.zero_add, Bool.false_eq_true, decide_false, decide_true, reduceCtorEq,  i_andP, i_orP, i_ok, i_pv, t_ii, t_ib, t_il, t_it, t_bi, t_bb, t_bl, t_bt, t_li, t_lb, t_ll, t_lt, t_ti, t_tb, t_tl, t_tt, sRet, sNil, sDrop, sAsg, sRaise, xIf, x2, x1, xN, xCall, xSl, oEv, xLc, wipeZ, iOf, iOf2, xB, bAnd, bOr, bNot, bYes, lNil, lCons, sSet, xV, sFrz, sPar2, sPar3, r_bind, r_bindX, r_bindB, r_calm, r_opt, r_optB, r_int, r_bl, r_non, xVar, e_eq, e_ne, e_add, e_sub, e_cat, e_mul, e_div, e_mod, e_neg, e_not, e_lt, e_le, e_gt, e_ge, e_isB, e_asB, e_truB, e_truI, e_asI, e_oInt, e_asP, e_listOf0, e_lstOf, sExt, sApp, sFor, e_isiI, e_isiB, e_isiL, e_isiP, e_len, e_lenP, e_sum, e_max, e_min, e_max2, e_min2, e_min3, e_all, e_anyI, e_anyB, e_l1, e_l2, e_l3, e_t2, keepD_pv, keepD_p, tzD_some, e_t3, e_asPp, e_zT3, e_listL, e_ix, e_ixP0, e_ixP1, e_sl, e_rev, e_in, e_seq, e_rg, e_en, e_zp, e_zN, e_zT, e_zCons, e_zNil, e_pl, e_noObj, e_noObjP, lift_ev, liftD_ok, liftD_exc, List.all_cons, List.all_nil, iOwn, lcGo_map, lcS_pure, lcS_filt, Option.bind_some, Option.map_some, List.map_cons, List.map_nil, List.length_cons, List.length_nil, List.replicate_succ, List.replicate_zero, List.cons_append, List.nil_append, List.set_cons_zero, List.set_cons_succ, List.getElem?_cons_zero, List.getElem?_cons_succ, Bool.not_true, eq_self, not_true_eq_false, not_false_eq_true, Bool.true_xor, Bool.false_xor, Bool.not_false, Bool.not_not, Bool.true_and, Bool.and_true, Bool.false_and, Bool.and_false, Bool.true_or, Bool.or_true, Bool.or_false, Bool.false_or, decide_eq_true_eq, Bool.not_eq_true', decide_eq_false_iff_not, ne_eq, if_true, if_false, reduceIte, List.getElem?_nil, List.all_map, List.any_map, Function.id_comp, Function.comp_def, id, Bool.decide_eq_false, Bool.decide_eq_true, q])]
      exact e
theorem cutL_ev (h : OkS rows) (h' : OkS cols) (hM : 0 ≤ M ∧ M ≤ 9) (w : Unit) : ∀ (L : List (List Int)), (∀ f ∈ L, f ∈ chL rows.length) → ∀ a3 a4 : Sl, ∃ a3' a4', forGo (zN 3) (sFor (iOf seqOf (xCall f_chosen (lCons (xN gLen (lCons (xVar 1) lNil)) lNil))) (zN 4) bodyC) (L.map Py.enc) [.v (pv rows), .v (pv cols), .v (pv M), a3, a4] w = match cutO rows cols M L with
    | some p => SRes.rt (pv p) w
    | none => .nx [.v (pv rows), .v (pv cols), .v (pv M), a3', a4'] w
  | [], _, a3, a4 => ⟨a3, a4, rfl⟩
  | s :: L, hL, a3, a4 => by
    have q := p_chosen cols.length h'.h1 h'.h3 ()
    have hit : (iOf seqOf (xCall f_chosen (lCons (xN gLen (lCons (xVar 1) lNil)) lNil))) [.v (pv rows), .v (pv cols), .v (pv M), .v (pv s), a4] w = .ok ((chL cols.length).map Py.enc) w := by
      simp (disch := (first | assumption | decide | omega | (simp only [List.length_map, List.length_append, List.length_cons, List.length_nil, List.length_range, len_rg, len_enum, len_cut1]; first | assumption | omega) | (simp only [List.length_map, List.length_append, List.length_cons, List.length_nil, List.length_range, len_rg, len_enum, len_cut1, lim] at *; omega))) only [run_ev, runD_nx, runD_rt, runD_exc, runD_ite, sSeq_ev, seqD_nx, seqD_rt, seqD_exc, seqD_ite, sIf_ev, ifD_ev, xAnd_ev, xOr_ev, xChain_ev, andD_ev, orD_ev, i_and, i_or, i_ff, lim_if, lim_if2, lim_ifL, xOwn_nil, Nat.reduceAdd, Nat.reduceSub, Int.reduceEq, Int.reduceLT, Int.reduceLE, Nat.reduceLT, Nat.reduceLeDiff, Nat.zero_add, Bool.false_eq_true, decide_false, decide_true, reduceCtorEq,  i_andP, i_orP, i_ok, i_pv, t_ii, t_ib, t_il, t_it, t_bi, t_bb, t_bl, t_bt, t_li, t_lb, t_ll, t_lt, t_ti, t_tb, t_tl, t_tt, sRet, sNil, sDrop, sAsg, sRaise, xIf, x2, x1, xN, xCall, xSl, oEv, xLc, wipeZ, iOf, iOf2, xB, bAnd, bOr, bNot, bYes, lNil, lCons, sSet, xV, sFrz, sPar2, sPar3, r_bind, r_bindX, r_bindB, r_calm, r_opt, r_optB, r_int, r_bl, r_non, xVar, e_eq, e_ne, e_add, e_sub, e_cat, e_mul, e_div, e_mod, e_neg, e_not, e_lt, e_le, e_gt, e_ge, e_isB, e_asB, e_truB, e_truI, e_asI, e_oInt, e_asP, e_listOf0, e_lstOf, sExt, sApp, sFor, e_isiI, e_isiB, e_isiL, e_isiP, e_len, e_lenP, e_sum, e_max, e_min, e_max2, e_min2, e_min3, e_all, e_anyI, e_anyB, e_l1, e_l2, e_l3, e_t2, keepD_pv, keepD_p, tzD_some, e_t3, e_asPp, e_zT3, e_listL, e_ix, e_ixP0, e_ixP1, e_sl, e_rev, e_in, e_seq, e_rg, e_en, e_zp, e_zN, e_zT, e_zCons, e_zNil, e_pl, e_noObj, e_noObjP, lift_ev, liftD_ok, liftD_exc, List.all_cons, List.all_nil, iOwn, lcGo_map, lcS_pure, lcS_filt, Option.bind_some, Option.map_some, List.map_cons, List.map_nil, List.length_cons, List.length_nil, List.replicate_succ, List.replicate_zero, List.cons_append, List.nil_append, List.set_cons_zero, List.set_cons_succ, List.getElem?_cons_zero, List.getElem?_cons_succ, Bool.not_true, eq_self, not_true_eq_false, not_false_eq_true, Bool.true_xor, Bool.false_xor, Bool.not_false, Bool.not_not, Bool.true_and, Bool.and_true, Bool.false_and, Bool.and_false, Bool.true_or, Bool.or_true, Bool.or_false, Bool.false_or, decide_eq_true_eq, Bool.not_eq_true', decide_eq_false_iff_not, ne_eq, if_true, if_false, reduceIte, List.getElem?_nil, List.all_map, List.any_map, Function.id_comp, Function.comp_def, id, Bool.decide_eq_false, Bool.decide_eq_true, q]
    obtain ⟨a4', e⟩ := cutI_ev h h' hM s (hL s List.mem_cons_self) w (chL cols.length) (fun f hf => hf) a4
    have e' : sFor (iOf seqOf (xCall f_chosen (lCons (xN gLen (lCons (xVar 1) lNil)) lNil))) (zN 4) bodyC [.v (pv rows), .v (pv cols), .v (pv M), .v (pv s), a4] w = match (chL cols.length).find? (cutP2 rows cols M s) with
      | some f => SRes.rt (pv (s, f)) w
      | none => .nx [.v (pv rows), .v (pv cols), .v (pv M), .v (pv s), a4'] w := by
      unfold sFor
      rw [hit]
      exact e
    unfold cutO
    cases hf : (chL cols.length).find? (cutP2 rows cols M s) with
    | some f =>
      rw [hf] at e'
      exact ⟨a3, a4, forGo_rt (tz := zN 3) (δ1 := [.v (pv rows), .v (pv cols), .v (pv M), .v (pv s), a4]) rfl e'⟩
    | none =>
      rw [hf] at e'
      obtain ⟨a3', a4'', e2⟩ := cutL_ev h h' hM w L (fun f hf => hL f (List.mem_cons_of_mem _ hf)) (.v (pv s)) a4'
      exact ⟨a3', a4'', (forGo_nx (tz := zN 3) (δ1 := [.v (pv rows), .v (pv cols), .v (pv M), .v (pv s), a4]) rfl e').trans e2⟩
def cutF (rows cols : List Int) (M : Int) : Option (List Int × List Int) := cutO rows cols M (chL rows.length)
theorem p_cut_of (h : OkS rows) (h' : OkS cols) (hM : 0 ≤ M ∧ M ≤ 9) (w : Unit) : f_cut_of [pv rows, pv cols, pv M] w = .ok (.p (encCO (cutF rows cols M))) w := by
  have q := p_chosen rows.length h.h1 h.h3 ()
  obtain ⟨a3, a4, e⟩ := cutL_ev h h' hM w (chL rows.length) (fun f hf => hf) .no .no
  have hit : (iOf seqOf (xCall f_chosen (lCons (xN gLen (lCons (xVar 0) lNil)) lNil))) [.v (pv rows), .v (pv cols), .v (pv M), .no, .no] w = .ok ((chL rows.length).map Py.enc) w := by
    simp (disch := (first | assumption | decide | omega | (simp only [List.length_map, List.length_append, List.length_cons, List.length_nil, List.length_range, len_rg, len_enum, len_cut1]; first | assumption | omega) | (simp only [List.length_map, List.length_append, List.length_cons, List.length_nil, List.length_range, len_rg, len_enum, len_cut1, lim] at *; omega))) only [run_ev, runD_nx, runD_rt, runD_exc, runD_ite, sSeq_ev, seqD_nx, seqD_rt, seqD_exc, seqD_ite, sIf_ev, ifD_ev, xAnd_ev, xOr_ev, xChain_ev, andD_ev, orD_ev, i_and, i_or, i_ff, lim_if, lim_if2, lim_ifL, xOwn_nil, Nat.reduceAdd, Nat.reduceSub, Int.reduceEq, Int.reduceLT, Int.reduceLE, Nat.reduceLT, Nat.reduceLeDiff, Nat.zero_add, Bool.false_eq_true, decide_false, decide_true, reduceCtorEq,  i_andP, i_orP, i_ok, i_pv, t_ii, t_ib, t_il, t_it, t_bi, t_bb, t_bl, t_bt, t_li, t_lb, t_ll, t_lt, t_ti, t_tb, t_tl, t_tt, sRet, sNil, sDrop, sAsg, sRaise, xIf, x2, x1, xN, xCall, xSl, oEv, xLc, wipeZ, iOf, iOf2, xB, bAnd, bOr, bNot, bYes, lNil, lCons, sSet, xV, sFrz, sPar2, sPar3, r_bind, r_bindX, r_bindB, r_calm, r_opt, r_optB, r_int, r_bl, r_non, xVar, e_eq, e_ne, e_add, e_sub, e_cat, e_mul, e_div, e_mod, e_neg, e_not, e_lt, e_le, e_gt, e_ge, e_isB, e_asB, e_truB, e_truI, e_asI, e_oInt, e_asP, e_listOf0, e_lstOf, sExt, sApp, sFor, e_isiI, e_isiB, e_isiL, e_isiP, e_len, e_lenP, e_sum, e_max, e_min, e_max2, e_min2, e_min3, e_all, e_anyI, e_anyB, e_l1, e_l2, e_l3, e_t2, keepD_pv, keepD_p, tzD_some, e_t3, e_asPp, e_zT3, e_listL, e_ix, e_ixP0, e_ixP1, e_sl, e_rev, e_in, e_seq, e_rg, e_en, e_zp, e_zN, e_zT, e_zCons, e_zNil, e_pl, e_noObj, e_noObjP, lift_ev, liftD_ok, liftD_exc, List.all_cons, List.all_nil, iOwn, lcGo_map, lcS_pure, lcS_filt, Option.bind_some, Option.map_some, List.map_cons, List.map_nil, List.length_cons, List.length_nil, List.replicate_succ, List.replicate_zero, List.cons_append, List.nil_append, List.set_cons_zero, List.set_cons_succ, List.getElem?_cons_zero, List.getElem?_cons_succ, Bool.not_true, eq_self, not_true_eq_false, not_false_eq_true, Bool.true_xor, Bool.false_xor, Bool.not_false, Bool.not_not, Bool.true_and, Bool.and_true, Bool.false_and, Bool.and_false, Bool.true_or, Bool.or_true, Bool.or_false, Bool.false_or, decide_eq_true_eq, Bool.not_eq_true', decide_eq_false_iff_not, ne_eq, if_true, if_false, reduceIte, List.getElem?_nil, List.all_map, List.any_map, Function.id_comp, Function.comp_def, id, Bool.decide_eq_false, Bool.decide_eq_true, q]
  have hB : f_cut_of = runZ 5 (sSeq (sFor (iOf seqOf (xCall f_chosen (lCons (xN gLen (lCons (xVar 0) lNil)) lNil))) (zN 3) (sFor (iOf seqOf (xCall f_chosen (lCons (xN gLen (lCons (xVar 1) lNil)) lNil))) (zN 4) bodyC)) (sRet xNon)) := rfl
  have e' : sFor (iOf seqOf (xCall f_chosen (lCons (xN gLen (lCons (xVar 0) lNil)) lNil))) (zN 3) (sFor (iOf seqOf (xCall f_chosen (lCons (xN gLen (lCons (xVar 1) lNil)) lNil))) (zN 4) bodyC) [.v (pv rows), .v (pv cols), .v (pv M), .no, .no] w = match cutO rows cols M (chL rows.length) with
    | some p => SRes.rt (pv p) w
    | none => .nx [.v (pv rows), .v (pv cols), .v (pv M), a3, a4] w := by
    unfold sFor at e ⊢
    rw [hit]
    exact e
  rw [hB]
  unfold cutF
  cases hc : cutO rows cols M (chL rows.length) with
  | some p =>
    rw [hc] at e'
    refine runZ_rt ?_
    show sSeq _ _ [.v (pv rows), .v (pv cols), .v (pv M), .no, .no] w = _
    rw [sSeq_ev, e']
    rfl
  | none =>
    rw [hc] at e'
    refine runZ_rt ?_
    show sSeq _ _ [.v (pv rows), .v (pv cols), .v (pv M), .no, .no] w = _
    rw [sSeq_ev, e']
    rfl
theorem isNone_enc (b : Bool) (o : Option (List Int × List Int)) : gIs b (.p (encCO o)) (.p .none) = some (pv (xor b o.isNone)) := by
  cases o <;> rfl
def hasT (rows cols : List Int) (M : Int) : Bool := decide (rows.sum = cols.sum) && (cutF rows cols M).isNone
theorem p_can_be (h : OkS rows) (h' : OkS cols) (hM : 0 ≤ M ∧ M ≤ 9) (w : Unit) : f_can_be [pv rows, pv cols, pv M] w = .ok (pv (hasT rows cols M)) w := by
  have q1 := p_check_kind rows cols M h h' hM ()
  have q2 := p_cut_of h h' hM ()
  unfold f_can_be b_can_be
  simp (disch := (first | assumption | decide | omega | (simp only [List.length_map, List.length_append, List.length_cons, List.length_nil, List.length_range, len_rg, len_enum, len_cut1]; first | assumption | omega) | (simp only [List.length_map, List.length_append, List.length_cons, List.length_nil, List.length_range, len_rg, len_enum, len_cut1, lim] at *; omega))) only [run_ev, runD_nx, runD_rt, runD_exc, runD_ite, sSeq_ev, seqD_nx, seqD_rt, seqD_exc, seqD_ite, sIf_ev, ifD_ev, xAnd_ev, xOr_ev, xChain_ev, andD_ev, orD_ev, i_and, i_or, i_ff, lim_if, lim_if2, lim_ifL, xOwn_nil, Nat.reduceAdd, Nat.reduceSub, Int.reduceEq, Int.reduceLT, Int.reduceLE, Nat.reduceLT, Nat.reduceLeDiff, Nat.zero_add, Bool.false_eq_true, decide_false, decide_true, reduceCtorEq,  i_andP, i_orP, i_ok, i_pv, t_ii, t_ib, t_il, t_it, t_bi, t_bb, t_bl, t_bt, t_li, t_lb, t_ll, t_lt, t_ti, t_tb, t_tl, t_tt, sRet, sNil, sDrop, sAsg, sRaise, xIf, x2, x1, xN, xCall, xSl, oEv, xLc, wipeZ, iOf, iOf2, xB, bAnd, bOr, bNot, bYes, lNil, lCons, sSet, xV, sFrz, sPar2, sPar3, r_bind, r_bindX, r_bindB, r_calm, r_opt, r_optB, r_int, r_bl, r_non, xVar, e_eq, e_ne, e_add, e_sub, e_cat, e_mul, e_div, e_mod, e_neg, e_not, e_lt, e_le, e_gt, e_ge, e_isB, e_asB, e_truB, e_truI, e_asI, e_oInt, e_asP, e_listOf0, e_lstOf, sExt, sApp, sFor, e_isiI, e_isiB, e_isiL, e_isiP, e_len, e_lenP, e_sum, e_max, e_min, e_max2, e_min2, e_min3, e_all, e_anyI, e_anyB, e_l1, e_l2, e_l3, e_t2, keepD_pv, keepD_p, tzD_some, e_t3, e_asPp, e_zT3, e_listL, e_ix, e_ixP0, e_ixP1, e_sl, e_rev, e_in, e_seq, e_rg, e_en, e_zp, e_zN, e_zT, e_zCons, e_zNil, e_pl, e_noObj, e_noObjP, lift_ev, liftD_ok, liftD_exc, List.all_cons, List.all_nil, iOwn, lcGo_map, lcS_pure, lcS_filt, Option.bind_some, Option.map_some, List.map_cons, List.map_nil, List.length_cons, List.length_nil, List.replicate_succ, List.replicate_zero, List.cons_append, List.nil_append, List.set_cons_zero, List.set_cons_succ, List.getElem?_cons_zero, List.getElem?_cons_succ, Bool.not_true, eq_self, not_true_eq_false, not_false_eq_true, Bool.true_xor, Bool.false_xor, Bool.not_false, Bool.not_not, Bool.true_and, Bool.and_true, Bool.false_and, Bool.and_false, Bool.true_or, Bool.or_true, Bool.or_false, Bool.false_or, decide_eq_true_eq, Bool.not_eq_true', decide_eq_false_iff_not, ne_eq, if_true, if_false, reduceIte, List.getElem?_nil, List.all_map, List.any_map, Function.id_comp, Function.comp_def, id, Bool.decide_eq_false, Bool.decide_eq_true, q1, q2, isNone_enc]
  unfold hasT
  by_cases e : rows.sum = cols.sum <;> simp [e]
theorem p_first_cut (h : OkS rows) (h' : OkS cols) (hM : 0 ≤ M ∧ M ≤ 9) (w : Unit) : f_first_cut [pv rows, pv cols, pv M] w = if rows.sum = cols.sum then .ok (.p (encCO (cutF rows cols M))) w else .exc 2 w := by
  have q1 := p_check_kind rows cols M h h' hM ()
  have q2 := p_cut_of h h' hM ()
  unfold f_first_cut b_first_cut
  by_cases e : rows.sum = cols.sum
  · rw [if_pos e]
    simp (disch := (first | assumption | decide | omega | (simp only [List.length_map, List.length_append, List.length_cons, List.length_nil, List.length_range, len_rg, len_enum, len_cut1]; first | assumption | omega) | (simp only [List.length_map, List.length_append, List.length_cons, List.length_nil, List.length_range, len_rg, len_enum, len_cut1, lim] at *; omega))) only [run_ev, runD_nx, runD_rt, runD_exc, runD_ite, sSeq_ev, seqD_nx, seqD_rt, seqD_exc, seqD_ite, sIf_ev, ifD_ev, xAnd_ev, xOr_ev, xChain_ev, andD_ev, orD_ev, i_and, i_or, i_ff, lim_if, lim_if2, lim_ifL, xOwn_nil, Nat.reduceAdd, Nat.reduceSub, Int.reduceEq, Int.reduceLT, Int.reduceLE, Nat.reduceLT, Nat.reduceLeDiff, Nat.zero_add, Bool.false_eq_true, decide_false, decide_true, reduceCtorEq,  i_andP, i_orP, i_ok, i_pv, t_ii, t_ib, t_il, t_it, t_bi, t_bb, t_bl, t_bt, t_li, t_lb, t_ll, t_lt, t_ti, t_tb, t_tl, t_tt, sRet, sNil, sDrop, sAsg, sRaise, xIf, x2, x1, xN, xCall, xSl, oEv, xLc, wipeZ, iOf, iOf2, xB, bAnd, bOr, bNot, bYes, lNil, lCons, sSet, xV, sFrz, sPar2, sPar3, r_bind, r_bindX, r_bindB, r_calm, r_opt, r_optB, r_int, r_bl, r_non, xVar, e_eq, e_ne, e_add, e_sub, e_cat, e_mul, e_div, e_mod, e_neg, e_not, e_lt, e_le, e_gt, e_ge, e_isB, e_asB, e_truB, e_truI, e_asI, e_oInt, e_asP, e_listOf0, e_lstOf, sExt, sApp, sFor, e_isiI, e_isiB, e_isiL, e_isiP, e_len, e_lenP, e_sum, e_max, e_min, e_max2, e_min2, e_min3, e_all, e_anyI, e_anyB, e_l1, e_l2, e_l3, e_t2, keepD_pv, keepD_p, tzD_some, e_t3, e_asPp, e_zT3, e_listL, e_ix, e_ixP0, e_ixP1, e_sl, e_rev, e_in, e_seq, e_rg, e_en, e_zp, e_zN, e_zT, e_zCons, e_zNil, e_pl, e_noObj, e_noObjP, lift_ev, liftD_ok, liftD_exc, List.all_cons, List.all_nil, iOwn, lcGo_map, lcS_pure, lcS_filt, Option.bind_some, Option.map_some, List.map_cons, List.map_nil, List.length_cons, List.length_nil, List.replicate_succ, List.replicate_zero, List.cons_append, List.nil_append, List.set_cons_zero, List.set_cons_succ, List.getElem?_cons_zero, List.getElem?_cons_succ, Bool.not_true, eq_self, not_true_eq_false, not_false_eq_true, Bool.true_xor, Bool.false_xor, Bool.not_false, Bool.not_not, Bool.true_and, Bool.and_true, Bool.false_and, Bool.and_false, Bool.true_or, Bool.or_true, Bool.or_false, Bool.false_or, decide_eq_true_eq, Bool.not_eq_true', decide_eq_false_iff_not, ne_eq, if_true, if_false, reduceIte, List.getElem?_nil, List.all_map, List.any_map, Function.id_comp, Function.comp_def, id, Bool.decide_eq_false, Bool.decide_eq_true, q1, q2, e]
  · rw [if_neg e]
    simp (disch := (first | assumption | decide | omega | (simp only [List.length_map, List.length_append, List.length_cons, List.length_nil, List.length_range, len_rg, len_enum, len_cut1]; first | assumption | omega) | (simp only [List.length_map, List.length_append, List.length_cons, List.length_nil, List.length_range, len_rg, len_enum, len_cut1, lim] at *; omega))) only [run_ev, runD_nx, runD_rt, runD_exc, runD_ite, sSeq_ev, seqD_nx, seqD_rt, seqD_exc, seqD_ite, sIf_ev, ifD_ev, xAnd_ev, xOr_ev, xChain_ev, andD_ev, orD_ev, i_and, i_or, i_ff, lim_if, lim_if2, lim_ifL, xOwn_nil, Nat.reduceAdd, Nat.reduceSub, Int.reduceEq, Int.reduceLT, Int.reduceLE, Nat.reduceLT, Nat.reduceLeDiff, Nat.zero_add, Bool.false_eq_true, decide_false, decide_true, reduceCtorEq,  i_andP, i_orP, i_ok, i_pv, t_ii, t_ib, t_il, t_it, t_bi, t_bb, t_bl, t_bt, t_li, t_lb, t_ll, t_lt, t_ti, t_tb, t_tl, t_tt, sRet, sNil, sDrop, sAsg, sRaise, xIf, x2, x1, xN, xCall, xSl, oEv, xLc, wipeZ, iOf, iOf2, xB, bAnd, bOr, bNot, bYes, lNil, lCons, sSet, xV, sFrz, sPar2, sPar3, r_bind, r_bindX, r_bindB, r_calm, r_opt, r_optB, r_int, r_bl, r_non, xVar, e_eq, e_ne, e_add, e_sub, e_cat, e_mul, e_div, e_mod, e_neg, e_not, e_lt, e_le, e_gt, e_ge, e_isB, e_asB, e_truB, e_truI, e_asI, e_oInt, e_asP, e_listOf0, e_lstOf, sExt, sApp, sFor, e_isiI, e_isiB, e_isiL, e_isiP, e_len, e_lenP, e_sum, e_max, e_min, e_max2, e_min2, e_min3, e_all, e_anyI, e_anyB, e_l1, e_l2, e_l3, e_t2, keepD_pv, keepD_p, tzD_some, e_t3, e_asPp, e_zT3, e_listL, e_ix, e_ixP0, e_ixP1, e_sl, e_rev, e_in, e_seq, e_rg, e_en, e_zp, e_zN, e_zT, e_zCons, e_zNil, e_pl, e_noObj, e_noObjP, lift_ev, liftD_ok, liftD_exc, List.all_cons, List.all_nil, iOwn, lcGo_map, lcS_pure, lcS_filt, Option.bind_some, Option.map_some, List.map_cons, List.map_nil, List.length_cons, List.length_nil, List.replicate_succ, List.replicate_zero, List.cons_append, List.nil_append, List.set_cons_zero, List.set_cons_succ, List.getElem?_cons_zero, List.getElem?_cons_succ, Bool.not_true, eq_self, not_true_eq_false, not_false_eq_true, Bool.true_xor, Bool.false_xor, Bool.not_false, Bool.not_not, Bool.true_and, Bool.and_true, Bool.false_and, Bool.and_false, Bool.true_or, Bool.or_true, Bool.or_false, Bool.false_or, decide_eq_true_eq, Bool.not_eq_true', decide_eq_false_iff_not, ne_eq, if_true, if_false, reduceIte, List.getElem?_nil, List.all_map, List.any_map, Function.id_comp, Function.comp_def, id, Bool.decide_eq_false, Bool.decide_eq_true, q1, q2, e]
theorem cutO_none : ∀ {L : List (List Int)}, cutO rows cols M L = none → ∀ s ∈ L, ∀ f ∈ chL cols.length, 0 ≤ cutV rows cols M s f
  | [], _, s, hs, _, _ => by cases hs
  | a :: L, h, s, hs, f, hf => by
    unfold cutO at h
    cases hc : (chL cols.length).find? (cutP2 rows cols M a) with
    | some g => rw [hc] at h; cases h
    | none =>
      rw [hc] at h
      rcases List.mem_cons.mp hs with rfl | hs
      · have := List.find?_eq_none.mp hc f hf
        unfold cutP2 at this
        simp at this
        omega
      · exact cutO_none h s hs f hf
theorem cutO_some : ∀ {L : List (List Int)} {p : List Int × List Int}, cutO rows cols M L = some p → p.1 ∈ L ∧ p.2 ∈ chL cols.length ∧ cutV rows cols M p.1 p.2 < 0
  | [], _, h => by cases h
  | a :: L, p, h => by
    unfold cutO at h
    cases hc : (chL cols.length).find? (cutP2 rows cols M a) with
    | some g =>
      rw [hc] at h
      have h := Option.some.inj h
      subst h
      have h1 := List.mem_of_find?_eq_some hc
      have h2 := List.find?_some hc
      unfold cutP2 at h2
      exact ⟨List.mem_cons_self, h1, of_decide_eq_true h2⟩
    | none =>
      rw [hc] at h
      obtain ⟨g1, g2⟩ := cutO_some h
      exact ⟨List.mem_cons_of_mem _ g1, g2⟩
/-- a table is there exactly if nothing bars it -/
theorem hasT_iff (h : OkS rows) (h' : OkS cols) (hM : 0 ≤ M) : hasT rows cols M = true ↔ tabs M rows cols ≠ [] := by
  unfold hasT
  rw [Bool.and_eq_true, decide_eq_true_eq]
  constructor
  · rintro ⟨hs, hc⟩ z
    have hc : cutF rows cols M = none := Option.isNone_iff_eq_none.mp hc
    obtain ⟨T, hT⟩ := nocut_tab hM hs fun s f hss hff => cutO_none hc s ((mem_chL h.h1 h.h3).mpr hss) f ((mem_chL h'.h1 h'.h3).mpr hff)
    rw [z] at hT
    cases hT
  · intro hne
    obtain ⟨T, hT⟩ := List.exists_mem_of_ne_nil _ hne
    refine ⟨tab_sums hT, ?_⟩
    cases hc : cutF rows cols M with
    | none => rfl
    | some p =>
      obtain ⟨g1, g2, g3⟩ := cutO_some hc
      have := tab_nocut hT ((mem_chL h.h1 h.h3).mp g1) ((mem_chL h'.h1 h'.h3).mp g2)
      omega
theorem cutF_iff (h : OkS rows) (h' : OkS cols) (hM : 0 ≤ M) (hs : rows.sum = cols.sum) : cutF rows cols M = none ↔ tabs M rows cols ≠ [] := by
  rw [← hasT_iff h h' hM]
  unfold hasT
  rw [decide_eq_true hs, Bool.true_and]
  exact Option.isNone_iff_eq_none.symm
end

/-! # numbers of cells -/
theorem len_flT : ∀ (ps : List Int) (t : Int), (∀ p ∈ ps, p ≤ 9) → (flT ps t).length ≤ 10 ^ ps.length
  | [], t, _ => by unfold flT; split <;> simp
  | p :: ps, t, h => by
    unfold flT
    have ih := fun t => len_flT ps t fun q hq => h q (List.mem_cons_of_mem _ hq)
    refine Nat.le_trans (len_flat _ (10 ^ ps.length) _ fun f _ => ?_) ?_
    · rw [List.length_map]; exact ih _
    · rw [len_rg, List.length_cons, Nat.pow_succ, Nat.mul_comm]
      refine Nat.mul_le_mul_left _ ?_
      have := h p List.mem_cons_self
      split <;> omega
def flG (ps : List Int) (t f : Int) : Rows := (flT ps (t - f)).map (f :: ·)
theorem flT_cons (p : Int) (ps : List Int) (t : Int) : flT (p :: ps) t = (rg 0 ((if p < t then p else t) + 1)).flatMap (flG ps t) := rfl
theorem len_flG (ps : List Int) (t f : Int) (h : ∀ p ∈ ps, p ≤ 9) (hl : ps.length ≤ 3) : (flG ps t f).length ≤ 1000 := by
  have := pow3 hl
  have := len_flT ps (t - f) h
  unfold flG
  rw [List.length_map]; omega
theorem flT_len {ps row : List Int} {t : Int} (h : row ∈ flT ps t) : row.length = ps.length := ((mem_flT _ _ _).mp h).1.len
def orderOf (k : Int) (n : Nat) : List Int := k :: (rg 0 n).filter fun i => decide ¬i = k
theorem order_perm {k : Int} {n : Nat} (hk : 0 ≤ k ∧ k < n) : (orderOf k n).Perm (rg 0 n) := by
  have hm : k ∈ rg 0 n := mem_rg.mpr hk
  refine ((List.perm_cons_erase hm).trans ?_).symm
  unfold orderOf
  rw [(rg_nd 0 n).erase_eq_filter]
  have e : (rg 0 n).filter (fun x => x != k) = (rg 0 n).filter fun i => decide ¬i = k := List.filter_congr fun x _ => by
    by_cases h : x = k <;> simp [h]
  rw [e]
theorem len_order {k : Int} {n : Nat} (hk : 0 ≤ k ∧ k < n) : (orderOf k n).length = n := by
  rw [(order_perm hk).length_eq, len_rg]; omega
theorem sS_mem_le {X : List Int} {f : Int → Int} (h : ∀ x ∈ X, 0 ≤ f x) {a : Int} (ha : a ∈ X) : f a ≤ sS X f := by
  induction X with
  | nil => cases ha
  | cons x X ih =>
    rw [sS_cons]
    have h1 := h x List.mem_cons_self
    have h2 := sS_nn fun y hy => h y (List.mem_cons_of_mem _ hy)
    rcases List.mem_cons.mp ha with rfl | ha
    · omega
    · have := ih (fun y hy => h y (List.mem_cons_of_mem _ hy)) ha
      omega
theorem gt2_le {M : Int} {rows cols : List Int} {T : Rows} (h : T ∈ tabs M rows cols) {k j : Int} (hk : 0 ≤ k ∧ k < rows.length) (hj : 0 ≤ j ∧ j < cols.length) : 0 ≤ gt2 T k j ∧ gt2 T k j ≤ M ∧ gt2 T k j ≤ ixD rows k ∧ gt2 T k j ≤ ixD cols j := by
  have F := isT_feas ((mem_tabs M rows cols T).mp h)
  have mk := mem_rg.mpr hk
  have mj := mem_rg.mpr hj
  have e := F.en k mk j mj
  have h1 := sS_mem_le (f := gt2 T k) (fun j hj => (F.en k mk j hj).1) mj
  have h2 := sS_mem_le (f := fun i => gt2 T i j) (fun i hi => (F.en i hi j mj).1) mk
  rw [F.rs k mk] at h1
  rw [F.cs j mj] at h2
  exact ⟨e.1, e.2, h1, h2⟩
def bodyN : SF (List Memo) := (sSeq (sSet 15 (xV (x2 gAdd (xN gList (lCons (x2 gSub (x2 gIx (xVar 10) (xInt 0)) (xVar 4)) lNil)) (xLc (iOf2 zpOf (xSl (some (xInt 1)) none (xVar 10)) (xVar 14)) (zT 2 (zCons (zN 18) (zCons (zN 19) zNil))) bYes (x2 gSub (xVar 18) (xVar 19)) [18, 19]))))
    (sAug 12 (fun i j => i + j) (xCall (f_ways_from 10) (lCons (xVar 13) (lCons (xN gTupOf (lCons (xVar 15) lNil)) (lCons (xVar 2) (lCons xNewM lNil)))))))
section
variable {rows cols : List Int} {M : Int}
def envN (rows cols : List Int) (M : Int) (p : Int × Int) (v k j : Int) (o f s l : List Int) (fi fo : Int) (re : List Int) (a14 a15 : Sl) : Ev := [.v (pv rows), .v (pv cols), .v (pv M), .v (pv p), .v (pv v), .v (pv k), .v (pv j), .v (pv o), .v (pv f), .v (pv s), .v (pv l), .v (pv fi), .v (pv fo), .v (pv (⟨re⟩ : Tp Int)), a14, a15, .no, .no, .no, .no]
theorem bodyN_ev (hM : 0 ≤ M ∧ M ≤ 9) (p : Int × Int) (v k j : Int) (o f s : List Int) (fi fo : Int) (re : List Int) (hre : re.length ≤ 3) (hr27 : ∀ x ∈ re, 0 ≤ x ∧ x ≤ 27) (l0 : Int) (ltl row : List Int) (hm : ltl.length ≤ 2) (hl : OkL (ltl.length + 1) ((l0 - v) :: subL ltl row)) (hrow : row.length = ltl.length) (a15 : Sl) (w : List Memo) :
    ∃ w', bodyN (envN rows cols M p v k j o f s (l0 :: ltl) fi fo re (.v (pv row)) a15) w = .nx (envN rows cols M p v k j o f s (l0 :: ltl) fi (fo + (tabs M re ((l0 - v) :: subL ltl row)).length) re (.v (pv row)) (.v (pv ((l0 - v) :: subL ltl row)))) w' := by
  obtain ⟨ks', q2, _, _⟩ := p_ways (root := re) (m := ltl.length + 1) hre hr27 (by omega) hM w 10 re ((l0 - v) :: subL ltl row) (sfx_self _) (by omega) hl [] (ConsW.nil _ _)
  have q2 : f_ways_from 10 [pv (⟨re⟩ : Tp Int), pv (⟨(l0 - v) :: subL ltl row⟩ : Tp Int), pv M, .obj w.length] (w ++ [[]]) = .ok (pv ((tabs M re ((l0 - v) :: subL ltl row)).length : Int)) (w ++ [tabW M ks']) := q2
  refine ⟨w ++ [tabW M ks'], ?_⟩
  have hz := e_zp ltl row
  have hzl : (ltl.zip row).length ≤ 3 := by rw [List.length_zip]; omega
  have hsl := len_subL hrow
  have e3 := ixD_cons0 l0 ltl
  have e4 := e_cat [l0 - v] (subL ltl row) (by simp only [List.length_singleton]; unfold lim; omega)
  have hx : xCall (f_ways_from 10) (lCons (xVar 13) (lCons (xN gTupOf (lCons (xVar 15) lNil)) (lCons (xVar 2) (lCons xNewM lNil)))) (envN rows cols M p v k j o f s (l0 :: ltl) fi fo re (.v (pv row)) (.v (pv ((l0 - v) :: subL ltl row)))) w = .ok (pv ((tabs M re ((l0 - v) :: subL ltl row)).length : Int)) (w ++ [tabW M ks']) := by
    have hnew : ∀ (δ : Ev), (xNewM : XF (List Memo)) δ w = .ok (.obj w.length) (w ++ [[]]) := fun _ => rfl
    unfold envN
    simp (disch := (first | assumption | decide | omega | (simp only [List.length_map, List.length_append, List.length_cons, List.length_nil, List.length_range, len_rg, len_enum, len_cut1]; first | assumption | omega) | (simp only [List.length_map, List.length_append, List.length_cons, List.length_nil, List.length_range, len_rg, len_enum, len_cut1, lim] at *; omega))) only [run_ev, runD_nx, runD_rt, runD_exc, runD_ite, sSeq_ev, seqD_nx, seqD_rt, seqD_exc, seqD_ite, sIf_ev, ifD_ev, xAnd_ev, xOr_ev, xChain_ev, andD_ev, orD_ev, i_and, i_or, i_ff, lim_if, lim_if2, lim_ifL, xOwn_nil, Nat.reduceAdd, Nat.reduceSub, Int.reduceEq, Int.reduceLT, Int.reduceLE, Nat.reduceLT, Nat.reduceLeDiff, Nat.zero_add, Bool.false_eq_true, decide_false, decide_true, reduceCtorEq,  i_andP, i_orP, i_ok, i_pv, t_ii, t_ib, t_il, t_it, t_bi, t_bb, t_bl, t_bt, t_li, t_lb, t_ll, t_lt, t_ti, t_tb, t_tl, t_tt, sRet, sNil, sDrop, sAsg, sRaise, xIf, x2, x1, xN, xCall, xSl, oEv, xLc, wipeZ, iOf, iOf2, xB, bAnd, bOr, bNot, bYes, lNil, lCons, sSet, xV, sFrz, sPar2, sPar3, r_bind, r_bindX, r_bindB, r_calm, r_opt, r_optB, r_int, r_bl, r_non, xVar, e_eq, e_ne, e_add, e_sub, e_cat, e_mul, e_div, e_mod, e_neg, e_not, e_lt, e_le, e_gt, e_ge, e_isB, e_asB, e_truB, e_truI, e_asI, e_oInt, e_asP, e_listOf0, e_lstOf, sExt, sApp, sFor, e_isiI, e_isiB, e_isiL, e_isiP, e_len, e_lenP, e_sum, e_max, e_min, e_max2, e_min2, e_min3, e_all, e_anyI, e_anyB, e_l1, e_l2, e_l3, e_t2, keepD_pv, keepD_p, tzD_some, e_t3, e_asPp, e_zT3, e_listL, e_ix, e_ixP0, e_ixP1, e_sl, e_rev, e_in, e_seq, e_rg, e_en, e_zp, e_zN, e_zT, e_zCons, e_zNil, e_pl, e_noObj, e_noObjP, lift_ev, liftD_ok, liftD_exc, List.all_cons, List.all_nil, iOwn, lcGo_map, lcS_pure, lcS_filt, Option.bind_some, Option.map_some, List.map_cons, List.map_nil, List.length_cons, List.length_nil, List.replicate_succ, List.replicate_zero, List.cons_append, List.nil_append, List.set_cons_zero, List.set_cons_succ, List.getElem?_cons_zero, List.getElem?_cons_succ, Bool.not_true, eq_self, not_true_eq_false, not_false_eq_true, Bool.true_xor, Bool.false_xor, Bool.not_false, Bool.not_not, Bool.true_and, Bool.and_true, Bool.false_and, Bool.and_false, Bool.true_or, Bool.or_true, Bool.or_false, Bool.false_or, decide_eq_true_eq, Bool.not_eq_true', decide_eq_false_iff_not, ne_eq, if_true, if_false, reduceIte, List.getElem?_nil, List.all_map, List.any_map, Function.id_comp, Function.comp_def, id, Bool.decide_eq_false, Bool.decide_eq_true, tq_tupL, hnew, q2]
  have ha := sAug_ev (op := fun i j => i + j) (δ := envN rows cols M p v k j o f s (l0 :: ltl) fi fo re (.v (pv row)) (.v (pv ((l0 - v) :: subL ltl row)))) (i := 12) (a := fo) rfl hx
  unfold bodyN
  unfold envN at ha ⊢
  simp (disch := (first | assumption | decide | omega | (simp only [List.length_map, List.length_append, List.length_cons, List.length_nil, List.length_range, len_rg, len_enum, len_cut1]; first | assumption | omega) | (simp only [List.length_map, List.length_append, List.length_cons, List.length_nil, List.length_range, len_rg, len_enum, len_cut1, lim] at *; omega))) only [run_ev, runD_nx, runD_rt, runD_exc, runD_ite, sSeq_ev, seqD_nx, seqD_rt, seqD_exc, seqD_ite, sIf_ev, ifD_ev, xAnd_ev, xOr_ev, xChain_ev, andD_ev, orD_ev, i_and, i_or, i_ff, lim_if, lim_if2, lim_ifL, xOwn_nil, Nat.reduceAdd, Nat.reduceSub, Int.reduceEq, Int.reduceLT, Int.reduceLE, Nat.reduceLT, Nat.reduceLeDiff, Nat.zero_add, Bool.false_eq_true, decide_false, decide_true, reduceCtorEq,  i_andP, i_orP, i_ok, i_pv, t_ii, t_ib, t_il, t_it, t_bi, t_bb, t_bl, t_bt, t_li, t_lb, t_ll, t_lt, t_ti, t_tb, t_tl, t_tt, sRet, sNil, sDrop, sAsg, sRaise, xIf, x2, x1, xN, xCall, xSl, oEv, xLc, wipeZ, iOf, iOf2, xB, bAnd, bOr, bNot, bYes, lNil, lCons, sSet, xV, sFrz, sPar2, sPar3, r_bind, r_bindX, r_bindB, r_calm, r_opt, r_optB, r_int, r_bl, r_non, xVar, e_eq, e_ne, e_add, e_sub, e_cat, e_mul, e_div, e_mod, e_neg, e_not, e_lt, e_le, e_gt, e_ge, e_isB, e_asB, e_truB, e_truI, e_asI, e_oInt, e_asP, e_listOf0, e_lstOf, sExt, sApp, sFor, e_isiI, e_isiB, e_isiL, e_isiP, e_len, e_lenP, e_sum, e_max, e_min, e_max2, e_min2, e_min3, e_all, e_anyI, e_anyB, e_l1, e_l2, e_l3, e_t2, keepD_pv, keepD_p, tzD_some, e_t3, e_asPp, e_zT3, e_listL, e_ix, e_ixP0, e_ixP1, e_sl, e_rev, e_in, e_seq, e_rg, e_en, e_zp, e_zN, e_zT, e_zCons, e_zNil, e_pl, e_noObj, e_noObjP, lift_ev, liftD_ok, liftD_exc, List.all_cons, List.all_nil, iOwn, lcGo_map, lcS_pure, lcS_filt, Option.bind_some, Option.map_some, List.map_cons, List.map_nil, List.length_cons, List.length_nil, List.replicate_succ, List.replicate_zero, List.cons_append, List.nil_append, List.set_cons_zero, List.set_cons_succ, List.getElem?_cons_zero, List.getElem?_cons_succ, Bool.not_true, eq_self, not_true_eq_false, not_false_eq_true, Bool.true_xor, Bool.false_xor, Bool.not_false, Bool.not_not, Bool.true_and, Bool.and_true, Bool.false_and, Bool.and_false, Bool.true_or, Bool.or_true, Bool.or_false, Bool.false_or, decide_eq_true_eq, Bool.not_eq_true', decide_eq_false_iff_not, ne_eq, if_true, if_false, reduceIte, List.getElem?_nil, List.all_map, List.any_map, Function.id_comp, Function.comp_def, id, Bool.decide_eq_false, Bool.decide_eq_true, e3, tq_tl, hz, subL_map, e4, List.singleton_append, ha]
end

/-! # ranges of cells -/
def numsV (M : Int) (rows cols : List Int) (k j : Int) : List Int := (rg 0 (M + 1)).filter fun v => decide (0 < ((wth M rows cols k j v).length : Int))
def sureC (M : Int) (rows cols : List Int) (k j : Int) : Chg := if ((numsV M rows cols k j).length : Int) = 1 then [((k, j), ixD (numsV M rows cols k j) 0)] else []
def sureR (M : Int) (rows cols : List Int) (m : Nat) (k : Int) : Chg := (rg 0 m).flatMap (sureC M rows cols k)
def sureL (M : Int) (rows cols : List Int) : Chg := (rg 0 rows.length).flatMap (sureR M rows cols cols.length)
section
variable {rows cols : List Int} {M : Int}
/-! ## what the numbers are -/
theorem mem_numsV (hM : 0 ≤ M) {k j v : Int} (hk : 0 ≤ k ∧ k < rows.length) (hj : 0 ≤ j ∧ j < cols.length) : v ∈ numsV M rows cols k j ↔ ∃ T ∈ tabs M rows cols, gt2 T k j = v := by
  unfold numsV
  rw [List.mem_filter, decide_eq_true_eq, mem_rg]
  constructor
  · rintro ⟨_, hp⟩
    obtain ⟨T, hT⟩ := List.exists_mem_of_length_pos (l := wth M rows cols k j v) (by omega)
    exact ⟨T, (mem_wth.mp hT).1, (mem_wth.mp hT).2⟩
  · rintro ⟨T, hT, rfl⟩
    have := gt2_le hT hk hj
    have hp : 0 < (wth M rows cols k j (gt2 T k j)).length := List.length_pos_of_mem (mem_wth.mpr ⟨hT, rfl⟩)
    exact ⟨by omega, by omega⟩
theorem numsV_sorted (M : Int) (rows cols : List Int) (k j : Int) : (numsV M rows cols k j).Pairwise (· < ·) := (rg_lt 0 (M + 1)).sublist List.filter_sublist
/-- sorted, nothing left out between: a range -/
theorem range_of {l : List Int} (hs : l.Pairwise (· < ·)) (hne : l ≠ []) (hb : ∀ a ∈ l, ∀ b ∈ l, ∀ v, a ≤ v → v ≤ b → v ∈ l) : l = rg (ixD l 0) (ixD l (-1) + 1) := by
  have hlen := List.length_pos_iff.mpr hne
  have h0 : ixD l 0 ∈ l := ixD_mem ⟨by omega, by omega⟩
  have h1 : ixD l (-1) ∈ l := ixD_mem ⟨by omega, by omega⟩
  have hmin : ∀ x ∈ l, ixD l 0 ≤ x := fun x hx => by
    cases l with
    | nil => cases hx
    | cons y ys =>
      rw [ixD_cons0]
      rcases List.mem_cons.mp hx with rfl | hx
      · exact Int.le_refl _
      · have := (List.pairwise_cons.mp hs).1 x hx; omega
  have hmax : ∀ x ∈ l, x ≤ ixD l (-1) := fun x hx => by
    have e := snoc_of hlen
    rw [e] at hx hs
    have hp := List.pairwise_append.mp hs
    rcases List.mem_append.mp hx with hx | hx
    · have := hp.2.2 x hx _ (List.mem_singleton.mpr rfl); omega
    · rw [List.mem_singleton.mp hx]; exact Int.le_refl _
  refine sorted_ext (R := (· < ·)) (fun a h => by omega) (fun a b => by omega) hs (rg_lt _ _) fun x => ?_
  rw [mem_rg]
  exact ⟨fun hx => ⟨hmin x hx, by have := hmax x hx; omega⟩, fun hx => hb _ h0 _ h1 x hx.1 (by omega)⟩
theorem nums_range (hM : 0 ≤ M) {k j : Int} (hk : 0 ≤ k ∧ k < rows.length) (hj : 0 ≤ j ∧ j < cols.length) (hne : numsV M rows cols k j ≠ []) : numsV M rows cols k j = rg (ixD (numsV M rows cols k j) 0) (ixD (numsV M rows cols k j) (-1) + 1) := by
  refine range_of (numsV_sorted _ _ _ _ _) hne fun a ha b hb v h1 h2 => ?_
  obtain ⟨T, hT, rfl⟩ := (mem_numsV hM hk hj).mp ha
  obtain ⟨U, hU, rfl⟩ := (mem_numsV hM hk hj).mp hb
  exact (mem_numsV hM hk hj).mpr (tabs_between hT hU hk hj h1 h2)
end

end Z

set_option Elab.async false
set_option linter.all false
set_option maxRecDepth 100000
set_option maxHeartbeats 2000000
namespace Z
open PySem
/-! # the order of tables, as Python has it -/
section
open PySem.W
theorem rl_nc {α : Type} [Py α] (y : α) (ys : List α) : rowLt [] (Py.enc y :: ys.map Py.enc) = true := by
  unfold rowLt
  rw [toks_all_cons]
  simp only [keyToksAll]
  rw [PyProof.Rows.lex_diff (O := PyProof.Rows.itemOrd) (by simp)]
  rfl
theorem rl_cn {α : Type} [Py α] (y : α) (ys : List α) : rowLt (Py.enc y :: ys.map Py.enc) [] = false := by
  unfold rowLt
  rw [toks_all_cons]
  simp only [keyToksAll]
  rw [PyProof.Rows.lex_diff (O := PyProof.Rows.itemOrd) (by simp)]
  rfl
theorem rl_nn : rowLt [] [] = false := PyProof.Rows.lex_irrefl _
theorem rl_cc {α : Type} [Py α] [DecidableEq α] (x y : α) (xs ys : List PyData) (h : alike (Py.enc x) (Py.enc y) = true) : rowLt (Py.enc x :: xs) (Py.enc y :: ys) = if x = y then rowLt xs ys else dataLt (Py.enc x) (Py.enc y) := by
  unfold rowLt
  rw [dataLt_cons h, eqv_pv]
  by_cases e : x = y <;> simp [e]
theorem alikeI : ∀ a b : List Int, alikeAll (a.map Py.enc) (b.map Py.enc) = true
  | [], _ => by simp [alikeAll]
  | _ :: _, [] => by simp [alikeAll]
  | x :: a, y :: b => by
    rw [List.map_cons, List.map_cons, alikeAll, alikeI a b]
    rfl
theorem alikeR : ∀ a b : Rows, alikeAll (a.map Py.enc) (b.map Py.enc) = true
  | [], _ => by simp [alikeAll]
  | _ :: _, [] => by simp [alikeAll]
  | x :: a, y :: b => by
    rw [List.map_cons, List.map_cons, alikeAll, alikeR a b, Bool.and_true]
    show alike (.list (x.map Py.enc)) (.list (y.map Py.enc)) = true
    rw [alike]
    exact alikeI x y
theorem ltI_iff : ∀ a b : List Int, rowLt (a.map Py.enc) (b.map Py.enc) = true ↔ ltL a b
  | [], [] => by
    show rowLt [] [] = true ↔ _
    rw [rl_nn]; simp [ltL]
  | [], y :: b => by
    show rowLt [] (Py.enc y :: b.map Py.enc) = true ↔ _
    rw [rl_nc]; simp [ltL]
  | x :: a, [] => by
    show rowLt (Py.enc x :: a.map Py.enc) [] = true ↔ _
    rw [rl_cn]; simp [ltL]
  | x :: a, y :: b => by
    rw [List.map_cons, List.map_cons, rl_cc x y _ _ (by show alike (.int x) (.int y) = true; simp [alike])]
    show _ ↔ x < y ∨ (x = y ∧ ltL a b)
    by_cases h : x = y
    · subst h
      rw [if_pos rfl, ltI_iff a b]
      constructor
      · intro h; exact .inr ⟨rfl, h⟩
      · rintro (h | h)
        · omega
        · exact h.2
    · rw [if_neg h]
      have : dataLt (Py.enc x) (Py.enc y) = decide (x < y) := dataLt_int x y
      rw [this, decide_eq_true_eq]
      constructor
      · intro h; exact .inl h
      · rintro (h' | h')
        · exact h'
        · exact absurd h'.1 h
theorem dltL_iff (a b : List Int) : dataLt (Py.enc a) (Py.enc b) = true ↔ ltL a b := by
  have : dataLt (Py.enc a) (Py.enc b) = rowLt (a.map Py.enc) (b.map Py.enc) := dataLt_list _ _
  rw [this, ltI_iff]
theorem ltR_iff : ∀ a b : Rows, rowLt (a.map Py.enc) (b.map Py.enc) = true ↔ ltR a b
  | [], [] => by
    show rowLt [] [] = true ↔ _
    rw [rl_nn]; simp [ltR]
  | [], y :: b => by
    show rowLt [] (Py.enc y :: b.map Py.enc) = true ↔ _
    rw [rl_nc]; simp [ltR]
  | x :: a, [] => by
    show rowLt (Py.enc x :: a.map Py.enc) [] = true ↔ _
    rw [rl_cn]; simp [ltR]
  | x :: a, y :: b => by
    rw [List.map_cons, List.map_cons, rl_cc x y _ _ (by show alike (.list (x.map Py.enc)) (.list (y.map Py.enc)) = true; rw [alike]; exact alikeI x y)]
    show _ ↔ ltL x y ∨ (x = y ∧ ltR a b)
    by_cases h : x = y
    · subst h
      rw [if_pos rfl, ltR_iff a b]
      constructor
      · intro h; exact .inr ⟨rfl, h⟩
      · rintro (h | h)
        · exact absurd h (ltL_irr x)
        · exact h.2
    · rw [if_neg h, dltL_iff]
      constructor
      · intro h; exact .inl h
      · rintro (h' | h')
        · exact h'
        · exact absurd h'.1 h
theorem dltR_iff (a b : Rows) : dataLt (Py.enc a) (Py.enc b) = true ↔ ltR a b := by
  have : dataLt (Py.enc a) (Py.enc b) = rowLt (a.map Py.enc) (b.map Py.enc) := dataLt_list _ _
  rw [this, ltR_iff]
theorem e_ltR {a b : Rows} (h : ltR a b) : gLtD (pv a) (pv b) = some (pv true) := by
  have h1 : dataLt (Py.enc a) (Py.enc b) = true := (dltR_iff a b).mpr h
  have h2 : ordOk (Py.enc a) (Py.enc b) = true := by
    have e1 : alike (Py.enc a) (Py.enc b) = true := by
      show alike (.list (a.map Py.enc)) (.list (b.map Py.enc)) = true
      rw [alike]; exact alikeR a b
    have e2 : min (Py.enc a).depth (Py.enc b).depth ≤ 64 := by
      have := Py.hdep a
      have : Py.dep Rows = 2 := rfl
      omega
    have e3 : ordOk.isOther0 (Py.enc a) = true := rfl
    unfold ordOk
    rw [e1, e3, decide_eq_true e2]; rfl
  show (if ordOk (Py.enc a) (Py.enc b) = true then some (D.p (.bool (dataLt (Py.enc a) (Py.enc b)))) else none) = _
  rw [if_pos h2, h1]; rfl
theorem ltR_tri : ∀ a b : Rows, ltR a b ∨ a = b ∨ ltR b a
  | [], [] => .inr (.inl rfl)
  | [], _ :: _ => .inl trivial
  | _ :: _, [] => .inr (.inr trivial)
  | x :: xs, y :: ys => by
    rcases ltL_tri x y with h | h | h
    · exact .inl (.inl h)
    · subst h
      rcases ltR_tri xs ys with h | h | h
      · exact .inl (.inr ⟨rfl, h⟩)
      · exact .inr (.inl (by rw [h]))
      · exact .inr (.inr (.inr ⟨rfl, h⟩))
    · exact .inr (.inr (.inl h))
end
theorem ltR_first {a b : Rows} {x y : Int} {xs ys : List Int} {a' b' : Rows} (ea : a = (x :: xs) :: a') (eb : b = (y :: ys) :: b') (h : ltR a b) : x ≤ y := by
  subst ea eb
  rcases h with h | h
  · rcases h with h | h
    · omega
    · omega
  · have := h.1
    injection this with h1 _
    omega
/-! ## tables found are tables -/
theorem isT_ta {M : Int} {rows cols : List Int} {T : Rows} (h : T ∈ tabs M rows cols) (h1 : OkS rows) (h2 : OkS cols) (hM : M ≤ 9) : Ta T ∧ (ixD T 0).length = cols.length ∧ T.map List.sum = rows ∧ colS (ixD T 0).length T = cols ∧ (∀ row ∈ T, ∀ x ∈ row, x ≤ M) := by
  have I := (mem_tabs M rows cols T).mp h
  have hl := I.len
  have a1 := h1.h1
  have a3 := h1.h3
  have b1 := h2.h1
  have b3 := h2.h3
  have h0 : (ixD T 0).length = cols.length := I.ln _ (ixD_mem ⟨by omega, by omega⟩)
  refine ⟨⟨by omega, by omega, fun r hr => by rw [I.ln r hr]; exact b1, fun r hr => by rw [I.ln r hr]; exact b3, fun r hr => by rw [I.ln r hr, h0], fun r hr x hx => ?_⟩, h0, I.rs, by rw [h0]; exact I.cs, fun r hr x hx => (I.en r hr x hx).2⟩
  have := I.en r hr x hx
  omega

/-! # sets of numbers, sorted -/
theorem tq_intsM (ns : List Int) : ints? (ns.map PyData.int) = some ns := tq_ints ns
theorem tq_sset (ns : List Int) (hl : ns.length < 64) : ∃ S : List Int, gSortedSet (pv ns) = some (pv S) ∧ S.Pairwise (· < ·) ∧ ∀ x, x ∈ S ↔ x ∈ ns := by
  refine ⟨sortT (ddp ns), ?_, ?_, fun x => ?_⟩
  · show ((ints? (ns.map PyData.int)).bind fun ns => if ns.length < 64 then some (D.p (.list (sortP ((ddp ns).map PyData.int)))) else none) = _
    rw [tq_intsM]
    show (if ns.length < 64 then some (D.p (.list (sortP ((ddp ns).map PyData.int)))) else none) = _
    have e : sortP ((ddp ns).map PyData.int) = (sortT (ddp ns)).map Py.enc := sortT_enc (ddp ns)
    rw [if_pos hl, e]
    rfl
  · have nd : (sortT (ddp ns)).Nodup := (sortT_perm _).nodup_iff.mpr (nodup_ddp ns)
    refine (sortT_sd (ddp ns)).imp₂ (fun a b h h2 => ?_) nd
    have h : (!PySem.W.dataLt (.int b) (.int a)) = true := h
    rw [PySem.W.dataLt_int] at h
    simp only [Bool.not_eq_true', decide_eq_false_iff_not] at h
    have h2 : a ≠ b := h2
    omega
  · rw [(sortT_perm _).mem_iff, mem_ddp]
theorem len_tabs {M : Int} (hM : 0 ≤ M ∧ M ≤ 9) {m : Nat} (hm : m ≤ 3) : ∀ (rows left : List Int), OkL m left → (tabs M rows left).length ≤ 1000 ^ rows.length
  | [], left, _ => by rw [tabs_nil]; split <;> simp
  | r :: rs, left, h => by
    have hl := h.len
    have e : (tabs M (r :: rs) left).length = sS (rwT (topsM M left) r) fun row => ((tabs M rs (subL left row)).length : Int) := by
      rw [tabs_cons, len_flatS]
      exact sS_congr fun row _ => by rw [List.length_map]
    have h1 := sS_le (X := rwT (topsM M left) r) (f := fun row => ((tabs M rs (subL left row)).length : Int)) (g := fun _ => ((1000 ^ rs.length : Nat) : Int)) fun row hr => by
      have := len_tabs hM hm rs (subL left row) (okL_sub h hr)
      exact Int.ofNat_le.mpr this
    rw [sS_const] at h1
    have h2 := len_rwT (topsM M left) r fun p hp => (ok_tops h hM p hp).2
    have h3 := pow3 (n := (topsM M left).length) (by rw [len_topsM]; omega)
    have h4 : (1000 ^ rs.length) * (rwT (topsM M left) r).length ≤ 1000 ^ rs.length * 1000 := Nat.mul_le_mul_left _ (by omega)
    rw [List.length_cons, Nat.pow_succ]
    have h5 : ((1000 ^ rs.length : Nat) : Int) * ((rwT (topsM M left) r).length : Int) = ((1000 ^ rs.length * (rwT (topsM M left) r).length : Nat) : Int) := by rw [Int.natCast_mul]
    omega
theorem len_tabs9 {M : Int} {rows cols : List Int} (hM : 0 ≤ M ∧ M ≤ 9) (h : OkS rows) (h' : OkS cols) : (tabs M rows cols).length ≤ 1000000000 := by
  have h1 := len_tabs hM h'.h3 rows cols h'.okL
  have h2 : 1000 ^ rows.length ≤ 1000 ^ 3 := Nat.pow_le_pow_right (by decide) h.h3
  omega
theorem sFor_of {W : Type} {it : XI W} {tz : TZ} {body : SF W} {δ : Ev} {w w1 : W} {items : List PyData} (h : it δ w = .ok items w1) : sFor it tz body δ w = forGo tz body items δ w1 := by
  unfold sFor
  rw [h]
theorem gis_nn (b : Bool) : gIs b (.p .none) (.p .none) = some (pv (xor b true)) := rfl
theorem two_rows {T : Rows} (h : Ta T) : ∃ x xs T', T = (x :: xs) :: T' ∧ ixD (ixD T 0) 0 = x := by
  have h1 := h.n1
  cases T with
  | nil => simp at h1
  | cons r T' =>
    have := h.m1 r List.mem_cons_self
    cases r with
    | nil => simp at this
    | cons x xs => exact ⟨x, xs, T', rfl, by rw [ixD_cons0, ixD_cons0]⟩

end Z

set_option Elab.async false
set_option linter.all false
set_option maxRecDepth 100000
set_option maxHeartbeats 0
namespace Z
open PySem PySem.Spec PyProof.Rows L2
def zFn : List He.FnD := [⟨("is_int", none), "is_int", "is_int", defArgs s_is_int, defBody s_is_int, defScope s_is_int⟩,
  ⟨("check_sums", none), "check_sums", "check_sums", defArgs s_check_sums, defBody s_check_sums, defScope s_check_sums⟩,
  ⟨("check_most", none), "check_most", "check_most", defArgs s_check_most, defBody s_check_most, defScope s_check_most⟩,
  ⟨("check_kind", none), "check_kind", "check_kind", defArgs s_check_kind, defBody s_check_kind, defScope s_check_kind⟩,
  ⟨("chosen", none), "chosen", "chosen", defArgs s_chosen, defBody s_chosen, defScope s_chosen⟩,
  ⟨("is_cut", none), "is_cut", "is_cut", defArgs s_is_cut, defBody s_is_cut, defScope s_is_cut⟩,
  ⟨("cut_of", none), "cut_of", "cut_of", defArgs s_cut_of, defBody s_cut_of, defScope s_cut_of⟩,
  ⟨("can_be", none), "can_be", "can_be", defArgs s_can_be, defBody s_can_be, defScope s_can_be⟩,
  ⟨("first_cut", none), "first_cut", "first_cut", defArgs s_first_cut, defBody s_first_cut, defScope s_first_cut⟩,
  ⟨("rows_with", none), "rows_with", "rows_with", defArgs s_rows_with, defBody s_rows_with, defScope s_rows_with⟩,
  ⟨("ways_from", none), "ways_from", "ways_from", defArgs s_ways_from, defBody s_ways_from, defScope s_ways_from⟩,
  ⟨("count_tables", none), "count_tables", "count_tables", defArgs s_count_tables, defBody s_count_tables, defScope s_count_tables⟩,
  ⟨("table_at", none), "table_at", "table_at", defArgs s_table_at, defBody s_table_at, defScope s_table_at⟩,
  ⟨("_law_start", none), "_law_start", "_law_start", defArgs s_Lstart, defBody s_Lstart, defScope s_Lstart⟩,
  ⟨("_law_draw", none), "_law_draw", "_law_draw", defArgs s_Ldraw, defBody s_Ldraw, defScope s_Ldraw⟩,
  ⟨("law", none), "law", "law", defArgs s_law, defBody s_law, defScope s_law⟩]
def zFa1 : List He.Fa := [.glo "is_int", .glo "check_sums", .glo "check_most", .glo "check_kind", .glo "chosen", .glo "is_cut", .glo "cut_of", .glo "can_be", .glo "first_cut", .glo "rows_with", .glo "ways_from", .glo "count_tables", .glo "table_at", .glo "_law_start", .glo "_law_draw", .glo "law"]
def zFa2 : List He.Fa := [.keep "is_int", .keep "check_sums", .keep "check_most", .keep "check_kind", .keep "chosen", .keep "is_cut", .keep "cut_of", .keep "can_be", .keep "first_cut", .keep "rows_with", .keep "ways_from", .keep "count_tables", .keep "table_at", .keep "_law_start", .keep "_law_draw", .keep "law"]
def zFa3 : List He.Fa := [.glo "BadSums", .exc "BadSums", .glo "BadNumber", .exc "BadNumber"]
def zFa : List He.Fa := zFa1 ++ (zFa2 ++ (zBt.map He.Fa.free ++ zFa3))
def zL0 : List Str := ["SheetError", "BadSums", "BadNumber", "is_int", "check_sums", "check_most", "check_kind", "chosen", "is_cut", "cut_of", "can_be", "first_cut", "rows_with", "ways_from", "count_tables", "table_at", "_law_start", "_law_draw"]
def zLoose : List Str := zL0
abbrev zR : PySem.W.OpenRow := PySem.W.OpenLaw.row PySem.Challenge.rw_crosssums_k19_whole_cuts
abbrev zHk : PySem.W.Hook := He.hookE 5 zFa zFn
def zOb (s : PySem.W.SharedT) : He.Al := He.obsG 5 zFa zFn (HandSHeadRun.getT s)
theorem zOb_eq (s : PySem.W.SharedT) : zOb s = zHk.obs s.abs := He.obsG_eq (HandSHeadRun.getT_eq s)
theorem zRun (w : World) : HandSHeadRun.RunEq zR (PySem.W.view zR.prog [21]) zHk zOb 3000 zLoose w := by
  intro os
  kernel_rfl
theorem zFacts {P : Program} {w : World} {K : PySem.W.Frag} {h : Heap} {mg : Str → Option Value} {f : Addr} (X : K.In h) (G : h.Ns mainGlobals mg) (hfa : mg ("law" : Str) = some (.ref f)) (c : He.SaysE zFa zFn K) :
    ∃ fd : FuncData, (∀ (s : Shared) (v : Value), BindsTo s fd ⟨[v], []⟩ [("_law_script", v)]) ∧ ∀ base : Heap, K.In base → base.Ns mainGlobals mg → FnOk P w K mg base (L2.CX P w) 24 f fd ["_law_script"] (spZ (zCls K) K WW 1 f_law) := by
  have B : Bt mg := bt_of X G fun x hx => fact_of c (List.mem_append_right _ (List.mem_append_right _ (List.mem_append_left _ (List.mem_map.mpr ⟨x, hx, rfl⟩))))
  have E_BadSums : ExC K mg "BadSums" (zCls K 2) := exC_of X G (c.fact 50 (f := .glo "BadSums") rfl) (c.fact 51 (f := .exc "BadSums") rfl)
  have E_BadNumber : ExC K mg "BadNumber" (zCls K 3) := exC_of X G (c.fact 52 (f := .glo "BadNumber") rfl) (c.fact 53 (f := .exc "BadNumber") rfl)
  have d_is_int : Df K mg "is_int" s_is_int := df_of X G (c.fact 0 (f := .glo "is_int") rfl) (c.fact 16 (f := .keep "is_int") rfl) (c.def_ 0 rfl)
  have d_check_sums : Df K mg "check_sums" s_check_sums := df_of X G (c.fact 1 (f := .glo "check_sums") rfl) (c.fact 17 (f := .keep "check_sums") rfl) (c.def_ 1 rfl)
  have d_check_most : Df K mg "check_most" s_check_most := df_of X G (c.fact 2 (f := .glo "check_most") rfl) (c.fact 18 (f := .keep "check_most") rfl) (c.def_ 2 rfl)
  have d_check_kind : Df K mg "check_kind" s_check_kind := df_of X G (c.fact 3 (f := .glo "check_kind") rfl) (c.fact 19 (f := .keep "check_kind") rfl) (c.def_ 3 rfl)
  have d_chosen : Df K mg "chosen" s_chosen := df_of X G (c.fact 4 (f := .glo "chosen") rfl) (c.fact 20 (f := .keep "chosen") rfl) (c.def_ 4 rfl)
  have d_is_cut : Df K mg "is_cut" s_is_cut := df_of X G (c.fact 5 (f := .glo "is_cut") rfl) (c.fact 21 (f := .keep "is_cut") rfl) (c.def_ 5 rfl)
  have d_cut_of : Df K mg "cut_of" s_cut_of := df_of X G (c.fact 6 (f := .glo "cut_of") rfl) (c.fact 22 (f := .keep "cut_of") rfl) (c.def_ 6 rfl)
  have d_can_be : Df K mg "can_be" s_can_be := df_of X G (c.fact 7 (f := .glo "can_be") rfl) (c.fact 23 (f := .keep "can_be") rfl) (c.def_ 7 rfl)
  have d_first_cut : Df K mg "first_cut" s_first_cut := df_of X G (c.fact 8 (f := .glo "first_cut") rfl) (c.fact 24 (f := .keep "first_cut") rfl) (c.def_ 8 rfl)
  have d_rows_with : Df K mg "rows_with" s_rows_with := df_of X G (c.fact 9 (f := .glo "rows_with") rfl) (c.fact 25 (f := .keep "rows_with") rfl) (c.def_ 9 rfl)
  have d_ways_from : Df K mg "ways_from" s_ways_from := df_of X G (c.fact 10 (f := .glo "ways_from") rfl) (c.fact 26 (f := .keep "ways_from") rfl) (c.def_ 10 rfl)
  have d_count_tables : Df K mg "count_tables" s_count_tables := df_of X G (c.fact 11 (f := .glo "count_tables") rfl) (c.fact 27 (f := .keep "count_tables") rfl) (c.def_ 11 rfl)
  have d_table_at : Df K mg "table_at" s_table_at := df_of X G (c.fact 12 (f := .glo "table_at") rfl) (c.fact 28 (f := .keep "table_at") rfl) (c.def_ 12 rfl)
  have d_Lstart : Df K mg "_law_start" s_Lstart := df_of X G (c.fact 13 (f := .glo "_law_start") rfl) (c.fact 29 (f := .keep "_law_start") rfl) (c.def_ 13 rfl)
  have d_Ldraw : Df K mg "_law_draw" s_Ldraw := df_of X G (c.fact 14 (f := .glo "_law_draw") rfl) (c.fact 30 (f := .keep "_law_draw") rfl) (c.def_ 14 rfl)
  have e := hfa.symm.trans (He.glo_ok X G (c.fact 15 (f := .glo "law") rfl))
  cases e
  obtain ⟨oc, od, osl, kV, doc, pm, an, cdv, ct, l1, l2⟩ := c.def_ 15 rfl
  have F := fun_mk (x := "law") (st := s_law) l1 l2 (He.keep_ok (c.fact 31 (f := .keep "law") rfl))
  refine ⟨PySem.W.fnOf "law" "law" (defArgs s_law) (defBody s_law) (defScope s_law) .none kV doc pm an cdv ct, fun s v => .of_eq rfl, fun base _ _ => ?_⟩
  have h_is_int := k_is_int (P := P) (w := w) (base := base) (cls := zCls K) d_is_int B
  have h_check_sums := k_check_sums (P := P) (w := w) (base := base) (cls := zCls K) d_check_sums B h_is_int E_BadSums
  have h_check_most := k_check_most (P := P) (w := w) (base := base) (cls := zCls K) d_check_most B h_is_int E_BadNumber
  have h_check_kind := k_check_kind (P := P) (w := w) (base := base) (cls := zCls K) d_check_kind B h_check_sums h_check_most
  have h_chosen := k_chosen (P := P) (w := w) (base := base) (cls := zCls K) d_chosen B
  have h_is_cut := k_is_cut (P := P) (w := w) (base := base) (cls := zCls K) d_is_cut B
  have h_cut_of := k_cut_of (P := P) (w := w) (base := base) (cls := zCls K) d_cut_of B h_chosen h_is_cut
  have h_can_be := k_can_be (P := P) (w := w) (base := base) (cls := zCls K) d_can_be B h_check_kind h_cut_of
  have h_first_cut := k_first_cut (P := P) (w := w) (base := base) (cls := zCls K) d_first_cut B h_check_kind h_cut_of E_BadSums
  have h_rows_with := k_rows_with (P := P) (w := w) (base := base) (cls := zCls K) d_rows_with B
  have h_ways_from := k_ways_from (P := P) (w := w) (base := base) (cls := zCls K) d_ways_from B h_rows_with
  have h_count_tables := k_count_tables (P := P) (w := w) (base := base) (cls := zCls K) d_count_tables B h_check_kind h_ways_from
  have h_table_at := k_table_at (P := P) (w := w) (base := base) (cls := zCls K) d_table_at B h_check_kind h_is_int h_ways_from h_rows_with E_BadNumber
  have h_Lstart := k_Lstart (P := P) (w := w) (base := base) (cls := zCls K) d_Lstart B
  have h_Ldraw := k_Ldraw (P := P) (w := w) (base := base) (cls := zCls K) d_Ldraw B
  exact fn_law F B h_Lstart h_Ldraw h_can_be h_first_cut h_table_at h_count_tables
end Z

set_option Elab.async false
set_option linter.all false
set_option maxRecDepth 100000
set_option maxHeartbeats 2000000
namespace Z
open PySem
/-! # the law k19 -/
theorem chain_ge {good : List Int} {P : Int → Bool} (hg : good = (rg 0 10).filter P) (hmono : ∀ a b : Int, 0 ≤ a → a ≤ b → b ≤ 9 → P a = true → P b = true) : good = (rg 0 10).filter fun v => decide ¬good = [] && decide (ixD good 0 ≤ v) := by
  by_cases h : good = []
  · rw [h]; symm
    exact List.filter_eq_nil_iff.mpr fun v _ => by simp
  · have hs : good.Pairwise (· < ·) := by rw [hg]; exact (rg_lt 0 10).sublist List.filter_sublist
    have hlen := List.length_pos_iff.mpr h
    have h0 : ixD good 0 ∈ good := ixD_mem ⟨by omega, by omega⟩
    have hmin : ∀ x ∈ good, ixD good 0 ≤ x := fun x hx => by
      cases good with
      | nil => cases hx
      | cons y ys =>
        rw [ixD_cons0]
        rcases List.mem_cons.mp hx with rfl | hx
        · exact Int.le_refl _
        · have := (List.pairwise_cons.mp hs).1 x hx; omega
    have hPm : ixD good 0 ∈ (rg 0 10).filter P := by rw [← hg]; exact h0
    have hP := (List.mem_filter.mp hPm).2
    have h00 := mem_rg.mp (List.mem_filter.mp hPm).1
    refine Eq.trans hg (List.filter_congr fun v hv => ?_)
    have hv' := mem_rg.mp hv
    have e1 : decide (¬good = []) = true := decide_eq_true h
    rw [e1, Bool.true_and]
    by_cases hv2 : P v = true
    · rw [hv2]
      exact (decide_eq_true (hmin v (by rw [hg]; exact List.mem_filter.mpr ⟨hv, hv2⟩))).symm
    · rw [Bool.not_eq_true] at hv2
      rw [hv2]
      refine (decide_eq_false fun z => ?_).symm
      rw [hmono _ _ h00.1 z (by omega) hP] at hv2
      cases hv2
theorem len_tabs0 {M : Int} {rows cols : List Int} {T : Rows} (h : T ∈ tabs M rows cols) {N : Int} (hN : M ≤ N) : T ∈ tabs N rows cols := by
  have I := (mem_tabs M rows cols T).mp h
  exact (mem_tabs _ _ _ _).mpr ⟨fun row hr x hx => by have := I.en row hr x hx; omega, I.ln, I.rs, I.cs⟩
theorem rev2_len {M : Int} {rows cols : List Int} : (tabs M rows.reverse cols.reverse).length = (tabs M rows cols).length := by
  have ho : ((rg 0 (rows.length : Int)).reverse).Perm (rg 0 rows.length) := List.reverse_perm _
  have hf : ((rg 0 (cols.length : Int)).reverse).Perm (rg 0 cols.length) := List.reverse_perm _
  have := pm_len (M := M) (rows := rows) (cols := cols) ho hf
  rw [List.map_reverse, List.map_reverse, map_ixD rows _ rfl, map_ixD cols _ rfl] at this
  exact this
abbrev E19 (ns : List Int) (rows : List Int) (wide : Int) (a4 a5 a6 a7 a8 a9 a10 a11 a12 a13 a14 a15 a16 : Sl) : Ev := [.v (.scr ns), .v (.obj 0), .v (pv rows), .v (pv wide), a4, a5, a6, a7, a8, a9, a10, a11, a12, a13, a14, a15, a16, .no, .no]
theorem l19_a (ns : List Int) : ∃ (rows : List Int) (wide : Nat) (w : Wd), (OkS rows ∧ rows.sum ≤ 27) ∧ (1 ≤ wide ∧ wide ≤ 3) ∧ Gd w ∧ b_law_0 [.v (.scr ns), .no, .no, .no, .no, .no, .no, .no, .no, .no, .no, .no, .no, .no, .no, .no, .no, .no, .no] none =
    b_law_5 (E19 ns rows wide (.v (pv rows.sum)) (.own []) .no .no .no .no .no .no .no .no .no .no .no) w := by
  obtain ⟨w1, e1, g1⟩ := w_start ns
  obtain ⟨hi, w2, e2, h2, g2⟩ := w_draw 3 (by decide) (by decide) w1 g1
  obtain ⟨rows, w3, e3, l3, p3, g3⟩ := lc_draw (body := fun (x : Int) w => (f_Ldraw [.obj 0, pv (10 : Int)] w).calm.bind keepD) Gd (fun x : Int => 0 ≤ x ∧ x < 10) (rg 0 (1 + hi)) (fun x _ w g => by
    obtain ⟨r, w', e, h, g'⟩ := w_draw 10 (by decide) (by decide) w g
    exact ⟨r, w', by rw [e]; rfl, h, g'⟩) w2 g2
  rw [len_rg] at l3
  obtain ⟨wi, w4, e4, h4, g4⟩ := w_draw 3 (by decide) (by decide) w3 g3
  have hS : OkS rows := ⟨by omega, by omega, fun x hx => by have := p3 x hx; omega⟩
  have hsum := sum_bound3 0 9 (by decide) (by decide) rows hS.h3 fun x hx => by have := p3 x hx; omega
  refine ⟨rows, (1 + wi).toNat, w4, ⟨hS, by omega⟩, by omega, g4, ?_⟩
  have hc : (((1 + wi).toNat : Nat) : Int) = 1 + wi := by omega
  rw [hc]
  unfold b_law_0 b_law_1 b_law_2 b_law_3 b_law_4
  simp (disch := (first | assumption | decide | omega | (simp only [List.length_map, List.length_append, List.length_cons, List.length_nil, List.length_range, len_rg, len_enum, len_cut1]; first | assumption | omega) | (simp only [List.length_map, List.length_append, List.length_cons, List.length_nil, List.length_range, len_rg, len_enum, len_cut1, lim] at *; omega))) only [run_ev, runD_nx, runD_rt, runD_exc, runD_ite, sSeq_ev, seqD_nx, seqD_rt, seqD_exc, seqD_ite, sIf_ev, ifD_ev, xAnd_ev, xOr_ev, xChain_ev, andD_ev, orD_ev, i_and, i_or, i_ff, lim_if, lim_if2, lim_ifL, xOwn_nil, Nat.reduceAdd, Nat.reduceSub, Int.reduceEq, Int.reduceLT, Int.reduceLE, Nat.reduceLT, Nat.reduceLeDiff, Nat.zero_add, Bool.false_eq_true, decide_false, decide_true, reduceCtorEq,  i_andP, i_orP, i_ok, i_pv, t_ii, t_ib, t_il, t_it, t_bi, t_bb, t_bl, t_bt, t_li, t_lb, t_ll, t_lt, t_ti, t_tb, t_tl, t_tt, sRet, sNil, sDrop, sAsg, sRaise, xIf, x2, x1, xN, xCall, xSl, oEv, xLc, wipeZ, iOf, iOf2, xB, bAnd, bOr, bNot, bYes, lNil, lCons, sSet, xV, sFrz, sPar2, sPar3, r_bind, r_bindX, r_bindB, r_calm, r_opt, r_optB, r_int, r_bl, r_non, xVar, e_eq, e_ne, e_add, e_sub, e_cat, e_mul, e_div, e_mod, e_neg, e_not, e_lt, e_le, e_gt, e_ge, e_isB, e_asB, e_truB, e_truI, e_asI, e_oInt, e_asP, e_listOf0, e_lstOf, sExt, sApp, sFor, e_isiI, e_isiB, e_isiL, e_isiP, e_len, e_lenP, e_sum, e_max, e_min, e_max2, e_min2, e_min3, e_all, e_anyI, e_anyB, e_l1, e_l2, e_l3, e_t2, keepD_pv, keepD_p, tzD_some, e_t3, e_asPp, e_zT3, e_listL, e_ix, e_ixP0, e_ixP1, e_sl, e_rev, e_in, e_seq, e_rg, e_en, e_zp, e_zN, e_zT, e_zCons, e_zNil, e_pl, e_noObj, e_noObjP, lift_ev, liftD_ok, liftD_exc, List.all_cons, List.all_nil, iOwn, lcGo_map, lcS_pure, lcS_filt, Option.bind_some, Option.map_some, List.map_cons, List.map_nil, List.length_cons, List.length_nil, List.replicate_succ, List.replicate_zero, List.cons_append, List.nil_append, List.set_cons_zero, List.set_cons_succ, List.getElem?_cons_zero, List.getElem?_cons_succ, Bool.not_true, eq_self, not_true_eq_false, not_false_eq_true, Bool.true_xor, Bool.false_xor, Bool.not_false, Bool.not_not, Bool.true_and, Bool.and_true, Bool.false_and, Bool.and_false, Bool.true_or, Bool.or_true, Bool.or_false, Bool.false_or, decide_eq_true_eq, Bool.not_eq_true', decide_eq_false_iff_not, ne_eq, if_true, if_false, reduceIte, List.getElem?_nil, List.all_map, List.any_map, Function.id_comp, Function.comp_def, id, Bool.decide_eq_false, Bool.decide_eq_true, e1, e2]
  rw [e3]
  simp (disch := (first | assumption | decide | omega | (simp only [List.length_map, List.length_append, List.length_cons, List.length_nil, List.length_range, len_rg, len_enum, len_cut1]; first | assumption | omega) | (simp only [List.length_map, List.length_append, List.length_cons, List.length_nil, List.length_range, len_rg, len_enum, len_cut1, lim] at *; omega))) only [run_ev, runD_nx, runD_rt, runD_exc, runD_ite, sSeq_ev, seqD_nx, seqD_rt, seqD_exc, seqD_ite, sIf_ev, ifD_ev, xAnd_ev, xOr_ev, xChain_ev, andD_ev, orD_ev, i_and, i_or, i_ff, lim_if, lim_if2, lim_ifL, xOwn_nil, Nat.reduceAdd, Nat.reduceSub, Int.reduceEq, Int.reduceLT, Int.reduceLE, Nat.reduceLT, Nat.reduceLeDiff, Nat.zero_add, Bool.false_eq_true, decide_false, decide_true, reduceCtorEq,  i_andP, i_orP, i_ok, i_pv, t_ii, t_ib, t_il, t_it, t_bi, t_bb, t_bl, t_bt, t_li, t_lb, t_ll, t_lt, t_ti, t_tb, t_tl, t_tt, sRet, sNil, sDrop, sAsg, sRaise, xIf, x2, x1, xN, xCall, xSl, oEv, xLc, wipeZ, iOf, iOf2, xB, bAnd, bOr, bNot, bYes, lNil, lCons, sSet, xV, sFrz, sPar2, sPar3, r_bind, r_bindX, r_bindB, r_calm, r_opt, r_optB, r_int, r_bl, r_non, xVar, e_eq, e_ne, e_add, e_sub, e_cat, e_mul, e_div, e_mod, e_neg, e_not, e_lt, e_le, e_gt, e_ge, e_isB, e_asB, e_truB, e_truI, e_asI, e_oInt, e_asP, e_listOf0, e_lstOf, sExt, sApp, sFor, e_isiI, e_isiB, e_isiL, e_isiP, e_len, e_lenP, e_sum, e_max, e_min, e_max2, e_min2, e_min3, e_all, e_anyI, e_anyB, e_l1, e_l2, e_l3, e_t2, keepD_pv, keepD_p, tzD_some, e_t3, e_asPp, e_zT3, e_listL, e_ix, e_ixP0, e_ixP1, e_sl, e_rev, e_in, e_seq, e_rg, e_en, e_zp, e_zN, e_zT, e_zCons, e_zNil, e_pl, e_noObj, e_noObjP, lift_ev, liftD_ok, liftD_exc, List.all_cons, List.all_nil, iOwn, lcGo_map, lcS_pure, lcS_filt, Option.bind_some, Option.map_some, List.map_cons, List.map_nil, List.length_cons, List.length_nil, List.replicate_succ, List.replicate_zero, List.cons_append, List.nil_append, List.set_cons_zero, List.set_cons_succ, List.getElem?_cons_zero, List.getElem?_cons_succ, Bool.not_true, eq_self, not_true_eq_false, not_false_eq_true, Bool.true_xor, Bool.false_xor, Bool.not_false, Bool.not_not, Bool.true_and, Bool.and_true, Bool.false_and, Bool.and_false, Bool.true_or, Bool.or_true, Bool.or_false, Bool.false_or, decide_eq_true_eq, Bool.not_eq_true', decide_eq_false_iff_not, ne_eq, if_true, if_false, reduceIte, List.getElem?_nil, List.all_map, List.any_map, Function.id_comp, Function.comp_def, id, Bool.decide_eq_false, Bool.decide_eq_true, e4]
theorem l19_b (ns : List Int) (rows : List Int) (wide : Nat) (hS : OkS rows) (hs : rows.sum ≤ 27) (hw : 1 ≤ wide ∧ wide ≤ 3) (w : Wd) (g : Gd w) : ∃ (cols : List Int) (left : Int) (a6 a7 : Sl) (w' : Wd), OkS cols ∧ cols.length = wide ∧ left = rows.sum - cols.sum ∧ b_law_5 (E19 ns rows wide (.v (pv rows.sum)) (.own []) .no .no .no .no .no .no .no .no .no .no .no) w = b_law_9 (E19 ns rows wide (.v (pv left)) (.own (cols.map Py.enc)) a6 a7 .no .no .no .no .no .no .no .no .no) w' := by
  have hs0 : 0 ≤ rows.sum := sum_nn fun x hx => (hS.en x hx).1
  obtain ⟨δ', w', e, g', cols, left, a6, a7, hl, hen, hleft, h0, hd⟩ := forGo_preW (W := Wd) (tz := zN 6) (body := b_law_6)
    (fun (p : List Int) δ w => Gd w ∧ ∃ (cols : List Int) (left : Int) (a6 a7 : Sl), cols.length = p.length ∧ (∀ x ∈ cols, 0 ≤ x ∧ x ≤ 27) ∧ left = rows.sum - cols.sum ∧ 0 ≤ left ∧ δ = E19 ns rows wide (.v (pv left)) (.own (cols.map Py.enc)) a6 a7 .no .no .no .no .no .no .no .no .no)
    (rg 0 wide) [] (fun p j r ex δ w ⟨g, cols, left, a6, a7, hl, hen, hleft, h0, hd⟩ => by
      subst hd
      have ex : rg 0 (wide : Int) = p ++ j :: r := ex
      have hpl : p.length < wide := by
        have := congrArg List.length ex
        simp [len_rg] at this
        omega
      have hc0 : 0 ≤ cols.sum := sum_nn fun x hx => (hen x hx).1
      have hmin : (if left < 27 then left else 27) = left := by split <;> omega
      have hapl : (cols.map Py.enc).length < lim := by rw [List.length_map]; unfold lim; omega
      have key : ∃ (part : Int) (w2 : Wd), (0 ≤ part ∧ part ≤ left) ∧ Gd w2 ∧ b_law_6 (E19 ns rows wide (.v (pv left)) (.own (cols.map Py.enc)) (.v (pv j)) a7 .no .no .no .no .no .no .no .no .no) w = .nx (E19 ns rows wide (.v (pv (left - part))) (.own (cols.map Py.enc ++ [Py.enc part])) (.v (pv j)) (.v (pv part)) .no .no .no .no .no .no .no .no .no) w2 := by
        by_cases hj : j = (wide : Int) - 1
        · refine ⟨left, w, ⟨h0, Int.le_refl _⟩, g, ?_⟩
          unfold b_law_6 b_law_7 b_law_8
          simp (disch := (first | assumption | decide | omega | (simp only [List.length_map, List.length_append, List.length_cons, List.length_nil, List.length_range, len_rg, len_enum, len_cut1]; first | assumption | omega) | (simp only [List.length_map, List.length_append, List.length_cons, List.length_nil, List.length_range, len_rg, len_enum, len_cut1, lim] at *; omega))) only [run_ev, runD_nx, runD_rt, runD_exc, runD_ite, sSeq_ev, seqD_nx, seqD_rt, seqD_exc, seqD_ite, sIf_ev, ifD_ev, xAnd_ev, xOr_ev, xChain_ev, andD_ev, orD_ev, i_and, i_or, i_ff, lim_if, lim_if2, lim_ifL, xOwn_nil, Nat.reduceAdd, Nat.reduceSub, Int.reduceEq, Int.reduceLT, Int.reduceLE, Nat.reduceLT, Nat.reduceLeDiff, Nat.zero_add, Bool.false_eq_true, decide_false, decide_true, reduceCtorEq,  i_andP, i_orP, i_ok, i_pv, t_ii, t_ib, t_il, t_it, t_bi, t_bb, t_bl, t_bt, t_li, t_lb, t_ll, t_lt, t_ti, t_tb, t_tl, t_tt, sRet, sNil, sDrop, sAsg, sRaise, xIf, x2, x1, xN, xCall, xSl, oEv, xLc, wipeZ, iOf, iOf2, xB, bAnd, bOr, bNot, bYes, lNil, lCons, sSet, xV, sFrz, sPar2, sPar3, r_bind, r_bindX, r_bindB, r_calm, r_opt, r_optB, r_int, r_bl, r_non, xVar, e_eq, e_ne, e_add, e_sub, e_cat, e_mul, e_div, e_mod, e_neg, e_not, e_lt, e_le, e_gt, e_ge, e_isB, e_asB, e_truB, e_truI, e_asI, e_oInt, e_asP, e_listOf0, e_lstOf, sExt, sApp, sFor, e_isiI, e_isiB, e_isiL, e_isiP, e_len, e_lenP, e_sum, e_max, e_min, e_max2, e_min2, e_min3, e_all, e_anyI, e_anyB, e_l1, e_l2, e_l3, e_t2, keepD_pv, keepD_p, tzD_some, e_t3, e_asPp, e_zT3, e_listL, e_ix, e_ixP0, e_ixP1, e_sl, e_rev, e_in, e_seq, e_rg, e_en, e_zp, e_zN, e_zT, e_zCons, e_zNil, e_pl, e_noObj, e_noObjP, lift_ev, liftD_ok, liftD_exc, List.all_cons, List.all_nil, iOwn, lcGo_map, lcS_pure, lcS_filt, Option.bind_some, Option.map_some, List.map_cons, List.map_nil, List.length_cons, List.length_nil, List.replicate_succ, List.replicate_zero, List.cons_append, List.nil_append, List.set_cons_zero, List.set_cons_succ, List.getElem?_cons_zero, List.getElem?_cons_succ, Bool.not_true, eq_self, not_true_eq_false, not_false_eq_true, Bool.true_xor, Bool.false_xor, Bool.not_false, Bool.not_not, Bool.true_and, Bool.and_true, Bool.false_and, Bool.and_false, Bool.true_or, Bool.or_true, Bool.or_false, Bool.false_or, decide_eq_true_eq, Bool.not_eq_true', decide_eq_false_iff_not, ne_eq, if_true, if_false, reduceIte, List.getElem?_nil, List.all_map, List.any_map, Function.id_comp, Function.comp_def, id, Bool.decide_eq_false, Bool.decide_eq_true, hj, hmin, lim_ifL]
        · obtain ⟨x, w2, e2, h2, g2⟩ := w_draw (left + 1) (by omega) (by omega) w g
          refine ⟨x, w2, by omega, g2, ?_⟩
          unfold b_law_6 b_law_7 b_law_8
          simp (disch := (first | assumption | decide | omega | (simp only [List.length_map, List.length_append, List.length_cons, List.length_nil, List.length_range, len_rg, len_enum, len_cut1]; first | assumption | omega) | (simp only [List.length_map, List.length_append, List.length_cons, List.length_nil, List.length_range, len_rg, len_enum, len_cut1, lim] at *; omega))) only [run_ev, runD_nx, runD_rt, runD_exc, runD_ite, sSeq_ev, seqD_nx, seqD_rt, seqD_exc, seqD_ite, sIf_ev, ifD_ev, xAnd_ev, xOr_ev, xChain_ev, andD_ev, orD_ev, i_and, i_or, i_ff, lim_if, lim_if2, lim_ifL, xOwn_nil, Nat.reduceAdd, Nat.reduceSub, Int.reduceEq, Int.reduceLT, Int.reduceLE, Nat.reduceLT, Nat.reduceLeDiff, Nat.zero_add, Bool.false_eq_true, decide_false, decide_true, reduceCtorEq,  i_andP, i_orP, i_ok, i_pv, t_ii, t_ib, t_il, t_it, t_bi, t_bb, t_bl, t_bt, t_li, t_lb, t_ll, t_lt, t_ti, t_tb, t_tl, t_tt, sRet, sNil, sDrop, sAsg, sRaise, xIf, x2, x1, xN, xCall, xSl, oEv, xLc, wipeZ, iOf, iOf2, xB, bAnd, bOr, bNot, bYes, lNil, lCons, sSet, xV, sFrz, sPar2, sPar3, r_bind, r_bindX, r_bindB, r_calm, r_opt, r_optB, r_int, r_bl, r_non, xVar, e_eq, e_ne, e_add, e_sub, e_cat, e_mul, e_div, e_mod, e_neg, e_not, e_lt, e_le, e_gt, e_ge, e_isB, e_asB, e_truB, e_truI, e_asI, e_oInt, e_asP, e_listOf0, e_lstOf, sExt, sApp, sFor, e_isiI, e_isiB, e_isiL, e_isiP, e_len, e_lenP, e_sum, e_max, e_min, e_max2, e_min2, e_min3, e_all, e_anyI, e_anyB, e_l1, e_l2, e_l3, e_t2, keepD_pv, keepD_p, tzD_some, e_t3, e_asPp, e_zT3, e_listL, e_ix, e_ixP0, e_ixP1, e_sl, e_rev, e_in, e_seq, e_rg, e_en, e_zp, e_zN, e_zT, e_zCons, e_zNil, e_pl, e_noObj, e_noObjP, lift_ev, liftD_ok, liftD_exc, List.all_cons, List.all_nil, iOwn, lcGo_map, lcS_pure, lcS_filt, Option.bind_some, Option.map_some, List.map_cons, List.map_nil, List.length_cons, List.length_nil, List.replicate_succ, List.replicate_zero, List.cons_append, List.nil_append, List.set_cons_zero, List.set_cons_succ, List.getElem?_cons_zero, List.getElem?_cons_succ, Bool.not_true, eq_self, not_true_eq_false, not_false_eq_true, Bool.true_xor, Bool.false_xor, Bool.not_false, Bool.not_not, Bool.true_and, Bool.and_true, Bool.false_and, Bool.and_false, Bool.true_or, Bool.or_true, Bool.or_false, Bool.false_or, decide_eq_true_eq, Bool.not_eq_true', decide_eq_false_iff_not, ne_eq, if_true, if_false, reduceIte, List.getElem?_nil, List.all_map, List.any_map, Function.id_comp, Function.comp_def, id, Bool.decide_eq_false, Bool.decide_eq_true, hj, hmin, e2, lim_ifL]
      obtain ⟨part, w2, hp, g2, e2⟩ := key
      refine ⟨E19 ns rows wide (.v (pv left)) (.own (cols.map Py.enc)) (.v (pv j)) a7 .no .no .no .no .no .no .no .no .no, rfl, _, w2, .inl e2, g2, cols ++ [part], left - part, .v (pv j), .v (pv part), by simp [hl], fun x hx => ?_, ?_, by omega, by rw [List.map_append]; rfl⟩
      · rcases List.mem_append.mp hx with hx | hx
        · exact hen x hx
        · rw [List.mem_singleton.mp hx]; omega
      · rw [List.sum_append]
        simp
        omega)
    (E19 ns rows wide (.v (pv rows.sum)) (.own []) .no .no .no .no .no .no .no .no .no .no .no) w ⟨g, [], rows.sum, _, _, rfl, (fun x hx => by cases hx), by simp, hs0, rfl⟩
  subst hd
  rw [List.nil_append, len_rg] at hl
  refine ⟨cols, left, a6, a7, w', ⟨by omega, by omega, hen⟩, by omega, hleft, ?_⟩
  have hit : (iOf rgOf1 (xVar 3)) (E19 ns rows wide (.v (pv rows.sum)) (.own []) .no .no .no .no .no .no .no .no .no .no .no) w = .ok ((rg 0 wide).map Py.enc) w := by
    simp (disch := (first | assumption | decide | omega | (simp only [List.length_map, List.length_append, List.length_cons, List.length_nil, List.length_range, len_rg, len_enum, len_cut1]; first | assumption | omega) | (simp only [List.length_map, List.length_append, List.length_cons, List.length_nil, List.length_range, len_rg, len_enum, len_cut1, lim] at *; omega))) only [run_ev, runD_nx, runD_rt, runD_exc, runD_ite, sSeq_ev, seqD_nx, seqD_rt, seqD_exc, seqD_ite, sIf_ev, ifD_ev, xAnd_ev, xOr_ev, xChain_ev, andD_ev, orD_ev, i_and, i_or, i_ff, lim_if, lim_if2, lim_ifL, xOwn_nil, Nat.reduceAdd, Nat.reduceSub, Int.reduceEq, Int.reduceLT, Int.reduceLE, Nat.reduceLT, Nat.reduceLeDiff, Nat.zero_add, Bool.false_eq_true, decide_false, decide_true, reduceCtorEq,  i_andP, i_orP, i_ok, i_pv, t_ii, t_ib, t_il, t_it, t_bi, t_bb, t_bl, t_bt, t_li, t_lb, t_ll, t_lt, t_ti, t_tb, t_tl, t_tt, sRet, sNil, sDrop, sAsg, sRaise, xIf, x2, x1, xN, xCall, xSl, oEv, xLc, wipeZ, iOf, iOf2, xB, bAnd, bOr, bNot, bYes, lNil, lCons, sSet, xV, sFrz, sPar2, sPar3, r_bind, r_bindX, r_bindB, r_calm, r_opt, r_optB, r_int, r_bl, r_non, xVar, e_eq, e_ne, e_add, e_sub, e_cat, e_mul, e_div, e_mod, e_neg, e_not, e_lt, e_le, e_gt, e_ge, e_isB, e_asB, e_truB, e_truI, e_asI, e_oInt, e_asP, e_listOf0, e_lstOf, sExt, sApp, sFor, e_isiI, e_isiB, e_isiL, e_isiP, e_len, e_lenP, e_sum, e_max, e_min, e_max2, e_min2, e_min3, e_all, e_anyI, e_anyB, e_l1, e_l2, e_l3, e_t2, keepD_pv, keepD_p, tzD_some, e_t3, e_asPp, e_zT3, e_listL, e_ix, e_ixP0, e_ixP1, e_sl, e_rev, e_in, e_seq, e_rg, e_en, e_zp, e_zN, e_zT, e_zCons, e_zNil, e_pl, e_noObj, e_noObjP, lift_ev, liftD_ok, liftD_exc, List.all_cons, List.all_nil, iOwn, lcGo_map, lcS_pure, lcS_filt, Option.bind_some, Option.map_some, List.map_cons, List.map_nil, List.length_cons, List.length_nil, List.replicate_succ, List.replicate_zero, List.cons_append, List.nil_append, List.set_cons_zero, List.set_cons_succ, List.getElem?_cons_zero, List.getElem?_cons_succ, Bool.not_true, eq_self, not_true_eq_false, not_false_eq_true, Bool.true_xor, Bool.false_xor, Bool.not_false, Bool.not_not, Bool.true_and, Bool.and_true, Bool.false_and, Bool.and_false, Bool.true_or, Bool.or_true, Bool.or_false, Bool.false_or, decide_eq_true_eq, Bool.not_eq_true', decide_eq_false_iff_not, ne_eq, if_true, if_false, reduceIte, List.getElem?_nil, List.all_map, List.any_map, Function.id_comp, Function.comp_def, id, Bool.decide_eq_false, Bool.decide_eq_true]
  unfold b_law_5
  rw [sSeq_ev, sFor_of hit, e, seqD_nx]
section
variable {rows cols : List Int} {wide : Nat}
def goodL (rows cols : List Int) : List Int := (rg 0 10).filter fun v => hasT rows cols v
theorem mem_good {v : Int} : v ∈ goodL rows cols ↔ (0 ≤ v ∧ v < 10) ∧ hasT rows cols v = true := by
  unfold goodL
  rw [List.mem_filter, mem_rg]
theorem hasT_up (h : OkS rows) (h' : OkS cols) {a b : Int} (h0 : 0 ≤ a) (hab : a ≤ b) (ha : hasT rows cols a = true) : hasT rows cols b = true := by
  obtain ⟨T, hT⟩ := List.exists_mem_of_ne_nil _ ((hasT_iff h h' h0).mp ha)
  exact (hasT_iff h h' (by omega)).mpr (List.ne_nil_of_mem (len_tabs0 hT hab))
theorem gis_bb (n a b : Bool) : gIs n (pv a) (pv b) = some (pv (xor n (decide (a = b)))) := e_isB n a b
theorem l19_c (ns : List Int) (h : OkS rows) (h' : OkS cols) (left : Int) (hl : left = rows.sum - cols.sum) (w : Wd) (a6 a7 : Sl) : b_law_9 (E19 ns rows wide (.v (pv left)) (.own (cols.map Py.enc)) a6 a7 .no .no .no .no .no .no .no .no .no) w = .rt (pv true) w ∨
    (rows.sum = cols.sum ∧ b_law_9 (E19 ns rows wide (.v (pv left)) (.own (cols.map Py.enc)) a6 a7 .no .no .no .no .no .no .no .no .no) w = b_law_11 (E19 ns rows wide (.v (pv left)) (.v (pv cols)) a6 a7 (.v (pv (goodL rows cols))) .no .no .no .no .no .no .no .no) w) := by
  by_cases h0 : left = 0
  · right
    refine ⟨by omega, ?_⟩
    have hr : (rg 0 (10 : Int)).length ≤ lim := by rw [len_rg]; unfold lim; omega
    unfold b_law_9 b_law_10
    simp (disch := (first | assumption | decide | omega | (simp only [List.length_map, List.length_append, List.length_cons, List.length_nil, List.length_range, len_rg, len_enum, len_cut1]; first | assumption | omega) | (simp only [List.length_map, List.length_append, List.length_cons, List.length_nil, List.length_range, len_rg, len_enum, len_cut1, lim] at *; omega))) only [run_ev, runD_nx, runD_rt, runD_exc, runD_ite, sSeq_ev, seqD_nx, seqD_rt, seqD_exc, seqD_ite, sIf_ev, ifD_ev, xAnd_ev, xOr_ev, xChain_ev, andD_ev, orD_ev, i_and, i_or, i_ff, lim_if, lim_if2, lim_ifL, xOwn_nil, Nat.reduceAdd, Nat.reduceSub, Int.reduceEq, Int.reduceLT, Int.reduceLE, Nat.reduceLT, Nat.reduceLeDiff, Nat.zero_add, Bool.false_eq_true, decide_false, decide_true, reduceCtorEq,  i_andP, i_orP, i_ok, i_pv, t_ii, t_ib, t_il, t_it, t_bi, t_bb, t_bl, t_bt, t_li, t_lb, t_ll, t_lt, t_ti, t_tb, t_tl, t_tt, sRet, sNil, sDrop, sAsg, sRaise, xIf, x2, x1, xN, xCall, xSl, oEv, xLc, wipeZ, iOf, iOf2, xB, bAnd, bOr, bNot, bYes, lNil, lCons, sSet, xV, sFrz, sPar2, sPar3, r_bind, r_bindX, r_bindB, r_calm, r_opt, r_optB, r_int, r_bl, r_non, xVar, e_eq, e_ne, e_add, e_sub, e_cat, e_mul, e_div, e_mod, e_neg, e_not, e_lt, e_le, e_gt, e_ge, e_isB, e_asB, e_truB, e_truI, e_asI, e_oInt, e_asP, e_listOf0, e_lstOf, sExt, sApp, sFor, e_isiI, e_isiB, e_isiL, e_isiP, e_len, e_lenP, e_sum, e_max, e_min, e_max2, e_min2, e_min3, e_all, e_anyI, e_anyB, e_l1, e_l2, e_l3, e_t2, keepD_pv, keepD_p, tzD_some, e_t3, e_asPp, e_zT3, e_listL, e_ix, e_ixP0, e_ixP1, e_sl, e_rev, e_in, e_seq, e_rg, e_en, e_zp, e_zN, e_zT, e_zCons, e_zNil, e_pl, e_noObj, e_noObjP, lift_ev, liftD_ok, liftD_exc, List.all_cons, List.all_nil, iOwn, lcGo_map, lcS_pure, lcS_filt, Option.bind_some, Option.map_some, List.map_cons, List.map_nil, List.length_cons, List.length_nil, List.replicate_succ, List.replicate_zero, List.cons_append, List.nil_append, List.set_cons_zero, List.set_cons_succ, List.getElem?_cons_zero, List.getElem?_cons_succ, Bool.not_true, eq_self, not_true_eq_false, not_false_eq_true, Bool.true_xor, Bool.false_xor, Bool.not_false, Bool.not_not, Bool.true_and, Bool.and_true, Bool.false_and, Bool.and_false, Bool.true_or, Bool.or_true, Bool.or_false, Bool.false_or, decide_eq_true_eq, Bool.not_eq_true', decide_eq_false_iff_not, ne_eq, if_true, if_false, reduceIte, List.getElem?_nil, List.all_map, List.any_map, Function.id_comp, Function.comp_def, id, Bool.decide_eq_false, Bool.decide_eq_true, h0]
    rw [lc_eqF (fun v : Int => hasT rows cols v = true) (fun v : Int => v) (fun v hv w => by
      have hv := mem_rg.mp hv
      have q := p_can_be h h' (M := v) (by omega) ()
      simp (disch := (first | assumption | decide | omega | (simp only [List.length_map, List.length_append, List.length_cons, List.length_nil, List.length_range, len_rg, len_enum, len_cut1]; first | assumption | omega) | (simp only [List.length_map, List.length_append, List.length_cons, List.length_nil, List.length_range, len_rg, len_enum, len_cut1, lim] at *; omega))) only [run_ev, runD_nx, runD_rt, runD_exc, runD_ite, sSeq_ev, seqD_nx, seqD_rt, seqD_exc, seqD_ite, sIf_ev, ifD_ev, xAnd_ev, xOr_ev, xChain_ev, andD_ev, orD_ev, i_and, i_or, i_ff, lim_if, lim_if2, lim_ifL, xOwn_nil, Nat.reduceAdd, Nat.reduceSub, Int.reduceEq, Int.reduceLT, Int.reduceLE, Nat.reduceLT, Nat.reduceLeDiff, Nat.zero_add, Bool.false_eq_true, decide_false, decide_true, reduceCtorEq,  i_andP, i_orP, i_ok, i_pv, t_ii, t_ib, t_il, t_it, t_bi, t_bb, t_bl, t_bt, t_li, t_lb, t_ll, t_lt, t_ti, t_tb, t_tl, t_tt, sRet, sNil, sDrop, sAsg, sRaise, xIf, x2, x1, xN, xCall, xSl, oEv, xLc, wipeZ, iOf, iOf2, xB, bAnd, bOr, bNot, bYes, lNil, lCons, sSet, xV, sFrz, sPar2, sPar3, r_bind, r_bindX, r_bindB, r_calm, r_opt, r_optB, r_int, r_bl, r_non, xVar, e_eq, e_ne, e_add, e_sub, e_cat, e_mul, e_div, e_mod, e_neg, e_not, e_lt, e_le, e_gt, e_ge, e_isB, e_asB, e_truB, e_truI, e_asI, e_oInt, e_asP, e_listOf0, e_lstOf, sExt, sApp, sFor, e_isiI, e_isiB, e_isiL, e_isiP, e_len, e_lenP, e_sum, e_max, e_min, e_max2, e_min2, e_min3, e_all, e_anyI, e_anyB, e_l1, e_l2, e_l3, e_t2, keepD_pv, keepD_p, tzD_some, e_t3, e_asPp, e_zT3, e_listL, e_ix, e_ixP0, e_ixP1, e_sl, e_rev, e_in, e_seq, e_rg, e_en, e_zp, e_zN, e_zT, e_zCons, e_zNil, e_pl, e_noObj, e_noObjP, lift_ev, liftD_ok, liftD_exc, List.all_cons, List.all_nil, iOwn, lcGo_map, lcS_pure, lcS_filt, Option.bind_some, Option.map_some, List.map_cons, List.map_nil, List.length_cons, List.length_nil, List.replicate_succ, List.replicate_zero, List.cons_append, List.nil_append, List.set_cons_zero, List.set_cons_succ, List.getElem?_cons_zero, List.getElem?_cons_succ, Bool.not_true, eq_self, not_true_eq_false, not_false_eq_true, Bool.true_xor, Bool.false_xor, Bool.not_false, Bool.not_not, Bool.true_and, Bool.and_true, Bool.false_and, Bool.and_false, Bool.true_or, Bool.or_true, Bool.or_false, Bool.false_or, decide_eq_true_eq, Bool.not_eq_true', decide_eq_false_iff_not, ne_eq, if_true, if_false, reduceIte, List.getElem?_nil, List.all_map, List.any_map, Function.id_comp, Function.comp_def, id, Bool.decide_eq_false, Bool.decide_eq_true, q])]
    have e : ((rg 0 10).filter fun v => decide (hasT rows cols v = true)).map (fun v : Int => v) = goodL rows cols := by
      rw [List.map_id']
      unfold goodL
      simp
    rw [e]
    simp (disch := (first | assumption | decide | omega | (simp only [List.length_map, List.length_append, List.length_cons, List.length_nil, List.length_range, len_rg, len_enum, len_cut1]; first | assumption | omega) | (simp only [List.length_map, List.length_append, List.length_cons, List.length_nil, List.length_range, len_rg, len_enum, len_cut1, lim] at *; omega))) only [run_ev, runD_nx, runD_rt, runD_exc, runD_ite, sSeq_ev, seqD_nx, seqD_rt, seqD_exc, seqD_ite, sIf_ev, ifD_ev, xAnd_ev, xOr_ev, xChain_ev, andD_ev, orD_ev, i_and, i_or, i_ff, lim_if, lim_if2, lim_ifL, xOwn_nil, Nat.reduceAdd, Nat.reduceSub, Int.reduceEq, Int.reduceLT, Int.reduceLE, Nat.reduceLT, Nat.reduceLeDiff, Nat.zero_add, Bool.false_eq_true, decide_false, decide_true, reduceCtorEq,  i_andP, i_orP, i_ok, i_pv, t_ii, t_ib, t_il, t_it, t_bi, t_bb, t_bl, t_bt, t_li, t_lb, t_ll, t_lt, t_ti, t_tb, t_tl, t_tt, sRet, sNil, sDrop, sAsg, sRaise, xIf, x2, x1, xN, xCall, xSl, oEv, xLc, wipeZ, iOf, iOf2, xB, bAnd, bOr, bNot, bYes, lNil, lCons, sSet, xV, sFrz, sPar2, sPar3, r_bind, r_bindX, r_bindB, r_calm, r_opt, r_optB, r_int, r_bl, r_non, xVar, e_eq, e_ne, e_add, e_sub, e_cat, e_mul, e_div, e_mod, e_neg, e_not, e_lt, e_le, e_gt, e_ge, e_isB, e_asB, e_truB, e_truI, e_asI, e_oInt, e_asP, e_listOf0, e_lstOf, sExt, sApp, sFor, e_isiI, e_isiB, e_isiL, e_isiP, e_len, e_lenP, e_sum, e_max, e_min, e_max2, e_min2, e_min3, e_all, e_anyI, e_anyB, e_l1, e_l2, e_l3, e_t2, keepD_pv, keepD_p, tzD_some, e_t3, e_asPp, e_zT3, e_listL, e_ix, e_ixP0, e_ixP1, e_sl, e_rev, e_in, e_seq, e_rg, e_en, e_zp, e_zN, e_zT, e_zCons, e_zNil, e_pl, e_noObj, e_noObjP, lift_ev, liftD_ok, liftD_exc, List.all_cons, List.all_nil, iOwn, lcGo_map, lcS_pure, lcS_filt, Option.bind_some, Option.map_some, List.map_cons, List.map_nil, List.length_cons, List.length_nil, List.replicate_succ, List.replicate_zero, List.cons_append, List.nil_append, List.set_cons_zero, List.set_cons_succ, List.getElem?_cons_zero, List.getElem?_cons_succ, Bool.not_true, eq_self, not_true_eq_false, not_false_eq_true, Bool.true_xor, Bool.false_xor, Bool.not_false, Bool.not_not, Bool.true_and, Bool.and_true, Bool.false_and, Bool.and_false, Bool.true_or, Bool.or_true, Bool.or_false, Bool.false_or, decide_eq_true_eq, Bool.not_eq_true', decide_eq_false_iff_not, ne_eq, if_true, if_false, reduceIte, List.getElem?_nil, List.all_map, List.any_map, Function.id_comp, Function.comp_def, id, Bool.decide_eq_false, Bool.decide_eq_true]
  · left
    have q := p_can_be h h' (M := 9) (by decide) ()
    have hf : hasT rows cols 9 = false := by
      unfold hasT
      rw [decide_eq_false (by omega)]; rfl
    rw [hf] at q
    unfold b_law_9
    simp (disch := (first | assumption | decide | omega | (simp only [List.length_map, List.length_append, List.length_cons, List.length_nil, List.length_range, len_rg, len_enum, len_cut1]; first | assumption | omega) | (simp only [List.length_map, List.length_append, List.length_cons, List.length_nil, List.length_range, len_rg, len_enum, len_cut1, lim] at *; omega))) only [run_ev, runD_nx, runD_rt, runD_exc, runD_ite, sSeq_ev, seqD_nx, seqD_rt, seqD_exc, seqD_ite, sIf_ev, ifD_ev, xAnd_ev, xOr_ev, xChain_ev, andD_ev, orD_ev, i_and, i_or, i_ff, lim_if, lim_if2, lim_ifL, xOwn_nil, Nat.reduceAdd, Nat.reduceSub, Int.reduceEq, Int.reduceLT, Int.reduceLE, Nat.reduceLT, Nat.reduceLeDiff, Nat.zero_add, Bool.false_eq_true, decide_false, decide_true, reduceCtorEq,  i_andP, i_orP, i_ok, i_pv, t_ii, t_ib, t_il, t_it, t_bi, t_bb, t_bl, t_bt, t_li, t_lb, t_ll, t_lt, t_ti, t_tb, t_tl, t_tt, sRet, sNil, sDrop, sAsg, sRaise, xIf, x2, x1, xN, xCall, xSl, oEv, xLc, wipeZ, iOf, iOf2, xB, bAnd, bOr, bNot, bYes, lNil, lCons, sSet, xV, sFrz, sPar2, sPar3, r_bind, r_bindX, r_bindB, r_calm, r_opt, r_optB, r_int, r_bl, r_non, xVar, e_eq, e_ne, e_add, e_sub, e_cat, e_mul, e_div, e_mod, e_neg, e_not, e_lt, e_le, e_gt, e_ge, e_isB, e_asB, e_truB, e_truI, e_asI, e_oInt, e_asP, e_listOf0, e_lstOf, sExt, sApp, sFor, e_isiI, e_isiB, e_isiL, e_isiP, e_len, e_lenP, e_sum, e_max, e_min, e_max2, e_min2, e_min3, e_all, e_anyI, e_anyB, e_l1, e_l2, e_l3, e_t2, keepD_pv, keepD_p, tzD_some, e_t3, e_asPp, e_zT3, e_listL, e_ix, e_ixP0, e_ixP1, e_sl, e_rev, e_in, e_seq, e_rg, e_en, e_zp, e_zN, e_zT, e_zCons, e_zNil, e_pl, e_noObj, e_noObjP, lift_ev, liftD_ok, liftD_exc, List.all_cons, List.all_nil, iOwn, lcGo_map, lcS_pure, lcS_filt, Option.bind_some, Option.map_some, List.map_cons, List.map_nil, List.length_cons, List.length_nil, List.replicate_succ, List.replicate_zero, List.cons_append, List.nil_append, List.set_cons_zero, List.set_cons_succ, List.getElem?_cons_zero, List.getElem?_cons_succ, Bool.not_true, eq_self, not_true_eq_false, not_false_eq_true, Bool.true_xor, Bool.false_xor, Bool.not_false, Bool.not_not, Bool.true_and, Bool.and_true, Bool.false_and, Bool.and_false, Bool.true_or, Bool.or_true, Bool.or_false, Bool.false_or, decide_eq_true_eq, Bool.not_eq_true', decide_eq_false_iff_not, ne_eq, if_true, if_false, reduceIte, List.getElem?_nil, List.all_map, List.any_map, Function.id_comp, Function.comp_def, id, Bool.decide_eq_false, Bool.decide_eq_true, h0, q]
theorem l19_d (ns : List Int) (h : OkS rows) (h' : OkS cols) (w : Wd) (a4 a6 a7 : Sl) : b_law_11 (E19 ns rows wide a4 (.v (pv cols)) a6 a7 (.v (pv (goodL rows cols))) .no .no .no .no .no .no .no .no) w = b_law_12 (E19 ns rows wide a4 (.v (pv cols)) a6 a7 (.v (pv (goodL rows cols))) .no .no .no .no .no .no .no .no) w := by
  have hch := chain_ge (good := goodL rows cols) (P := fun v => hasT rows cols v) rfl fun a b h0 hab _ ha => hasT_up h h' h0 hab ha
  have k8 : gNe (pv (goodL rows cols)) (D.p (.list [])) = some (pv (!decide (goodL rows cols = []))) := e_ne (goodL rows cols) ([] : List Int)
  have hr : (rg 0 (10 : Int)).length ≤ lim := by rw [len_rg]; unfold lim; omega
  by_cases hg : goodL rows cols = []
  · rw [hg] at k8 hch ⊢
    have k8 : gNe (pv ([] : List Int)) (D.p (.list [])) = some (pv false) := k8
    unfold b_law_11
    simp (disch := (first | assumption | decide | omega | (simp only [List.length_map, List.length_append, List.length_cons, List.length_nil, List.length_range, len_rg, len_enum, len_cut1]; first | assumption | omega) | (simp only [List.length_map, List.length_append, List.length_cons, List.length_nil, List.length_range, len_rg, len_enum, len_cut1, lim] at *; omega))) only [run_ev, runD_nx, runD_rt, runD_exc, runD_ite, sSeq_ev, seqD_nx, seqD_rt, seqD_exc, seqD_ite, sIf_ev, ifD_ev, xAnd_ev, xOr_ev, xChain_ev, andD_ev, orD_ev, i_and, i_or, i_ff, lim_if, lim_if2, lim_ifL, xOwn_nil, Nat.reduceAdd, Nat.reduceSub, Int.reduceEq, Int.reduceLT, Int.reduceLE, Nat.reduceLT, Nat.reduceLeDiff, Nat.zero_add, Bool.false_eq_true, decide_false, decide_true, reduceCtorEq,  i_andP, i_orP, i_ok, i_pv, t_ii, t_ib, t_il, t_it, t_bi, t_bb, t_bl, t_bt, t_li, t_lb, t_ll, t_lt, t_ti, t_tb, t_tl, t_tt, sRet, sNil, sDrop, sAsg, sRaise, xIf, x2, x1, xN, xCall, xSl, oEv, xLc, wipeZ, iOf, iOf2, xB, bAnd, bOr, bNot, bYes, lNil, lCons, sSet, xV, sFrz, sPar2, sPar3, r_bind, r_bindX, r_bindB, r_calm, r_opt, r_optB, r_int, r_bl, r_non, xVar, e_eq, e_ne, e_add, e_sub, e_cat, e_mul, e_div, e_mod, e_neg, e_not, e_lt, e_le, e_gt, e_ge, e_isB, e_asB, e_truB, e_truI, e_asI, e_oInt, e_asP, e_listOf0, e_lstOf, sExt, sApp, sFor, e_isiI, e_isiB, e_isiL, e_isiP, e_len, e_lenP, e_sum, e_max, e_min, e_max2, e_min2, e_min3, e_all, e_anyI, e_anyB, e_l1, e_l2, e_l3, e_t2, keepD_pv, keepD_p, tzD_some, e_t3, e_asPp, e_zT3, e_listL, e_ix, e_ixP0, e_ixP1, e_sl, e_rev, e_in, e_seq, e_rg, e_en, e_zp, e_zN, e_zT, e_zCons, e_zNil, e_pl, e_noObj, e_noObjP, lift_ev, liftD_ok, liftD_exc, List.all_cons, List.all_nil, iOwn, lcGo_map, lcS_pure, lcS_filt, Option.bind_some, Option.map_some, List.map_cons, List.map_nil, List.length_cons, List.length_nil, List.replicate_succ, List.replicate_zero, List.cons_append, List.nil_append, List.set_cons_zero, List.set_cons_succ, List.getElem?_cons_zero, List.getElem?_cons_succ, Bool.not_true, eq_self, not_true_eq_false, not_false_eq_true, Bool.true_xor, Bool.false_xor, Bool.not_false, Bool.not_not, Bool.true_and, Bool.and_true, Bool.false_and, Bool.and_false, Bool.true_or, Bool.or_true, Bool.or_false, Bool.false_or, decide_eq_true_eq, Bool.not_eq_true', decide_eq_false_iff_not, ne_eq, if_true, if_false, reduceIte, List.getElem?_nil, List.all_map, List.any_map, Function.id_comp, Function.comp_def, id, Bool.decide_eq_false, Bool.decide_eq_true, e_nil, k8]
    rw [lc_eqF (fun v : Int => False) (fun v : Int => v) (fun v hv w => by
      simp (disch := (first | assumption | decide | omega | (simp only [List.length_map, List.length_append, List.length_cons, List.length_nil, List.length_range, len_rg, len_enum, len_cut1]; first | assumption | omega) | (simp only [List.length_map, List.length_append, List.length_cons, List.length_nil, List.length_range, len_rg, len_enum, len_cut1, lim] at *; omega))) only [run_ev, runD_nx, runD_rt, runD_exc, runD_ite, sSeq_ev, seqD_nx, seqD_rt, seqD_exc, seqD_ite, sIf_ev, ifD_ev, xAnd_ev, xOr_ev, xChain_ev, andD_ev, orD_ev, i_and, i_or, i_ff, lim_if, lim_if2, lim_ifL, xOwn_nil, Nat.reduceAdd, Nat.reduceSub, Int.reduceEq, Int.reduceLT, Int.reduceLE, Nat.reduceLT, Nat.reduceLeDiff, Nat.zero_add, Bool.false_eq_true, decide_false, decide_true, reduceCtorEq,  i_andP, i_orP, i_ok, i_pv, t_ii, t_ib, t_il, t_it, t_bi, t_bb, t_bl, t_bt, t_li, t_lb, t_ll, t_lt, t_ti, t_tb, t_tl, t_tt, sRet, sNil, sDrop, sAsg, sRaise, xIf, x2, x1, xN, xCall, xSl, oEv, xLc, wipeZ, iOf, iOf2, xB, bAnd, bOr, bNot, bYes, lNil, lCons, sSet, xV, sFrz, sPar2, sPar3, r_bind, r_bindX, r_bindB, r_calm, r_opt, r_optB, r_int, r_bl, r_non, xVar, e_eq, e_ne, e_add, e_sub, e_cat, e_mul, e_div, e_mod, e_neg, e_not, e_lt, e_le, e_gt, e_ge, e_isB, e_asB, e_truB, e_truI, e_asI, e_oInt, e_asP, e_listOf0, e_lstOf, sExt, sApp, sFor, e_isiI, e_isiB, e_isiL, e_isiP, e_len, e_lenP, e_sum, e_max, e_min, e_max2, e_min2, e_min3, e_all, e_anyI, e_anyB, e_l1, e_l2, e_l3, e_t2, keepD_pv, keepD_p, tzD_some, e_t3, e_asPp, e_zT3, e_listL, e_ix, e_ixP0, e_ixP1, e_sl, e_rev, e_in, e_seq, e_rg, e_en, e_zp, e_zN, e_zT, e_zCons, e_zNil, e_pl, e_noObj, e_noObjP, lift_ev, liftD_ok, liftD_exc, List.all_cons, List.all_nil, iOwn, lcGo_map, lcS_pure, lcS_filt, Option.bind_some, Option.map_some, List.map_cons, List.map_nil, List.length_cons, List.length_nil, List.replicate_succ, List.replicate_zero, List.cons_append, List.nil_append, List.set_cons_zero, List.set_cons_succ, List.getElem?_cons_zero, List.getElem?_cons_succ, Bool.not_true, eq_self, not_true_eq_false, not_false_eq_true, Bool.true_xor, Bool.false_xor, Bool.not_false, Bool.not_not, Bool.true_and, Bool.and_true, Bool.false_and, Bool.and_false, Bool.true_or, Bool.or_true, Bool.or_false, Bool.false_or, decide_eq_true_eq, Bool.not_eq_true', decide_eq_false_iff_not, ne_eq, if_true, if_false, reduceIte, List.getElem?_nil, List.all_map, List.any_map, Function.id_comp, Function.comp_def, id, Bool.decide_eq_false, Bool.decide_eq_true, e_nil, k8])]
    have e : ((rg 0 10).filter fun v : Int => decide False).map (fun v : Int => v) = [] := by simp
    rw [e]
    have k9 : gNe (pv ([] : List Int)) (D.p (.list (List.map Py.enc ([] : List Int)))) = some (pv false) := k8
    simp (disch := (first | assumption | decide | omega | (simp only [List.length_map, List.length_append, List.length_cons, List.length_nil, List.length_range, len_rg, len_enum, len_cut1]; first | assumption | omega) | (simp only [List.length_map, List.length_append, List.length_cons, List.length_nil, List.length_range, len_rg, len_enum, len_cut1, lim] at *; omega))) only [run_ev, runD_nx, runD_rt, runD_exc, runD_ite, sSeq_ev, seqD_nx, seqD_rt, seqD_exc, seqD_ite, sIf_ev, ifD_ev, xAnd_ev, xOr_ev, xChain_ev, andD_ev, orD_ev, i_and, i_or, i_ff, lim_if, lim_if2, lim_ifL, xOwn_nil, Nat.reduceAdd, Nat.reduceSub, Int.reduceEq, Int.reduceLT, Int.reduceLE, Nat.reduceLT, Nat.reduceLeDiff, Nat.zero_add, Bool.false_eq_true, decide_false, decide_true, reduceCtorEq,  i_andP, i_orP, i_ok, i_pv, t_ii, t_ib, t_il, t_it, t_bi, t_bb, t_bl, t_bt, t_li, t_lb, t_ll, t_lt, t_ti, t_tb, t_tl, t_tt, sRet, sNil, sDrop, sAsg, sRaise, xIf, x2, x1, xN, xCall, xSl, oEv, xLc, wipeZ, iOf, iOf2, xB, bAnd, bOr, bNot, bYes, lNil, lCons, sSet, xV, sFrz, sPar2, sPar3, r_bind, r_bindX, r_bindB, r_calm, r_opt, r_optB, r_int, r_bl, r_non, xVar, e_eq, e_ne, e_add, e_sub, e_cat, e_mul, e_div, e_mod, e_neg, e_not, e_lt, e_le, e_gt, e_ge, e_isB, e_asB, e_truB, e_truI, e_asI, e_oInt, e_asP, e_listOf0, e_lstOf, sExt, sApp, sFor, e_isiI, e_isiB, e_isiL, e_isiP, e_len, e_lenP, e_sum, e_max, e_min, e_max2, e_min2, e_min3, e_all, e_anyI, e_anyB, e_l1, e_l2, e_l3, e_t2, keepD_pv, keepD_p, tzD_some, e_t3, e_asPp, e_zT3, e_listL, e_ix, e_ixP0, e_ixP1, e_sl, e_rev, e_in, e_seq, e_rg, e_en, e_zp, e_zN, e_zT, e_zCons, e_zNil, e_pl, e_noObj, e_noObjP, lift_ev, liftD_ok, liftD_exc, List.all_cons, List.all_nil, iOwn, lcGo_map, lcS_pure, lcS_filt, Option.bind_some, Option.map_some, List.map_cons, List.map_nil, List.length_cons, List.length_nil, List.replicate_succ, List.replicate_zero, List.cons_append, List.nil_append, List.set_cons_zero, List.set_cons_succ, List.getElem?_cons_zero, List.getElem?_cons_succ, Bool.not_true, eq_self, not_true_eq_false, not_false_eq_true, Bool.true_xor, Bool.false_xor, Bool.not_false, Bool.not_not, Bool.true_and, Bool.and_true, Bool.false_and, Bool.and_false, Bool.true_or, Bool.or_true, Bool.or_false, Bool.false_or, decide_eq_true_eq, Bool.not_eq_true', decide_eq_false_iff_not, ne_eq, if_true, if_false, reduceIte, List.getElem?_nil, List.all_map, List.any_map, Function.id_comp, Function.comp_def, id, Bool.decide_eq_false, Bool.decide_eq_true, k9]
    try rfl
  · rw [decide_eq_false hg] at k8
    have hlen := List.length_pos_iff.mpr hg
    unfold b_law_11
    simp (disch := (first | assumption | decide | omega | (simp only [List.length_map, List.length_append, List.length_cons, List.length_nil, List.length_range, len_rg, len_enum, len_cut1]; first | assumption | omega) | (simp only [List.length_map, List.length_append, List.length_cons, List.length_nil, List.length_range, len_rg, len_enum, len_cut1, lim] at *; omega))) only [run_ev, runD_nx, runD_rt, runD_exc, runD_ite, sSeq_ev, seqD_nx, seqD_rt, seqD_exc, seqD_ite, sIf_ev, ifD_ev, xAnd_ev, xOr_ev, xChain_ev, andD_ev, orD_ev, i_and, i_or, i_ff, lim_if, lim_if2, lim_ifL, xOwn_nil, Nat.reduceAdd, Nat.reduceSub, Int.reduceEq, Int.reduceLT, Int.reduceLE, Nat.reduceLT, Nat.reduceLeDiff, Nat.zero_add, Bool.false_eq_true, decide_false, decide_true, reduceCtorEq,  i_andP, i_orP, i_ok, i_pv, t_ii, t_ib, t_il, t_it, t_bi, t_bb, t_bl, t_bt, t_li, t_lb, t_ll, t_lt, t_ti, t_tb, t_tl, t_tt, sRet, sNil, sDrop, sAsg, sRaise, xIf, x2, x1, xN, xCall, xSl, oEv, xLc, wipeZ, iOf, iOf2, xB, bAnd, bOr, bNot, bYes, lNil, lCons, sSet, xV, sFrz, sPar2, sPar3, r_bind, r_bindX, r_bindB, r_calm, r_opt, r_optB, r_int, r_bl, r_non, xVar, e_eq, e_ne, e_add, e_sub, e_cat, e_mul, e_div, e_mod, e_neg, e_not, e_lt, e_le, e_gt, e_ge, e_isB, e_asB, e_truB, e_truI, e_asI, e_oInt, e_asP, e_listOf0, e_lstOf, sExt, sApp, sFor, e_isiI, e_isiB, e_isiL, e_isiP, e_len, e_lenP, e_sum, e_max, e_min, e_max2, e_min2, e_min3, e_all, e_anyI, e_anyB, e_l1, e_l2, e_l3, e_t2, keepD_pv, keepD_p, tzD_some, e_t3, e_asPp, e_zT3, e_listL, e_ix, e_ixP0, e_ixP1, e_sl, e_rev, e_in, e_seq, e_rg, e_en, e_zp, e_zN, e_zT, e_zCons, e_zNil, e_pl, e_noObj, e_noObjP, lift_ev, liftD_ok, liftD_exc, List.all_cons, List.all_nil, iOwn, lcGo_map, lcS_pure, lcS_filt, Option.bind_some, Option.map_some, List.map_cons, List.map_nil, List.length_cons, List.length_nil, List.replicate_succ, List.replicate_zero, List.cons_append, List.nil_append, List.set_cons_zero, List.set_cons_succ, List.getElem?_cons_zero, List.getElem?_cons_succ, Bool.not_true, eq_self, not_true_eq_false, not_false_eq_true, Bool.true_xor, Bool.false_xor, Bool.not_false, Bool.not_not, Bool.true_and, Bool.and_true, Bool.false_and, Bool.and_false, Bool.true_or, Bool.or_true, Bool.or_false, Bool.false_or, decide_eq_true_eq, Bool.not_eq_true', decide_eq_false_iff_not, ne_eq, if_true, if_false, reduceIte, List.getElem?_nil, List.all_map, List.any_map, Function.id_comp, Function.comp_def, id, Bool.decide_eq_false, Bool.decide_eq_true, e_nil, k8]
    have e : ((rg 0 10).filter fun v : Int => decide (ixD (goodL rows cols) 0 ≤ v)).map (fun v : Int => v) = goodL rows cols := by
      rw [List.map_id']
      refine Eq.trans (List.filter_congr fun v _ => ?_) hch.symm
      rw [decide_eq_true hg, Bool.true_and]
    rw [e, if_neg (by simp)]
theorem l19_e (ns : List Int) (h : OkS rows) (h' : OkS cols) (hw : cols.length = wide) (hs : rows.sum = cols.sum) (w : Wd) (a4 a6 a7 a10 a11 a12 a13 a14 : Sl) (v : Int) (hv : 0 ≤ v ∧ v < 10) : ∃ a10' a11' a12' a13' a14' a6', b_law_13 (E19 ns rows wide a4 (.v (pv cols)) a6 a7 (.v (pv (goodL rows cols))) (.v (pv v)) a10 a11 a12 a13 a14 .no .no) w = .nx (E19 ns rows wide a4 (.v (pv cols)) a6' a7 (.v (pv (goodL rows cols))) (.v (pv v)) a10' a11' a12' a13' a14' .no .no) w := by
  have q1 := p_first_cut h h' (M := v) (by omega) ()
  rw [if_pos hs] at q1
  have hiff := cutF_iff h h' hv.1 hs
  have hT := hasT_iff h h' hv.1
  have hin : v ∈ goodL rows cols ↔ cutF rows cols v = none := by
    rw [mem_good, hiff, ← hT]
    exact ⟨fun z => z.2, fun z => ⟨hv, z⟩⟩
  cases hc : cutF rows cols v with
  | none =>
    rw [hc] at q1
    have q1 : f_first_cut [pv rows, pv cols, pv v] () = .ok (.p .none) () := q1
    have hm : v ∈ goodL rows cols := hin.mpr hc
    refine ⟨.v (.p .none), a11, a12, a13, a14, a6, ?_⟩
    unfold b_law_13 b_law_14 b_law_15
    simp (disch := (first | assumption | decide | omega | (simp only [List.length_map, List.length_append, List.length_cons, List.length_nil, List.length_range, len_rg, len_enum, len_cut1]; first | assumption | omega) | (simp only [List.length_map, List.length_append, List.length_cons, List.length_nil, List.length_range, len_rg, len_enum, len_cut1, lim] at *; omega))) only [run_ev, runD_nx, runD_rt, runD_exc, runD_ite, sSeq_ev, seqD_nx, seqD_rt, seqD_exc, seqD_ite, sIf_ev, ifD_ev, xAnd_ev, xOr_ev, xChain_ev, andD_ev, orD_ev, i_and, i_or, i_ff, lim_if, lim_if2, lim_ifL, xOwn_nil, Nat.reduceAdd, Nat.reduceSub, Int.reduceEq, Int.reduceLT, Int.reduceLE, Nat.reduceLT, Nat.reduceLeDiff, Nat.zero_add, Bool.false_eq_true, decide_false, decide_true, reduceCtorEq,  i_andP, i_orP, i_ok, i_pv, t_ii, t_ib, t_il, t_it, t_bi, t_bb, t_bl, t_bt, t_li, t_lb, t_ll, t_lt, t_ti, t_tb, t_tl, t_tt, sRet, sNil, sDrop, sAsg, sRaise, xIf, x2, x1, xN, xCall, xSl, oEv, xLc, wipeZ, iOf, iOf2, xB, bAnd, bOr, bNot, bYes, lNil, lCons, sSet, xV, sFrz, sPar2, sPar3, r_bind, r_bindX, r_bindB, r_calm, r_opt, r_optB, r_int, r_bl, r_non, xVar, e_eq, e_ne, e_add, e_sub, e_cat, e_mul, e_div, e_mod, e_neg, e_not, e_lt, e_le, e_gt, e_ge, e_isB, e_asB, e_truB, e_truI, e_asI, e_oInt, e_asP, e_listOf0, e_lstOf, sExt, sApp, sFor, e_isiI, e_isiB, e_isiL, e_isiP, e_len, e_lenP, e_sum, e_max, e_min, e_max2, e_min2, e_min3, e_all, e_anyI, e_anyB, e_l1, e_l2, e_l3, e_t2, keepD_pv, keepD_p, tzD_some, e_t3, e_asPp, e_zT3, e_listL, e_ix, e_ixP0, e_ixP1, e_sl, e_rev, e_in, e_seq, e_rg, e_en, e_zp, e_zN, e_zT, e_zCons, e_zNil, e_pl, e_noObj, e_noObjP, lift_ev, liftD_ok, liftD_exc, List.all_cons, List.all_nil, iOwn, lcGo_map, lcS_pure, lcS_filt, Option.bind_some, Option.map_some, List.map_cons, List.map_nil, List.length_cons, List.length_nil, List.replicate_succ, List.replicate_zero, List.cons_append, List.nil_append, List.set_cons_zero, List.set_cons_succ, List.getElem?_cons_zero, List.getElem?_cons_succ, Bool.not_true, eq_self, not_true_eq_false, not_false_eq_true, Bool.true_xor, Bool.false_xor, Bool.not_false, Bool.not_not, Bool.true_and, Bool.and_true, Bool.false_and, Bool.and_false, Bool.true_or, Bool.or_true, Bool.or_false, Bool.false_or, decide_eq_true_eq, Bool.not_eq_true', decide_eq_false_iff_not, ne_eq, if_true, if_false, reduceIte, List.getElem?_nil, List.all_map, List.any_map, Function.id_comp, Function.comp_def, id, Bool.decide_eq_false, Bool.decide_eq_true, q1, gis_nn, hm]
  | some p =>
    rw [hc] at q1
    have q1 : f_first_cut [pv rows, pv cols, pv v] () = .ok (pv p) () := q1
    have hm : ¬v ∈ goodL rows cols := fun z => by rw [hin.mp z] at hc; cases hc
    obtain ⟨s, f⟩ := p
    obtain ⟨g1, g2, g3⟩ := cutO_some hc
    obtain ⟨s1, s2⟩ := chL_in h.h1 h.h3 g1
    obtain ⟨f1, f2⟩ := chL_in h'.h1 h'.h3 g2
    dsimp only at g3 s1 s2 f1 f2
    have hsn : ¬s = [] := fun z => by
      subst z
      unfold cutV at g3
      have : 0 ≤ (f.map fun j => ixD cols j).sum := sum_nn fun x hx => by
        obtain ⟨j, hj, rfl⟩ := List.mem_map.mp hx
        have := f1 j hj
        exact (h'.en _ (ixD_mem ⟨by omega, by omega⟩)).1
      simp at g3
      omega
    have hle : ¬(s.map fun k => ixD rows k).sum ≤ (f.map fun j => ixD cols j).sum + v * (s.length : Int) * ((wide : Int) - (f.length : Int)) := by
      unfold cutV at g3
      rw [hw] at g3
      omega
    have ng : gIs true (pv (s, f)) (.p .none) = some (pv true) := rfl
    have ng2 : gIs false (pv (s, f)) (.p .none) = some (pv false) := rfl
    have m1 := e_mul v (s.length : Int) (cMul_small (by omega) _)
    have m2 : gMul (pv (v * (s.length : Int))) (pv ((wide : Int) - (f.length : Int))) = some (pv (v * (s.length : Int) * ((wide : Int) - (f.length : Int)))) := e_mul _ _ (by
      refine cMul_small ?_ _
      have h1 : 0 ≤ v * (s.length : Int) := Int.mul_nonneg hv.1 (by omega)
      have h2 : v * (s.length : Int) ≤ 9 * 3 := Int.mul_le_mul (by omega) (by omega) (by omega) (by decide)
      omega)
    have k8 : gEq (pv s) (D.p (.list [])) = some (pv (decide (s = []))) := e_eq s []
    have hls := e_len s
    have hlf := e_len f
    generalize (s.length : Int) = n at *
    generalize (f.length : Int) = m at *
    refine ⟨.v (pv (s, f)), .v (pv s), .v (pv f), .v (pv (s.map fun k => ixD rows k).sum), .v (pv (f.map fun j => ixD cols j).sum), a6, ?_⟩
    unfold b_law_13 b_law_14 b_law_15
    simp (disch := (first | assumption | decide | omega | (simp only [List.length_map, List.length_append, List.length_cons, List.length_nil, List.length_range, len_rg, len_enum, len_cut1]; first | assumption | omega) | (simp only [List.length_map, List.length_append, List.length_cons, List.length_nil, List.length_range, len_rg, len_enum, len_cut1, lim] at *; omega))) only [run_ev, runD_nx, runD_rt, runD_exc, runD_ite, sSeq_ev, seqD_nx, seqD_rt, seqD_exc, seqD_ite, sIf_ev, ifD_ev, xAnd_ev, xOr_ev, xChain_ev, andD_ev, orD_ev, i_and, i_or, i_ff, lim_if, lim_if2, lim_ifL, xOwn_nil, Nat.reduceAdd, Nat.reduceSub, Int.reduceEq, Int.reduceLT, Int.reduceLE, Nat.reduceLT, Nat.reduceLeDiff, Nat.zero_add, Bool.false_eq_true, decide_false, decide_true, reduceCtorEq,  i_andP, i_orP, i_ok, i_pv, t_ii, t_ib, t_il, t_it, t_bi, t_bb, t_bl, t_bt, t_li, t_lb, t_ll, t_lt, t_ti, t_tb, t_tl, t_tt, sRet, sNil, sDrop, sAsg, sRaise, xIf, x2, x1, xN, xCall, xSl, oEv, xLc, wipeZ, iOf, iOf2, xB, bAnd, bOr, bNot, bYes, lNil, lCons, sSet, xV, sFrz, sPar2, sPar3, r_bind, r_bindX, r_bindB, r_calm, r_opt, r_optB, r_int, r_bl, r_non, xVar, e_eq, e_ne, e_add, e_sub, e_cat, e_mul, e_div, e_mod, e_neg, e_not, e_lt, e_le, e_gt, e_ge, e_isB, e_asB, e_truB, e_truI, e_asI, e_oInt, e_asP, e_listOf0, e_lstOf, sExt, sApp, sFor, e_isiI, e_isiB, e_isiL, e_isiP, e_len, e_lenP, e_sum, e_max, e_min, e_max2, e_min2, e_min3, e_all, e_anyI, e_anyB, e_l1, e_l2, e_l3, e_t2, keepD_pv, keepD_p, tzD_some, e_t3, e_asPp, e_zT3, e_listL, e_ix, e_ixP0, e_ixP1, e_sl, e_rev, e_in, e_seq, e_rg, e_en, e_zp, e_zN, e_zT, e_zCons, e_zNil, e_pl, e_noObj, e_noObjP, lift_ev, liftD_ok, liftD_exc, List.all_cons, List.all_nil, iOwn, lcGo_map, lcS_pure, lcS_filt, Option.bind_some, Option.map_some, List.map_cons, List.map_nil, List.length_cons, List.length_nil, List.replicate_succ, List.replicate_zero, List.cons_append, List.nil_append, List.set_cons_zero, List.set_cons_succ, List.getElem?_cons_zero, List.getElem?_cons_succ, Bool.not_true, eq_self, not_true_eq_false, not_false_eq_true, Bool.true_xor, Bool.false_xor, Bool.not_false, Bool.not_not, Bool.true_and, Bool.and_true, Bool.false_and, Bool.and_false, Bool.true_or, Bool.or_true, Bool.or_false, Bool.false_or, decide_eq_true_eq, Bool.not_eq_true', decide_eq_false_iff_not, ne_eq, if_true, if_false, reduceIte, List.getElem?_nil, List.all_map, List.any_map, Function.id_comp, Function.comp_def, id, Bool.decide_eq_false, Bool.decide_eq_true, q1, ng, ng2, hm]
    rw [lc_eq (fun k : Int => ixD rows k) (fun k hk w => by
      have := s1 k hk
      simp (disch := (first | assumption | decide | omega | (simp only [List.length_map, List.length_append, List.length_cons, List.length_nil, List.length_range, len_rg, len_enum, len_cut1]; first | assumption | omega) | (simp only [List.length_map, List.length_append, List.length_cons, List.length_nil, List.length_range, len_rg, len_enum, len_cut1, lim] at *; omega))) only [run_ev, runD_nx, runD_rt, runD_exc, runD_ite, sSeq_ev, seqD_nx, seqD_rt, seqD_exc, seqD_ite, sIf_ev, ifD_ev, xAnd_ev, xOr_ev, xChain_ev, andD_ev, orD_ev, i_and, i_or, i_ff, lim_if, lim_if2, lim_ifL, xOwn_nil, Nat.reduceAdd, Nat.reduceSub, Int.reduceEq, Int.reduceLT, Int.reduceLE, Nat.reduceLT, Nat.reduceLeDiff, Nat.zero_add, Bool.false_eq_true, decide_false, decide_true, reduceCtorEq,  i_andP, i_orP, i_ok, i_pv, t_ii, t_ib, t_il, t_it, t_bi, t_bb, t_bl, t_bt, t_li, t_lb, t_ll, t_lt, t_ti, t_tb, t_tl, t_tt, sRet, sNil, sDrop, sAsg, sRaise, xIf, x2, x1, xN, xCall, xSl, oEv, xLc, wipeZ, iOf, iOf2, xB, bAnd, bOr, bNot, bYes, lNil, lCons, sSet, xV, sFrz, sPar2, sPar3, r_bind, r_bindX, r_bindB, r_calm, r_opt, r_optB, r_int, r_bl, r_non, xVar, e_eq, e_ne, e_add, e_sub, e_cat, e_mul, e_div, e_mod, e_neg, e_not, e_lt, e_le, e_gt, e_ge, e_isB, e_asB, e_truB, e_truI, e_asI, e_oInt, e_asP, e_listOf0, e_lstOf, sExt, sApp, sFor, e_isiI, e_isiB, e_isiL, e_isiP, e_len, e_lenP, e_sum, e_max, e_min, e_max2, e_min2, e_min3, e_all, e_anyI, e_anyB, e_l1, e_l2, e_l3, e_t2, keepD_pv, keepD_p, tzD_some, e_t3, e_asPp, e_zT3, e_listL, e_ix, e_ixP0, e_ixP1, e_sl, e_rev, e_in, e_seq, e_rg, e_en, e_zp, e_zN, e_zT, e_zCons, e_zNil, e_pl, e_noObj, e_noObjP, lift_ev, liftD_ok, liftD_exc, List.all_cons, List.all_nil, iOwn, lcGo_map, lcS_pure, lcS_filt, Option.bind_some, Option.map_some, List.map_cons, List.map_nil, List.length_cons, List.length_nil, List.replicate_succ, List.replicate_zero, List.cons_append, List.nil_append, List.set_cons_zero, List.set_cons_succ, List.getElem?_cons_zero, List.getElem?_cons_succ, Bool.not_true, eq_self, not_true_eq_false, not_false_eq_true, Bool.true_xor, Bool.false_xor, Bool.not_false, Bool.not_not, Bool.true_and, Bool.and_true, Bool.false_and, Bool.and_false, Bool.true_or, Bool.or_true, Bool.or_false, Bool.false_or, decide_eq_true_eq, Bool.not_eq_true', decide_eq_false_iff_not, ne_eq, if_true, if_false, reduceIte, List.getElem?_nil, List.all_map, List.any_map, Function.id_comp, Function.comp_def, id, Bool.decide_eq_false, Bool.decide_eq_true])]
    have ls : s.length ≤ lim := by unfold lim; omega
    have lf : f.length ≤ lim := by unfold lim; omega
    simp (disch := (first | assumption | decide | omega | (simp only [List.length_map, List.length_append, List.length_cons, List.length_nil, List.length_range, len_rg, len_enum, len_cut1]; first | assumption | omega) | (simp only [List.length_map, List.length_append, List.length_cons, List.length_nil, List.length_range, len_rg, len_enum, len_cut1, lim] at *; omega))) only [run_ev, runD_nx, runD_rt, runD_exc, runD_ite, sSeq_ev, seqD_nx, seqD_rt, seqD_exc, seqD_ite, sIf_ev, ifD_ev, xAnd_ev, xOr_ev, xChain_ev, andD_ev, orD_ev, i_and, i_or, i_ff, lim_if, lim_if2, lim_ifL, xOwn_nil, Nat.reduceAdd, Nat.reduceSub, Int.reduceEq, Int.reduceLT, Int.reduceLE, Nat.reduceLT, Nat.reduceLeDiff, Nat.zero_add, Bool.false_eq_true, decide_false, decide_true, reduceCtorEq,  i_andP, i_orP, i_ok, i_pv, t_ii, t_ib, t_il, t_it, t_bi, t_bb, t_bl, t_bt, t_li, t_lb, t_ll, t_lt, t_ti, t_tb, t_tl, t_tt, sRet, sNil, sDrop, sAsg, sRaise, xIf, x2, x1, xN, xCall, xSl, oEv, xLc, wipeZ, iOf, iOf2, xB, bAnd, bOr, bNot, bYes, lNil, lCons, sSet, xV, sFrz, sPar2, sPar3, r_bind, r_bindX, r_bindB, r_calm, r_opt, r_optB, r_int, r_bl, r_non, xVar, e_eq, e_ne, e_add, e_sub, e_cat, e_mul, e_div, e_mod, e_neg, e_not, e_lt, e_le, e_gt, e_ge, e_isB, e_asB, e_truB, e_truI, e_asI, e_oInt, e_asP, e_listOf0, e_lstOf, sExt, sApp, sFor, e_isiI, e_isiB, e_isiL, e_isiP, e_len, e_lenP, e_sum, e_max, e_min, e_max2, e_min2, e_min3, e_all, e_anyI, e_anyB, e_l1, e_l2, e_l3, e_t2, keepD_pv, keepD_p, tzD_some, e_t3, e_asPp, e_zT3, e_listL, e_ix, e_ixP0, e_ixP1, e_sl, e_rev, e_in, e_seq, e_rg, e_en, e_zp, e_zN, e_zT, e_zCons, e_zNil, e_pl, e_noObj, e_noObjP, lift_ev, liftD_ok, liftD_exc, List.all_cons, List.all_nil, iOwn, lcGo_map, lcS_pure, lcS_filt, Option.bind_some, Option.map_some, List.map_cons, List.map_nil, List.length_cons, List.length_nil, List.replicate_succ, List.replicate_zero, List.cons_append, List.nil_append, List.set_cons_zero, List.set_cons_succ, List.getElem?_cons_zero, List.getElem?_cons_succ, Bool.not_true, eq_self, not_true_eq_false, not_false_eq_true, Bool.true_xor, Bool.false_xor, Bool.not_false, Bool.not_not, Bool.true_and, Bool.and_true, Bool.false_and, Bool.and_false, Bool.true_or, Bool.or_true, Bool.or_false, Bool.false_or, decide_eq_true_eq, Bool.not_eq_true', decide_eq_false_iff_not, ne_eq, if_true, if_false, reduceIte, List.getElem?_nil, List.all_map, List.any_map, Function.id_comp, Function.comp_def, id, Bool.decide_eq_false, Bool.decide_eq_true]
    rw [lc_eq (fun k : Int => ixD cols k) (fun k hk w => by
      have := f1 k hk
      simp (disch := (first | assumption | decide | omega | (simp only [List.length_map, List.length_append, List.length_cons, List.length_nil, List.length_range, len_rg, len_enum, len_cut1]; first | assumption | omega) | (simp only [List.length_map, List.length_append, List.length_cons, List.length_nil, List.length_range, len_rg, len_enum, len_cut1, lim] at *; omega))) only [run_ev, runD_nx, runD_rt, runD_exc, runD_ite, sSeq_ev, seqD_nx, seqD_rt, seqD_exc, seqD_ite, sIf_ev, ifD_ev, xAnd_ev, xOr_ev, xChain_ev, andD_ev, orD_ev, i_and, i_or, i_ff, lim_if, lim_if2, lim_ifL, xOwn_nil, Nat.reduceAdd, Nat.reduceSub, Int.reduceEq, Int.reduceLT, Int.reduceLE, Nat.reduceLT, Nat.reduceLeDiff, Nat.zero_add, Bool.false_eq_true, decide_false, decide_true, reduceCtorEq,  i_andP, i_orP, i_ok, i_pv, t_ii, t_ib, t_il, t_it, t_bi, t_bb, t_bl, t_bt, t_li, t_lb, t_ll, t_lt, t_ti, t_tb, t_tl, t_tt, sRet, sNil, sDrop, sAsg, sRaise, xIf, x2, x1, xN, xCall, xSl, oEv, xLc, wipeZ, iOf, iOf2, xB, bAnd, bOr, bNot, bYes, lNil, lCons, sSet, xV, sFrz, sPar2, sPar3, r_bind, r_bindX, r_bindB, r_calm, r_opt, r_optB, r_int, r_bl, r_non, xVar, e_eq, e_ne, e_add, e_sub, e_cat, e_mul, e_div, e_mod, e_neg, e_not, e_lt, e_le, e_gt, e_ge, e_isB, e_asB, e_truB, e_truI, e_asI, e_oInt, e_asP, e_listOf0, e_lstOf, sExt, sApp, sFor, e_isiI, e_isiB, e_isiL, e_isiP, e_len, e_lenP, e_sum, e_max, e_min, e_max2, e_min2, e_min3, e_all, e_anyI, e_anyB, e_l1, e_l2, e_l3, e_t2, keepD_pv, keepD_p, tzD_some, e_t3, e_asPp, e_zT3, e_listL, e_ix, e_ixP0, e_ixP1, e_sl, e_rev, e_in, e_seq, e_rg, e_en, e_zp, e_zN, e_zT, e_zCons, e_zNil, e_pl, e_noObj, e_noObjP, lift_ev, liftD_ok, liftD_exc, List.all_cons, List.all_nil, iOwn, lcGo_map, lcS_pure, lcS_filt, Option.bind_some, Option.map_some, List.map_cons, List.map_nil, List.length_cons, List.length_nil, List.replicate_succ, List.replicate_zero, List.cons_append, List.nil_append, List.set_cons_zero, List.set_cons_succ, List.getElem?_cons_zero, List.getElem?_cons_succ, Bool.not_true, eq_self, not_true_eq_false, not_false_eq_true, Bool.true_xor, Bool.false_xor, Bool.not_false, Bool.not_not, Bool.true_and, Bool.and_true, Bool.false_and, Bool.and_false, Bool.true_or, Bool.or_true, Bool.or_false, Bool.false_or, decide_eq_true_eq, Bool.not_eq_true', decide_eq_false_iff_not, ne_eq, if_true, if_false, reduceIte, List.getElem?_nil, List.all_map, List.any_map, Function.id_comp, Function.comp_def, id, Bool.decide_eq_false, Bool.decide_eq_true])]
    simp (disch := (first | assumption | decide | omega | (simp only [List.length_map, List.length_append, List.length_cons, List.length_nil, List.length_range, len_rg, len_enum, len_cut1]; first | assumption | omega) | (simp only [List.length_map, List.length_append, List.length_cons, List.length_nil, List.length_range, len_rg, len_enum, len_cut1, lim] at *; omega))) only [run_ev, runD_nx, runD_rt, runD_exc, runD_ite, sSeq_ev, seqD_nx, seqD_rt, seqD_exc, seqD_ite, sIf_ev, ifD_ev, xAnd_ev, xOr_ev, xChain_ev, andD_ev, orD_ev, i_and, i_or, i_ff, lim_if, lim_if2, lim_ifL, xOwn_nil, Nat.reduceAdd, Nat.reduceSub, Int.reduceEq, Int.reduceLT, Int.reduceLE, Nat.reduceLT, Nat.reduceLeDiff, Nat.zero_add, Bool.false_eq_true, decide_false, decide_true, reduceCtorEq,  i_andP, i_orP, i_ok, i_pv, t_ii, t_ib, t_il, t_it, t_bi, t_bb, t_bl, t_bt, t_li, t_lb, t_ll, t_lt, t_ti, t_tb, t_tl, t_tt, sRet, sNil, sDrop, sAsg, sRaise, xIf, x2, x1, xN, xCall, xSl, oEv, xLc, wipeZ, iOf, iOf2, xB, bAnd, bOr, bNot, bYes, lNil, lCons, sSet, xV, sFrz, sPar2, sPar3, r_bind, r_bindX, r_bindB, r_calm, r_opt, r_optB, r_int, r_bl, r_non, xVar, e_eq, e_ne, e_add, e_sub, e_cat, e_mul, e_div, e_mod, e_neg, e_not, e_lt, e_le, e_gt, e_ge, e_isB, e_asB, e_truB, e_truI, e_asI, e_oInt, e_asP, e_listOf0, e_lstOf, sExt, sApp, sFor, e_isiI, e_isiB, e_isiL, e_isiP, e_len, e_lenP, e_sum, e_max, e_min, e_max2, e_min2, e_min3, e_all, e_anyI, e_anyB, e_l1, e_l2, e_l3, e_t2, keepD_pv, keepD_p, tzD_some, e_t3, e_asPp, e_zT3, e_listL, e_ix, e_ixP0, e_ixP1, e_sl, e_rev, e_in, e_seq, e_rg, e_en, e_zp, e_zN, e_zT, e_zCons, e_zNil, e_pl, e_noObj, e_noObjP, lift_ev, liftD_ok, liftD_exc, List.all_cons, List.all_nil, iOwn, lcGo_map, lcS_pure, lcS_filt, Option.bind_some, Option.map_some, List.map_cons, List.map_nil, List.length_cons, List.length_nil, List.replicate_succ, List.replicate_zero, List.cons_append, List.nil_append, List.set_cons_zero, List.set_cons_succ, List.getElem?_cons_zero, List.getElem?_cons_succ, Bool.not_true, eq_self, not_true_eq_false, not_false_eq_true, Bool.true_xor, Bool.false_xor, Bool.not_false, Bool.not_not, Bool.true_and, Bool.and_true, Bool.false_and, Bool.and_false, Bool.true_or, Bool.or_true, Bool.or_false, Bool.false_or, decide_eq_true_eq, Bool.not_eq_true', decide_eq_false_iff_not, ne_eq, if_true, if_false, reduceIte, List.getElem?_nil, List.all_map, List.any_map, Function.id_comp, Function.comp_def, id, Bool.decide_eq_false, Bool.decide_eq_true, hls, hlf, m1, m2, hle, e_nil, k8, hsn, and_self]
theorem l19_g (ns : List Int) (w : Wd) (a4 a5 a6 a7 a8 a9 a10 a11 a12 a13 a14 a15 a16 : Sl) : b_law_17 (E19 ns rows wide a4 a5 a6 a7 a8 a9 a10 a11 a12 a13 a14 a15 a16) w = .rt (pv true) w := by
  have o0 : OkS [0] := ⟨by decide, by decide, by decide⟩
  have o1 : OkS [1] := ⟨by decide, by decide, by decide⟩
  have o2 : OkS [0, 0] := ⟨by decide, by decide, by decide⟩
  have q1 := p_can_be o0 o0 (M := 0) (by decide) ()
  have h1 : hasT [0] [0] 0 = true := by decide
  rw [h1] at q1
  have q2 := q_count_tables [0, 0] [0] 0 o2 o0 (by decide) w
  have h2 : (tabs 0 [0, 0] [0]).length = 1 := by decide
  rw [h2] at q2
  have q2 : liftM f_count_tables [pv [(0 : Int), 0], pv [(0 : Int)], pv (0 : Int)] w = .ok (pv (1 : Int)) w := q2
  have q3 := p_can_be o1 o0 (M := 9) (by decide) ()
  have h3 : hasT [1] [0] 9 = false := by decide
  rw [h3] at q3
  unfold b_law_17
  simp (disch := (first | assumption | decide | omega | (simp only [List.length_map, List.length_append, List.length_cons, List.length_nil, List.length_range, len_rg, len_enum, len_cut1]; first | assumption | omega) | (simp only [List.length_map, List.length_append, List.length_cons, List.length_nil, List.length_range, len_rg, len_enum, len_cut1, lim] at *; omega))) only [run_ev, runD_nx, runD_rt, runD_exc, runD_ite, sSeq_ev, seqD_nx, seqD_rt, seqD_exc, seqD_ite, sIf_ev, ifD_ev, xAnd_ev, xOr_ev, xChain_ev, andD_ev, orD_ev, i_and, i_or, i_ff, lim_if, lim_if2, lim_ifL, xOwn_nil, Nat.reduceAdd, Nat.reduceSub, Int.reduceEq, Int.reduceLT, Int.reduceLE, Nat.reduceLT, Nat.reduceLeDiff, Nat.zero_add, Bool.false_eq_true, decide_false, decide_true, reduceCtorEq,  i_andP, i_orP, i_ok, i_pv, t_ii, t_ib, t_il, t_it, t_bi, t_bb, t_bl, t_bt, t_li, t_lb, t_ll, t_lt, t_ti, t_tb, t_tl, t_tt, sRet, sNil, sDrop, sAsg, sRaise, xIf, x2, x1, xN, xCall, xSl, oEv, xLc, wipeZ, iOf, iOf2, xB, bAnd, bOr, bNot, bYes, lNil, lCons, sSet, xV, sFrz, sPar2, sPar3, r_bind, r_bindX, r_bindB, r_calm, r_opt, r_optB, r_int, r_bl, r_non, xVar, e_eq, e_ne, e_add, e_sub, e_cat, e_mul, e_div, e_mod, e_neg, e_not, e_lt, e_le, e_gt, e_ge, e_isB, e_asB, e_truB, e_truI, e_asI, e_oInt, e_asP, e_listOf0, e_lstOf, sExt, sApp, sFor, e_isiI, e_isiB, e_isiL, e_isiP, e_len, e_lenP, e_sum, e_max, e_min, e_max2, e_min2, e_min3, e_all, e_anyI, e_anyB, e_l1, e_l2, e_l3, e_t2, keepD_pv, keepD_p, tzD_some, e_t3, e_asPp, e_zT3, e_listL, e_ix, e_ixP0, e_ixP1, e_sl, e_rev, e_in, e_seq, e_rg, e_en, e_zp, e_zN, e_zT, e_zCons, e_zNil, e_pl, e_noObj, e_noObjP, lift_ev, liftD_ok, liftD_exc, List.all_cons, List.all_nil, iOwn, lcGo_map, lcS_pure, lcS_filt, Option.bind_some, Option.map_some, List.map_cons, List.map_nil, List.length_cons, List.length_nil, List.replicate_succ, List.replicate_zero, List.cons_append, List.nil_append, List.set_cons_zero, List.set_cons_succ, List.getElem?_cons_zero, List.getElem?_cons_succ, Bool.not_true, eq_self, not_true_eq_false, not_false_eq_true, Bool.true_xor, Bool.false_xor, Bool.not_false, Bool.not_not, Bool.true_and, Bool.and_true, Bool.false_and, Bool.and_false, Bool.true_or, Bool.or_true, Bool.or_false, Bool.false_or, decide_eq_true_eq, Bool.not_eq_true', decide_eq_false_iff_not, ne_eq, if_true, if_false, reduceIte, List.getElem?_nil, List.all_map, List.any_map, Function.id_comp, Function.comp_def, id, Bool.decide_eq_false, Bool.decide_eq_true, q1, q2, q3]
theorem good_least (h : OkS rows) (h' : OkS cols) (hg : goodL rows cols ≠ []) : (0 ≤ ixD (goodL rows cols) 0 ∧ ixD (goodL rows cols) 0 ≤ 9) ∧ ∀ T ∈ tabs (ixD (goodL rows cols) 0) rows cols, maxT T = ixD (goodL rows cols) 0 := by
  have hlen := List.length_pos_iff.mpr hg
  have h0 : ixD (goodL rows cols) 0 ∈ goodL rows cols := ixD_mem ⟨by omega, by omega⟩
  have hm := mem_good.mp h0
  have hs : (goodL rows cols).Pairwise (· < ·) := (rg_lt 0 10).sublist List.filter_sublist
  have hmin : ∀ x ∈ goodL rows cols, ixD (goodL rows cols) 0 ≤ x := fun x hx => by
    cases hgl : goodL rows cols with
    | nil => exact absurd hgl hg
    | cons y ys =>
      rw [hgl] at hx hs
      rw [ixD_cons0]
      rcases List.mem_cons.mp hx with rfl | hx
      · exact Int.le_refl _
      · have := (List.pairwise_cons.mp hs).1 x hx; omega
  refine ⟨by omega, fun T hT => ?_⟩
  generalize ixD (goodL rows cols) 0 = g at *
  obtain ⟨ta, _, _, _, he⟩ := isT_ta hT h h' (by omega)
  have hle : maxT T ≤ g := (maxT_le ta).mpr he
  have hmm := (maxT_le (M := maxT T) ta).mp (Int.le_refl _)
  have h00 : 0 ≤ maxT T := by
    obtain ⟨x, xs, T', e, _⟩ := two_rows ta
    have := hmm (x :: xs) (by rw [e]; simp) x (by simp)
    have := (ta.en (x :: xs) (by rw [e]; simp) x (by simp)).1
    omega
  have I := (mem_tabs g rows cols T).mp hT
  have hT' : T ∈ tabs (maxT T) rows cols := (mem_tabs _ _ _ _).mpr ⟨fun row hr x hx => ⟨(I.en row hr x hx).1, hmm row hr x hx⟩, I.ln, I.rs, I.cs⟩
  have hmem : maxT T ∈ goodL rows cols := mem_good.mpr ⟨by omega, (hasT_iff h h' h00).mpr (List.ne_nil_of_mem hT')⟩
  have := hmin _ hmem
  omega
theorem l19_f (ns : List Int) (h : OkS rows) (h' : OkS cols) (w : Wd) (a4 a6 a7 a9 a10 a11 a12 a13 a14 : Sl) : b_law_16 (E19 ns rows wide a4 (.v (pv cols)) a6 a7 (.v (pv (goodL rows cols))) a9 a10 a11 a12 a13 a14 .no .no) w = .rt (pv true) w := by
  have k8 : gNe (pv (goodL rows cols)) (D.p (.list [])) = some (pv (!decide (goodL rows cols = []))) := e_ne (goodL rows cols) ([] : List Int)
  by_cases hg : goodL rows cols = []
  · rw [decide_eq_true hg] at k8
    have z := l19_g (rows := rows) (wide := wide) ns w a4 (.v (pv cols)) a6 a7 (.v (pv (goodL rows cols))) a9 a10 a11 a12 a13 a14 .no .no
    unfold b_law_16
    simp (disch := (first | assumption | decide | omega | (simp only [List.length_map, List.length_append, List.length_cons, List.length_nil, List.length_range, len_rg, len_enum, len_cut1]; first | assumption | omega) | (simp only [List.length_map, List.length_append, List.length_cons, List.length_nil, List.length_range, len_rg, len_enum, len_cut1, lim] at *; omega))) only [run_ev, runD_nx, runD_rt, runD_exc, runD_ite, sSeq_ev, seqD_nx, seqD_rt, seqD_exc, seqD_ite, sIf_ev, ifD_ev, xAnd_ev, xOr_ev, xChain_ev, andD_ev, orD_ev, i_and, i_or, i_ff, lim_if, lim_if2, lim_ifL, xOwn_nil, Nat.reduceAdd, Nat.reduceSub, Int.reduceEq, Int.reduceLT, Int.reduceLE, Nat.reduceLT, Nat.reduceLeDiff, Nat.zero_add, Bool.false_eq_true, decide_false, decide_true, reduceCtorEq,  i_andP, i_orP, i_ok, i_pv, t_ii, t_ib, t_il, t_it, t_bi, t_bb, t_bl, t_bt, t_li, t_lb, t_ll, t_lt, t_ti, t_tb, t_tl, t_tt, sRet, sNil, sDrop, sAsg, sRaise, xIf, x2, x1, xN, xCall, xSl, oEv, xLc, wipeZ, iOf, iOf2, xB, bAnd, bOr, bNot, bYes, lNil, lCons, sSet, xV, sFrz, sPar2, sPar3, r_bind, r_bindX, r_bindB, r_calm, r_opt, r_optB, r_int, r_bl, r_non, xVar, e_eq, e_ne, e_add, e_sub, e_cat, e_mul, e_div, e_mod, e_neg, e_not, e_lt, e_le, e_gt, e_ge, e_isB, e_asB, e_truB, e_truI, e_asI, e_oInt, e_asP, e_listOf0, e_lstOf, sExt, sApp, sFor, e_isiI, e_isiB, e_isiL, e_isiP, e_len, e_lenP, e_sum, e_max, e_min, e_max2, e_min2, e_min3, e_all, e_anyI, e_anyB, e_l1, e_l2, e_l3, e_t2, keepD_pv, keepD_p, tzD_some, e_t3, e_asPp, e_zT3, e_listL, e_ix, e_ixP0, e_ixP1, e_sl, e_rev, e_in, e_seq, e_rg, e_en, e_zp, e_zN, e_zT, e_zCons, e_zNil, e_pl, e_noObj, e_noObjP, lift_ev, liftD_ok, liftD_exc, List.all_cons, List.all_nil, iOwn, lcGo_map, lcS_pure, lcS_filt, Option.bind_some, Option.map_some, List.map_cons, List.map_nil, List.length_cons, List.length_nil, List.replicate_succ, List.replicate_zero, List.cons_append, List.nil_append, List.set_cons_zero, List.set_cons_succ, List.getElem?_cons_zero, List.getElem?_cons_succ, Bool.not_true, eq_self, not_true_eq_false, not_false_eq_true, Bool.true_xor, Bool.false_xor, Bool.not_false, Bool.not_not, Bool.true_and, Bool.and_true, Bool.false_and, Bool.and_false, Bool.true_or, Bool.or_true, Bool.or_false, Bool.false_or, decide_eq_true_eq, Bool.not_eq_true', decide_eq_false_iff_not, ne_eq, if_true, if_false, reduceIte, List.getElem?_nil, List.all_map, List.any_map, Function.id_comp, Function.comp_def, id, Bool.decide_eq_false, Bool.decide_eq_true, e_nil, k8, z]
  · rw [decide_eq_false hg] at k8
    have hlen := List.length_pos_iff.mpr hg
    obtain ⟨g1, g2⟩ := good_least h h' hg
    have hm := mem_good.mp (ixD_mem (xs := goodL rows cols) (i := 0) ⟨by omega, by omega⟩)
    have hix : gIx (pv (goodL rows cols)) (pv (0 : Int)) = some (pv (ixD (goodL rows cols) 0)) := e_ix _ _ ⟨by omega, by omega⟩
    have hne := (hasT_iff h h' g1.1).mp hm.2
    have hpos := List.length_pos_iff.mpr hne
    obtain ⟨T, hT⟩ : ∃ T, (tabs (ixD (goodL rows cols) 0) rows cols)[0]? = some T := ⟨_, List.getElem?_eq_getElem hpos⟩
    have hTm := List.mem_of_getElem? hT
    have hmx := g2 T hTm
    obtain ⟨ta, _⟩ := isT_ta hTm h h' g1.2
    have q1 := q_table_at h h' g1 0 T hT w
    have q1 : liftM f_table_at [pv rows, pv cols, pv (ixD (goodL rows cols) 0), pv (0 : Int)] w = .ok (pv T) w := q1
    have q2 := p_can_be h' h g1 ()
    have t2 : hasT cols rows (ixD (goodL rows cols) 0) = true := (hasT_iff h' h g1.1).mpr (List.length_pos_iff.mp (by rw [tr_len]; exact hpos))
    rw [t2] at q2
    have hr1 : OkS rows.reverse := ⟨by rw [List.length_reverse]; exact h.h1, by rw [List.length_reverse]; exact h.h3, fun x hx => h.en x (List.mem_reverse.mp hx)⟩
    have hr2 : OkS cols.reverse := ⟨by rw [List.length_reverse]; exact h'.h1, by rw [List.length_reverse]; exact h'.h3, fun x hx => h'.en x (List.mem_reverse.mp hx)⟩
    have q3 := p_can_be hr1 hr2 g1 ()
    have t3 : hasT rows.reverse cols.reverse (ixD (goodL rows cols) 0) = true := (hasT_iff hr1 hr2 g1.1).mpr (List.length_pos_iff.mp (by rw [rev2_len]; exact hpos))
    rw [t3] at q3
    have q4 := q_count_tables rows cols _ h h' g1 w
    have hlt : ¬((tabs (ixD (goodL rows cols) 0) rows cols).length : Int) < 1 := by omega
    have h1 := ta.n1
    have h2 := ta.n2
    have hrne : ∀ row ∈ T, row ≠ [] := fun row hr z => by
      have := ta.m1 row hr
      rw [z] at this
      simp at this
    have hmn : T.map lmax ≠ [] := fun z => by
      have := congrArg List.length z
      rw [List.length_map] at this
      simp at this
      rw [this] at h1
      simp at h1
    have hmx' : lmax (T.map fun row => lmax row) = ixD (goodL rows cols) 0 := hmx
    generalize ((tabs (ixD (goodL rows cols) 0) rows cols).length : Int) = many at *
    have z := l19_g (rows := rows) (wide := wide) ns w a4 (.v (pv cols)) a6 a7 (.v (pv (goodL rows cols))) a9 a10 a11 a12 a13 a14 (.v (pv (ixD (goodL rows cols) 0))) (.v (pv T))
    unfold b_law_16
    simp (disch := (first | assumption | decide | omega | (simp only [List.length_map, List.length_append, List.length_cons, List.length_nil, List.length_range, len_rg, len_enum, len_cut1]; first | assumption | omega) | (simp only [List.length_map, List.length_append, List.length_cons, List.length_nil, List.length_range, len_rg, len_enum, len_cut1, lim] at *; omega))) only [run_ev, runD_nx, runD_rt, runD_exc, runD_ite, sSeq_ev, seqD_nx, seqD_rt, seqD_exc, seqD_ite, sIf_ev, ifD_ev, xAnd_ev, xOr_ev, xChain_ev, andD_ev, orD_ev, i_and, i_or, i_ff, lim_if, lim_if2, lim_ifL, xOwn_nil, Nat.reduceAdd, Nat.reduceSub, Int.reduceEq, Int.reduceLT, Int.reduceLE, Nat.reduceLT, Nat.reduceLeDiff, Nat.zero_add, Bool.false_eq_true, decide_false, decide_true, reduceCtorEq,  i_andP, i_orP, i_ok, i_pv, t_ii, t_ib, t_il, t_it, t_bi, t_bb, t_bl, t_bt, t_li, t_lb, t_ll, t_lt, t_ti, t_tb, t_tl, t_tt, sRet, sNil, sDrop, sAsg, sRaise, xIf, x2, x1, xN, xCall, xSl, oEv, xLc, wipeZ, iOf, iOf2, xB, bAnd, bOr, bNot, bYes, lNil, lCons, sSet, xV, sFrz, sPar2, sPar3, r_bind, r_bindX, r_bindB, r_calm, r_opt, r_optB, r_int, r_bl, r_non, xVar, e_eq, e_ne, e_add, e_sub, e_cat, e_mul, e_div, e_mod, e_neg, e_not, e_lt, e_le, e_gt, e_ge, e_isB, e_asB, e_truB, e_truI, e_asI, e_oInt, e_asP, e_listOf0, e_lstOf, sExt, sApp, sFor, e_isiI, e_isiB, e_isiL, e_isiP, e_len, e_lenP, e_sum, e_max, e_min, e_max2, e_min2, e_min3, e_all, e_anyI, e_anyB, e_l1, e_l2, e_l3, e_t2, keepD_pv, keepD_p, tzD_some, e_t3, e_asPp, e_zT3, e_listL, e_ix, e_ixP0, e_ixP1, e_sl, e_rev, e_in, e_seq, e_rg, e_en, e_zp, e_zN, e_zT, e_zCons, e_zNil, e_pl, e_noObj, e_noObjP, lift_ev, liftD_ok, liftD_exc, List.all_cons, List.all_nil, iOwn, lcGo_map, lcS_pure, lcS_filt, Option.bind_some, Option.map_some, List.map_cons, List.map_nil, List.length_cons, List.length_nil, List.replicate_succ, List.replicate_zero, List.cons_append, List.nil_append, List.set_cons_zero, List.set_cons_succ, List.getElem?_cons_zero, List.getElem?_cons_succ, Bool.not_true, eq_self, not_true_eq_false, not_false_eq_true, Bool.true_xor, Bool.false_xor, Bool.not_false, Bool.not_not, Bool.true_and, Bool.and_true, Bool.false_and, Bool.and_false, Bool.true_or, Bool.or_true, Bool.or_false, Bool.false_or, decide_eq_true_eq, Bool.not_eq_true', decide_eq_false_iff_not, ne_eq, if_true, if_false, reduceIte, List.getElem?_nil, List.all_map, List.any_map, Function.id_comp, Function.comp_def, id, Bool.decide_eq_false, Bool.decide_eq_true, e_nil, k8, hix, q1]
    rw [lc_eq (fun row : List Int => lmax row) (fun row hr w => by
      have := hrne row hr
      simp (disch := (first | assumption | decide | omega | (simp only [List.length_map, List.length_append, List.length_cons, List.length_nil, List.length_range, len_rg, len_enum, len_cut1]; first | assumption | omega) | (simp only [List.length_map, List.length_append, List.length_cons, List.length_nil, List.length_range, len_rg, len_enum, len_cut1, lim] at *; omega))) only [run_ev, runD_nx, runD_rt, runD_exc, runD_ite, sSeq_ev, seqD_nx, seqD_rt, seqD_exc, seqD_ite, sIf_ev, ifD_ev, xAnd_ev, xOr_ev, xChain_ev, andD_ev, orD_ev, i_and, i_or, i_ff, lim_if, lim_if2, lim_ifL, xOwn_nil, Nat.reduceAdd, Nat.reduceSub, Int.reduceEq, Int.reduceLT, Int.reduceLE, Nat.reduceLT, Nat.reduceLeDiff, Nat.zero_add, Bool.false_eq_true, decide_false, decide_true, reduceCtorEq,  i_andP, i_orP, i_ok, i_pv, t_ii, t_ib, t_il, t_it, t_bi, t_bb, t_bl, t_bt, t_li, t_lb, t_ll, t_lt, t_ti, t_tb, t_tl, t_tt, sRet, sNil, sDrop, sAsg, sRaise, xIf, x2, x1, xN, xCall, xSl, oEv, xLc, wipeZ, iOf, iOf2, xB, bAnd, bOr, bNot, bYes, lNil, lCons, sSet, xV, sFrz, sPar2, sPar3, r_bind, r_bindX, r_bindB, r_calm, r_opt, r_optB, r_int, r_bl, r_non, xVar, e_eq, e_ne, e_add, e_sub, e_cat, e_mul, e_div, e_mod, e_neg, e_not, e_lt, e_le, e_gt, e_ge, e_isB, e_asB, e_truB, e_truI, e_asI, e_oInt, e_asP, e_listOf0, e_lstOf, sExt, sApp, sFor, e_isiI, e_isiB, e_isiL, e_isiP, e_len, e_lenP, e_sum, e_max, e_min, e_max2, e_min2, e_min3, e_all, e_anyI, e_anyB, e_l1, e_l2, e_l3, e_t2, keepD_pv, keepD_p, tzD_some, e_t3, e_asPp, e_zT3, e_listL, e_ix, e_ixP0, e_ixP1, e_sl, e_rev, e_in, e_seq, e_rg, e_en, e_zp, e_zN, e_zT, e_zCons, e_zNil, e_pl, e_noObj, e_noObjP, lift_ev, liftD_ok, liftD_exc, List.all_cons, List.all_nil, iOwn, lcGo_map, lcS_pure, lcS_filt, Option.bind_some, Option.map_some, List.map_cons, List.map_nil, List.length_cons, List.length_nil, List.replicate_succ, List.replicate_zero, List.cons_append, List.nil_append, List.set_cons_zero, List.set_cons_succ, List.getElem?_cons_zero, List.getElem?_cons_succ, Bool.not_true, eq_self, not_true_eq_false, not_false_eq_true, Bool.true_xor, Bool.false_xor, Bool.not_false, Bool.not_not, Bool.true_and, Bool.and_true, Bool.false_and, Bool.and_false, Bool.true_or, Bool.or_true, Bool.or_false, Bool.false_or, decide_eq_true_eq, Bool.not_eq_true', decide_eq_false_iff_not, ne_eq, if_true, if_false, reduceIte, List.getElem?_nil, List.all_map, List.any_map, Function.id_comp, Function.comp_def, id, Bool.decide_eq_false, Bool.decide_eq_true])]
    simp (disch := (first | assumption | decide | omega | (simp only [List.length_map, List.length_append, List.length_cons, List.length_nil, List.length_range, len_rg, len_enum, len_cut1]; first | assumption | omega) | (simp only [List.length_map, List.length_append, List.length_cons, List.length_nil, List.length_range, len_rg, len_enum, len_cut1, lim] at *; omega))) only [run_ev, runD_nx, runD_rt, runD_exc, runD_ite, sSeq_ev, seqD_nx, seqD_rt, seqD_exc, seqD_ite, sIf_ev, ifD_ev, xAnd_ev, xOr_ev, xChain_ev, andD_ev, orD_ev, i_and, i_or, i_ff, lim_if, lim_if2, lim_ifL, xOwn_nil, Nat.reduceAdd, Nat.reduceSub, Int.reduceEq, Int.reduceLT, Int.reduceLE, Nat.reduceLT, Nat.reduceLeDiff, Nat.zero_add, Bool.false_eq_true, decide_false, decide_true, reduceCtorEq,  i_andP, i_orP, i_ok, i_pv, t_ii, t_ib, t_il, t_it, t_bi, t_bb, t_bl, t_bt, t_li, t_lb, t_ll, t_lt, t_ti, t_tb, t_tl, t_tt, sRet, sNil, sDrop, sAsg, sRaise, xIf, x2, x1, xN, xCall, xSl, oEv, xLc, wipeZ, iOf, iOf2, xB, bAnd, bOr, bNot, bYes, lNil, lCons, sSet, xV, sFrz, sPar2, sPar3, r_bind, r_bindX, r_bindB, r_calm, r_opt, r_optB, r_int, r_bl, r_non, xVar, e_eq, e_ne, e_add, e_sub, e_cat, e_mul, e_div, e_mod, e_neg, e_not, e_lt, e_le, e_gt, e_ge, e_isB, e_asB, e_truB, e_truI, e_asI, e_oInt, e_asP, e_listOf0, e_lstOf, sExt, sApp, sFor, e_isiI, e_isiB, e_isiL, e_isiP, e_len, e_lenP, e_sum, e_max, e_min, e_max2, e_min2, e_min3, e_all, e_anyI, e_anyB, e_l1, e_l2, e_l3, e_t2, keepD_pv, keepD_p, tzD_some, e_t3, e_asPp, e_zT3, e_listL, e_ix, e_ixP0, e_ixP1, e_sl, e_rev, e_in, e_seq, e_rg, e_en, e_zp, e_zN, e_zT, e_zCons, e_zNil, e_pl, e_noObj, e_noObjP, lift_ev, liftD_ok, liftD_exc, List.all_cons, List.all_nil, iOwn, lcGo_map, lcS_pure, lcS_filt, Option.bind_some, Option.map_some, List.map_cons, List.map_nil, List.length_cons, List.length_nil, List.replicate_succ, List.replicate_zero, List.cons_append, List.nil_append, List.set_cons_zero, List.set_cons_succ, List.getElem?_cons_zero, List.getElem?_cons_succ, Bool.not_true, eq_self, not_true_eq_false, not_false_eq_true, Bool.true_xor, Bool.false_xor, Bool.not_false, Bool.not_not, Bool.true_and, Bool.and_true, Bool.false_and, Bool.and_false, Bool.true_or, Bool.or_true, Bool.or_false, Bool.false_or, decide_eq_true_eq, Bool.not_eq_true', decide_eq_false_iff_not, ne_eq, if_true, if_false, reduceIte, List.getElem?_nil, List.all_map, List.any_map, Function.id_comp, Function.comp_def, id, Bool.decide_eq_false, Bool.decide_eq_true, e_max _ hmn, hmx', q2, q3, q4, hlt, z]
end
theorem f_law_true : ∀ ns : List Int, ns.length ≤ 63 → ∃ w', f_law [.scr ns] none = .ok (.p (.bool true)) w' := by
  intro ns _
  obtain ⟨rows, wide, w, ⟨h, hs27⟩, hw, g, e0⟩ := l19_a ns
  obtain ⟨cols, left, a6, a7, w', h', hcw, hleft, e1⟩ := l19_b ns rows wide h hs27 hw w g
  suffices hh : b_law_0 [.v (.scr ns), .no, .no, .no, .no, .no, .no, .no, .no, .no, .no, .no, .no, .no, .no, .no, .no, .no, .no] none = .rt (pv true) w' from ⟨w', runZ_rt hh⟩
  rw [e0, e1]
  rcases l19_c (wide := wide) ns h h' left hleft w' a6 a7 with hc | ⟨hs, hc⟩
  · exact hc
  · rw [hc, l19_d ns h h']
    obtain ⟨δ', e, ⟨b6, b9, b10, b11, b12, b13, b14, hδ⟩⟩ := forGo_pre (w := w') (xs := rg 0 10) (tz := zN 9) (body := b_law_13) (δ := E19 ns rows wide (.v (pv left)) (.v (pv cols)) a6 a7 (.v (pv (goodL rows cols))) .no .no .no .no .no .no .no .no)
      (fun _ δ => ∃ b6 b9 b10 b11 b12 b13 b14, δ = E19 ns rows wide (.v (pv left)) (.v (pv cols)) b6 a7 (.v (pv (goodL rows cols))) b9 b10 b11 b12 b13 b14 .no .no) ⟨_, _, _, _, _, _, _, rfl⟩ fun p v r ex δ ⟨b6, b9, b10, b11, b12, b13, b14, hd⟩ => by
        subst hd
        have hv := mem_rg.mp (show v ∈ rg 0 (10 : Int) by rw [ex]; simp)
        obtain ⟨c10, c11, c12, c13, c14, c6, e⟩ := l19_e ns h h' hcw hs w' (.v (pv left)) b6 a7 b10 b11 b12 b13 b14 v hv
        exact ⟨E19 ns rows wide (.v (pv left)) (.v (pv cols)) b6 a7 (.v (pv (goodL rows cols))) (.v (pv v)) b10 b11 b12 b13 b14 .no .no, rfl, _, .inl e, c6, .v (pv v), c10, c11, c12, c13, c14, rfl⟩
    subst hδ
    have hit : (iOf rgOf1 (xInt 10)) (E19 ns rows wide (.v (pv left)) (.v (pv cols)) a6 a7 (.v (pv (goodL rows cols))) .no .no .no .no .no .no .no .no) w' = .ok ((rg 0 10).map Py.enc) w' := by
      simp (disch := (first | assumption | decide | omega | (simp only [List.length_map, List.length_append, List.length_cons, List.length_nil, List.length_range, len_rg, len_enum, len_cut1]; first | assumption | omega) | (simp only [List.length_map, List.length_append, List.length_cons, List.length_nil, List.length_range, len_rg, len_enum, len_cut1, lim] at *; omega))) only [run_ev, runD_nx, runD_rt, runD_exc, runD_ite, sSeq_ev, seqD_nx, seqD_rt, seqD_exc, seqD_ite, sIf_ev, ifD_ev, xAnd_ev, xOr_ev, xChain_ev, andD_ev, orD_ev, i_and, i_or, i_ff, lim_if, lim_if2, lim_ifL, xOwn_nil, Nat.reduceAdd, Nat.reduceSub, Int.reduceEq, Int.reduceLT, Int.reduceLE, Nat.reduceLT, Nat.reduceLeDiff, Nat.zero_add, Bool.false_eq_true, decide_false, decide_true, reduceCtorEq,  i_andP, i_orP, i_ok, i_pv, t_ii, t_ib, t_il, t_it, t_bi, t_bb, t_bl, t_bt, t_li, t_lb, t_ll, t_lt, t_ti, t_tb, t_tl, t_tt, sRet, sNil, sDrop, sAsg, sRaise, xIf, x2, x1, xN, xCall, xSl, oEv, xLc, wipeZ, iOf, iOf2, xB, bAnd, bOr, bNot, bYes, lNil, lCons, sSet, xV, sFrz, sPar2, sPar3, r_bind, r_bindX, r_bindB, r_calm, r_opt, r_optB, r_int, r_bl, r_non, xVar, e_eq, e_ne, e_add, e_sub, e_cat, e_mul, e_div, e_mod, e_neg, e_not, e_lt, e_le, e_gt, e_ge, e_isB, e_asB, e_truB, e_truI, e_asI, e_oInt, e_asP, e_listOf0, e_lstOf, sExt, sApp, sFor, e_isiI, e_isiB, e_isiL, e_isiP, e_len, e_lenP, e_sum, e_max, e_min, e_max2, e_min2, e_min3, e_all, e_anyI, e_anyB, e_l1, e_l2, e_l3, e_t2, keepD_pv, keepD_p, tzD_some, e_t3, e_asPp, e_zT3, e_listL, e_ix, e_ixP0, e_ixP1, e_sl, e_rev, e_in, e_seq, e_rg, e_en, e_zp, e_zN, e_zT, e_zCons, e_zNil, e_pl, e_noObj, e_noObjP, lift_ev, liftD_ok, liftD_exc, List.all_cons, List.all_nil, iOwn, lcGo_map, lcS_pure, lcS_filt, Option.bind_some, Option.map_some, List.map_cons, List.map_nil, List.length_cons, List.length_nil, List.replicate_succ, List.replicate_zero, List.cons_append, List.nil_append, List.set_cons_zero, List.set_cons_succ, List.getElem?_cons_zero, List.getElem?_cons_succ, Bool.not_true, eq_self, not_true_eq_false, not_false_eq_true, Bool.true_xor, Bool.false_xor, Bool.not_false, Bool.not_not, Bool.true_and, Bool.and_true, Bool.false_and, Bool.and_false, Bool.true_or, Bool.or_true, Bool.or_false, Bool.false_or, decide_eq_true_eq, Bool.not_eq_true', decide_eq_false_iff_not, ne_eq, if_true, if_false, reduceIte, List.getElem?_nil, List.all_map, List.any_map, Function.id_comp, Function.comp_def, id, Bool.decide_eq_false, Bool.decide_eq_true]
    unfold b_law_12
    rw [sSeq_ev, sFor_of hit, e, seqD_nx]
    exact l19_f ns h h' w' _ _ _ _ _ _ _ _ _

end Z

open PySem PySem.W PySem.Calls PyProof.Rows
theorem PySem.Challenge.cw_crosssums_k19_whole_cuts_holds : PySem.Challenge.rw_crosssums_k19_whole_cuts.Holds := by
  w_on; o_law
  refine HandSHeadRun.head_any (r := OpenLaw.row PySem.Challenge.rw_crosssums_k19_whole_cuts) (q := view (OpenLaw.row PySem.Challenge.rw_crosssums_k19_whole_cuts).prog [21]) (H := Z.zHk) (ob := Z.zOb) (M := 3000) (loose := Z.zLoose) (d := HandSHeadRun.topDef (OpenLaw.row PySem.Challenge.rw_crosssums_k19_whole_cuts).prog 21) (kwd := []) Z.zOb_eq
    (by kernel_rfl) (fun s => by kernel_rfl) Z.zRun (by kernel_rfl) (by kernel_rfl) (by kernel_rfl) (by rfl) (by first | assumption | decide +kernel) (by decide +kernel) ⟨rfl, rfl, rfl, rfl, rfl, by decide +kernel⟩ ?hw ?hc
  case hw => w_witness2
  case hc =>
    refine Z.walk_Z (l := PySem.Challenge.rw_crosssums_k19_whole_cuts) (k := 24) (fz := Z.f_law) rfl (by kernel_rfl) ⟨rfl, by decide, by decide⟩ ?F Z.f_law_true
    intro w mg fa h Y G hmg0
    obtain ⟨K, KX, c⟩ := Y
    have hmg : mg ("law" : PySem.Str) = some (.ref fa) := by
      have e : (HandSHeadRun.topDef (OpenLaw.row PySem.Challenge.rw_crosssums_k19_whole_cuts).prog 21).name = ("law" : PySem.Str) := by kernel_rfl
      rw [← e]
      exact hmg0
    obtain ⟨fd, hb, hF⟩ := Z.zFacts (P := (PySem.Challenge.rw_crosssums_k19_whole_cuts).prog) (w := w) KX G hmg c
    exact ⟨K, Z.zCls K, fd, KX, hb, hF⟩

