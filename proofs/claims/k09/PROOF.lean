import PyProof.Rows.All
import Wide.All
import OpenK.AllK
import Wide.FinOn
import HandS.ForMost
import HandS.ForExc
import HandS.IsInst
import HandS.Style
import HandS.Deep
import HandS.Zip
import HandS.TupAny
import HandS.Conv
import HandS.Flow
import HandS.Text
import HandS.Remove
import HandS.CallSlots
import KE.SortData
import KE.DataCmp
import HandS.Head0
import HandS.Head1
import HandS.Head2
import HandS.HeadEnd
import HandS.HeadHook1
import HandS.TupSets
import KE.KeyNested
import KE.KDictKeyed
import HandS.ExcIs
import HandS.SetFor
import HandS.Strs
import KE.DataFind
import OpenK.KOps
import PySem.Challenge.RW_crosssums_k09_whole_ledgers
set_option Elab.async false
set_option linter.all false
set_option maxRecDepth 100000
/-! # Z: a small certified language of pure Python data, over the hand layer -/
namespace Z
open PySem PySem.Spec PyProof.Rows L2

/-! ## data at a frozen part F of the abstract heap -/
mutual
def Dq (F : Hp) : PyData → V → Prop
  | .none, v => v = .non
  | .bool b, v => v = .bl b
  | .int i, v => v = .int i
  | .str x, v => v = .str x
  | .list ds, v => ∃ a vs, v = .ref a ∧ F a = some (.lst vs) ∧ DqL F ds vs
  | .tuple ds, v => ∃ a vs, v = .ref a ∧ F a = some (.tup vs) ∧ DqL F ds vs
  | .dict _, _ => False
def DqL (F : Hp) : List PyData → List V → Prop
  | [], vs => vs = []
  | d :: ds, vs => ∃ u us, vs = u :: us ∧ Dq F d u ∧ DqL F ds us
end
/-- more is frozen -/
def Sub (F F' : Hp) : Prop := ∀ a o, F a = some o → F' a = some o
theorem Sub.refl (F : Hp) : Sub F F := fun _ _ h => h
theorem Sub.trans {F G H : Hp} (a : Sub F G) (b : Sub G H) : Sub F H := fun x o h => b x o (a x o h)
mutual
theorem Dq.mono {F F' : Hp} (s : Sub F F') : ∀ (d : PyData) (v : V), Dq F d v → Dq F' d v
  | .none, _, h => by simpa [Dq] using h
  | .bool _, _, h => by simpa [Dq] using h
  | .int _, _, h => by simpa [Dq] using h
  | .str _, _, h => by simpa [Dq] using h
  | .list ds, v, h => by
    simp only [Dq] at h ⊢
    obtain ⟨a, vs, e, f, q⟩ := h
    exact ⟨a, vs, e, s _ _ f, DqL.mono s ds vs q⟩
  | .tuple ds, v, h => by
    simp only [Dq] at h ⊢
    obtain ⟨a, vs, e, f, q⟩ := h
    exact ⟨a, vs, e, s _ _ f, DqL.mono s ds vs q⟩
  | .dict _, _, h => by simpa [Dq] using h
theorem DqL.mono {F F' : Hp} (s : Sub F F') : ∀ (ds : List PyData) (vs : List V), DqL F ds vs → DqL F' ds vs
  | [], _, h => by simpa [DqL] using h
  | d :: ds, vs, h => by
    simp only [DqL] at h ⊢
    obtain ⟨u, us, e, q, r⟩ := h
    exact ⟨u, us, e, Dq.mono s d u q, DqL.mono s ds us r⟩
end
mutual
theorem Dq.dp {K : PySem.W.Frag} {F H : Hp} (s : Sub F H) : ∀ (d : PyData) (v : V), Dq F d v → Dp K H v d
  | .none, _, h => by
    simp only [Dq] at h; subst h; exact .non
  | .bool _, _, h => by
    simp only [Dq] at h; subst h; exact .bl _
  | .int _, _, h => by
    simp only [Dq] at h; subst h; exact .int _
  | .str _, _, h => by
    simp only [Dq] at h; subst h; exact .str _
  | .list ds, v, h => by
    simp only [Dq] at h
    obtain ⟨a, vs, e, f, q⟩ := h
    subst e
    exact .lst (SqL.of (s _ _ f)) (DqL.dp s ds vs q)
  | .tuple ds, v, h => by
    simp only [Dq] at h
    obtain ⟨a, vs, e, f, q⟩ := h
    subst e
    exact .tup (SqT.of (s _ _ f)) (DqL.dp s ds vs q)
  | .dict _, _, h => by simp [Dq] at h
theorem DqL.dp {K : PySem.W.Frag} {F H : Hp} (s : Sub F H) : ∀ (ds : List PyData) (vs : List V), DqL F ds vs → DpAll K H vs ds
  | [], _, h => by
    simp only [DqL] at h; subst h; exact .nil
  | d :: ds, vs, h => by
    simp only [DqL] at h
    obtain ⟨u, us, e, q, r⟩ := h
    subst e
    exact .cons (Dq.dp s d u q) (DqL.dp s ds us r)
end
section
variable {F : Hp}
theorem DqL.nil : DqL F [] [] := by simp [DqL]
theorem DqL.cons {d : PyData} {ds : List PyData} {v : V} {vs : List V} (h : Dq F d v) (t : DqL F ds vs) : DqL F (d :: ds) (v :: vs) := by
  simp only [DqL]
  exact ⟨v, vs, rfl, h, t⟩
theorem DqL.uncons {d : PyData} {ds : List PyData} {vs : List V} (h : DqL F (d :: ds) vs) : ∃ u us, vs = u :: us ∧ Dq F d u ∧ DqL F ds us := by
  simpa only [DqL] using h
theorem DqL.unnil {vs : List V} (h : DqL F [] vs) : vs = [] := by simpa only [DqL] using h
theorem DqL.len : ∀ {ds : List PyData} {vs : List V}, DqL F ds vs → vs.length = ds.length
  | [], _, h => by rw [h.unnil]; rfl
  | d :: ds, _, h => by
    obtain ⟨u, us, e, _, r⟩ := h.uncons
    rw [e, List.length_cons, List.length_cons, r.len]
theorem DqL.get : ∀ {ds : List PyData} {vs : List V} {i : Nat} {d : PyData}, DqL F ds vs → ds[i]? = some d → ∃ v, vs[i]? = some v ∧ Dq F d v
  | [], _, _, _, _, e => by simp at e
  | d :: ds, _, 0, x, h, e => by
    obtain ⟨u, us, rfl, q, _⟩ := h.uncons
    simp at e; subst e
    exact ⟨u, rfl, q⟩
  | d :: ds, _, i + 1, x, h, e => by
    obtain ⟨u, us, rfl, _, r⟩ := h.uncons
    obtain ⟨v, e1, q⟩ := DqL.get (i := i) r (by simpa using e)
    exact ⟨v, by simpa using e1, q⟩
theorem DqL.get' : ∀ {ds : List PyData} {vs : List V} {i : Nat} {v : V}, DqL F ds vs → vs[i]? = some v → ∃ d, ds[i]? = some d ∧ Dq F d v := fun {ds vs i v} h e => by
  have hl := h.len
  have hi : i < vs.length := (List.getElem?_eq_some_iff.mp e).1
  have hj : i < ds.length := by omega
  obtain ⟨v', e1, q⟩ := h.get (List.getElem?_eq_getElem hj)
  rw [e] at e1
  cases e1
  exact ⟨_, List.getElem?_eq_getElem hj, q⟩
theorem DqL.append : ∀ {ds es : List PyData} {vs us : List V}, DqL F ds vs → DqL F es us → DqL F (ds ++ es) (vs ++ us)
  | [], _, _, _, h, t => by rw [h.unnil]; exact t
  | d :: ds, _, _, _, h, t => by
    obtain ⟨u, us, rfl, q, r⟩ := h.uncons
    exact .cons q (r.append t)
theorem DqL.take : ∀ {ds : List PyData} {vs : List V} (n : Nat), DqL F ds vs → DqL F (ds.take n) (vs.take n)
  | _, _, 0, _ => by simpa using DqL.nil
  | [], _, n + 1, h => by rw [h.unnil]; simpa using DqL.nil
  | d :: ds, _, n + 1, h => by
    obtain ⟨u, us, rfl, q, r⟩ := h.uncons
    exact .cons q (r.take n)
theorem DqL.drop : ∀ {ds : List PyData} {vs : List V} (n : Nat), DqL F ds vs → DqL F (ds.drop n) (vs.drop n)
  | _, _, 0, h => by simpa using h
  | [], _, n + 1, h => by rw [h.unnil]; simpa using DqL.nil
  | d :: ds, _, n + 1, h => by
    obtain ⟨u, us, rfl, q, r⟩ := h.uncons
    simpa using r.drop n
theorem DqL.set {d : PyData} {v : V} (hd : Dq F d v) : ∀ {ds : List PyData} {vs : List V} (n : Nat), DqL F ds vs → DqL F (ds.set n d) (vs.set n v)
  | [], _, n, h => by rw [h.unnil]; simpa using DqL.nil
  | e :: ds, _, 0, h => by
    obtain ⟨u, us, rfl, q, r⟩ := h.uncons
    exact .cons hd r
  | e :: ds, _, n + 1, h => by
    obtain ⟨u, us, rfl, q, r⟩ := h.uncons
    exact .cons q (r.set hd n)
theorem DqL.reverse : ∀ {ds : List PyData} {vs : List V}, DqL F ds vs → DqL F ds.reverse vs.reverse
  | [], _, h => by rw [h.unnil]; simpa using DqL.nil
  | d :: ds, _, h => by
    obtain ⟨u, us, rfl, q, r⟩ := h.uncons
    rw [List.reverse_cons, List.reverse_cons]
    exact r.reverse.append (.cons q .nil)
theorem DqL.eraseIdx : ∀ {ds : List PyData} {vs : List V} (n : Nat), DqL F ds vs → DqL F (ds.eraseIdx n) (vs.eraseIdx n)
  | [], _, n, h => by rw [h.unnil]; simpa using DqL.nil
  | d :: ds, _, 0, h => by
    obtain ⟨u, us, rfl, q, r⟩ := h.uncons
    simpa using r
  | d :: ds, _, n + 1, h => by
    obtain ⟨u, us, rfl, q, r⟩ := h.uncons
    exact .cons q (r.eraseIdx n)
/-! ints in data -/
theorem DqL.ints : ∀ {ns : List Int} {vs : List V}, DqL F (ns.map PyData.int) vs → vs = ns.map V.int
  | [], _, h => by simpa using h.unnil
  | n :: ns, _, h => by
    obtain ⟨u, us, rfl, q, r⟩ := (show DqL F (PyData.int n :: ns.map PyData.int) _ from h).uncons
    simp only [Dq] at q
    subst q
    rw [r.ints]; rfl
theorem DqL.of_ints : ∀ (ns : List Int), DqL F (ns.map PyData.int) (ns.map V.int)
  | [] => .nil
  | n :: ns => .cons (by simp [Dq]) (DqL.of_ints ns)
theorem DqL.bls : ∀ {ns : List Bool} {vs : List V}, DqL F (ns.map PyData.bool) vs → vs = ns.map V.bl
  | [], _, h => by simpa using h.unnil
  | n :: ns, _, h => by
    obtain ⟨u, us, rfl, q, r⟩ := (show DqL F (PyData.bool n :: ns.map PyData.bool) _ from h).uncons
    simp only [Dq] at q
    subst q
    rw [r.bls]; rfl
theorem DqL.strs : ∀ {ns : List Str} {vs : List V}, DqL F (ns.map PyData.str) vs → vs = ns.map V.str
  | [], _, h => by simpa using h.unnil
  | n :: ns, _, h => by
    obtain ⟨u, us, rfl, q, r⟩ := (show DqL F (PyData.str n :: ns.map PyData.str) _ from h).uncons
    simp only [Dq] at q
    subst q
    rw [r.strs]; rfl
end
/-- the ints of data, if all are -/
def ints? : List PyData → Option (List Int)
  | [] => some []
  | .int i :: r => (ints? r).map (i :: ·)
  | _ => none
theorem ints?_eq : ∀ {ds : List PyData} {ns : List Int}, ints? ds = some ns → ds = ns.map PyData.int
  | [], ns, h => by simp [ints?] at h; subst h; rfl
  | .int i :: r, ns, h => by
    simp only [ints?, Option.map_eq_some_iff] at h
    obtain ⟨ms, e, rfl⟩ := h
    rw [ints?_eq e]; rfl
  | .none :: _, _, h => by simp [ints?] at h
  | .bool _ :: _, _, h => by simp [ints?] at h
  | .str _ :: _, _, h => by simp [ints?] at h
  | .list _ :: _, _, h => by simp [ints?] at h
  | .tuple _ :: _, _, h => by simp [ints?] at h
  | .dict _ :: _, _, h => by simp [ints?] at h
theorem ints?_map : ∀ ns : List Int, ints? (ns.map PyData.int) = some ns
  | [] => rfl
  | n :: ns => by
    show (ints? (ns.map PyData.int)).map (n :: ·) = _
    rw [ints?_map ns]; rfl
def bools? : List PyData → Option (List Bool)
  | [] => some []
  | .bool i :: r => (bools? r).map (i :: ·)
  | _ => none
theorem bools?_eq : ∀ {ds : List PyData} {ns : List Bool}, bools? ds = some ns → ds = ns.map PyData.bool
  | [], ns, h => by simp [bools?] at h; subst h; rfl
  | .bool i :: r, ns, h => by
    simp only [bools?, Option.map_eq_some_iff] at h
    obtain ⟨ms, e, rfl⟩ := h
    rw [bools?_eq e]; rfl
  | .none :: _, _, h => by simp [bools?] at h
  | .int _ :: _, _, h => by simp [bools?] at h
  | .str _ :: _, _, h => by simp [bools?] at h
  | .list _ :: _, _, h => by simp [bools?] at h
  | .tuple _ :: _, _, h => by simp [bools?] at h
  | .dict _ :: _, _, h => by simp [bools?] at h
theorem bools?_map : ∀ ns : List Bool, bools? (ns.map PyData.bool) = some ns
  | [] => rfl
  | n :: ns => by
    show (bools? (ns.map PyData.bool)).map (n :: ·) = _
    rw [bools?_map ns]; rfl

/-! ## values, results -/
/-- a value: data; an exception of the n-th class, held; the n-th thing of the world; the script; any other thing -/
inductive D where
  | p (d : PyData) | exc (n : Nat) | obj (n : Nat) | scr (ns : List Int) | opq
inductive Res (W : Type) (α : Type) where
  | ok (a : α) (w : W) | exc (n : Nat) (w : W) | bad
/-- a slot: nothing, a value, a list of one's own, a list of lists of one's own -/
inductive Sl where
  | no | v (d : D) | own (xs : List PyData) | own2 (xss : List (List PyData))
abbrev Ev := List Sl

/-! ## the world that a def may change: by a key (its addresses) -/
structure WD (W : Type) where
  Key : Type
  rel : Key → W → Hp → Hp → Prop
  fp : Key → Addr → Prop
  hd : Key → Nat → Option Addr
  stab : ∀ k w F F' H H', rel k w F H → Sub F F' → (∀ a, fp k a → H' a = H a) → rel k w F' H'
/-- no world -/
def W0 : WD Unit where
  Key := Unit
  rel := fun _ _ _ _ => True
  fp := fun _ _ => False
  hd := fun _ _ => none
  stab := fun _ _ _ _ _ _ _ _ _ => trivial

/-- an exception object of the class C at a, held -/
def ExZ (C a : Addr) : HO := .ext fun h => ∃ (oe : Obj) (vs : Array Value), h.get? a = some oe ∧ Zc (.ref C) none oe ∧ oe.data = .fields vs

/-- where one stands -/
structure Cur {W : Type} (wd : WD W) where
  k : wd.Key
  F : Hp
  w : W
  H : Hp
section
variable {W : Type} {wd : WD W}
structure Ok (c : Cur wd) : Prop where
  fh : Sub c.F c.H
  wr : wd.rel c.k c.w c.F c.H
  wf : ∀ a, wd.fp c.k a → c.F a = none ∧ c.H a ≠ none
/-- from c one came to c' -/
structure Bs (c c' : Cur wd) : Prop where
  ok : Ok c'
  ff : Sub c.F c'.F
  hh : ∀ a o, ¬ wd.fp c.k a → c.H a = some o → c'.H a = some o
  fn : ∀ a, c'.F a ≠ none → c.F a ≠ none ∨ c.H a = none
  kh : ∀ n a, wd.hd c.k n = some a → wd.hd c'.k n = some a
  kf : ∀ a, wd.fp c'.k a → wd.fp c.k a ∨ c.H a = none
  kg : ∀ a, wd.fp c.k a → wd.fp c'.k a
theorem Bs.refl {c : Cur wd} (h : Ok c) : Bs c c := ⟨h, Sub.refl _, fun _ _ _ h => h, fun _ h => .inl h, fun _ _ h => h, fun _ h => .inl h, fun _ h => h⟩
theorem none_or {α : Type} (o : Option α) : o = none ∨ ∃ x, o = some x := by
  cases o with
  | none => exact .inl rfl
  | some x => exact .inr ⟨x, rfl⟩
theorem Bs.trans {c c1 c2 : Cur wd} (o : Ok c) (a : Bs c c1) (b : Bs c1 c2) : Bs c c2 where
  ok := b.ok
  ff := a.ff.trans b.ff
  hh := fun x u n h => by
    refine b.hh x u (fun z => ?_) (a.hh x u n h)
    rcases a.kf x z with z | z
    · exact n z
    · rw [h] at z; cases z
  fn := fun x h => by
    rcases b.fn x h with z | z
    · exact a.fn x z
    · rcases none_or (c.H x) with q | ⟨u, q⟩
      · exact .inr q
      · by_cases hx : wd.fp c.k x
        · exact absurd z (a.ok.wf x (a.kg x hx)).2
        · rw [a.hh x u hx q] at z; cases z
  kh := fun n x h => b.kh n x (a.kh n x h)
  kf := fun x h => by
    rcases b.kf x h with z | z
    · exact a.kf x z
    · rcases none_or (c.H x) with q | ⟨u, q⟩
      · exact .inr q
      · by_cases hx : wd.fp c.k x
        · exact .inl hx
        · rw [a.hh x u hx q] at z; cases z
  kg := fun x h => b.kg x (a.kg x h)
/-- what a value is -/
def Dv (cls : Nat → Addr) (K : PySem.W.Frag) (c : Cur wd) : D → V → Prop
  | .p d, v => Dq c.F d v
  | .exc n, v => ∃ a, v = .ref a ∧ c.F a = some (ExZ (cls n) a)
  | .obj n, v => ∃ a, v = .ref a ∧ wd.hd c.k n = some a
  | .scr ns, v => ∃ a, v = .ref a ∧ SqL K c.F a (ns.map V.int)
  | .opq, _ => True
theorem sqL_mono {K : PySem.W.Frag} {F F' : Hp} {a : Addr} {xs : List V} (s : Sub F F') (h : SqL K F a xs) : SqL K F' a xs := by
  rcases h with (h | ⟨o, h⟩) | h
  · exact .inl (.inl (s _ _ h))
  · exact .inl (.inr ⟨o, s _ _ h⟩)
  · exact .inr h
theorem Dv.mono {cls : Nat → Addr} {K : PySem.W.Frag} {c c' : Cur wd} (b : Bs c c') : ∀ {d : D} {v : V}, Dv cls K c d v → Dv cls K c' d v
  | .p d, v, h => Dq.mono b.ff d v h
  | .exc n, v, ⟨a, e, h⟩ => ⟨a, e, b.ff _ _ h⟩
  | .obj n, v, ⟨a, e, h⟩ => ⟨a, e, b.kh _ _ h⟩
  | .scr ns, v, ⟨a, e, h⟩ => ⟨a, e, sqL_mono b.ff h⟩
  | .opq, _, _ => trivial
/-- a new frozen object -/
def Cur.put (c : Cur wd) (p : Addr) (o : HO) : Cur wd := { c with F := upd c.F p o, H := upd c.H p o }
/-- a new object, one's own -/
def Cur.lay (c : Cur wd) (p : Addr) (o : HO) : Cur wd := { c with H := upd c.H p o }
theorem sub_upd {F H : Hp} {p : Addr} {o : HO} (s : Sub F H) : Sub (upd F p o) (upd H p o) := fun a u h => by
  by_cases e : a = p
  · subst e; rw [upd_same] at h ⊢; exact h
  · rw [upd_ne e] at h ⊢; exact s _ _ h
theorem sub_new {F : Hp} {p : Addr} {o : HO} (h : F p = none) : Sub F (upd F p o) := fun a u e => by
  rw [upd_ne (ne_of_none e h)]; exact e
theorem Ok.fnone {c : Cur wd} (k : Ok c) {p : Addr} (h : c.H p = none) : c.F p = none := by
  rcases none_or (c.F p) with q | ⟨u, q⟩
  · exact q
  · rw [k.fh _ _ q] at h; cases h
theorem Ok.nofp {c : Cur wd} (k : Ok c) {p : Addr} (h : c.H p = none) : ¬ wd.fp c.k p := fun z => (k.wf p z).2 h
theorem Bs.put {c : Cur wd} (k : Ok c) {p : Addr} (o : HO) (h : c.H p = none) : Bs c (c.put p o) where
  ok := ⟨sub_upd k.fh, wd.stab _ _ _ _ _ _ k.wr (sub_new (k.fnone h)) fun a ha => upd_ne (fun e => k.nofp h (e ▸ ha)), fun a ha => by
    have hne : a ≠ p := fun e => k.nofp h (e ▸ ha)
    show upd c.F p o a = none ∧ upd c.H p o a ≠ none
    rw [upd_ne hne, upd_ne hne]
    exact k.wf a ha⟩
  ff := sub_new (k.fnone h)
  hh := fun a u _ e => by
    show upd c.H p o a = some u
    rw [upd_ne (ne_of_none e h)]; exact e
  fn := fun a ha => by
    by_cases e : a = p
    · subst e; exact .inr h
    · refine .inl fun z => ha ?_
      show upd c.F p o a = none
      rw [upd_ne e]; exact z
  kh := fun _ _ h => h
  kf := fun _ h => .inl h
  kg := fun _ h => h
theorem Bs.lay {c : Cur wd} (k : Ok c) {p : Addr} (o : HO) (h : c.H p = none) : Bs c (c.lay p o) where
  ok := ⟨fun a u e => by
      show upd c.H p o a = some u
      rw [upd_ne (ne_of_none (k.fh _ _ e) h)]; exact k.fh _ _ e, wd.stab _ _ _ _ _ _ k.wr (Sub.refl _) fun a ha => upd_ne (fun e => k.nofp h (e ▸ ha)), fun a ha => by
    have hne : a ≠ p := fun e => k.nofp h (e ▸ ha)
    show c.F a = none ∧ upd c.H p o a ≠ none
    rw [upd_ne hne]
    exact k.wf a ha⟩
  ff := Sub.refl _
  hh := fun a u _ e => by
    show upd c.H p o a = some u
    rw [upd_ne (ne_of_none e h)]; exact e
  fn := fun _ ha => .inl ha
  kh := fun _ _ h => h
  kf := fun _ h => .inl h
  kg := fun _ h => h
end
end Z

set_option Elab.async false
set_option linter.all false
set_option maxRecDepth 100000
/-! # Z2: the slots, readings by functions, expressions -/
namespace Z
open PySem PySem.Spec PyProof.Rows L2

section
variable {W : Type} {wd : WD W}
/-- an address of one's own: not frozen, not the world's, new since the entry -/
def Fre (e c : Cur wd) (a : Addr) : Prop := c.F a = none ∧ ¬ wd.fp c.k a ∧ e.H a = none
def RowsAt (c : Cur wd) (xss : List (List PyData)) (as : List Addr) : Prop :=
  as.length = xss.length ∧ ∀ (j : Nat) b xs, as[j]? = some b → xss[j]? = some xs → ∃ vs, c.H b = some (.lst vs) ∧ DqL c.F xs vs
/-- what a slot says; A: the addresses that it owns -/
def SlI (cls : Nat → Addr) (K : PySem.W.Frag) (c : Cur wd) (A : List Addr) : Sl → Option (Option V) → Prop
  | .no, _ => A = []
  | .v d, o => A = [] ∧ ∃ u, o = some (some u) ∧ Dv cls K c d u
  | .own xs, o => ∃ a vs, A = [a] ∧ o = some (some (.ref a)) ∧ c.H a = some (.lst vs) ∧ DqL c.F xs vs
  | .own2 xss, o => ∃ a as, A = a :: as ∧ o = some (some (.ref a)) ∧ c.H a = some (.lst (as.map V.ref)) ∧ RowsAt c xss as
structure Rz (cls : Nat → Addr) (K : PySem.W.Frag) (e c : Cur wd) (δ : Ev) (σ : L2.St) : Prop where
  bs : Bs e c
  len : δ.length = σ.length
  ex : ∃ o : Nat → List Addr, (∀ i s, δ[i]? = some s → SlI cls K c (o i) s σ[i]?) ∧ (∀ i, δ[i]? = none → o i = []) ∧ (∀ i j a, a ∈ o i → a ∈ o j → i = j) ∧
    (∀ i, (o i).Nodup) ∧ ∀ i a, a ∈ o i → Fre e c a ∧ c.H a ≠ none
variable {cls : Nat → Addr} {K : PySem.W.Frag} {e c c' : Cur wd} {δ : Ev} {σ : L2.St}
theorem Fre.step (b : Bs c c') {a : Addr} (f : Fre e c a) (h : c.H a ≠ none) : Fre e c' a ∧ c'.H a = c.H a := by
  obtain ⟨f1, f2, f3⟩ := f
  obtain ⟨u, hu⟩ := (none_or (c.H a)).resolve_left h
  refine ⟨⟨?_, fun z => ?_, f3⟩, (b.hh a u f2 hu).trans hu.symm⟩
  · rcases none_or (c'.F a) with q | ⟨v, q⟩
    · exact q
    · rcases b.fn a (by rw [q]; exact fun z => by cases z) with z | z
      · exact absurd f1 z
      · exact absurd z h
  · rcases b.kf a z with z | z
    · exact f2 z
    · exact h z
theorem SlI.step (b : Bs c c') {A : List Addr} (hf : ∀ a ∈ A, c'.H a = c.H a) : ∀ {s : Sl} {o : Option (Option V)}, SlI cls K c A s o → SlI cls K c' A s o
  | .no, _, h => h
  | .v d, _, ⟨h, u, e1, q⟩ => ⟨h, u, e1, q.mono b⟩
  | .own xs, _, ⟨a, vs, h, e1, e2, q⟩ => by
    refine ⟨a, vs, h, e1, ?_, DqL.mono b.ff _ _ q⟩
    rw [hf a (by rw [h]; exact List.mem_cons_self)]; exact e2
  | .own2 xss, _, ⟨a, as, h, e1, e2, ⟨l, q⟩⟩ => by
    refine ⟨a, as, h, e1, ?_, l, fun j x xs h1 h2 => ?_⟩
    · rw [hf a (by rw [h]; exact List.mem_cons_self)]; exact e2
    · obtain ⟨vs, g1, g2⟩ := q j x xs h1 h2
      refine ⟨vs, ?_, DqL.mono b.ff _ _ g2⟩
      rw [hf x (by rw [h]; exact List.mem_cons_of_mem _ (List.mem_of_getElem? h1))]; exact g1
theorem Rz.ok (r : Rz cls K e c δ σ) : Ok c := r.bs.ok
theorem Rz.step (ke : Ok e) (r : Rz cls K e c δ σ) (b : Bs c c') : Rz cls K e c' δ σ := by
  obtain ⟨o, h1, h2, h3, h4, h5⟩ := r.ex
  refine ⟨r.bs.trans ke b, r.len, o, fun i s hs => (h1 i s hs).step b fun a ha => ((h5 i a ha).1.step b (h5 i a ha).2).2, h2, h3, h4, fun i a ha => ?_⟩
  obtain ⟨f1, f2⟩ := (h5 i a ha).1.step b (h5 i a ha).2
  exact ⟨f1, by rw [f2]; exact (h5 i a ha).2⟩
/-- at the entry: the slots hold values alone -/
theorem Rz.of_vals (ke : Ok e) (hl : δ.length = σ.length) (h : ∀ (i : Nat) (s : Sl), δ[i]? = some s → s = .no ∨ ∃ d u, s = .v d ∧ σ[i]? = some (some u) ∧ Dv cls K e d u) : Rz cls K e e δ σ :=
  ⟨Bs.refl ke, hl, fun _ => [], fun i s hs => by
    rcases h i s hs with rfl | ⟨d, u, rfl, e1, q⟩
    · rfl
    · exact ⟨rfl, u, e1, q⟩, fun _ _ => rfl, fun _ _ _ h _ => (by cases h), fun _ => List.nodup_nil, fun _ _ h => (by cases h)⟩
/-- a value is put into a slot -/
theorem Rz.put {i : Nat} {d : D} {u : V} (r : Rz cls K e c δ σ) (hi : i < δ.length) (q : Dv cls K c d u) : Rz cls K e c (δ.set i (.v d)) (σ.set i (some u)) := by
  obtain ⟨o, h1, h2, h3, h4, h5⟩ := r.ex
  have hl := r.len
  refine ⟨r.bs, by simpa using hl, fun j => if j = i then [] else o j, fun j s hs => ?_, fun j hj => ?_, fun j k a hj hk => ?_, fun j => ?_, fun j a ha => ?_⟩
  · by_cases e1 : j = i
    · subst e1
      rw [List.getElem?_set_self hi] at hs
      cases hs
      simp only [if_pos]
      exact ⟨rfl, u, by rw [List.getElem?_set_self (by omega)], q⟩
    · simp only [if_neg e1]
      rw [List.getElem?_set_ne (Ne.symm e1)] at hs ⊢
      exact h1 j s hs
  · by_cases e1 : j = i
    · simp only [if_pos e1]
    · simp only [if_neg e1]
      rw [List.getElem?_set_ne (Ne.symm e1)] at hj
      exact h2 j hj
  · dsimp only at hj hk
    by_cases e1 : j = i
    · rw [if_pos e1] at hj; cases hj
    · by_cases e2 : k = i
      · rw [if_pos e2] at hk; cases hk
      · rw [if_neg e1] at hj
        rw [if_neg e2] at hk
        exact h3 j k a hj hk
  · dsimp only
    by_cases e1 : j = i
    · rw [if_pos e1]; exact List.nodup_nil
    · rw [if_neg e1]; exact h4 j
  · dsimp only at ha
    by_cases e1 : j = i
    · rw [if_pos e1] at ha; cases ha
    · rw [if_neg e1] at ha; exact h5 j a ha
/-- a slot is forgotten -/
theorem Rz.drop {i : Nat} (r : Rz cls K e c δ σ) (o' : Option V) : Rz cls K e c (δ.set i .no) (σ.set i o') := by
  obtain ⟨o, h1, h2, h3, h4, h5⟩ := r.ex
  have hl := r.len
  refine ⟨r.bs, by simpa using hl, fun j => if j = i then [] else o j, fun j s hs => ?_, fun j hj => ?_, fun j k a hj hk => ?_, fun j => ?_, fun j a ha => ?_⟩
  · by_cases e1 : j = i
    · subst e1
      have hi : j < δ.length := by
        have := (List.getElem?_eq_some_iff.mp hs).1
        simpa using this
      rw [List.getElem?_set_self hi] at hs
      cases hs
      simp only [if_pos]
      rfl
    · simp only [if_neg e1]
      rw [List.getElem?_set_ne (Ne.symm e1)] at hs ⊢
      exact h1 j s hs
  · by_cases e1 : j = i
    · simp only [if_pos e1]
    · simp only [if_neg e1]
      rw [List.getElem?_set_ne (Ne.symm e1)] at hj
      exact h2 j hj
  · dsimp only at hj hk
    by_cases e1 : j = i
    · rw [if_pos e1] at hj; cases hj
    · by_cases e2 : k = i
      · rw [if_pos e2] at hk; cases hk
      · rw [if_neg e1] at hj
        rw [if_neg e2] at hk
        exact h3 j k a hj hk
  · dsimp only
    by_cases e1 : j = i
    · rw [if_pos e1]; exact List.nodup_nil
    · rw [if_neg e1]; exact h4 j
  · dsimp only at ha
    by_cases e1 : j = i
    · rw [if_pos e1] at ha; cases ha
    · rw [if_neg e1] at ha; exact h5 j a ha
end

/-! ## readings by functions -/
abbrev XF (W : Type) := Ev → W → Res W D
def Res.bind {W α β : Type} (r : Res W α) (f : α → W → Res W β) : Res W β := match r with
  | .ok a w => f a w
  | .exc n w => .exc n w
  | .bad => .bad
section
variable {W : Type} {wd : WD W}
/-- what is wanted behind an expression -/
def after (cls : Nat → Addr) (K : PySem.W.Frag) (c : Cur wd) (σ : L2.St) (Wx : WX) (r : Res W D) (Q : VK) : Prop := match r with
  | .ok d w' => ∀ u c', c'.w = w' → Bs c c' → Dv cls K c' d u → Q u c'.H
  | .exc n w' => ∀ c', c'.w = w' → Bs c c' → Wx (.ref (cls n)) none σ c'.H
  | .bad => False
def tS (cls : Nat → Addr) (K : PySem.W.Frag) (e : Cur wd) (Wx : WX) (f : XF W) : TE := fun σ H Q => ∃ c δ, c.H = H ∧ Rz cls K e c δ σ ∧ after cls K c σ Wx (f δ c.w) Q
/-- several values -/
def DvL (cls : Nat → Addr) (K : PySem.W.Frag) (c : Cur wd) : List D → List V → Prop
  | [], vs => vs = []
  | d :: ds, vs => ∃ u us, vs = u :: us ∧ Dv cls K c d u ∧ DvL cls K c ds us
def afterL (cls : Nat → Addr) (K : PySem.W.Frag) (c : Cur wd) (σ : L2.St) (Wx : WX) (r : Res W (List D)) (Q : List V → Hp → Prop) : Prop := match r with
  | .ok ds w' => ∀ us c', c'.w = w' → Bs c c' → DvL cls K c' ds us → Q us c'.H
  | .exc n w' => ∀ c', c'.w = w' → Bs c c' → Wx (.ref (cls n)) none σ c'.H
  | .bad => False
def tSL (cls : Nat → Addr) (K : PySem.W.Frag) (e : Cur wd) (Wx : WX) (f : Ev → W → Res W (List D)) : TA := fun σ H Q => ∃ c δ, c.H = H ∧ Rz cls K e c δ σ ∧ afterL cls K c σ Wx (f δ c.w) Q
def afterB (cls : Nat → Addr) (c : Cur wd) (σ : L2.St) (Wx : WX) (r : Res W Bool) (Q : Bool → Hp → Prop) : Prop := match r with
  | .ok b w' => ∀ c', c'.w = w' → Bs c c' → Q b c'.H
  | .exc n w' => ∀ c', c'.w = w' → Bs c c' → Wx (.ref (cls n)) none σ c'.H
  | .bad => False
def tSB (cls : Nat → Addr) (K : PySem.W.Frag) (e : Cur wd) (Wx : WX) (f : Ev → W → Res W Bool) : TT := fun σ H Q => ∃ c δ, c.H = H ∧ Rz cls K e c δ σ ∧ afterB cls c σ Wx (f δ c.w) Q
end
theorem pe_imp {X : Cx} {ex : Expr} {t t' : TE} (h : PE X ex t) (i : ∀ σ H Q, t' σ H Q → t σ H Q) : PE X ex t' := ⟨fun pins s σ H Q I q => h.run pins s σ H Q I (i σ H Q q)⟩
theorem pt_imp {X : Cx} {ex : Expr} {t t' : TT} (h : PT X ex t) (i : ∀ σ H Q, t' σ H Q → t σ H Q) : PT X ex t' := ⟨fun pins s σ H Q I q => h.run pins s σ H Q I (i σ H Q q)⟩
theorem pw_imp {X : Cx} {ex : Expr} {t t' : TT} (h : PW X ex t) (i : ∀ σ H Q, t' σ H Q → t σ H Q) : PW X ex t' := ⟨fun wh pins s σ H Q I q => h.run wh pins s σ H Q I (i σ H Q q)⟩
theorem pa_imp {X : Cx} {ex : List Expr} {t t' : TA} (h : PA X ex t) (i : ∀ σ H Q, t' σ H Q → t σ H Q) : PA X ex t' := ⟨fun pos pins s σ H Q I q => h.run pos pins s σ H Q I (i σ H Q q)⟩
theorem opR_imp {X : Cx} {f : Value → Value → Sem Value} {r r' : R2} (h : OpR X f r) (i : ∀ x y H Q, r' x y H Q → r x y H Q) : OpR X f r' := fun pins s σ H x y v u Q I rx ry q => h pins s σ H x y v u Q I rx ry (i x y H Q q)
theorem ixR_imp {X : Cx} {r r' : R2} (h : IxR X r) (i : ∀ x y H Q, r' x y H Q → r x y H Q) : IxR X r' := by
  intro b pins s σ H x y v u Q I rx ry hs q
  exact h b pins s σ H x y v u Q I rx ry hs (i _ _ _ _ q)
theorem callR_imp {X : Cx} {f : Value} {r r' : List V → Hp → VK → Prop} (h : CallR X f r) (i : ∀ x H Q, r' x H Q → r x H Q) : CallR X f r' := fun pins s σ H xs us Q I ru q => h pins s σ H xs us Q I ru (i xs H Q q)

section
variable {W : Type} {wd : WD W} {cls : Nat → Addr} {K : PySem.W.Frag} {e c c' : Cur wd} {δ : Ev} {σ : L2.St} {Wx : WX}
theorem DvL.mono (b : Bs c c') : ∀ {ds : List D} {vs : List V}, DvL cls K c ds vs → DvL cls K c' ds vs
  | [], _, h => h
  | _ :: _, _, ⟨u, us, h, q, t⟩ => ⟨u, us, h, q.mono b, DvL.mono b t⟩
/-- the walk of a part: its reading, then what goes on -/
theorem after_bind {r : Res W D} {f : D → W → Res W D} {Q : VK} (k : Ok c) (h : after cls K c σ Wx (r.bind f) Q) :
    after cls K c σ Wx r fun u H' => ∃ d c', c'.H = H' ∧ Bs c c' ∧ Dv cls K c' d u ∧ after cls K c' σ Wx (f d c'.w) Q := by
  cases r with
  | bad => exact h
  | exc n w' => exact h
  | ok d w' =>
    intro u c' hw b q
    refine ⟨d, c', rfl, b, q, ?_⟩
    have h' : after cls K c σ Wx (f d w') Q := h
    rw [hw]
    cases z : f d w' with
    | bad => rw [z] at h'; exact h'
    | exc n w2 => rw [z] at h'; exact fun c2 e2 b2 => h' c2 e2 (b.trans k b2)
    | ok d2 w2 => rw [z] at h'; exact fun u2 c2 e2 b2 q2 => h' u2 c2 e2 (b.trans k b2) q2
theorem after_mono {r : Res W D} {Q Q' : VK} (h : after cls K c σ Wx r Q) (i : ∀ u c', Bs c c' → Q u c'.H → Q' u c'.H) : after cls K c σ Wx r Q' := by
  cases r with
  | bad => exact h
  | exc n w' => exact h
  | ok d w' => exact fun u c' hw b q => i u c' b (h u c' hw b q)
theorem afterL_cons {r : Res W D} {f : D → W → Res W (List D)} {Q : List V → Hp → Prop} (k : Ok c) (h : afterL cls K c σ Wx (r.bind f) Q) :
    after cls K c σ Wx r fun u H' => ∃ d c', c'.H = H' ∧ Bs c c' ∧ Dv cls K c' d u ∧ afterL cls K c' σ Wx (f d c'.w) Q := by
  cases r with
  | bad => exact h
  | exc n w' => exact h
  | ok d w' =>
    intro u c' hw b q
    refine ⟨d, c', rfl, b, q, ?_⟩
    have h' : afterL cls K c σ Wx (f d w') Q := h
    rw [hw]
    cases z : f d w' with
    | bad => rw [z] at h'; exact h'
    | exc n w2 => rw [z] at h'; exact fun c2 e2 b2 => h' c2 e2 (b.trans k b2)
    | ok d2 w2 => rw [z] at h'; exact fun u2 c2 e2 b2 q2 => h' u2 c2 e2 (b.trans k b2) q2
theorem afterL_bind {r : Res W (List D)} {f : List D → W → Res W D} {Q : VK} (k : Ok c) (h : after cls K c σ Wx (r.bind f) Q) :
    afterL cls K c σ Wx r fun us H' => ∃ ds c', c'.H = H' ∧ Bs c c' ∧ DvL cls K c' ds us ∧ after cls K c' σ Wx (f ds c'.w) Q := by
  cases r with
  | bad => exact h
  | exc n w' => exact h
  | ok d w' =>
    intro u c' hw b q
    refine ⟨d, c', rfl, b, q, ?_⟩
    have h' : after cls K c σ Wx (f d w') Q := h
    rw [hw]
    cases z : f d w' with
    | bad => rw [z] at h'; exact h'
    | exc n w2 => rw [z] at h'; exact fun c2 e2 b2 => h' c2 e2 (b.trans k b2)
    | ok d2 w2 => rw [z] at h'; exact fun u2 c2 e2 b2 q2 => h' u2 c2 e2 (b.trans k b2) q2
theorem afterB_bind {r : Res W Bool} {f : Bool → W → Res W D} {Q : VK} (k : Ok c) (h : after cls K c σ Wx (r.bind f) Q) :
    afterB cls c σ Wx r fun x H' => ∃ c', c'.H = H' ∧ Bs c c' ∧ after cls K c' σ Wx (f x c'.w) Q := by
  cases r with
  | bad => exact h
  | exc n w' => exact h
  | ok d w' =>
    intro c' hw b
    refine ⟨c', rfl, b, ?_⟩
    have h' : after cls K c σ Wx (f d w') Q := h
    rw [hw]
    cases z : f d w' with
    | bad => rw [z] at h'; exact h'
    | exc n w2 => rw [z] at h'; exact fun c2 e2 b2 => h' c2 e2 (b.trans k b2)
    | ok d2 w2 => rw [z] at h'; exact fun u2 c2 e2 b2 q2 => h' u2 c2 e2 (b.trans k b2) q2
theorem afterB_bindB {r : Res W Bool} {f : Bool → W → Res W Bool} {Q : Bool → Hp → Prop} (k : Ok c) (h : afterB cls c σ Wx (r.bind f) Q) :
    afterB cls c σ Wx r fun x H' => ∃ c', c'.H = H' ∧ Bs c c' ∧ afterB cls c' σ Wx (f x c'.w) Q := by
  cases r with
  | bad => exact h
  | exc n w' => exact h
  | ok d w' =>
    intro c' hw b
    refine ⟨c', rfl, b, ?_⟩
    have h' : afterB cls c σ Wx (f d w') Q := h
    rw [hw]
    cases z : f d w' with
    | bad => rw [z] at h'; exact h'
    | exc n w2 => rw [z] at h'; exact fun c2 e2 b2 => h' c2 e2 (b.trans k b2)
    | ok d2 w2 => rw [z] at h'; exact fun c2 e2 b2 => h' c2 e2 (b.trans k b2)
theorem after_bindB {r : Res W D} {f : D → W → Res W Bool} {Q : Bool → Hp → Prop} (k : Ok c) (h : afterB cls c σ Wx (r.bind f) Q) :
    after cls K c σ Wx r fun u H' => ∃ d c', c'.H = H' ∧ Bs c c' ∧ Dv cls K c' d u ∧ afterB cls c' σ Wx (f d c'.w) Q := by
  cases r with
  | bad => exact h
  | exc n w' => exact h
  | ok d w' =>
    intro u c' hw b q
    refine ⟨d, c', rfl, b, q, ?_⟩
    have h' : afterB cls c σ Wx (f d w') Q := h
    rw [hw]
    cases z : f d w' with
    | bad => rw [z] at h'; exact h'
    | exc n w2 => rw [z] at h'; exact fun c2 e2 b2 => h' c2 e2 (b.trans k b2)
    | ok d2 w2 => rw [z] at h'; exact fun c2 e2 b2 => h' c2 e2 (b.trans k b2)
/-- into a reading by a function -/
theorem tS_mk {f : XF W} {Q : VK} (r : Rz cls K e c δ σ) (h : after cls K c σ Wx (f δ c.w) Q) : tS cls K e Wx f σ c.H Q := ⟨c, δ, rfl, r, h⟩
end

/-! ## names, constants -/
section
variable {X : Cx} {W : Type} {wd : WD W} {cls : Nat → Addr} {e : Cur wd} {Wx : WX} {ex a b : Expr} {pos : Pos}
def xVar (i : Nat) : XF W := fun δ w => match δ[i]? with
  | some (.v d) => .ok d w
  | _ => .bad
theorem s_var {i : Nat} (h : PE X ex (tVar i)) : PE X ex (tS cls X.K e Wx (xVar (W := W) i)) := pe_imp h fun σ H Q ⟨c, δ, eH, r, q⟩ => by
  obtain ⟨o, h1, _⟩ := r.ex
  unfold xVar at q
  cases z : δ[i]? with
  | none => rw [z] at q; exact q.elim
  | some s =>
    rw [z] at q
    cases s with
    | v d =>
      obtain ⟨_, u, e1, q1⟩ := h1 i _ z
      refine ⟨u, e1, ?_⟩
      rw [← eH]
      exact q u c rfl (Bs.refl r.ok) q1
    | no => exact q.elim
    | own _ => exact q.elim
    | own2 _ => exact q.elim
/-- the name in the i-th slot -/
theorem sv (i : Nat) {x : Str} {pos : Pos} (hN : X.N[i]? = some x := by rfl) (hv : Vis X.env.scope x := by first | exact Or.inl rfl | exact Or.inr (Or.inl rfl) | exact Or.inr (Or.inr rfl)) (hd : (x == ("__debug__" : Str)) = false := by decide)
    (hcd : (x == ("__classdict__" : Str)) = false := by decide) : PE X (.Name x pos) (tS cls X.K e Wx (xVar (W := W) i)) := s_var (pe_var hN hv hd hcd)
def xC (d : D) : XF W := fun _ w => .ok d w
theorem s_const {v : V} {d : D} (h : PE X ex (tC v)) (hd : ∀ c : Cur wd, Dv cls X.K c d v) : PE X ex (tS cls X.K e Wx (xC d)) := pe_imp h fun σ H Q ⟨c, δ, eH, r, q⟩ => by
  show Q v H
  rw [← eH]
  exact q v c rfl (Bs.refl r.ok) (hd c)
def xInt (i : Int) : XF W := xC (.p (.int i))
def xBl (b : Bool) : XF W := xC (.p (.bool b))
def xNon : XF W := xC (.p .none)
def xStr (x : Str) : XF W := xC (.p (.str x))
theorem s_int {i : Int} {j : Nat} {pos : Pos} : PE X (.Constant (.int i) j pos) (tS cls X.K e Wx (xInt (W := W) i)) := s_const pe_int fun _ => by show Dq _ _ _; simp [Dq]
theorem s_bl {b : Bool} {j : Nat} {pos : Pos} : PE X (.Constant (.bool b) j pos) (tS cls X.K e Wx (xBl (W := W) b)) := s_const pe_bl fun _ => by show Dq _ _ _; simp [Dq]
theorem s_non {j : Nat} {pos : Pos} : PE X (.Constant .none j pos) (tS cls X.K e Wx (xNon (W := W))) := s_const pe_non fun _ => by show Dq _ _ _; simp [Dq]
theorem s_str {x : Str} {j : Nat} {pos : Pos} : PE X (.Constant (.str x) j pos) (tS cls X.K e Wx (xStr (W := W) x)) := s_const pe_str fun _ => by show Dq _ _ _; simp [Dq]
theorem s_globInt {x : Str} {i : Int} {t : Tok} {pos : Pos} (hm : X.mg x = some (.int i t)) (hg : Gl X x := by rfl) (hd : (x == ("__debug__" : Str)) = false := by decide) : PE X (.Name x pos) (tS cls X.K e Wx (xInt (W := W) i)) :=
  s_const (pe_glob (v := .int i) hg hm ⟨t, rfl⟩ hd) fun _ => by show Dq _ _ _; simp [Dq]
theorem s_globStr {x : Str} {i : Str} {t : Tok} {pos : Pos} (hm : X.mg x = some (.str i t)) (hg : Gl X x := by rfl) (hd : (x == ("__debug__" : Str)) = false := by decide) : PE X (.Name x pos) (tS cls X.K e Wx (xStr (W := W) i)) :=
  s_const (pe_glob (v := .str i) hg hm ⟨t, rfl⟩ hd) fun _ => by show Dq _ _ _; simp [Dq]

/-! ## operations on values -/
/-- a value's new things laid -/
def gives (cls : Nat → Addr) (K : PySem.W.Frag) (c : Cur wd) (d : Option D) (Q : VK) : Prop := ∃ x, d = some x ∧ ∀ u c', c'.w = c.w → Bs c c' → Dv cls K c' x u → Q u c'.H
def rG (cls : Nat → Addr) (K : PySem.W.Frag) (wd : WD W) (g : D → D → Option D) : R2 := fun u v H Q => ∃ (c : Cur wd) (x y : D), c.H = H ∧ Ok c ∧ Dv cls K c x u ∧ Dv cls K c y v ∧ gives cls K c (g x y) Q
def OpG (X : Cx) (cls : Nat → Addr) (wd : WD W) (f : Value → Value → Sem Value) (g : D → D → Option D) : Prop := OpR X f (rG cls X.K wd g)
def opt (o : Option D) (w : W) : Res W D := match o with
  | some d => .ok d w
  | none => .bad
theorem after_opt {K : PySem.W.Frag} {c : Cur wd} {σ : L2.St} {o : Option D} {Q : VK} (h : after cls K c σ Wx (opt o c.w) Q) : gives cls K c o Q := by
  cases o with
  | none => exact h.elim
  | some d => exact ⟨d, rfl, h⟩
def x2 (g : D → D → Option D) (f h : XF W) : XF W := fun δ w => (f δ w).bind fun x w1 => (h δ w1).bind fun y w2 => opt (g x y) w2
theorem after_two {K : PySem.W.Frag} (ke : Ok e) {c : Cur wd} {δ : Ev} {σ : L2.St} {f h : XF W} {k : D → D → W → Res W D} {Q : VK} (r : Rz cls K e c δ σ) (q : after cls K c σ Wx ((f δ c.w).bind fun x w1 => (h δ w1).bind fun y w2 => k x y w2) Q) :
    tS cls K e Wx f σ c.H fun u H1 => tS cls K e Wx h σ H1 fun v H2 => ∃ x y c2, c2.H = H2 ∧ Rz cls K e c2 δ σ ∧ Dv cls K c2 x u ∧ Dv cls K c2 y v ∧ after cls K c2 σ Wx (k x y c2.w) Q := by
  refine tS_mk r (after_mono (after_bind r.ok q) fun u c1 b1 ⟨x, c1', e1, b1', q1, q2⟩ => ?_)
  rw [← e1]
  have r1 := r.step ke b1'
  refine tS_mk r1 (after_mono (after_bind r1.ok q2) fun v c2 b2 ⟨y, c2', e2, b2', q3, q4⟩ => ?_)
  exact ⟨x, y, c2', e2, r1.step ke b2', q1.mono b2', q3, q4⟩
theorem s_bin {op : Operator} {g : D → D → Option D} {f h : XF W} (ke : Ok e) (ho : OpG X cls wd (binaryOp op) g) (ha : PE X a (tS cls X.K e Wx f)) (hb : PE X b (tS cls X.K e Wx h)) : PE X (.BinOp a op b pos) (tS cls X.K e Wx (x2 g f h)) :=
  pe_imp (pe_op ho ha hb) fun σ H Q ⟨c, δ, eH, r, q⟩ => by
    rw [← eH]
    have z := after_two (k := fun x y w => opt (g x y) w) ke r q
    obtain ⟨c0, δ0, e0, r0, q0⟩ := z
    exact ⟨c0, δ0, e0, r0, after_mono q0 fun u c1 _ ⟨c1', δ1, e1, r1, q1⟩ => ⟨c1', δ1, e1, r1, after_mono q1 fun v c2 _ ⟨x, y, c2', e2, r2, q2, q3, q4⟩ => ⟨c2', x, y, e2, r2.ok, q2, q3, after_opt q4⟩⟩⟩
theorem s_cmp {op : CmpOp} {g : D → D → Option D} {f h : XF W} (ke : Ok e) (ho : OpG X cls wd (compareOp op) g) (ha : PE X a (tS cls X.K e Wx f)) (hb : PE X b (tS cls X.K e Wx h)) (hm : behindInMarks op b = false) : PE X (.Compare a [op] [b] pos) (tS cls X.K e Wx (x2 g f h)) :=
  pe_imp (pe_cmpR ho ha hb hm) fun σ H Q ⟨c, δ, eH, r, q⟩ => by
    rw [← eH]
    have z := after_two (k := fun x y w => opt (g x y) w) ke r q
    obtain ⟨c0, δ0, e0, r0, q0⟩ := z
    exact ⟨c0, δ0, e0, r0, after_mono q0 fun u c1 _ ⟨c1', δ1, e1, r1, q1⟩ => ⟨c1', δ1, e1, r1, after_mono q1 fun v c2 _ ⟨x, y, c2', e2, r2, q2, q3, q4⟩ => ⟨c2', x, y, e2, r2.ok, q2, q3, after_opt q4⟩⟩⟩
end
end Z

set_option Elab.async false
set_option linter.all false
set_option maxRecDepth 100000
/-! # Z3: operators, tests, displays, subscripts, built-ins -/
namespace Z
open PySem PySem.Spec PyProof.Rows L2

def lim : Nat := 16777216
theorem lim_eq : lim = sizeLine := by rw [sizeLine_eq]; rfl

section
variable {X : Cx} {W : Type} {wd : WD W} {cls : Nat → Addr} {K : PySem.W.Frag}
/-! ## what an operation lays -/
theorem gives_v {c : Cur wd} {d : D} {v : V} {Q : VK} (h : gives cls K c (some d) Q) (k : Ok c) (q : Dv cls K c d v) : Q v c.H := by
  obtain ⟨x, e, h⟩ := h
  cases e
  exact h v c rfl (Bs.refl k) q
theorem gives_lst {c : Cur wd} {ds : List PyData} {vs : List V} {Q : VK} (h : gives cls K c (some (.p (.list ds))) Q) (k : Ok c) (q : DqL c.F ds vs) : ∀ p, c.H p = none → Q (.ref p) (upd c.H p (.lst vs)) := fun p hp => by
  obtain ⟨x, e, h⟩ := h
  cases e
  have b := Bs.put k (.lst vs) hp
  refine h (.ref p) (c.put p (.lst vs)) rfl b ?_
  show Dq (upd c.F p (.lst vs)) (.list ds) (.ref p)
  simp only [Dq]
  exact ⟨p, vs, rfl, upd_same, DqL.mono b.ff _ _ q⟩
theorem gives_tup {c : Cur wd} {ds : List PyData} {vs : List V} {Q : VK} (h : gives cls K c (some (.p (.tuple ds))) Q) (k : Ok c) (q : DqL c.F ds vs) : ∀ p, c.H p = none → Q (.ref p) (upd c.H p (.tup vs)) := fun p hp => by
  obtain ⟨x, e, h⟩ := h
  cases e
  have b := Bs.put k (.tup vs) hp
  refine h (.ref p) (c.put p (.tup vs)) rfl b ?_
  show Dq (upd c.F p (.tup vs)) (.tuple ds) (.ref p)
  simp only [Dq]
  exact ⟨p, vs, rfl, upd_same, DqL.mono b.ff _ _ q⟩
theorem dv_int {c : Cur wd} {i : Int} {v : V} : Dv cls K c (.p (.int i)) v ↔ v = .int i := by show Dq _ _ _ ↔ _; simp [Dq]
theorem dv_bl {c : Cur wd} {i : Bool} {v : V} : Dv cls K c (.p (.bool i)) v ↔ v = .bl i := by show Dq _ _ _ ↔ _; simp [Dq]
theorem dv_str {c : Cur wd} {i : Str} {v : V} : Dv cls K c (.p (.str i)) v ↔ v = .str i := by show Dq _ _ _ ↔ _; simp [Dq]
theorem dv_non {c : Cur wd} {v : V} : Dv cls K c (.p .none) v ↔ v = .non := by show Dq _ _ _ ↔ _; simp [Dq]
theorem dv_lst {c : Cur wd} {ds : List PyData} {v : V} : Dv cls K c (.p (.list ds)) v ↔ ∃ a vs, v = .ref a ∧ c.F a = some (.lst vs) ∧ DqL c.F ds vs := by show Dq _ _ _ ↔ _; simp [Dq]
theorem dv_tup {c : Cur wd} {ds : List PyData} {v : V} : Dv cls K c (.p (.tuple ds)) v ↔ ∃ a vs, v = .ref a ∧ c.F a = some (.tup vs) ∧ DqL c.F ds vs := by show Dq _ _ _ ↔ _; simp [Dq]

/-! ## arithmetic -/
def gI (C : Int → Int → Bool) (g : Int → Int → Int) : D → D → Option D
  | .p (.int i), .p (.int j) => if C i j = true then some (.p (.int (g i j))) else none
  | _, _ => none
theorem og_I {f : Value → Value → Sem Value} {C : Int → Int → Prop} {Cb : Int → Int → Bool} {g : Int → Int → Int} (h : OpR X f (rI C fun i j => .int (g i j))) (hc : ∀ i j, Cb i j = true → C i j) : OpG X cls wd f (gI Cb g) :=
  opR_imp h fun u v H Q ⟨c, x, y, eH, k, qx, qy, q⟩ => by
    unfold gI at q
    split at q
    · rename_i i j
      obtain rfl := dv_int.mp qx
      obtain rfl := dv_int.mp qy
      by_cases z : Cb i j = true
      · rw [if_pos z] at q
        exact ⟨i, j, rfl, rfl, hc i j z, by rw [← eH]; exact gives_v q k (dv_int.mpr rfl)⟩
      · rw [if_neg z] at q
        obtain ⟨_, e, _⟩ := q
        cases e
    · obtain ⟨_, e, _⟩ := q
      cases e
def gI0 (g : Int → Int → Int) : D → D → Option D
  | .p (.int i), .p (.int j) => some (.p (.int (g i j)))
  | _, _ => none
theorem og_I0 {f : Value → Value → Sem Value} {g : Int → Int → Int} (h : OpR X f (rI0 fun i j => .int (g i j))) : OpG X cls wd f (gI0 g) :=
  opR_imp h fun u v H Q ⟨c, x, y, eH, k, qx, qy, q⟩ => by
    unfold gI0 at q
    split at q
    · rename_i i j
      obtain rfl := dv_int.mp qx
      obtain rfl := dv_int.mp qy
      exact ⟨i, j, rfl, rfl, by rw [← eH]; exact gives_v q k (dv_int.mpr rfl)⟩
    · obtain ⟨_, e, _⟩ := q
      cases e
def gSub : D → D → Option D := gI0 fun i j => i - j
theorem og_sub : OpG X cls wd (binaryOp .Sub) gSub := og_I0 op_sub
def cDiv (i j : Int) : Bool := decide (0 < j) && decide (j < 1073741824)
def gDiv : D → D → Option D := gI cDiv fun i j => i / j
theorem og_div : OpG X cls wd (binaryOp .FloorDiv) gDiv := og_I op_fdiv fun i j h => by simp [cDiv] at h; exact h
def gMod : D → D → Option D := gI (fun _ j => decide (0 < j)) fun i j => i % j
theorem og_mod : OpG X cls wd (binaryOp .Mod) gMod := og_I op_mod fun i j h => by simpa using h
def cPow (i j : Int) : Bool := decide (0 ≤ j) && decide (j ≤ 1000000) && decide (i.natAbs < 2 ^ 64)
def gPow : D → D → Option D := gI cPow fun i j => i ^ j.toNat
theorem og_pow : OpG X cls wd (binaryOp .Pow) gPow := og_I op_pow fun i j h => by
  simp only [cPow, Bool.and_eq_true, decide_eq_true_eq] at h
  exact ⟨h.1.1, h.1.2, h.2⟩
/-! a + b -/
def gAdd : D → D → Option D
  | .p (.int i), .p (.int j) => some (.p (.int (i + j)))
  | .p (.list a), .p (.list b) => if a.length + b.length ≤ lim then some (.p (.list (a ++ b))) else none
  | .p (.tuple a), .p (.tuple b) => if a.length + b.length ≤ lim then some (.p (.tuple (a ++ b))) else none
  | .p (.str a), .p (.str b) => if a.length + b.length ≤ lim then some (.p (.str (a ++ b))) else none
  | _, _ => none
theorem og_add : OpG X cls wd (binaryOp .Add) gAdd := opR_imp (((op_add.or op_cat).or op_catA).or op_add_str) fun u v H Q ⟨c, x, y, eH, k, qx, qy, q⟩ => by
  unfold gAdd at q
  split at q
  · rename_i i j
    obtain rfl := dv_int.mp qx
    obtain rfl := dv_int.mp qy
    exact .inl (.inl (.inl ⟨i, j, rfl, rfl, by rw [← eH]; exact gives_v q k (dv_int.mpr rfl)⟩))
  · rename_i a b
    by_cases z : a.length + b.length ≤ lim
    · rw [if_pos z] at q
      obtain ⟨p, vs, rfl, h1, r1⟩ := dv_lst.mp qx
      obtain ⟨p', vs', rfl, h1', r1'⟩ := dv_lst.mp qy
      refine .inl (.inl (.inr ⟨p, p', vs, vs', rfl, rfl, ?_, ?_, ?_, ?_⟩))
      · rw [← eH]; exact k.fh _ _ h1
      · rw [← eH]; exact k.fh _ _ h1'
      · rw [r1.len, r1'.len, ← lim_eq]; exact z
      · rw [← eH]; exact gives_lst q k (r1.append r1')
    · rw [if_neg z] at q
      obtain ⟨_, e, _⟩ := q
      cases e
  · rename_i a b
    by_cases z : a.length + b.length ≤ lim
    · rw [if_pos z] at q
      obtain ⟨p, vs, rfl, h1, r1⟩ := dv_tup.mp qx
      obtain ⟨p', vs', rfl, h1', r1'⟩ := dv_tup.mp qy
      refine .inl (.inr ⟨p, p', vs, vs', rfl, rfl, ?_, ?_, ?_, ?_, ?_, ?_⟩)
      · rw [← eH]; exact SqT.of (k.fh _ _ h1)
      · rw [← eH]; exact SqT.of (k.fh _ _ h1')
      · rw [r1.len, r1'.len, ← lim_eq]; exact z
      · intro e
        subst e
        have ea : a = [] := List.length_eq_zero_iff.mp r1.len.symm
        subst ea
        rw [← eH]
        exact gives_v q k qy
      · intro _ e
        subst e
        have ea : b = [] := List.length_eq_zero_iff.mp r1'.len.symm
        subst ea
        rw [← eH]
        rw [List.append_nil] at q
        exact gives_v q k qx
      · intro _ _
        rw [← eH]; exact gives_tup q k (r1.append r1')
    · rw [if_neg z] at q
      obtain ⟨_, e, _⟩ := q
      cases e
  · rename_i a b
    by_cases z : a.length + b.length ≤ lim
    · rw [if_pos z] at q
      obtain rfl := dv_str.mp qx
      obtain rfl := dv_str.mp qy
      exact .inr ⟨a, b, rfl, rfl, by rw [← lim_eq]; exact z, by rw [← eH]; exact gives_v q k (dv_str.mpr rfl)⟩
    · rw [if_neg z] at q
      obtain ⟨_, e, _⟩ := q
      cases e
  · obtain ⟨_, e, _⟩ := q
    cases e
/-! a * b -/
def cMul (i j : Int) : Bool := (decide (-(2 ^ 64) < i) && decide (i < 2 ^ 64)) || (decide (-(2 ^ 64) < j) && decide (j < 2 ^ 64))
def gMul : D → D → Option D
  | .p (.int i), .p (.int j) => if cMul i j = true then some (.p (.int (i * j))) else none
  | .p (.list a), .p (.int j) => if j < 1000000 ∧ -1000000 < j ∧ a.length * j.toNat ≤ lim then some (.p (.list (List.replicate j.toNat a).flatten)) else none
  | _, _ => none
theorem DqL.rep {F : Hp} {ds : List PyData} {vs : List V} (h : DqL F ds vs) : ∀ n : Nat, DqL F (List.replicate n ds).flatten (List.replicate n vs).flatten
  | 0 => by simpa using DqL.nil
  | n + 1 => by
    rw [List.replicate_succ, List.replicate_succ, List.flatten_cons, List.flatten_cons]
    exact h.append (h.rep n)
theorem og_mul : OpG X cls wd (binaryOp .Mult) gMul := opR_imp (op_mul.or op_rep) fun u v H Q ⟨c, x, y, eH, k, qx, qy, q⟩ => by
  unfold gMul at q
  split at q
  · rename_i i j
    by_cases z : cMul i j = true
    · rw [if_pos z] at q
      obtain rfl := dv_int.mp qx
      obtain rfl := dv_int.mp qy
      refine .inl ⟨i, j, rfl, rfl, ?_, by rw [← eH]; exact gives_v q k (dv_int.mpr rfl)⟩
      simp only [cMul, Bool.or_eq_true, Bool.and_eq_true, decide_eq_true_eq] at z
      exact z
    · rw [if_neg z] at q
      obtain ⟨_, e, _⟩ := q
      cases e
  · rename_i a j
    by_cases z : j < 1000000 ∧ -1000000 < j ∧ a.length * j.toNat ≤ lim
    · rw [if_pos z] at q
      obtain ⟨p, vs, rfl, h1, r1⟩ := dv_lst.mp qx
      obtain rfl := dv_int.mp qy
      refine .inr ⟨p, j, vs, rfl, rfl, by rw [← eH]; exact k.fh _ _ h1, by omega, by omega, by rw [r1.len, ← lim_eq]; exact z.2.2, ?_⟩
      rw [← eH]; exact gives_lst q k (r1.rep _)
    · rw [if_neg z] at q
      obtain ⟨_, e, _⟩ := q
      cases e
  · obtain ⟨_, e, _⟩ := q
    cases e

/-! ## comparisons -/
def gB (g : Int → Int → Bool) : D → D → Option D
  | .p (.int i), .p (.int j) => some (.p (.bool (g i j)))
  | _, _ => none
theorem og_B {f : Value → Value → Sem Value} {g : Int → Int → Bool} (h : OpR X f (rI0 fun i j => .bl (g i j))) : OpG X cls wd f (gB g) :=
  opR_imp h fun u v H Q ⟨c, x, y, eH, k, qx, qy, q⟩ => by
    unfold gB at q
    split at q
    · rename_i i j
      obtain rfl := dv_int.mp qx
      obtain rfl := dv_int.mp qy
      exact ⟨i, j, rfl, rfl, by rw [← eH]; exact gives_v q k (dv_bl.mpr rfl)⟩
    · obtain ⟨_, e, _⟩ := q
      cases e
def gLt : D → D → Option D := gB fun i j => decide (i < j)
def gLe : D → D → Option D := gB fun i j => decide (i ≤ j)
def gGt : D → D → Option D := gB fun i j => decide (j < i)
def gGe : D → D → Option D := gB fun i j => decide (j ≤ i)
theorem og_lt : OpG X cls wd (compareOp .Lt) gLt := og_B op_lt
theorem og_le : OpG X cls wd (compareOp .LtE) gLe := og_B op_le
theorem og_gt : OpG X cls wd (compareOp .Gt) gGt := og_B op_gt
theorem og_ge : OpG X cls wd (compareOp .GtE) gGe := og_B op_ge
def eqOk (a b : PyData) : Bool := a.canLay0 && b.canLay0 && decide (min a.depth b.depth ≤ 64)
def gEq : D → D → Option D
  | .p a, .p b => if eqOk a b = true then some (.p (.bool (PyData.eqv a b))) else none
  | _, _ => none
def gNe : D → D → Option D
  | .p a, .p b => if eqOk a b = true then some (.p (.bool (!PyData.eqv a b))) else none
  | _, _ => none
theorem og_eq (hu : X.A.units + 64 < cLine) : OpG X cls wd (compareOp .Eq) gEq := by
  intro pins s σ H u v p p' Q I rx ry ⟨c, x, y, eH, k, qx, qy, q⟩
  unfold gEq at q
  split at q
  · rename_i a b
    by_cases z : eqOk a b = true
    · rw [if_pos z] at q
      simp only [eqOk, Bool.and_eq_true, decide_eq_true_eq] at z
      have s1 : Sub c.F H := by rw [← eH]; exact k.fh
      obtain ⟨as, r1⟩ := Dp.reads I a u p (Dq.dp s1 a u qx) rx
      obtain ⟨bs, r2⟩ := Dp.reads I b v p' (Dq.dp s1 b v qy) ry
      refine SeqAt.compareEq_reads r1 r2 z.1.1 z.1.2 (by omega) ⟨.bl _, H, I, rfl, ?_⟩
      rw [← eH]
      exact gives_v q k (dv_bl.mpr rfl)
    · rw [if_neg z] at q
      obtain ⟨_, e, _⟩ := q
      cases e
  · obtain ⟨_, e, _⟩ := q
    cases e
theorem og_ne (hu : X.A.units + 64 < cLine) : OpG X cls wd (compareOp .NotEq) gNe := by
  intro pins s σ H u v p p' Q I rx ry ⟨c, x, y, eH, k, qx, qy, q⟩
  unfold gNe at q
  split at q
  · rename_i a b
    by_cases z : eqOk a b = true
    · rw [if_pos z] at q
      simp only [eqOk, Bool.and_eq_true, decide_eq_true_eq] at z
      have s1 : Sub c.F H := by rw [← eH]; exact k.fh
      obtain ⟨as, r1⟩ := Dp.reads I a u p (Dq.dp s1 a u qx) rx
      obtain ⟨bs, r2⟩ := Dp.reads I b v p' (Dq.dp s1 b v qy) ry
      refine SeqAt.compareNe_reads r1 r2 z.1.1 z.1.2 (by omega) ⟨.bl _, H, I, rfl, ?_⟩
      rw [← eH]
      exact gives_v q k (dv_bl.mpr rfl)
    · rw [if_neg z] at q
      obtain ⟨_, e, _⟩ := q
      cases e
  · obtain ⟨_, e, _⟩ := q
    cases e
/-! x in xs -/
def inOk (a : PyData) (bs : List PyData) : Bool := a.canLay0 && PyData.canLayAll0 bs && decide (min (PyData.depthAll bs) a.depth ≤ 60)
def gIn (neg : Bool) : D → D → Option D
  | .p a, .p (.list bs) => if inOk a bs = true then some (.p (.bool (xor neg (bs.any fun z => PyData.eqv z a)))) else none
  | .p a, .p (.tuple bs) => if inOk a bs = true then some (.p (.bool (xor neg (bs.any fun z => PyData.eqv z a)))) else none
  | _, _ => none
theorem og_in (hu : X.A.units + 64 < cLine) : OpG X cls wd (compareOp .In) (gIn false) := by
  intro pins s σ H u v p p' Q I rx ry ⟨c, x, y, eH, k, qx, qy, q⟩
  unfold gIn at q
  split at q
  · rename_i a b
    by_cases z : inOk a b = true
    · rw [if_pos z] at q
      simp only [inOk, Bool.and_eq_true, decide_eq_true_eq] at z
      have s1 : Sub c.F H := by rw [← eH]; exact k.fh
      obtain ⟨as, r1⟩ := Dp.reads I a u p (Dq.dp s1 a u qx) rx
      obtain ⟨bs, r2⟩ := Dp.reads I (.list b) v p' (Dq.dp s1 _ v qy) ry
      refine SeqAt.in_list_reads r2 r1 z.1.2 z.1.1 (by omega) ⟨.bl _, H, I, rfl, ?_⟩
      rw [← eH]
      exact gives_v q k (dv_bl.mpr (by simp))
    · rw [if_neg z] at q
      obtain ⟨_, e, _⟩ := q
      cases e
  · rename_i a b
    by_cases z : inOk a b = true
    · rw [if_pos z] at q
      simp only [inOk, Bool.and_eq_true, decide_eq_true_eq] at z
      have s1 : Sub c.F H := by rw [← eH]; exact k.fh
      obtain ⟨as, r1⟩ := Dp.reads I a u p (Dq.dp s1 a u qx) rx
      obtain ⟨bs, r2⟩ := Dp.reads I (.tuple b) v p' (Dq.dp s1 _ v qy) ry
      refine SeqAt.in_tuple_reads r2 r1 z.1.2 z.1.1 (by omega) ⟨.bl _, H, I, rfl, ?_⟩
      rw [← eH]
      exact gives_v q k (dv_bl.mpr (by simp))
    · rw [if_neg z] at q
      obtain ⟨_, e, _⟩ := q
      cases e
  · obtain ⟨_, e, _⟩ := q
    cases e
theorem og_notIn (hu : X.A.units + 64 < cLine) : OpG X cls wd (compareOp .NotIn) (gIn true) := by
  intro pins s σ H u v p p' Q I rx ry ⟨c, x, y, eH, k, qx, qy, q⟩
  unfold gIn at q
  split at q
  · rename_i a b
    by_cases z : inOk a b = true
    · rw [if_pos z] at q
      simp only [inOk, Bool.and_eq_true, decide_eq_true_eq] at z
      have s1 : Sub c.F H := by rw [← eH]; exact k.fh
      obtain ⟨as, r1⟩ := Dp.reads I a u p (Dq.dp s1 a u qx) rx
      obtain ⟨bs, r2⟩ := Dp.reads I (.list b) v p' (Dq.dp s1 _ v qy) ry
      refine SeqAt.notIn_list_reads r2 r1 z.1.2 z.1.1 (by omega) ⟨.bl _, H, I, rfl, ?_⟩
      rw [← eH]
      exact gives_v q k (dv_bl.mpr (by simp))
    · rw [if_neg z] at q
      obtain ⟨_, e, _⟩ := q
      cases e
  · rename_i a b
    by_cases z : inOk a b = true
    · rw [if_pos z] at q
      simp only [inOk, Bool.and_eq_true, decide_eq_true_eq] at z
      have s1 : Sub c.F H := by rw [← eH]; exact k.fh
      obtain ⟨as, r1⟩ := Dp.reads I a u p (Dq.dp s1 a u qx) rx
      obtain ⟨bs, r2⟩ := Dp.reads I (.tuple b) v p' (Dq.dp s1 _ v qy) ry
      refine SeqAt.notIn_tuple_reads r2 r1 z.1.2 z.1.1 (by omega) ⟨.bl _, H, I, rfl, ?_⟩
      rw [← eH]
      exact gives_v q k (dv_bl.mpr (by simp))
    · rw [if_neg z] at q
      obtain ⟨_, e, _⟩ := q
      cases e
  · obtain ⟨_, e, _⟩ := q
    cases e
/-! x is None, True, False -/
def isNon : D → Option Bool
  | .p .none => some true
  | .p _ => some false
  | .exc _ => some false
  | .obj _ => some false
  | .scr _ => some false
  | .opq => none
def gIs (neg : Bool) : D → D → Option D
  | x, .p .none => (isNon x).map fun b => .p (.bool (xor neg b))
  | .p (.bool a), .p (.bool b) => some (.p (.bool (xor neg (decide (a = b)))))
  | _, _ => none
theorem isNon_eq {c : Cur wd} {x : D} {u : V} {b : Bool} (h : isNon x = some b) (q : Dv cls K c x u) : decide (u = .non) = b := by
  cases x with
  | p d =>
    have q : Dq c.F d u := q
    cases d with
    | none => simp only [Dq] at q; subst q; simpa [isNon] using h
    | bool _ => simp only [Dq] at q; subst q; simpa [isNon] using h
    | int _ => simp only [Dq] at q; subst q; simpa [isNon] using h
    | str _ => simp only [Dq] at q; subst q; simpa [isNon] using h
    | list _ => simp only [Dq] at q; obtain ⟨_, _, rfl, _⟩ := q; simpa [isNon] using h
    | tuple _ => simp only [Dq] at q; obtain ⟨_, _, rfl, _⟩ := q; simpa [isNon] using h
    | dict _ => simp [Dq] at q
  | exc n => obtain ⟨_, rfl, _⟩ := q; simpa [isNon] using h
  | obj n => obtain ⟨_, rfl, _⟩ := q; simpa [isNon] using h
  | scr n => obtain ⟨_, rfl, _⟩ := q; simpa [isNon] using h
  | opq => simp [isNon] at h
theorem og_is : OpG X cls wd (compareOp .Is) (gIs false) := opR_imp (op_isN.or op_isBl) fun u v H Q ⟨c, x, y, eH, k, qx, qy, q⟩ => by
  unfold gIs at q
  split at q
  · obtain rfl := dv_non.mp qy
    cases z : isNon x with
    | none => rw [z] at q; obtain ⟨_, e, _⟩ := q; cases e
    | some b =>
      rw [z] at q
      refine .inl ⟨rfl, ?_⟩
      rw [isNon_eq z qx, ← eH]
      exact gives_v q k (dv_bl.mpr (by simp))
  · rename_i a b
    obtain rfl := dv_bl.mp qx
    obtain rfl := dv_bl.mp qy
    refine .inr ⟨a, b, rfl, rfl, ?_⟩
    rw [← eH]
    exact gives_v q k (dv_bl.mpr (by simp))
  · obtain ⟨_, e, _⟩ := q
    cases e
theorem og_isNot : OpG X cls wd (compareOp .IsNot) (gIs true) := opR_imp (op_notN.or op_notBl) fun u v H Q ⟨c, x, y, eH, k, qx, qy, q⟩ => by
  unfold gIs at q
  split at q
  · obtain rfl := dv_non.mp qy
    cases z : isNon x with
    | none => rw [z] at q; obtain ⟨_, e, _⟩ := q; cases e
    | some b =>
      rw [z] at q
      refine .inl ⟨rfl, ?_⟩
      rw [isNon_eq z qx, ← eH]
      exact gives_v q k (dv_bl.mpr (by simp))
  · rename_i a b
    obtain rfl := dv_bl.mp qx
    obtain rfl := dv_bl.mp qy
    refine .inr ⟨a, b, rfl, rfl, ?_⟩
    rw [← eH]
    exact gives_v q k (dv_bl.mpr (by simp))
  · obtain ⟨_, e, _⟩ := q
    cases e
end

/-! ## one operand -/
section
variable {X : Cx} {W : Type} {wd : WD W} {cls : Nat → Addr} {e : Cur wd} {Wx : WX} {ex a b d : Expr} {pos : Pos} {f h g3 : XF W}
def x1 (g : D → Option D) (f : XF W) : XF W := fun δ w => (f δ w).bind fun x w1 => opt (g x) w1
theorem after_one {K : PySem.W.Frag} (ke : Ok e) {c : Cur wd} {δ : Ev} {σ : L2.St} {f : XF W} {k : D → W → Res W D} {Q : VK} (r : Rz cls K e c δ σ) (q : after cls K c σ Wx ((f δ c.w).bind k) Q) :
    tS cls K e Wx f σ c.H fun u H1 => ∃ x c2, c2.H = H1 ∧ Bs c c2 ∧ Rz cls K e c2 δ σ ∧ Dv cls K c2 x u ∧ after cls K c2 σ Wx (k x c2.w) Q :=
  tS_mk r (after_mono (after_bind r.ok q) fun u c1 b1 ⟨x, c1', e1, b1', q1, q2⟩ => ⟨x, c1', e1, b1', r.step ke b1', q1, q2⟩)
theorem tS_imp {K : PySem.W.Frag} {σ : L2.St} {H : Hp} {Q Q' : VK} (h : tS cls K e Wx f σ H Q) (i : ∀ u H', Q u H' → Q' u H') : tS cls K e Wx f σ H Q' :=
  let ⟨c, δ, e1, r, q⟩ := h
  ⟨c, δ, e1, r, after_mono q fun u c' _ => i u c'.H⟩
def gNeg : D → Option D
  | .p (.int i) => some (.p (.int (-i)))
  | _ => none
theorem s_neg (ke : Ok e) (ha : PE X a (tS cls X.K e Wx f)) : PE X (.UnaryOp .USub a pos) (tS cls X.K e Wx (x1 gNeg f)) := pe_imp (pe_un un_neg ha) fun σ H Q ⟨c, δ, eH, r, q⟩ => by
  rw [← eH]
  refine tS_imp (after_one ke r q) fun u H1 ⟨x, c2, e2, b2, r2, q2, q3⟩ => ?_
  replace q3 := after_opt q3
  unfold gNeg at q3
  split at q3
  · rename_i i
    obtain rfl := dv_int.mp q2
    exact ⟨i, rfl, by rw [← e2]; exact gives_v q3 r2.ok (dv_int.mpr rfl)⟩
  · obtain ⟨_, e, _⟩ := q3
    cases e
def gNot : D → Option D
  | .p (.bool i) => some (.p (.bool (!i)))
  | _ => none
theorem s_not (ke : Ok e) (ha : PE X a (tS cls X.K e Wx f)) : PE X (.UnaryOp .Not a pos) (tS cls X.K e Wx (x1 gNot f)) := pe_imp (pe_not ha) fun σ H Q ⟨c, δ, eH, r, q⟩ => by
  rw [← eH]
  refine tS_imp (after_one ke r q) fun u H1 ⟨x, c2, e2, b2, r2, q2, q3⟩ => ?_
  replace q3 := after_opt q3
  unfold gNot at q3
  split at q3
  · rename_i i
    obtain rfl := dv_bl.mp q2
    exact ⟨i, rfl, by rw [← e2]; exact gives_v q3 r2.ok (dv_bl.mpr rfl)⟩
  · obtain ⟨_, e, _⟩ := q3
    cases e

/-! ## tests -/
def optB (o : Option Bool) (w : W) : Res W Bool := match o with
  | some d => .ok d w
  | none => .bad
/-- a truth value -/
def asB : D → Option Bool
  | .p (.bool b) => some b
  | _ => none
/-- any value's truth -/
def truth : D → Option Bool
  | .p .none => some false
  | .p (.bool b) => some b
  | .p (.int i) => some (i != 0)
  | .p (.list xs) => some (!xs.isEmpty)
  | .p (.tuple xs) => some (!xs.isEmpty)
  | .p (.str x) => if x.length ≤ lim then some ((x.length : Int) != 0) else none
  | _ => none
def xB (g : D → Option Bool) (f : XF W) : Ev → W → Res W Bool := fun δ w => (f δ w).bind fun x w1 => optB (g x) w1
theorem after_optB {K : PySem.W.Frag} {c : Cur wd} {σ : L2.St} {o : Option Bool} {Q : Bool → Hp → Prop} (k : Ok c) (h : afterB cls c σ Wx (optB o c.w) Q) : ∃ b, o = some b ∧ Q b c.H := by
  cases o with
  | none => exact h.elim
  | some d => exact ⟨d, rfl, h c rfl (Bs.refl k)⟩
theorem after_oneB {K : PySem.W.Frag} (ke : Ok e) {c : Cur wd} {δ : Ev} {σ : L2.St} {f : XF W} {k : D → W → Res W Bool} {Q : Bool → Hp → Prop} (r : Rz cls K e c δ σ) (q : afterB cls c σ Wx ((f δ c.w).bind k) Q) :
    tS cls K e Wx f σ c.H fun u H1 => ∃ x c2, c2.H = H1 ∧ Bs c c2 ∧ Rz cls K e c2 δ σ ∧ Dv cls K c2 x u ∧ afterB cls c2 σ Wx (k x c2.w) Q :=
  tS_mk r (after_mono (after_bindB r.ok q) fun u c1 b1 ⟨x, c1', e1, b1', q1, q2⟩ => ⟨x, c1', e1, b1', r.step ke b1', q1, q2⟩)
theorem truV_of {K : PySem.W.Frag} {c : Cur wd} {x : D} {u : V} {b : Bool} (k : Ok c) (h : truth x = some b) (q : Dv cls K c x u) : TruV K u c.H b := by
  cases x with
  | p d =>
    have q : Dq c.F d u := q
    cases d with
    | none => simp only [Dq] at q; subst q; simp [truth] at h; exact h
    | bool _ => simp only [Dq] at q; subst q; simp [truth] at h; exact h.symm
    | int _ => simp only [Dq] at q; subst q; simp [truth] at h; exact h.symm
    | str y =>
      simp only [Dq] at q; subst q
      unfold truth at h
      dsimp only at h
      by_cases z : y.length ≤ lim
      · rw [if_pos z] at h
        exact ⟨by rw [← lim_eq]; exact z, (Option.some.inj h).symm⟩
      · rw [if_neg z] at h; cases h
    | list xs =>
      simp only [Dq] at q; obtain ⟨p, vs, rfl, h1, r1⟩ := q
      simp only [truth, Option.some.injEq] at h
      refine .inl ⟨vs, SqL.of (k.fh _ _ h1), ?_⟩
      rw [← h]
      have := r1.len
      cases xs <;> cases vs <;> simp_all
    | tuple xs =>
      simp only [Dq] at q; obtain ⟨p, vs, rfl, h1, r1⟩ := q
      simp only [truth, Option.some.injEq] at h
      refine .inr (.inl ⟨vs, SqT.of (k.fh _ _ h1), ?_⟩)
      rw [← h]
      have := r1.len
      cases xs <;> cases vs <;> simp_all
    | dict _ => simp [Dq] at q
  | exc n => simp [truth] at h
  | obj n => simp [truth] at h
  | scr n => simp [truth] at h
  | opq => simp [truth] at h
/-- an expression whose test is its value's truth -/
theorem st_val (ke : Ok e) (ha : PE X a (tS cls X.K e Wx f)) (he : ∀ whole, isTrue a X.env whole = (do let v ← whole; standAt a.pos; holding [v] (truthy v)) := by intro _; rfl) : PT X a (tSB cls X.K e Wx (xB truth f)) :=
  pt_imp (pt_truth ha he) fun σ H Q ⟨c, δ, eH, r, q⟩ => by
    rw [← eH]
    refine tS_imp (after_oneB (K := X.K) ke r q) fun u H1 ⟨x, c2, e2, b2, r2, q2, q3⟩ => ?_
    obtain ⟨b, hb, q4⟩ := after_optB (K := X.K) r2.ok q3
    rw [← e2]
    exact ⟨b, truV_of r2.ok hb q2, q4⟩
theorem asB_eq {K : PySem.W.Frag} {c : Cur wd} {x : D} {u : V} {b : Bool} (h : asB x = some b) (q : Dv cls K c x u) : u = .bl b := by
  unfold asB at h
  split at h
  · cases h; exact dv_bl.mp q
  · cases h
theorem gives_B {K : PySem.W.Frag} {c : Cur wd} {σ : L2.St} {o : Option D} {Q : Bool → Hp → Prop} (h : afterB cls c σ Wx ((opt o c.w).bind fun z w3 => optB (asB z) w3) Q) : gives cls K c o fun z H3 => ∃ k, z = .bl k ∧ Q k H3 := by
  cases o with
  | none => exact h.elim
  | some d =>
    refine ⟨d, rfl, fun u c' hw b q => ?_⟩
    have h' : afterB cls c σ Wx (optB (asB d) c.w) Q := h
    cases z : asB d with
    | none => rw [z] at h'; exact h'.elim
    | some k =>
      rw [z] at h'
      exact ⟨k, asB_eq z q, h' c' hw b⟩
theorem xB_x2 {g : D → D → Option D} {k : D → Option Bool} {δ : Ev} {w : W} : xB k (x2 g f h) δ w = ((f δ w).bind fun x w1 => (h δ w1).bind fun y w2 => (opt (g x y) w2).bind fun z w3 => optB (k z) w3) := by
  unfold xB x2
  cases f δ w with
  | bad => rfl
  | exc _ _ => rfl
  | ok x w1 =>
    dsimp only [Res.bind]
    cases h δ w1 with
    | bad => rfl
    | exc _ _ => rfl
    | ok y w2 => rfl
/-- a comparison as a test -/
theorem st_cmp {op : CmpOp} {g : D → D → Option D} (ke : Ok e) (ho : OpG X cls wd (compareOp op) g) (ha : PE X a (tS cls X.K e Wx f)) (hb : PE X b (tS cls X.K e Wx h)) (hm : behindInMarks op b = false) : PT X (.Compare a [op] [b] pos) (tSB cls X.K e Wx (xB asB (x2 g f h))) :=
  pt_imp (pt_cmpR ho ha hb hm) fun σ H Q ⟨c, δ, eH, r, q⟩ => by
    rw [← eH]
    rw [xB_x2] at q
    show tS cls X.K e Wx f σ c.H _
    refine tS_imp (after_oneB (K := X.K) ke r q) fun u H1 ⟨x, c2, e2, b2, r2, q2, q3⟩ => ?_
    rw [← e2]
    refine tS_imp (after_oneB (K := X.K) ke r2 q3) fun v H2 ⟨y, c3, e3, b3, r3, q4, q5⟩ => ?_
    exact ⟨c3, x, y, e3, r3.ok, q2.mono b3, q4, gives_B q5⟩
/-! ## a < b < c -/
def xChain (g g' : D → D → Option D) (f h k : XF W) : XF W := fun δ w => (f δ w).bind fun x w1 => (h δ w1).bind fun y w2 => match (g x y).bind asB with
  | some true => (k δ w2).bind fun z w3 => opt (g' y z) w3
  | some false => .ok (.p (.bool false)) w2
  | none => .bad
theorem s_chain {op op' : CmpOp} {g g' : D → D → Option D} {k : XF W} (ke : Ok e) (ho : OpG X cls wd (compareOp op) g) (ho' : OpG X cls wd (compareOp op') g') (ha : PE X a (tS cls X.K e Wx f)) (hb : PE X b (tS cls X.K e Wx h)) (hd : PE X d (tS cls X.K e Wx k))
    (hm : lastMarks [op, op'] [b, d] = false := by with_unfolding_all rfl) : PE X (.Compare a [op, op'] [b, d] pos) (tS cls X.K e Wx (xChain g g' f h k)) :=
  pe_imp (pe_chain ho ho' ha hb hd hm) fun σ H Q ⟨c, δ, eH, r, q⟩ => by
    rw [← eH]
    show tS cls X.K e Wx f σ c.H _
    refine tS_imp (after_one (K := X.K) ke r q) fun u H1 ⟨x, c2, e2, b2, r2, q2, q3⟩ => ?_
    rw [← e2]
    refine tS_imp (after_one (K := X.K) ke r2 q3) fun v H2 ⟨y, c3, e3, b3, r3, q4, q5⟩ => ?_
    refine ⟨c3, x, y, e3, r3.ok, q2.mono b3, q4, ?_⟩
    cases z : g x y with
    | none => rw [z] at q5; exact q5.elim
    | some t =>
      rw [z] at q5
      dsimp only [Option.bind] at q5
      refine ⟨t, rfl, fun u' c' hw b' q' => ?_⟩
      cases z2 : asB t with
      | none => rw [z2] at q5; exact q5.elim
      | some t2 =>
        rw [z2] at q5
        refine ⟨t2, asB_eq z2 q', ?_⟩
        cases t2 with
        | false =>
          rw [if_neg Bool.false_ne_true]
          exact q5 _ c' hw b' (dv_bl.mpr rfl)
        | true =>
          rw [if_pos rfl]
          have r4 := r3.step ke b'
          have q6 : after cls X.K c' σ Wx ((k δ c'.w).bind fun z w3 => opt (g' y z) w3) Q := by
            rw [hw]
            have q5 : after cls X.K c3 σ Wx ((k δ c3.w).bind fun z w3 => opt (g' y z) w3) Q := q5
            cases z3 : ((k δ c3.w).bind fun z w3 => opt (g' y z) w3) with
            | bad => rw [z3] at q5; exact q5
            | exc n w2 => rw [z3] at q5; exact fun c2 e2 b2 => q5 c2 e2 (b'.trans r3.ok b2)
            | ok d2 w2 => rw [z3] at q5; exact fun u2 c2 e2 b2 q2 => q5 u2 c2 e2 (b'.trans r3.ok b2) q2
          refine tS_imp (after_one (K := X.K) ke r4 q6) fun w' H4 ⟨z4, c5, e5, b5, r5, q7, q8⟩ => ?_
          exact ⟨c5, y, z4, e5, r5.ok, (q4.mono b').mono b5, q7, after_opt q8⟩
/-- any bool-valued comparison chain as a test -/
theorem st_chain {op op' : CmpOp} {g g' : D → D → Option D} {k : XF W} (ke : Ok e) (ho : OpG X cls wd (compareOp op) g) (ho' : OpG X cls wd (compareOp op') g') (ha : PE X a (tS cls X.K e Wx f)) (hb : PE X b (tS cls X.K e Wx h)) (hd : PE X d (tS cls X.K e Wx k))
    (hm : lastMarks [op, op'] [b, d] = false := by with_unfolding_all rfl) : PT X (.Compare a [op, op'] [b, d] pos) (tSB cls X.K e Wx (xB asB (xChain g g' f h k))) :=
  pt_imp (pt_chain ho ho' ha hb hd hm) fun σ H Q ⟨c, δ, eH, r, q⟩ => by
    rw [← eH]
    have q' : afterB cls c σ Wx ((f δ c.w).bind fun x w1 => (h δ w1).bind fun y w2 => match (g x y).bind asB with
        | some true => (k δ w2).bind fun z w3 => (opt (g' y z) w3).bind fun z w4 => optB (asB z) w4
        | some false => .ok false w2
        | none => .bad) Q := by
      unfold xB xChain at q
      cases z1 : f δ c.w with
      | bad => rw [z1] at q; exact q
      | exc _ _ => rw [z1] at q; exact q
      | ok x w1 =>
        rw [z1] at q
        dsimp only [Res.bind] at q ⊢
        cases z2 : h δ w1 with
        | bad => rw [z2] at q; exact q
        | exc _ _ => rw [z2] at q; exact q
        | ok y w2 =>
          rw [z2] at q
          dsimp only at q ⊢
          cases z3 : (g x y).bind asB with
          | none => rw [z3] at q; exact q
          | some t =>
            rw [z3] at q
            cases t with
            | false => exact q
            | true =>
              dsimp only at q ⊢
              cases z4 : k δ w2 with
              | bad => rw [z4] at q; exact q
              | exc _ _ => rw [z4] at q; exact q
              | ok z w3 => rw [z4] at q; exact q
    show tS cls X.K e Wx f σ c.H _
    refine tS_imp (after_oneB (K := X.K) ke r q') fun u H1 ⟨x, c2, e2, b2, r2, q2, q3⟩ => ?_
    rw [← e2]
    refine tS_imp (after_oneB (K := X.K) ke r2 q3) fun v H2 ⟨y, c3, e3, b3, r3, q4, q5⟩ => ?_
    refine ⟨c3, x, y, e3, r3.ok, q2.mono b3, q4, ?_⟩
    cases z : g x y with
    | none => rw [z] at q5; exact q5.elim
    | some t =>
      rw [z] at q5
      dsimp only [Option.bind] at q5
      refine ⟨t, rfl, fun u' c' hw b' q' => ?_⟩
      cases z2 : asB t with
      | none => rw [z2] at q5; exact q5.elim
      | some t2 =>
        rw [z2] at q5
        refine ⟨t2, asB_eq z2 q', ?_⟩
        cases t2 with
        | false =>
          rw [if_neg Bool.false_ne_true]
          exact ⟨false, rfl, q5 c' hw b'⟩
        | true =>
          rw [if_pos rfl]
          have r4 := r3.step ke b'
          have q6 : afterB cls c' σ Wx ((k δ c'.w).bind fun z w3 => (opt (g' y z) w3).bind fun z w4 => optB (asB z) w4) Q := by
            rw [hw]
            have q5 : afterB cls c3 σ Wx ((k δ c3.w).bind fun z w3 => (opt (g' y z) w3).bind fun z w4 => optB (asB z) w4) Q := q5
            cases z3 : ((k δ c3.w).bind fun z w3 => (opt (g' y z) w3).bind fun z w4 => optB (asB z) w4) with
            | bad => rw [z3] at q5; exact q5
            | exc n w2 => rw [z3] at q5; exact fun c2 e2 b2 => q5 c2 e2 (b'.trans r3.ok b2)
            | ok d2 w2 => rw [z3] at q5; exact fun c2 e2 b2 => q5 c2 e2 (b'.trans r3.ok b2)
          refine tS_imp (after_oneB (K := X.K) ke r4 q6) fun w' H4 ⟨z4, c5, e5, b5, r5, q7, q8⟩ => ?_
          exact ⟨c5, y, z4, e5, r5.ok, (q4.mono b').mono b5, q7, gives_B q8⟩

/-! ## and, or, not; a if t else b -/
abbrev XB (W : Type) := Ev → W → Res W Bool
variable {t u : XB W} {rest : List Expr}
theorem afterB_mono {c : Cur wd} {σ : L2.St} {r : Res W Bool} {Q Q' : Bool → Hp → Prop} (h : afterB cls c σ Wx r Q) (i : ∀ u c', Bs c c' → Q u c'.H → Q' u c'.H) : afterB cls c σ Wx r Q' := by
  cases r with
  | bad => exact h
  | exc n w' => exact h
  | ok d w' => exact fun c' hw b => i d c' b (h c' hw b)
theorem tSB_imp {K : PySem.W.Frag} {σ : L2.St} {H : Hp} {Q Q' : Bool → Hp → Prop} (h : tSB cls K e Wx t σ H Q) (i : ∀ u H', Q u H' → Q' u H') : tSB cls K e Wx t σ H Q' :=
  let ⟨c, δ, e1, r, q⟩ := h
  ⟨c, δ, e1, r, afterB_mono q fun u c' _ => i u c'.H⟩
theorem after_testB {K : PySem.W.Frag} (ke : Ok e) {c : Cur wd} {δ : Ev} {σ : L2.St} {k : Bool → W → Res W Bool} {Q : Bool → Hp → Prop} (r : Rz cls K e c δ σ) (q : afterB cls c σ Wx ((t δ c.w).bind k) Q) :
    tSB cls K e Wx t σ c.H fun x H1 => ∃ c2, c2.H = H1 ∧ Rz cls K e c2 δ σ ∧ afterB cls c2 σ Wx (k x c2.w) Q :=
  ⟨c, δ, rfl, r, afterB_mono (afterB_bindB r.ok q) fun _ _ _ ⟨c1', e1, b1', q2⟩ => ⟨c1', e1, r.step ke b1', q2⟩⟩
theorem after_test {K : PySem.W.Frag} (ke : Ok e) {c : Cur wd} {δ : Ev} {σ : L2.St} {k : Bool → W → Res W D} {Q : VK} (r : Rz cls K e c δ σ) (q : after cls K c σ Wx ((t δ c.w).bind k) Q) :
    tSB cls K e Wx t σ c.H fun x H1 => ∃ c2, c2.H = H1 ∧ Rz cls K e c2 δ σ ∧ after cls K c2 σ Wx (k x c2.w) Q :=
  ⟨c, δ, rfl, r, afterB_mono (afterB_bind (K := K) r.ok q) fun _ _ _ ⟨c1', e1, b1', q2⟩ => ⟨c1', e1, r.step ke b1', q2⟩⟩
def bAnd (t u : XB W) : XB W := fun δ w => (t δ w).bind fun x w1 => if x = true then u δ w1 else .ok false w1
def bOr (t u : XB W) : XB W := fun δ w => (t δ w).bind fun x w1 => if x = true then .ok true w1 else u δ w1
def bNot (t : XB W) : XB W := fun δ w => (t δ w).bind fun x w1 => .ok (!x) w1
theorem sw_and (ke : Ok e) (ha : PT X a (tSB cls X.K e Wx t)) (hb : PW X (.BoolOp .And (b :: rest) pos) (tSB cls X.K e Wx u)) : PW X (.BoolOp .And (a :: b :: rest) pos) (tSB cls X.K e Wx (bAnd t u)) :=
  pw_imp (pw_and ha hb) fun σ H Q ⟨c, δ, eH, r, q⟩ => by
    rw [← eH]
    refine tSB_imp (after_testB (K := X.K) ke r q) fun x H1 ⟨c2, e2, r2, q2⟩ => ?_
    rw [← e2]
    cases x with
    | true => rw [if_pos rfl]; exact ⟨c2, δ, rfl, r2, q2⟩
    | false => rw [if_neg Bool.false_ne_true]; exact q2 c2 rfl (Bs.refl r2.ok)
theorem sw_or (ke : Ok e) (ha : PT X a (tSB cls X.K e Wx t)) (hb : PW X (.BoolOp .Or (b :: rest) pos) (tSB cls X.K e Wx u)) : PW X (.BoolOp .Or (a :: b :: rest) pos) (tSB cls X.K e Wx (bOr t u)) :=
  pw_imp (pw_or ha hb) fun σ H Q ⟨c, δ, eH, r, q⟩ => by
    rw [← eH]
    refine tSB_imp (after_testB (K := X.K) ke r q) fun x H1 ⟨c2, e2, r2, q2⟩ => ?_
    rw [← e2]
    cases x with
    | true => rw [if_pos rfl]; exact q2 c2 rfl (Bs.refl r2.ok)
    | false => rw [if_neg Bool.false_ne_true]; exact ⟨c2, δ, rfl, r2, q2⟩
theorem st_not (ke : Ok e) (ha : PT X a (tSB cls X.K e Wx t)) : PT X (.UnaryOp .Not a pos) (tSB cls X.K e Wx (bNot t)) :=
  pt_imp (pt_not ha) fun σ H Q ⟨c, δ, eH, r, q⟩ => by
    rw [← eH]
    refine tSB_imp (after_testB (K := X.K) ke r q) fun x H1 ⟨c2, e2, r2, q2⟩ => ?_
    rw [← e2]
    exact q2 c2 rfl (Bs.refl r2.ok)
def xAnd (f h : XF W) : XF W := fun δ w => (f δ w).bind fun x w1 => match asB x with
  | some true => h δ w1
  | some false => .ok (.p (.bool false)) w1
  | none => .bad
def xOr (f h : XF W) : XF W := fun δ w => (f δ w).bind fun x w1 => match asB x with
  | some true => .ok (.p (.bool true)) w1
  | some false => h δ w1
  | none => .bad
theorem s_and (ke : Ok e) (ha : PE X a (tS cls X.K e Wx f)) (hb : PE X (.BoolOp .And (b :: rest) pos) (tS cls X.K e Wx h)) : PE X (.BoolOp .And (a :: b :: rest) pos) (tS cls X.K e Wx (xAnd f h)) :=
  pe_imp (pe_and ha hb) fun σ H Q ⟨c, δ, eH, r, q⟩ => by
    rw [← eH]
    refine tS_imp (after_one (K := X.K) ke r q) fun u H1 ⟨x, c2, e2, b2, r2, q2, q3⟩ => ?_
    rw [← e2]
    cases z : asB x with
    | none => rw [z] at q3; exact q3.elim
    | some k =>
      rw [z] at q3
      refine ⟨k, asB_eq z q2, ?_⟩
      cases k with
      | true => rw [if_pos rfl]; exact ⟨c2, δ, rfl, r2, q3⟩
      | false => rw [if_neg Bool.false_ne_true]; exact q3 _ c2 rfl (Bs.refl r2.ok) (dv_bl.mpr rfl)
theorem s_or (ke : Ok e) (ha : PE X a (tS cls X.K e Wx f)) (hb : PE X (.BoolOp .Or (b :: rest) pos) (tS cls X.K e Wx h)) : PE X (.BoolOp .Or (a :: b :: rest) pos) (tS cls X.K e Wx (xOr f h)) :=
  pe_imp (pe_or ha hb) fun σ H Q ⟨c, δ, eH, r, q⟩ => by
    rw [← eH]
    refine tS_imp (after_one (K := X.K) ke r q) fun u H1 ⟨x, c2, e2, b2, r2, q2, q3⟩ => ?_
    rw [← e2]
    cases z : asB x with
    | none => rw [z] at q3; exact q3.elim
    | some k =>
      rw [z] at q3
      refine ⟨k, asB_eq z q2, ?_⟩
      cases k with
      | true => rw [if_pos rfl]; exact q3 _ c2 rfl (Bs.refl r2.ok) (dv_bl.mpr rfl)
      | false => rw [if_neg Bool.false_ne_true]; exact ⟨c2, δ, rfl, r2, q3⟩
def xIf (t : XB W) (f h : XF W) : XF W := fun δ w => (t δ w).bind fun x w1 => if x = true then f δ w1 else h δ w1
theorem s_if (ke : Ok e) (hc : PT X d (tSB cls X.K e Wx t)) (ha : PE X a (tS cls X.K e Wx f)) (hb : PE X b (tS cls X.K e Wx h)) : PE X (.IfExp d a b pos) (tS cls X.K e Wx (xIf t f h)) :=
  pe_imp (pe_ifExp hc ha hb) fun σ H Q ⟨c, δ, eH, r, q⟩ => by
    rw [← eH]
    refine tSB_imp (after_test (K := X.K) ke r q) fun x H1 ⟨c2, e2, r2, q2⟩ => ?_
    rw [← e2]
    cases x with
    | true => rw [if_pos rfl]; exact ⟨c2, δ, rfl, r2, q2⟩
    | false => rw [if_neg Bool.false_ne_true]; exact ⟨c2, δ, rfl, r2, q2⟩

/-! ## lists of expressions; displays -/
abbrev XL (W : Type) := Ev → W → Res W (List D)
variable {fl : XL W} {es : List Expr}
theorem afterL_mono {K : PySem.W.Frag} {c : Cur wd} {σ : L2.St} {r : Res W (List D)} {Q Q' : List V → Hp → Prop} (h : afterL cls K c σ Wx r Q) (i : ∀ u c', Bs c c' → Q u c'.H → Q' u c'.H) : afterL cls K c σ Wx r Q' := by
  cases r with
  | bad => exact h
  | exc n w' => exact h
  | ok d w' => exact fun u c' hw b q => i u c' b (h u c' hw b q)
def lNil : XL W := fun _ w => .ok [] w
def lCons (f : XF W) (fl : XL W) : XL W := fun δ w => (f δ w).bind fun x w1 => (fl δ w1).bind fun xs w2 => .ok (x :: xs) w2
theorem sa_nil : PA X [] (tSL cls X.K e Wx (lNil (W := W))) := pa_imp pa_nil fun σ H Q ⟨c, δ, eH, r, q⟩ => by
  rw [← eH]
  exact q [] c rfl (Bs.refl r.ok) rfl
theorem sa_cons (ke : Ok e) (ha : PE X a (tS cls X.K e Wx f)) (hr : PA X es (tSL cls X.K e Wx fl)) (hs : starEach (a :: es) X.env = (false, eval a X.env) :: starEach es X.env := by rfl) : PA X (a :: es) (tSL cls X.K e Wx (lCons f fl)) :=
  pa_imp (pa_cons ha hr hs) fun σ H Q ⟨c, δ, eH, r, q⟩ => by
    rw [← eH]
    refine ⟨c, δ, rfl, r, after_mono (afterL_cons (K := X.K) r.ok q) fun u c1 b1 ⟨x, c2, e2, b2, q2, q3⟩ => ?_⟩
    rw [← e2]
    have r2 := r.step ke b2
    refine ⟨c2, δ, rfl, r2, ?_⟩
    cases z : fl δ c2.w with
    | bad => rw [z] at q3; exact q3
    | exc n w' => rw [z] at q3; exact q3
    | ok xs w' =>
      rw [z] at q3
      exact fun us c3 hw b3 q4 => q3 (u :: us) c3 hw b3 ⟨u, us, rfl, q2.mono b3, q4⟩
def allP : List D → Option (List PyData)
  | [] => some []
  | .p d :: r => (allP r).map (d :: ·)
  | _ => none
theorem allP_dq {K : PySem.W.Frag} {c : Cur wd} : ∀ {ds : List D} {vs : List V} {ps : List PyData}, allP ds = some ps → DvL cls K c ds vs → DqL c.F ps vs
  | [], vs, ps, h, q => by
    simp only [allP, Option.some.injEq] at h
    subst h
    have q : vs = [] := q
    subst q
    exact .nil
  | .p d :: r, vs, ps, h, ⟨u, us, e1, q1, q2⟩ => by
    simp only [allP, Option.map_eq_some_iff] at h
    obtain ⟨rs, hr, rfl⟩ := h
    subst e1
    exact .cons q1 (allP_dq hr q2)
  | .exc _ :: _, _, _, h, _ => by simp [allP] at h
  | .obj _ :: _, _, _, h, _ => by simp [allP] at h
  | .scr _ :: _, _, _, h, _ => by simp [allP] at h
  | .opq :: _, _, _, h, _ => by simp [allP] at h
/-- the values that a form gives -/
def xN (g : List D → Option D) (fl : XL W) : XF W := fun δ w => (fl δ w).bind fun xs w1 => opt (g xs) w1
theorem after_args {K : PySem.W.Frag} (ke : Ok e) {c : Cur wd} {δ : Ev} {σ : L2.St} {k : List D → W → Res W D} {Q : VK} (r : Rz cls K e c δ σ) (q : after cls K c σ Wx ((fl δ c.w).bind k) Q) :
    tSL cls K e Wx fl σ c.H fun us H1 => ∃ ds c2, c2.H = H1 ∧ Rz cls K e c2 δ σ ∧ DvL cls K c2 ds us ∧ after cls K c2 σ Wx (k ds c2.w) Q :=
  ⟨c, δ, rfl, r, afterL_mono (afterL_bind r.ok q) fun _ _ _ ⟨ds, c1', e1, b1', q1, q2⟩ => ⟨ds, c1', e1, r.step ke b1', q1, q2⟩⟩
theorem tSL_imp {K : PySem.W.Frag} {σ : L2.St} {H : Hp} {Q Q' : List V → Hp → Prop} (h : tSL cls K e Wx fl σ H Q) (i : ∀ u H', Q u H' → Q' u H') : tSL cls K e Wx fl σ H Q' :=
  let ⟨c, δ, e1, r, q⟩ := h
  ⟨c, δ, e1, r, afterL_mono q fun u c' _ => i u c'.H⟩
def gList (ds : List D) : Option D := (allP ds).bind fun ps => if ps.length ≤ lim then some (.p (.list ps)) else none
def gTupD (ds : List D) : Option D := (allP ds).bind fun ps => if ps.length ≤ lim then some (.p (.tuple ps)) else none
theorem s_list (ke : Ok e) (h : PA X es (tSL cls X.K e Wx fl)) : PE X (.List es pos) (tS cls X.K e Wx (xN gList fl)) := pe_imp (pe_lst h) fun σ H Q ⟨c, δ, eH, r, q⟩ => by
  rw [← eH]
  refine tSL_imp (after_args (K := X.K) ke r q) fun us H1 ⟨ds, c2, e2, r2, q2, q3⟩ => ?_
  replace q3 := after_opt q3
  unfold gList at q3
  cases z : allP ds with
  | none => rw [z] at q3; obtain ⟨_, e, _⟩ := q3; cases e
  | some ps =>
    rw [z] at q3
    dsimp only [Option.bind] at q3
    by_cases z2 : ps.length ≤ lim
    · rw [if_pos z2] at q3
      have q4 := allP_dq z q2
      rw [← e2]
      exact ⟨by rw [q4.len, ← lim_eq]; exact z2, gives_lst q3 r2.ok q4⟩
    · rw [if_neg z2] at q3; obtain ⟨_, e, _⟩ := q3; cases e
theorem s_tup {x1} (ke : Ok e) (h : PA X es (tSL cls X.K e Wx fl)) : PE X (.Tuple es x1 pos) (tS cls X.K e Wx (xN gTupD fl)) := pe_imp (pe_tup h) fun σ H Q ⟨c, δ, eH, r, q⟩ => by
  rw [← eH]
  refine tSL_imp (after_args (K := X.K) ke r q) fun us H1 ⟨ds, c2, e2, r2, q2, q3⟩ => ?_
  replace q3 := after_opt q3
  unfold gTupD at q3
  cases z : allP ds with
  | none => rw [z] at q3; obtain ⟨_, e, _⟩ := q3; cases e
  | some ps =>
    rw [z] at q3
    dsimp only [Option.bind] at q3
    by_cases z2 : ps.length ≤ lim
    · rw [if_pos z2] at q3
      have q4 := allP_dq z q2
      rw [← e2]
      exact ⟨by rw [q4.len, ← lim_eq]; exact z2, gives_tup q3 r2.ok q4⟩
    · rw [if_neg z2] at q3; obtain ⟨_, e, _⟩ := q3; cases e

/-! ## subscripts -/
def gIx : D → D → Option D
  | .p (.list xs), .p (.int i) => (atI xs i).map .p
  | .p (.tuple xs), .p (.int i) => (atI xs i).map .p
  | .p (.str z), .p (.int i) => if z.length ≤ lim then (atI z.cps.toList i).map fun c => .p (.str ⟨#[c]⟩) else none
  | _, _ => none
theorem atI_dq {F : Hp} {ds : List PyData} {vs : List V} {i : Int} {d : PyData} (h : DqL F ds vs) (e : atI ds i = some d) : ∃ v, atI vs i = some v ∧ Dq F d v := by
  unfold atI at e ⊢
  rw [h.len]
  cases z : ixN ds.length i with
  | none => rw [z] at e; cases e
  | some j =>
    rw [z] at e
    exact h.get e
theorem s_ix (ke : Ok e) (ha : PE X a (tS cls X.K e Wx f)) (hb : PE X b (tS cls X.K e Wx h)) (hs : PlainIx b := by exact fun _ _ => rfl) : PE X (.Subscript a b pos) (tS cls X.K e Wx (x2 gIx f h)) := by
  have ho : IxR X (rG cls X.K wd gIx) := ixR_imp ix_seq fun u v H Q ⟨c, x, y, eH, k, qx, qy, q⟩ => by
    unfold gIx at q
    split at q
    · rename_i xs i
      obtain ⟨p, vs, rfl, h1, r1⟩ := dv_lst.mp qx
      obtain rfl := dv_int.mp qy
      cases z : atI xs i with
      | none => rw [z] at q; obtain ⟨_, e, _⟩ := q; cases e
      | some d =>
        rw [z] at q
        obtain ⟨v, e1, q1⟩ := atI_dq r1 z
        exact .inl ⟨p, vs, i, v, rfl, rfl, by rw [← eH]; exact SqL.of (k.fh _ _ h1), e1, by rw [← eH]; exact gives_v q k q1⟩
    · rename_i xs i
      obtain ⟨p, vs, rfl, h1, r1⟩ := dv_tup.mp qx
      obtain rfl := dv_int.mp qy
      cases z : atI xs i with
      | none => rw [z] at q; obtain ⟨_, e, _⟩ := q; cases e
      | some d =>
        rw [z] at q
        obtain ⟨v, e1, q1⟩ := atI_dq r1 z
        exact .inr (.inl ⟨p, vs, i, v, rfl, rfl, by rw [← eH]; exact SqT.of (k.fh _ _ h1), e1, by rw [← eH]; exact gives_v q k q1⟩)
    · rename_i z i
      obtain rfl := dv_str.mp qx
      obtain rfl := dv_int.mp qy
      by_cases hz : z.length ≤ lim
      · rw [if_pos hz] at q
        cases z2 : atI z.cps.toList i with
        | none => rw [z2] at q; obtain ⟨_, e, _⟩ := q; cases e
        | some d =>
          rw [z2] at q
          exact .inr (.inr ⟨z, i, d, rfl, rfl, by rw [← lim_eq]; exact hz, z2, by rw [← eH]; exact gives_v q k (dv_str.mpr rfl)⟩)
      · rw [if_neg hz] at q; obtain ⟨_, e, _⟩ := q; cases e
    · obtain ⟨_, e, _⟩ := q
      cases e
  exact pe_imp (pe_ix ho ha hb hs) fun σ H Q ⟨c, δ, eH, r, q⟩ => by
    rw [← eH]
    refine tS_imp (after_one (K := X.K) ke r q) fun u H1 ⟨x, c2, e2, b2, r2, q2, q3⟩ => ?_
    rw [← e2]
    refine tS_imp (after_one (K := X.K) ke r2 q3) fun v H2 ⟨y, c3, e3, b3, r3, q4, q5⟩ => ?_
    exact ⟨c3, x, y, e3, r3.ok, q2.mono b3, q4, after_opt q5⟩
end
end Z

set_option Elab.async false
set_option linter.all false
set_option maxRecDepth 100000
/-! # Z4: slices, calls of built-ins -/
namespace Z
open PySem PySem.Spec PyProof.Rows L2

section
variable {X : Cx} {W : Type} {wd : WD W} {cls : Nat → Addr} {e : Cur wd} {Wx : WX} {ex a b d : Expr} {pos : Pos} {f h : XF W} {fl : XL W} {es : List Expr}
/-! ## xs[lo:hi] -/
def oInt : D → Option (Option Int)
  | .p (.int i) => some (some i)
  | _ => none
def oEv (o : Option (XF W)) : Ev → W → Res W (Option Int) := fun δ w => match o with
  | none => .ok none w
  | some f => (f δ w).bind fun x w1 => match oInt x with
    | some i => .ok i w1
    | none => .bad
def PoZ (X : Cx) (cls : Nat → Addr) (e : Cur wd) (Wx : WX) : Option Expr → Option (XF W) → Prop
  | none, none => True
  | some ex, some f => PE X ex (tS cls X.K e Wx f)
  | _, _ => False
def tPo (cls : Nat → Addr) (K : PySem.W.Frag) (e : Cur wd) (Wx : WX) (o : Option (XF W)) : TO := match o with
  | none => tNoPart
  | some f => tPart (tS cls K e Wx f)
theorem po_of {o : Option (XF W)} {ox : Option Expr} (h : PoZ X cls e Wx ox o) : PO X ox (tPo cls X.K e Wx o) := by
  cases ox with
  | none =>
    cases o with
    | none => exact po_none
    | some f => exact h.elim
  | some x =>
    cases o with
    | none => exact h.elim
    | some f => exact po_some h
theorem after_part {K : PySem.W.Frag} (ke : Ok e) {c : Cur wd} {δ : Ev} {σ : L2.St} {o : Option (XF W)} {k : Option Int → W → Res W D} {Q : VK} (r : Rz cls K e c δ σ) (q : after cls K c σ Wx ((oEv o δ c.w).bind k) Q) :
    tPo cls K e Wx o σ c.H fun l H1 => ∃ c2, c2.H = H1 ∧ Bs c c2 ∧ Rz cls K e c2 δ σ ∧ after cls K c2 σ Wx (k l c2.w) Q := by
  cases o with
  | none => exact ⟨c, rfl, Bs.refl r.ok, r, q⟩
  | some f =>
    have q' : after cls K c σ Wx ((f δ c.w).bind fun x w1 => match oInt x with
        | some i => k i w1
        | none => .bad) Q := by
      have q : after cls K c σ Wx (((f δ c.w).bind fun x w1 => match oInt x with
        | some i => .ok i w1
        | none => .bad).bind k) Q := q
      cases z : f δ c.w with
      | bad => rw [z] at q; exact q
      | exc _ _ => rw [z] at q; exact q
      | ok x w1 =>
        rw [z] at q
        dsimp only [Res.bind] at q ⊢
        cases z2 : oInt x with
        | none => rw [z2] at q; exact q
        | some i => rw [z2] at q; exact q
    show tS cls K e Wx f σ c.H _
    refine tS_imp (after_one (K := K) ke r q') fun u H1 ⟨x, c2, e2, b2, r2, q2, q3⟩ => ?_
    unfold oInt at q3
    split at q3
    · rename_i i h
      split at h
      · cases h
        obtain rfl := dv_int.mp q2
        exact ⟨_, rfl, c2, e2, b2, r2, q3⟩
      · cases h
    · exact q3.elim
def cutP (xs : List PyData) (lo hi : Option Int) : List PyData := (xs.drop (HT.sIx xs.length 0 lo)).take (HT.sIx xs.length xs.length hi - HT.sIx xs.length 0 lo)
def gSl : D → Option Int → Option Int → Option D
  | .p (.list xs), lo, hi => some (.p (.list (cutP xs lo hi)))
  | .p (.tuple xs), lo, hi => some (.p (.tuple (cutP xs lo hi)))
  | .p (.str z), lo, hi => if z.length ≤ lim then some (.p (.str (cutS z lo hi))) else none
  | _, _, _ => none
def xSl (lo hi : Option (XF W)) (f : XF W) : XF W := fun δ w => (f δ w).bind fun x w1 => (oEv lo δ w1).bind fun l w2 => (oEv hi δ w2).bind fun u w3 => opt (gSl x l u) w3
theorem cut_dq {F : Hp} {ds : List PyData} {vs : List V} {lo hi : Option Int} (h : DqL F ds vs) : DqL F (cutP ds lo hi) (cutV vs lo hi) := by
  unfold cutP cutV
  rw [h.len]
  exact (h.drop _).take _
theorem cut_whole {ds : List PyData} {lo hi : Option Int} (h : HT.sIx ds.length 0 lo = 0 ∧ HT.sIx ds.length ds.length hi = ds.length) : cutP ds lo hi = ds := by
  unfold cutP
  rw [h.1, h.2]
  simp
theorem s_slice {lo hi : Option (XF W)} {el eh : Option Expr} {p2 : Pos} (ke : Ok e) (ha : PE X a (tS cls X.K e Wx f)) (hl : PoZ X cls e Wx el lo) (hh : PoZ X cls e Wx eh hi) : PE X (.Subscript a (.Slice el eh none p2) pos) (tS cls X.K e Wx (xSl lo hi f)) :=
  pe_imp (pe_slice ((sl_list.or sl_tupA).or sl_str) ha (po_of hl) (po_of hh)) fun σ H Q ⟨c, δ, eH, r, q⟩ => by
    rw [← eH]
    refine tS_imp (after_one (K := X.K) ke r q) fun u H1 ⟨x, c2, e2, b2, r2, q2, q3⟩ => ?_
    rw [← e2]
    have zz := after_part (K := X.K) ke r2 q3
    have mono : ∀ {o : Option (XF W)} {σ H} {Q Q' : Option Int → Hp → Prop}, tPo cls X.K e Wx o σ H Q → (∀ l H', Q l H' → Q' l H') → tPo cls X.K e Wx o σ H Q' := fun {o σ H Q Q'} h i => by
      cases o with
      | none => exact i _ _ h
      | some f => exact tS_imp h fun u H' ⟨j, e1, q⟩ => ⟨j, e1, i _ _ q⟩
    refine mono zz fun l H2 ⟨c3, e3, b3, r3, q4⟩ => ?_
    rw [← e3]
    refine mono (after_part (K := X.K) ke r3 q4) fun u' H3 ⟨c4, e4, b4, r4, q5⟩ => ?_
    rw [← e4]
    replace q5 := after_opt q5
    have q6 := (q2.mono b3).mono b4
    have k := r4.ok
    unfold gSl at q5
    split at q5
    · obtain ⟨p, vs, rfl, h1, r1⟩ := dv_lst.mp q6
      exact .inl (.inl ⟨p, vs, rfl, SqL.of (k.fh _ _ h1), gives_lst q5 k (cut_dq r1)⟩)
    · rename_i xs _ _
      obtain ⟨p, vs, rfl, h1, r1⟩ := dv_tup.mp q6
      refine .inl (.inr ⟨p, vs, rfl, SqT.of (k.fh _ _ h1), fun hw => ?_, fun _ => gives_tup q5 k (cut_dq r1)⟩)
      rw [r1.len] at hw
      rw [cut_whole hw] at q5
      exact gives_v q5 k q6
    · rename_i z _ _
      obtain rfl := dv_str.mp q6
      by_cases hz : z.length ≤ lim
      · rw [if_pos hz] at q5
        exact .inr ⟨z, rfl, by rw [← lim_eq]; exact hz, gives_v q5 k (dv_str.mpr rfl)⟩
      · rw [if_neg hz] at q5; obtain ⟨_, e, _⟩ := q5; cases e
    · obtain ⟨_, e, _⟩ := q5; cases e
def gRev : D → Option D
  | .p (.list xs) => some (.p (.list xs.reverse))
  | _ => none
theorem s_rev {k : Nat} {p1 p2 p3 : Pos} (ke : Ok e) (ha : PE X a (tS cls X.K e Wx f)) : PE X (.Subscript a (.Slice none none (some (.UnaryOp .USub (.Constant (.int 1) k p1) p2)) p3) pos) (tS cls X.K e Wx (x1 gRev f)) :=
  pe_imp (pe_revL ha) fun σ H Q ⟨c, δ, eH, r, q⟩ => by
    rw [← eH]
    refine tS_imp (after_one ke r q) fun u H1 ⟨x, c2, e2, b2, r2, q2, q3⟩ => ?_
    replace q3 := after_opt q3
    unfold gRev at q3
    split at q3
    · obtain ⟨p, vs, rfl, h1, r1⟩ := dv_lst.mp q2
      rw [← e2]
      exact ⟨p, vs, rfl, SqL.of (r2.ok.fh _ _ h1), gives_lst q3 r2.ok r1.reverse⟩
    · obtain ⟨_, e, _⟩ := q3; cases e

/-! ## calls of built-ins -/
def rC (cls : Nat → Addr) (K : PySem.W.Frag) (wd : WD W) (g : List D → Option D) : List V → Hp → VK → Prop := fun vs H Q => ∃ (c : Cur wd) (ds : List D), c.H = H ∧ Ok c ∧ DvL cls K c ds vs ∧ gives cls K c (g ds) Q
def CallG (X : Cx) (cls : Nat → Addr) (wd : WD W) (f : Value) (g : List D → Option D) : Prop := CallR X f (rC cls X.K wd g)
theorem s_callB {x : Str} {id : String} {g : List D → Option D} {p : Pos} (ke : Ok e) (hc : CallG X cls wd (.builtin id) g) (hm : X.mg x = none) (hv : bootBuiltins x = some (.builtin id)) (ha : PA X (a :: es) (tSL cls X.K e Wx fl)) (hg : Gl X x := by rfl)
    (hn : x ≠ "__name__" := by decide) (hdb : (x == ("__debug__" : Str)) = false := by decide)
    (he : starEach (a :: es) X.env = (false, eval a X.env) :: starEach es X.env := by rfl) (hpl : (backTo pos (starEach es X.env)).any (·.1) = false := by rfl) : PE X (.Call (.Name x p) (a :: es) [] pos) (tS cls X.K e Wx (xN g fl)) :=
  pe_imp (pe_callB hc hg hm hv ha hn hdb he hpl) fun σ H Q ⟨c, δ, eH, r, q⟩ => by
    rw [← eH]
    exact tSL_imp (after_args (K := X.K) ke r q) fun us H1 ⟨ds, c2, e2, r2, q2, q3⟩ => ⟨c2, ds, e2, r2.ok, q2, after_opt q3⟩
theorem s_callTy {x : Str} {id : String} {g : List D → Option D} {p : Pos} (ke : Ok e) (hc : CallG X cls wd (.type id) g) (hm : X.mg x = none) (hv : bootBuiltins x = some (.type id)) (ha : PA X (a :: es) (tSL cls X.K e Wx fl)) (hg : Gl X x := by rfl)
    (hn : x ≠ "__name__" := by decide) (hdb : (x == ("__debug__" : Str)) = false := by decide)
    (he : starEach (a :: es) X.env = (false, eval a X.env) :: starEach es X.env := by rfl) (hpl : (backTo pos (starEach es X.env)).any (·.1) = false := by rfl) : PE X (.Call (.Name x p) (a :: es) [] pos) (tS cls X.K e Wx (xN g fl)) :=
  pe_imp (pe_callTy hc hg hm hv ha hn hdb he hpl) fun σ H Q ⟨c, δ, eH, r, q⟩ => by
    rw [← eH]
    exact tSL_imp (after_args (K := X.K) ke r q) fun us H1 ⟨ds, c2, e2, r2, q2, q3⟩ => ⟨c2, ds, e2, r2.ok, q2, after_opt q3⟩
theorem gives_no {K : PySem.W.Frag} {c : Cur wd} {Q : VK} {P : Prop} (h : gives cls K c none Q) : P := by
  obtain ⟨_, e, _⟩ := h
  cases e
theorem DvL.one {K : PySem.W.Frag} {c : Cur wd} {x : D} {vs : List V} (h : DvL cls K c [x] vs) : ∃ u, vs = [u] ∧ Dv cls K c x u := by
  obtain ⟨u, us, e1, q, t⟩ := h
  have t : us = [] := t
  subst t
  exact ⟨u, e1, q⟩
theorem DvL.two {K : PySem.W.Frag} {c : Cur wd} {x y : D} {vs : List V} (h : DvL cls K c [x, y] vs) : ∃ u v, vs = [u, v] ∧ Dv cls K c x u ∧ Dv cls K c y v := by
  obtain ⟨u, us, e1, q, t⟩ := h
  obtain ⟨v, rfl, q2⟩ := DvL.one t
  exact ⟨u, v, e1, q, q2⟩
/-! len -/
def gLen : List D → Option D
  | [.p (.list xs)] => some (.p (.int xs.length))
  | [.p (.tuple xs)] => some (.p (.int xs.length))
  | [.p (.str x)] => if x.length ≤ lim then some (.p (.int x.length)) else none
  | _ => none
theorem cg_len : CallG X cls wd (.builtin "len") gLen := callR_imp call_len fun vs H Q ⟨c, ds, eH, k, qs, q⟩ => by
  unfold gLen at q
  split at q
  · obtain ⟨u, rfl, q1⟩ := qs.one
    obtain ⟨p, vs, rfl, h1, r1⟩ := dv_lst.mp q1
    refine ⟨_, _, rfl, .inl ⟨vs, by rw [← eH]; exact SqL.of (k.fh _ _ h1), rfl⟩, ?_⟩
    rw [r1.len, ← eH]
    exact gives_v q k (dv_int.mpr rfl)
  · obtain ⟨u, rfl, q1⟩ := qs.one
    obtain ⟨p, vs, rfl, h1, r1⟩ := dv_tup.mp q1
    refine ⟨_, _, rfl, .inr ⟨vs, by rw [← eH]; exact SqT.of (k.fh _ _ h1), rfl⟩, ?_⟩
    rw [r1.len, ← eH]
    exact gives_v q k (dv_int.mpr rfl)
  · rename_i x
    obtain ⟨u, rfl, q1⟩ := qs.one
    obtain rfl := dv_str.mp q1
    by_cases z : x.length ≤ lim
    · rw [if_pos z] at q
      refine ⟨_, _, rfl, ⟨by rw [← lim_eq]; exact z, rfl⟩, ?_⟩
      rw [← eH]
      exact gives_v q k (dv_int.mpr rfl)
    · rw [if_neg z] at q; exact gives_no q
  · exact gives_no q
/-! sum, max, min of a list -/
def gSum : List D → Option D
  | [.p (.list xs)] => (ints? xs).map fun ns => .p (.int ns.sum)
  | _ => none
theorem ints_list {K : PySem.W.Frag} {c : Cur wd} {xs : List PyData} {ns : List Int} {u : V} (k : Ok c) (z : ints? xs = some ns) (q : Dv cls K c (.p (.list xs)) u) : ∃ p, u = .ref p ∧ SqL K c.H p (ns.map V.int) := by
  obtain ⟨p, vs, rfl, h1, r1⟩ := dv_lst.mp q
  rw [ints?_eq z] at r1
  rw [r1.ints] at h1
  exact ⟨p, rfl, SqL.of (k.fh _ _ h1)⟩
theorem cg_sum (hc : X.calm = true) : CallG X cls wd (.builtin "sum") gSum := callR_imp (cr_sum hc) fun vs H Q ⟨c, ds, eH, k, qs, q⟩ => by
  unfold gSum at q
  split at q
  · rename_i xs
    obtain ⟨u, rfl, q1⟩ := qs.one
    cases z : ints? xs with
    | none => rw [z] at q; exact gives_no q
    | some ns =>
      rw [z] at q
      obtain ⟨p, rfl, h1⟩ := ints_list k z q1
      exact ⟨p, ns, rfl, by rw [← eH]; exact h1, by rw [← eH]; exact gives_v q k (dv_int.mpr rfl)⟩
  · exact gives_no q
def lmax : List Int → Int
  | [] => 0
  | [x] => x
  | x :: y :: r => max x (lmax (y :: r))
def lmin : List Int → Int
  | [] => 0
  | [x] => x
  | x :: y :: r => min x (lmin (y :: r))
theorem lmax_mem : ∀ {l : List Int}, l ≠ [] → lmax l ∈ l ∧ ∀ y ∈ l, y ≤ lmax l
  | [], h => absurd rfl h
  | [x], _ => ⟨List.mem_singleton.mpr rfl, fun y hy => by simp at hy; subst hy; simp [lmax]⟩
  | x :: y :: r, _ => by
    obtain ⟨h1, h2⟩ := lmax_mem (l := y :: r) (by simp)
    simp only [lmax]
    refine ⟨?_, fun z hz => ?_⟩
    · by_cases hx : x ≤ lmax (y :: r)
      · rw [Int.max_eq_right hx]; exact List.mem_cons_of_mem _ h1
      · rw [Int.max_eq_left (by omega)]; exact List.mem_cons_self
    · rcases List.mem_cons.mp hz with rfl | hz
      · omega
      · have := h2 z hz; omega
theorem lmin_mem : ∀ {l : List Int}, l ≠ [] → lmin l ∈ l ∧ ∀ y ∈ l, lmin l ≤ y
  | [], h => absurd rfl h
  | [x], _ => ⟨List.mem_singleton.mpr rfl, fun y hy => by simp at hy; subst hy; simp [lmin]⟩
  | x :: y :: r, _ => by
    obtain ⟨h1, h2⟩ := lmin_mem (l := y :: r) (by simp)
    simp only [lmin]
    refine ⟨?_, fun z hz => ?_⟩
    · by_cases hx : x ≤ lmin (y :: r)
      · rw [Int.min_eq_left hx]; exact List.mem_cons_self
      · rw [Int.min_eq_right (by omega)]; exact List.mem_cons_of_mem _ h1
    · rcases List.mem_cons.mp hz with rfl | hz
      · omega
      · have := h2 z hz; omega
def gMax : List D → Option D
  | [.p (.list xs)] => (ints? xs).bind fun ns => if ns = [] then none else some (.p (.int (lmax ns)))
  | [.p (.int i), .p (.int j)] => some (.p (.int (if j > i then j else i)))
  | _ => none
def gMin : List D → Option D
  | [.p (.list xs)] => (ints? xs).bind fun ns => if ns = [] then none else some (.p (.int (lmin ns)))
  | [.p (.int i), .p (.int j)] => some (.p (.int (if j < i then j else i)))
  | [.p (.int a), .p (.int b), .p (.int c)] => some (.p (.int (if b < a then (if c < b then c else b) else (if c < a then c else a))))
  | _ => none
theorem cg_max (hc : X.calm = true) : CallG X cls wd (.builtin "max") gMax := callR_imp ((cr_max hc).or (call_max2 hc)) fun vs H Q ⟨c, ds, eH, k, qs, q⟩ => by
  unfold gMax at q
  split at q
  · rename_i xs
    obtain ⟨u, rfl, q1⟩ := qs.one
    cases z : ints? xs with
    | none => rw [z] at q; exact gives_no q
    | some ns =>
      rw [z] at q
      dsimp only [Option.bind] at q
      by_cases hn : ns = []
      · rw [if_pos hn] at q; exact gives_no q
      · rw [if_neg hn] at q
        obtain ⟨p, rfl, h1⟩ := ints_list k z q1
        refine .inl ⟨p, ns, rfl, by rw [← eH]; exact h1, List.length_pos_iff.mpr hn, fun m hm hy => ?_⟩
        obtain ⟨g1, g2⟩ := lmax_mem hn
        have e : m = lmax ns := Int.le_antisymm (g2 m hm) (hy _ g1)
        subst e
        rw [← eH]; exact gives_v q k (dv_int.mpr rfl)
  · rename_i i j
    obtain ⟨u, v, rfl, q1, q2⟩ := qs.two
    obtain rfl := dv_int.mp q1
    obtain rfl := dv_int.mp q2
    exact .inr ⟨i, j, rfl, by rw [← eH]; exact gives_v q k (dv_int.mpr rfl)⟩
  · exact gives_no q
theorem call_min3 (hc : X.calm = true) : CallR X (.builtin "min") (fun xs H Q => ∃ i j k, xs = [.int i, .int j, .int k] ∧ Q (.int (if j < i then (if k < j then k else j) else (if k < i then k else i))) H) := by
  intro pins s σ H xs us Q I r h
  obtain ⟨i, j, k, rfl, q⟩ := h
  cases r with
  | cons r1 r =>
    cases r with
    | cons r2 r =>
      cases r with
      | cons r3 r =>
        cases r
        obtain ⟨t1, rfl⟩ := r1
        obtain ⟨t2, rfl⟩ := r2
        obtain ⟨t3, rfl⟩ := r3
        refine min_three_ints (I.ok.hd hc) fun h' tk kk => ⟨_, H, I.kept kk, ?_, q⟩
        by_cases a1 : j < i
        · rw [if_pos a1, if_pos a1]
          by_cases a2 : k < j
          · rw [if_pos a2, if_pos a2]; exact ⟨_, rfl⟩
          · rw [if_neg a2, if_neg a2]; exact ⟨_, rfl⟩
        · rw [if_neg a1, if_neg a1]
          by_cases a2 : k < i
          · rw [if_pos a2, if_pos a2]; exact ⟨_, rfl⟩
          · rw [if_neg a2, if_neg a2]; exact ⟨_, rfl⟩
theorem cg_min (hc : X.calm = true) : CallG X cls wd (.builtin "min") gMin := callR_imp (((cr_min hc).or (call_min2 hc)).or (call_min3 hc)) fun vs H Q ⟨c, ds, eH, k, qs, q⟩ => by
  unfold gMin at q
  split at q
  · rename_i xs
    obtain ⟨u, rfl, q1⟩ := qs.one
    cases z : ints? xs with
    | none => rw [z] at q; exact gives_no q
    | some ns =>
      rw [z] at q
      dsimp only [Option.bind] at q
      by_cases hn : ns = []
      · rw [if_pos hn] at q; exact gives_no q
      · rw [if_neg hn] at q
        obtain ⟨p, rfl, h1⟩ := ints_list k z q1
        refine .inl (.inl ⟨p, ns, rfl, by rw [← eH]; exact h1, List.length_pos_iff.mpr hn, fun m hm hy => ?_⟩)
        obtain ⟨g1, g2⟩ := lmin_mem hn
        have e : m = lmin ns := Int.le_antisymm (hy _ g1) (g2 m hm)
        subst e
        rw [← eH]; exact gives_v q k (dv_int.mpr rfl)
  · rename_i i j
    obtain ⟨u, v, rfl, q1, q2⟩ := qs.two
    obtain rfl := dv_int.mp q1
    obtain rfl := dv_int.mp q2
    exact .inl (.inr ⟨i, j, rfl, by rw [← eH]; exact gives_v q k (dv_int.mpr rfl)⟩)
  · rename_i i j l
    obtain ⟨u, us, rfl, q1, qs⟩ := qs
    obtain ⟨v, w, rfl, q2, q3⟩ := qs.two
    obtain rfl := dv_int.mp q1
    obtain rfl := dv_int.mp q2
    obtain rfl := dv_int.mp q3
    exact .inr ⟨i, j, l, rfl, by rw [← eH]; exact gives_v q k (dv_int.mpr rfl)⟩
  · exact gives_no q
/-! any, all: of truth values; any of ints -/
theorem truth_ints {prog : Program} {w : World} {A : Around} {ns : List Int} {its : List Value} (r : Vals (ns.map V.int) its) :
    TruthOf prog w A (fun i v => its.toArray[i]? = some v) (fun i => (ns.map (· != 0)).getD i false) := fun i v s Q E hv hq => by
  have hv' : its[i]? = some v := by simpa using hv
  have hl : (ns.map V.int).length = its.length := r.length
  have hi : i < its.length := (List.getElem?_eq_some_iff.mp hv').1
  have hi2 : i < ns.length := by rw [List.length_map] at hl; omega
  obtain ⟨u, hu, ru⟩ := r.get (i := i) (x := V.int ns[i]) (by simp [hi2])
  rw [hv'] at hu
  cases hu
  obtain ⟨t, rfl⟩ := ru
  have hg : (ns.map (· != 0)).getD i false = (ns[i] != 0) := by simp [List.getD_eq_getElem?_getD, hi2]
  have hq' : Q ((ns.map (· != 0)).getD i false) s := hq
  rw [hg] at hq'
  exact PySem.P.truthy_int hq'
theorem cr_anyI (hc : X.calm = true) : CallR X (.builtin "any") (fun vs H Q => ∃ (p : Addr) (ns : List Int), vs = [V.ref p] ∧ SqL X.K H p (ns.map V.int) ∧ Q (.bl ((ns.map (· != 0)).any id)) H) := by
  intro pins s σ H vs us Q I r h
  obtain ⟨p, ns, rfl, hs, q⟩ := h
  obtain ⟨its, rv, hl, _⟩ := I.list hs
  rw [Vals.ref1 r]
  have hlen : its.length = ns.length := by rw [← rv.length]; simp
  refine call_any_walk (iter_any hl.isList fun s₂ e2 st hne => ?_)
  subst e2
  refine ⟨_, _, _, _, _, _, _, rfl, Walks.list (A := X.A.in1) (I.ok.hd hc) _ p hne its.toArray, st, truth_ints rv, fun h' tk hk => ?_⟩
  refine ⟨.bl _, H, I.kept fun b o eo => hk b o (fun hmem => ?_) (Heap.get?_push_of_some _ eo), ?_, q⟩
  · rcases List.mem_cons.mp hmem with e1 | hmem
    · exact absurd (e1 ▸ Heap.lt_size eo) (Nat.lt_irrefl _)
    · cases hmem
  · show Value.bool _ = Value.bool _
    rw [← L2.any_range, List.size_toArray, hlen, List.length_map]
theorem cr_anyT (hc : X.calm = true) : CallR X (.builtin "any") (fun vs H Q => ∃ (p : Addr) (ns : List Int), vs = [V.ref p] ∧ SqT X.K H p (ns.map V.int) ∧ Q (.bl ((ns.map (· != 0)).any id)) H) := by
  intro pins s σ H vs us Q I r h
  obtain ⟨p, ns, rfl, hs, q⟩ := h
  obtain ⟨its, rv, hl, _⟩ := I.tuple hs
  rw [Vals.ref1 r]
  have hlen : its.length = ns.length := by rw [← rv.length]; simp
  have ht : s.heap.IsTuple p its.toArray := hl
  have hlt : p < s.heap.objs.size := by obtain ⟨_, e, _⟩ := ht; exact Heap.lt_size e
  refine call_any_walk (wpAny_pyIter_tuple ht ?_)
  refine ⟨_, _, _, _, _, _, _, rfl, Walks.tuple (A := X.A.in1) (I.ok.hd hc) s.heap.objs.size p (Nat.ne_of_lt hlt) its.toArray, ⟨⟨_, Heap.get?_push_size _ rfl, rfl, rfl⟩, ht.push _⟩, truth_ints rv, fun h' tk hk => ?_⟩
  refine ⟨.bl _, H, I.kept fun b o eo => hk b o (fun hmem => ?_) (Heap.get?_push_of_some _ eo), ?_, q⟩
  · rcases List.mem_cons.mp hmem with e1 | hmem
    · exact absurd (e1 ▸ Heap.lt_size eo) (Nat.lt_irrefl _)
    · cases hmem
  · show Value.bool _ = Value.bool _
    rw [← L2.any_range, List.size_toArray, hlen, List.length_map]
def gAny : List D → Option D
  | [.p (.list xs)] => match bools? xs with
    | some bs => some (.p (.bool (bs.any id)))
    | none => (ints? xs).map fun ns => .p (.bool (ns.any (· != 0)))
  | [.p (.tuple xs)] => (ints? xs).map fun ns => .p (.bool (ns.any (· != 0)))
  | _ => none
def gAll : List D → Option D
  | [.p (.list xs)] => (bools? xs).map fun bs => .p (.bool (bs.all id))
  | _ => none
theorem bools_list {K : PySem.W.Frag} {c : Cur wd} {xs : List PyData} {ns : List Bool} {u : V} (k : Ok c) (z : bools? xs = some ns) (q : Dv cls K c (.p (.list xs)) u) : ∃ p, u = .ref p ∧ SqL K c.H p (ns.map V.bl) := by
  obtain ⟨p, vs, rfl, h1, r1⟩ := dv_lst.mp q
  rw [bools?_eq z] at r1
  rw [r1.bls] at h1
  exact ⟨p, rfl, SqL.of (k.fh _ _ h1)⟩
theorem cg_any (hc : X.calm = true) : CallG X cls wd (.builtin "any") gAny := callR_imp (((cr_any hc).or (cr_anyI hc)).or (cr_anyT hc)) fun vs H Q ⟨c, ds, eH, k, qs, q⟩ => by
  unfold gAny at q
  split at q
  · rename_i xs
    obtain ⟨u, rfl, q1⟩ := qs.one
    cases z : bools? xs with
    | some bs =>
      rw [z] at q
      obtain ⟨p, rfl, h1⟩ := bools_list k z q1
      exact .inl (.inl ⟨p, bs, rfl, by rw [← eH]; exact h1, by rw [← eH]; exact gives_v q k (dv_bl.mpr rfl)⟩)
    | none =>
      rw [z] at q
      dsimp only at q
      cases z2 : ints? xs with
      | none => rw [z2] at q; exact gives_no q
      | some ns =>
        rw [z2] at q
        obtain ⟨p, rfl, h1⟩ := ints_list k z2 q1
        exact .inl (.inr ⟨p, ns, rfl, by rw [← eH]; exact h1, by rw [← eH]; exact gives_v q k (dv_bl.mpr (by simp [List.any_map, Function.comp_def]))⟩)
  · rename_i xs
    obtain ⟨u, rfl, q1⟩ := qs.one
    cases z2 : ints? xs with
    | none => rw [z2] at q; exact gives_no q
    | some ns =>
      rw [z2] at q
      obtain ⟨p, vs, rfl, h1, r1⟩ := dv_tup.mp q1
      rw [ints?_eq z2] at r1
      rw [r1.ints] at h1
      exact .inr ⟨p, ns, rfl, by rw [← eH]; exact SqT.of (k.fh _ _ h1), by rw [← eH]; exact gives_v q k (dv_bl.mpr (by simp [List.any_map, Function.comp_def]))⟩
  · exact gives_no q
theorem cg_all (hc : X.calm = true) : CallG X cls wd (.builtin "all") gAll := callR_imp (cr_all hc) fun vs H Q ⟨c, ds, eH, k, qs, q⟩ => by
  unfold gAll at q
  split at q
  · rename_i xs
    obtain ⟨u, rfl, q1⟩ := qs.one
    cases z : bools? xs with
    | none => rw [z] at q; exact gives_no q
    | some ns =>
      rw [z] at q
      obtain ⟨p, rfl, h1⟩ := bools_list k z q1
      exact ⟨p, ns, rfl, by rw [← eH]; exact h1, by rw [← eH]; exact gives_v q k (dv_bl.mpr rfl)⟩
  · exact gives_no q
/-! list(xs), tuple(xs), str(n) -/
def gListOf : List D → Option D
  | [.p (.list xs)] => some (.p (.list xs))
  | [.p (.tuple xs)] => some (.p (.list xs))
  | _ => none
def gTupOf : List D → Option D
  | [.p (.list xs)] => some (.p (.tuple xs))
  | [.p (.tuple xs)] => some (.p (.tuple xs))
  | _ => none
theorem cg_list : CallG X cls wd (.type "list") gListOf := callR_imp call_list_of fun vs H Q ⟨c, ds, eH, k, qs, q⟩ => by
  unfold gListOf at q
  split at q
  · obtain ⟨u, rfl, q1⟩ := qs.one
    obtain ⟨p, vs, rfl, h1, r1⟩ := dv_lst.mp q1
    rw [← eH]
    exact ⟨p, vs, rfl, .inl (SqL.of (k.fh _ _ h1)), gives_lst q k r1⟩
  · obtain ⟨u, rfl, q1⟩ := qs.one
    obtain ⟨p, vs, rfl, h1, r1⟩ := dv_tup.mp q1
    rw [← eH]
    exact ⟨p, vs, rfl, .inr (SqT.of (k.fh _ _ h1)), gives_lst q k r1⟩
  · exact gives_no q
theorem cg_tuple : CallG X cls wd (.type "tuple") gTupOf := callR_imp call_tuple_of fun vs H Q ⟨c, ds, eH, k, qs, q⟩ => by
  unfold gTupOf at q
  split at q
  · obtain ⟨u, rfl, q1⟩ := qs.one
    obtain ⟨p, vs, rfl, h1, r1⟩ := dv_lst.mp q1
    rw [← eH]
    exact ⟨p, vs, rfl, .inl ⟨SqL.of (k.fh _ _ h1), gives_tup q k r1⟩⟩
  · obtain ⟨u, rfl, q1⟩ := qs.one
    obtain ⟨p, vs, rfl, h1, r1⟩ := dv_tup.mp q1
    rw [← eH]
    exact ⟨p, vs, rfl, .inr ⟨SqT.of (k.fh _ _ h1), gives_v q k (dv_tup.mpr ⟨p, vs, rfl, h1, r1⟩)⟩⟩
  · exact gives_no q
def gStr : List D → Option D
  | [.p (.int i)] => if i.natAbs < 1000000 then some (.p (.str (toString i))) else none
  | _ => none
theorem cg_str : CallG X cls wd (.type "str") gStr := callR_imp call_str_int fun vs H Q ⟨c, ds, eH, k, qs, q⟩ => by
  unfold gStr at q
  split at q
  · rename_i i
    obtain ⟨u, rfl, q1⟩ := qs.one
    obtain rfl := dv_int.mp q1
    by_cases z : i.natAbs < 1000000
    · rw [if_pos z] at q
      refine ⟨i, rfl, ?_, by rw [← eH]; exact gives_v q k (dv_str.mpr rfl)⟩
      have h1 : i.natAbs.log2 ≤ i.natAbs := Nat.log2_le_self _
      by_cases h0 : i.natAbs = 0
      · rw [h0]; decide
      · have := (Nat.log2_lt h0 (k := 20)).mpr (by omega)
        omega
    · rw [if_neg z] at q; exact gives_no q
  · exact gives_no q
/-! list(range(n)), tuple(range(n)), list(range(a, b)) -/
def gRg (tup : Bool) (a b : Int) : Option D := if 0 ≤ a ∧ a ≤ 16777216 ∧ 0 ≤ b ∧ b ≤ 16777216 then
    (let l := (List.range (b - a).toNat).map fun (i : Nat) => PyData.int (a + (i : Int))
     some (.p (if tup then .tuple l else .list l))) else none
theorem dq_rg {F : Hp} (a b : Int) : DqL F ((List.range (b - a).toNat).map fun (i : Nat) => PyData.int (a + (i : Int))) (rgV a b) := by
  have h : ∀ l : List Nat, DqL F (l.map fun (i : Nat) => PyData.int (a + (i : Int))) (l.map fun (i : Nat) => V.int (a + (i : Int))) := fun l => by
    induction l with
    | nil => exact .nil
    | cons x r ih => exact .cons (by simp [Dq]) ih
  exact h _
def asI : D → Option Int
  | .p (.int i) => some i
  | _ => none
theorem asI_eq {K : PySem.W.Frag} {c : Cur wd} {x : D} {u : V} {i : Int} (h : asI x = some i) (q : Dv cls K c x u) : u = .int i := by
  unfold asI at h
  split at h
  · cases h; exact dv_int.mp q
  · cases h
def gRg1 (tup : Bool) (x : D) : Option D := (asI x).bind fun n => gRg tup 0 n
def gRg2 (tup : Bool) (x y : D) : Option D := (asI x).bind fun m => (asI y).bind fun n => gRg tup m n
theorem rg_list {K : PySem.W.Frag} {c : Cur wd} {m n : Int} {Q : VK} (k : Ok c) (q : gives cls K c (gRg false m n) Q) : RgOk m n ∧ ∀ p, c.H p = none → Q (.ref p) (upd c.H p (.lst (rgV m n))) := by
  unfold gRg at q
  by_cases z : 0 ≤ m ∧ m ≤ 16777216 ∧ 0 ≤ n ∧ n ≤ 16777216
  · rw [if_pos z] at q
    exact ⟨RgOk.of_le z.1 z.2.2.2 z.2.1 z.2.2.1, gives_lst q k (dq_rg m n)⟩
  · rw [if_neg z] at q; exact gives_no q
theorem rg_tup {K : PySem.W.Frag} {c : Cur wd} {m n : Int} {Q : VK} (k : Ok c) (q : gives cls K c (gRg true m n) Q) : RgOk m n ∧ ∀ p, c.H p = none → Q (.ref p) (upd c.H p (.tup (rgV m n))) := by
  unfold gRg at q
  by_cases z : 0 ≤ m ∧ m ≤ 16777216 ∧ 0 ≤ n ∧ n ≤ 16777216
  · rw [if_pos z] at q
    exact ⟨RgOk.of_le z.1 z.2.2.2 z.2.1 z.2.2.1, gives_tup q k (dq_rg m n)⟩
  · rw [if_neg z] at q; exact gives_no q
theorem s_listRg1 {p pos p' pos' : Pos} (ke : Ok e) (hc : X.calm = true) (hm : X.mg "list" = none) (hm' : X.mg "range" = none) (ha : PE X a (tS cls X.K e Wx f)) (hg : Gl X "list" := by rfl) (hg' : Gl X "range" := by rfl)
    (na : starEach [.Call (.Name "range" p') [a] [] pos'] X.env = (false, eval (.Call (.Name "range" p') [a] [] pos') X.env) :: starEach [] X.env := by rfl) (na' : starEach [a] X.env = (false, eval a X.env) :: starEach [] X.env := by rfl) :
    PE X (.Call (.Name "list" p) [.Call (.Name "range" p') [a] [] pos'] [] pos) (tS cls X.K e Wx (x1 (gRg1 false) f)) :=
  pe_imp (pe_listRg hc hg hm (prg_1 hg' hm' ha na') na) fun σ H Q ⟨c, δ, eH, r, q⟩ => by
    rw [← eH]
    refine tS_imp (after_one ke r q) fun u H1 ⟨x, c2, e2, b2, r2, q2, q3⟩ => ?_
    replace q3 := after_opt q3
    unfold gRg1 at q3
    cases z : asI x with
    | none => rw [z] at q3; exact gives_no q3
    | some n =>
      rw [z] at q3
      rw [← e2]
      exact ⟨n, asI_eq z q2, rg_list r2.ok q3⟩
theorem s_tupRg1 {p pos p' pos' : Pos} (ke : Ok e) (hc : X.calm = true) (hm : X.mg "tuple" = none) (hm' : X.mg "range" = none) (ha : PE X a (tS cls X.K e Wx f)) (hg : Gl X "tuple" := by rfl) (hg' : Gl X "range" := by rfl)
    (na : starEach [.Call (.Name "range" p') [a] [] pos'] X.env = (false, eval (.Call (.Name "range" p') [a] [] pos') X.env) :: starEach [] X.env := by rfl) (na' : starEach [a] X.env = (false, eval a X.env) :: starEach [] X.env := by rfl) :
    PE X (.Call (.Name "tuple" p) [.Call (.Name "range" p') [a] [] pos'] [] pos) (tS cls X.K e Wx (x1 (gRg1 true) f)) :=
  pe_imp (pe_tupRg hc hg hm (prg_1 hg' hm' ha na') na) fun σ H Q ⟨c, δ, eH, r, q⟩ => by
    rw [← eH]
    refine tS_imp (after_one ke r q) fun u H1 ⟨x, c2, e2, b2, r2, q2, q3⟩ => ?_
    replace q3 := after_opt q3
    unfold gRg1 at q3
    cases z : asI x with
    | none => rw [z] at q3; exact gives_no q3
    | some n =>
      rw [z] at q3
      rw [← e2]
      exact ⟨n, asI_eq z q2, rg_tup r2.ok q3⟩
theorem s_listRg2 {p pos p' pos' : Pos} (ke : Ok e) (hc : X.calm = true) (hm : X.mg "list" = none) (hm' : X.mg "range" = none) (ha : PE X a (tS cls X.K e Wx f)) (hb : PE X b (tS cls X.K e Wx h)) (hg : Gl X "list" := by rfl) (hg' : Gl X "range" := by rfl)
    (na : starEach [.Call (.Name "range" p') [a, b] [] pos'] X.env = (false, eval (.Call (.Name "range" p') [a, b] [] pos') X.env) :: starEach [] X.env := by rfl) (na' : starEach [a, b] X.env = (false, eval a X.env) :: starEach [b] X.env := by rfl)
    (na2 : starEach [b] X.env = (false, eval b X.env) :: starEach [] X.env := by rfl) (np : (backTo pos' (starEach [b] X.env)).any (·.1) = false := by rfl) :
    PE X (.Call (.Name "list" p) [.Call (.Name "range" p') [a, b] [] pos'] [] pos) (tS cls X.K e Wx (x2 (gRg2 false) f h)) :=
  pe_imp (pe_listRg hc hg hm (prg_2 hg' hm' ha hb na' (nb := na2) (hp := np)) na) fun σ H Q ⟨c, δ, eH, r, q⟩ => by
    rw [← eH]
    show tS cls X.K e Wx f σ c.H _
    refine tS_imp (after_one ke r q) fun u H1 ⟨x, c2, e2, b2, r2, q2, q3⟩ => ?_
    rw [← e2]
    refine tS_imp (after_one (K := X.K) ke r2 q3) fun v H2 ⟨y, c3, e3, b3, r3, q4, q5⟩ => ?_
    replace q5 := after_opt q5
    unfold gRg2 at q5
    cases z : asI x with
    | none => rw [z] at q5; exact gives_no q5
    | some m =>
      rw [z] at q5
      dsimp only [Option.bind] at q5
      cases z2 : asI y with
      | none => rw [z2] at q5; exact gives_no q5
      | some n =>
        rw [z2] at q5
        rw [← e3]
        exact ⟨m, n, asI_eq z (q2.mono b3), asI_eq z2 q4, rg_list r3.ok q5⟩
/-! isinstance(x, T), T a built-in class -/
def pyTy : D → Option String
  | .p .none => some "NoneType"
  | .p (.bool _) => some "bool"
  | .p (.int _) => some "int"
  | .p (.str _) => some "str"
  | .p (.list _) => some "list"
  | .p (.tuple _) => some "tuple"
  | _ => none
theorem tyx {K : PySem.W.Frag} {c : Cur wd} {x : D} {u : V} {T : String} (k : Ok c) (h : pyTy x = some T) (q : Dv cls K c x u) : TyX K c.H u (.type T) := by
  unfold pyTy at h
  split at h
  · cases h; obtain rfl := dv_non.mp q; exact .base .non
  · cases h; obtain rfl := dv_bl.mp q; exact .base (.bl _)
  · cases h; obtain rfl := dv_int.mp q; exact .base (.int _)
  · cases h; obtain rfl := dv_str.mp q; exact .base (.str _)
  · cases h; obtain ⟨p, vs, rfl, h1, _⟩ := dv_lst.mp q; exact .base (.lst (k.fh _ _ h1))
  · cases h; obtain ⟨p, vs, rfl, h1, _⟩ := dv_tup.mp q; exact .base (.tup (k.fh _ _ h1))
  · cases h
/-- is T the type, or one that it stands under -/
def tyIs (T S : String) : Bool := T == S || (T == "bool" && S == "int")
def goodTy (S : String) : Bool := S == "int" || S == "bool" || S == "list" || S == "tuple" || S == "str"
theorem tyIs_kit {T S : String} (hT : T = "NoneType" ∨ T = "bool" ∨ T = "int" ∨ T = "str" ∨ T = "list" ∨ T = "tuple") (hS : S = "int" ∨ S = "bool" ∨ S = "list" ∨ S = "tuple" ∨ S = "str") : kitB T S = some (tyIs T S) := by
  rcases hT with rfl | rfl | rfl | rfl | rfl | rfl <;> rcases hS with rfl | rfl | rfl | rfl | rfl <;> decide +kernel
def gIsi (S : String) (x : D) : Option D := (pyTy x).map fun T => .p (.bool (tyIs T S))
theorem pyTy_is {x : D} {T : String} (h : pyTy x = some T) : T = "NoneType" ∨ T = "bool" ∨ T = "int" ∨ T = "str" ∨ T = "list" ∨ T = "tuple" := by
  unfold pyTy at h
  split at h <;> first | (cases h; simp; done) | cases h
theorem s_isi {S : String} {xs : Str} {p p2 pos : Pos} (ke : Ok e) (hS : S = "int" ∨ S = "bool" ∨ S = "list" ∨ S = "tuple" ∨ S = "str") (hm : X.mg "isinstance" = none) (hms : X.mg xs = none) (hvs : bootBuiltins xs = some (.type S)) (ha : PE X a (tS cls X.K e Wx f))
    (hg : Gl X "isinstance" := by rfl) (hgs : Gl X xs := by rfl) (hns : xs ≠ "__name__" := by decide) (hds : (xs == ("__debug__" : Str)) = false := by decide)
    (hv : bootBuiltins "isinstance" = some (.builtin "isinstance") := by decide +kernel)
    (he : starEach [a, .Name xs p2] X.env = (false, eval a X.env) :: starEach [.Name xs p2] X.env := by rfl) (he2 : starEach [.Name xs p2] X.env = (false, eval (.Name xs p2) X.env) :: starEach [] X.env := by rfl)
    (hpl : (backTo pos (starEach [.Name xs p2] X.env)).any (·.1) = false := by rfl) :
    PE X (.Call (.Name "isinstance" p) [a, .Name xs p2] [] pos) (tS cls X.K e Wx (x1 (gIsi S) f)) :=
  pe_imp (pe_callB call_isi hg hm hv (pa_cons ha (pa_cons (pe_bltn (v := .ty S) hgs hms hvs rfl hns hds) pa_nil he2) he) (by decide) (by decide) he hpl) fun σ H Q ⟨c, δ, eH, r, q⟩ => by
    rw [← eH]
    show tS cls X.K e Wx f σ c.H _
    refine tS_imp (after_one ke r q) fun u H1 ⟨x, c2, e2, b2, r2, q2, q3⟩ => ?_
    replace q3 := after_opt q3
    unfold gIsi at q3
    cases z : pyTy x with
    | none => rw [z] at q3; exact gives_no q3
    | some T =>
      rw [z] at q3
      rw [← e2]
      exact ⟨u, .ty S, .type T, .type S, tyIs T S, rfl, .ty S, tyx r2.ok z q2, kit_ty (tyIs_kit (pyTy_is z) hS), gives_v q3 r2.ok (dv_bl.mpr rfl)⟩
end
end Z

set_option Elab.async false
set_option linter.all false
set_option maxRecDepth 100000
/-! # Z5: what is walked; targets; list comprehensions -/
namespace Z
open PySem PySem.Spec PyProof.Rows L2

/-! ## targets -/
abbrev TZ := PyData → Ev → Option Ev
section
variable {X : Cx} {W : Type} {wd : WD W} {cls : Nat → Addr} {e : Cur wd} {Wx : WX} {tg ex a b d : Expr} {pos : Pos} {f h : XF W} {fl : XL W} {es : List Expr}
/-- a target's reading does what tz says -/
def TgOk (cls : Nat → Addr) (K : PySem.W.Frag) (e : Cur wd) (g : TG) (tz : TZ) : Prop :=
  ∀ (c : Cur wd) (δ δ' : Ev) (σ : L2.St) (d : PyData) (v : V) (Q : L2.St → Hp → Prop), Rz cls K e c δ σ → Dq c.F d v → tz d δ = some δ' → (∀ σ', Rz cls K e c δ' σ' → Q σ' c.H) → g v σ c.H Q
def TgsOk (cls : Nat → Addr) (K : PySem.W.Frag) (e : Cur wd) (g : TGs) (tz : List PyData → Ev → Option Ev) : Prop :=
  ∀ (c : Cur wd) (δ δ' : Ev) (σ : L2.St) (ds : List PyData) (vs : List V) (Q : L2.St → Hp → Prop), Rz cls K e c δ σ → DqL c.F ds vs → tz ds δ = some δ' → (∀ σ', Rz cls K e c δ' σ' → Q σ' c.H) → g vs σ c.H Q
def zN (i : Nat) : TZ := fun d δ => if i < δ.length then some (δ.set i (.v (.p d))) else none
def zNil : List PyData → Ev → Option Ev := fun ds δ => if ds = [] then some δ else none
def zCons (t : TZ) (u : List PyData → Ev → Option Ev) : List PyData → Ev → Option Ev := fun ds δ => match ds with
  | d :: r => (t d δ).bind (u r)
  | [] => none
def zT (n : Nat) (u : List PyData → Ev → Option Ev) : TZ := fun d δ => match d with
  | .tuple ds => if ds.length = n then u ds δ else none
  | _ => none
def zL (n : Nat) (u : List PyData → Ev → Option Ev) : TZ := fun d δ => match d with
  | .list ds => if ds.length = n then u ds δ else none
  | _ => none
theorem tg_name {i : Nat} : TgOk cls X.K e (gName i) (zN i) := fun c δ δ' σ d v Q r q z k => by
  unfold zN at z
  by_cases hi : i < δ.length
  · rw [if_pos hi] at z
    cases z
    exact k _ (r.put hi q)
  · rw [if_neg hi] at z; cases z
theorem tgs_nil : TgsOk cls X.K e gNil zNil := fun c δ δ' σ ds vs Q r q z k => by
  unfold zNil at z
  by_cases hi : ds = []
  · rw [if_pos hi] at z
    cases z
    subst hi
    exact ⟨q.unnil, k _ r⟩
  · rw [if_neg hi] at z; cases z
theorem tgs_cons {g : TG} {gs : TGs} {t : TZ} {u : List PyData → Ev → Option Ev} (h1 : TgOk cls X.K e g t) (h2 : TgsOk cls X.K e gs u) : TgsOk cls X.K e (gCons g gs) (zCons t u) := fun c δ δ' σ ds vs Q r q z k => by
  cases ds with
  | nil => cases z
  | cons d ds =>
    obtain ⟨v, us, rfl, q1, q2⟩ := q.uncons
    have z : (t d δ).bind (u ds) = some δ' := z
    cases z1 : t d δ with
    | none => rw [z1] at z; cases z
    | some δ1 =>
      rw [z1] at z
      exact ⟨v, us, rfl, h1 c δ δ1 σ d v _ r q1 z1 fun σ1 r1 => h2 c δ1 δ' σ1 ds us Q r1 q2 z k⟩
theorem tg_tup {n : Nat} {gs : TGs} {u : List PyData → Ev → Option Ev} (h : TgsOk cls X.K e gs u) : TgOk cls X.K e (gTup X.K n gs) (zT n u) := fun c δ δ' σ d v Q r q z k => by
  cases d with
  | tuple ds =>
    have z : (if ds.length = n then u ds δ else none) = some δ' := z
    by_cases hi : ds.length = n
    · rw [if_pos hi] at z
      simp only [Dq] at q
      obtain ⟨p, vs, rfl, h1, r1⟩ := q
      exact ⟨p, vs, rfl, SqT.of (r.ok.fh _ _ h1), by rw [r1.len]; exact hi, h c δ δ' σ ds vs Q r r1 z k⟩
    · rw [if_neg hi] at z; cases z
  | _ => cases z

/-! ## what is walked -/
/-- J walks these items, as long as P holds of the state -/
def JOk (J : It) (P : Cur wd → Prop) (items : List PyData) : Prop :=
  (∀ i (c : Cur wd), P c → i < items.length → J.go i c.H) ∧ (∀ i (c : Cur wd), P c → items.length ≤ i → J.stop i c.H) ∧
    ∀ i (c : Cur wd) x H' d, P c → J.yld i c.H x H' → items[i]? = some d → ∃ c' : Cur wd, c'.H = H' ∧ c'.w = c.w ∧ Bs c c' ∧ Dq c'.F d x
abbrev XI (W : Type) := Ev → W → Res W (List PyData)
def afterI (cls : Nat → Addr) (c : Cur wd) (σ : L2.St) (Wx : WX) (r : Res W (List PyData)) (P : Cur wd → Cur wd → Prop) (R : It → Hp → Prop) : Prop := match r with
  | .ok items w' => ∀ J c', c'.w = w' → Bs c c' → JOk J (P c') items → R J c'.H
  | .exc n w' => ∀ c', c'.w = w' → Bs c c' → Wx (.ref (cls n)) none σ c'.H
  | .bad => False
/-- what is walked stands frozen -/
def keepF (c c' : Cur wd) : Prop := Ok c' ∧ Sub c.F c'.F
/-- what is walked is not changed meanwhile -/
def keepB (c c' : Cur wd) : Prop := Bs c c'
def tSI (cls : Nat → Addr) (K : PySem.W.Frag) (e : Cur wd) (Wx : WX) (P : Cur wd → Cur wd → Prop) (it : XI W) : TI := fun σ H R => ∃ c δ, c.H = H ∧ Rz cls K e c δ σ ∧ afterI cls c σ Wx (it δ c.w) P R
theorem pi_imp {wi wi' : TI} (hi : PI X tg ex wi) (i : ∀ σ H R, wi' σ H R → wi σ H R) : PI X tg ex wi' := ⟨fun pins s σ H R I q => hi.run pins s σ H R I (i σ H R q)⟩
theorem pi_strong {it : XI W} (h : PI X tg ex (tSI cls X.K e Wx keepF it)) : PI X tg ex (tSI cls X.K e Wx keepB it) := pi_imp h fun σ H R ⟨c, δ, eH, r, q⟩ => by
  refine ⟨c, δ, eH, r, ?_⟩
  cases z : it δ c.w with
  | bad => rw [z] at q; exact q
  | exc n w' => rw [z] at q; exact q
  | ok items w' =>
    rw [z] at q
    intro J c' hw b ⟨j1, j2, j3⟩
    exact q J c' hw b ⟨fun i c2 p => j1 i c2 ⟨p.ok, p.ff⟩, fun i c2 p => j2 i c2 ⟨p.ok, p.ff⟩, fun i c2 x H' d p => j3 i c2 x H' d ⟨p.ok, p.ff⟩⟩
/-- a walked thing out of a value -/
def iOf (g : D → Option (List PyData)) (f : XF W) : XI W := fun δ w => (f δ w).bind fun x w1 => match g x with
  | some l => .ok l w1
  | none => .bad
theorem after_it {K : PySem.W.Frag} (ke : Ok e) {c : Cur wd} {δ : Ev} {σ : L2.St} {g : D → Option (List PyData)} {P : Cur wd → Cur wd → Prop} {R : It → Hp → Prop} (r : Rz cls K e c δ σ) (q : afterI cls c σ Wx (iOf g f δ c.w) P R) :
    tS cls K e Wx f σ c.H fun u H1 => ∃ x c2 l, c2.H = H1 ∧ Rz cls K e c2 δ σ ∧ Dv cls K c2 x u ∧ g x = some l ∧ ∀ J, JOk J (P c2) l → R J c2.H := by
  refine tS_mk r ?_
  unfold iOf at q
  cases z : f δ c.w with
  | bad => rw [z] at q; exact q
  | exc n w' => rw [z] at q; exact q
  | ok x w' =>
    rw [z] at q
    dsimp only [Res.bind] at q
    cases z2 : g x with
    | none => rw [z2] at q; exact q.elim
    | some l =>
      rw [z2] at q
      exact fun u c2 hw b q2 => ⟨x, c2, l, rfl, r.step ke b, q2, z2, fun J hJ => q J c2 hw b hJ⟩
def lstOf : D → Option (List PyData)
  | .p (.list xs) => some xs
  | _ => none
def tupOf : D → Option (List PyData)
  | .p (.tuple xs) => some xs
  | _ => none
theorem jok_list {K : PySem.W.Frag} {c2 : Cur wd} {p : Addr} {xs : List PyData} {vs : List V} (h1 : c2.F p = some (.lst vs)) (r1 : DqL c2.F xs vs) : JOk (Itl K p) (keepF c2) xs := by
  refine ⟨fun i c ⟨k, s⟩ hi => ?_, fun i c ⟨k, s⟩ hi => ⟨vs, SqL.of (k.fh _ _ (s _ _ h1)), by rw [r1.len]; exact hi⟩, fun i c x H' d ⟨k, s⟩ hy hd => ?_⟩
  · obtain ⟨v, e1, _⟩ := r1.get (List.getElem?_eq_getElem hi)
    exact ⟨vs, v, SqL.of (k.fh _ _ (s _ _ h1)), e1⟩
  · obtain ⟨rfl, hx⟩ := hy
    obtain ⟨v, e1, q⟩ := r1.get hd
    have e2 := hx vs (SqL.of (k.fh _ _ (s _ _ h1)))
    rw [e1] at e2
    cases e2
    exact ⟨c, rfl, rfl, Bs.refl k, Dq.mono s _ _ q⟩
theorem jok_tup {K : PySem.W.Frag} {c2 : Cur wd} {p : Addr} {xs : List PyData} {vs : List V} (h1 : c2.F p = some (.tup vs)) (r1 : DqL c2.F xs vs) : JOk (Itt K p) (keepF c2) xs := by
  refine ⟨fun i c ⟨k, s⟩ hi => ?_, fun i c ⟨k, s⟩ hi => ⟨vs, SqT.of (k.fh _ _ (s _ _ h1)), by rw [r1.len]; exact hi⟩, fun i c x H' d ⟨k, s⟩ hy hd => ?_⟩
  · obtain ⟨v, e1, _⟩ := r1.get (List.getElem?_eq_getElem hi)
    exact ⟨vs, v, SqT.of (k.fh _ _ (s _ _ h1)), e1⟩
  · obtain ⟨rfl, hx⟩ := hy
    obtain ⟨v, e1, q⟩ := r1.get hd
    have e2 := hx vs (SqT.of (k.fh _ _ (s _ _ h1)))
    rw [e1] at e2
    cases e2
    exact ⟨c, rfl, rfl, Bs.refl k, Dq.mono s _ _ q⟩
/-- a list -/
theorem si_list (ke : Ok e) (ha : PE X a (tS cls X.K e Wx f)) : PI X tg a (tSI cls X.K e Wx keepF (iOf lstOf f)) := pi_imp (pi_list ha) fun σ H R ⟨c, δ, eH, r, q⟩ => by
  rw [← eH]
  refine tS_imp (after_it ke r q) fun u H1 ⟨x, c2, l, e2, r2, q2, hl, k⟩ => ?_
  unfold lstOf at hl
  split at hl
  · cases hl
    obtain ⟨p, vs, rfl, h1, r1⟩ := dv_lst.mp q2
    rw [← e2]
    exact ⟨p, rfl, ⟨vs, SqL.of (r2.ok.fh _ _ h1)⟩, k _ (jok_list h1 r1)⟩
  · cases hl
/-- a tuple -/
theorem si_tup (ke : Ok e) (ha : PE X a (tS cls X.K e Wx f)) : PI X tg a (tSI cls X.K e Wx keepF (iOf tupOf f)) := pi_imp (pi_tup ha) fun σ H R ⟨c, δ, eH, r, q⟩ => by
  rw [← eH]
  refine tS_imp (after_it ke r q) fun u H1 ⟨x, c2, l, e2, r2, q2, hl, k⟩ => ?_
  unfold tupOf at hl
  split at hl
  · cases hl
    obtain ⟨p, vs, rfl, h1, r1⟩ := dv_tup.mp q2
    rw [← e2]
    exact ⟨p, rfl, ⟨vs, SqT.of (r2.ok.fh _ _ h1)⟩, k _ (jok_tup h1 r1)⟩
  · cases hl
/-! range(n), range(a, b) -/
def rgL (m n : Int) : List PyData := (List.range (n - m).toNat).map fun (i : Nat) => PyData.int (m + (i : Int))
theorem jok_rg {c2 : Cur wd} {m n : Int} : JOk (Itr m (n - m).toNat) (keepF c2) (rgL m n) := by
  have hl : (rgL m n).length = (n - m).toNat := by simp [rgL]
  refine ⟨fun i c _ hi => by rw [hl] at hi; exact hi, fun i c _ hi => by rw [hl] at hi; exact hi, fun i c x H' d ⟨k, s⟩ hy hd => ?_⟩
  obtain ⟨rfl, rfl⟩ := hy
  have hi : i < (n - m).toNat := by
    have := (List.getElem?_eq_some_iff.mp hd).1
    omega
  have e1 : d = .int (m + (i : Int)) := by
    unfold rgL at hd
    rw [List.getElem?_map, List.getElem?_range hi] at hd
    simpa using hd.symm
  subst e1
  exact ⟨c, rfl, rfl, Bs.refl k, by simp [Dq]⟩
def rgOf1 (x : D) : Option (List PyData) := (asI x).bind fun n => if -1000000000 ≤ n ∧ n ≤ 1000000000 then some (rgL 0 n) else none
theorem si_range1 {p pos : Pos} (ke : Ok e) (hm : X.mg "range" = none) (ha : PE X a (tS cls X.K e Wx f)) (hg : Gl X "range" := by rfl) (hs : starEach [a] X.env = [(false, eval a X.env)] := by rfl) (hs2 : starEach [a] X.env = (false, eval a X.env) :: starEach [] X.env := by rfl) :
    PI X tg (.Call (.Name "range" p) [a] [] pos) (tSI cls X.K e Wx keepF (iOf rgOf1 f)) := pi_imp (pi_range1 hg hm (pa_cons ha pa_nil hs2) hs) fun σ H R ⟨c, δ, eH, r, q⟩ => by
  rw [← eH]
  show tS cls X.K e Wx f σ c.H _
  refine tS_imp (after_it ke r q) fun u H1 ⟨x, c2, l, e2, r2, q2, hl, k⟩ => ?_
  unfold rgOf1 at hl
  cases z : asI x with
  | none => rw [z] at hl; cases hl
  | some n =>
    rw [z] at hl
    dsimp only [Option.bind] at hl
    by_cases zz : -1000000000 ≤ n ∧ n ≤ 1000000000
    · rw [if_pos zz] at hl
      cases hl
      rw [← e2]
      refine ⟨n, by rw [asI_eq z q2], by omega, by omega, ?_⟩
      have := jok_rg (c2 := c2) (m := 0) (n := n)
      rw [Int.sub_zero] at this
      exact k _ this
    · rw [if_neg zz] at hl; cases hl
/-! enumerate(list) -/
def enL (i : Nat) : List PyData → List PyData
  | [] => []
  | x :: r => .tuple [.int (i : Int), x] :: enL (i + 1) r
theorem enL_len : ∀ (l : List PyData) (i : Nat), (enL i l).length = l.length
  | [], _ => rfl
  | x :: r, i => by
    show (enL (i + 1) r).length + 1 = r.length + 1
    rw [enL_len r]
theorem enL_get : ∀ (l : List PyData) (i j : Nat) (d : PyData), (enL i l)[j]? = some d → ∃ x, l[j]? = some x ∧ d = .tuple [.int ((i + j : Nat) : Int), x]
  | [], _, _, _, h => by simp [enL] at h
  | x :: r, i, 0, d, h => by
    simp [enL] at h
    exact ⟨x, rfl, by rw [← h]; simp⟩
  | x :: r, i, j + 1, d, h => by
    obtain ⟨y, h1, h2⟩ := enL_get r (i + 1) j d (by simpa [enL] using h)
    exact ⟨y, by simpa using h1, by rw [h2, show i + 1 + j = i + (j + 1) by omega]⟩
theorem jok_enum {K : PySem.W.Frag} {c2 : Cur wd} {p : Addr} {xs : List PyData} {vs : List V} (h1 : c2.F p = some (.lst vs)) (r1 : DqL c2.F xs vs) : JOk (Ite K p) (keepF c2) (enL 0 xs) := by
  refine ⟨fun i c ⟨k, s⟩ hi => ?_, fun i c ⟨k, s⟩ hi => ⟨vs, SqL.of (k.fh _ _ (s _ _ h1)), by rw [enL_len] at hi; rw [r1.len]; exact hi⟩, fun i c x H' d ⟨k, s⟩ hy hd => ?_⟩
  · rw [enL_len] at hi
    obtain ⟨v, e1, _⟩ := r1.get (List.getElem?_eq_getElem hi)
    exact ⟨vs, v, SqL.of (k.fh _ _ (s _ _ h1)), e1⟩
  · obtain ⟨T, v, rfl, hT, rfl, hx⟩ := hy
    obtain ⟨y, g1, rfl⟩ := enL_get xs 0 i d hd
    obtain ⟨v', e1, q⟩ := r1.get g1
    have e2 := hx vs (SqL.of (k.fh _ _ (s _ _ h1)))
    rw [e1] at e2
    cases e2
    have b := Bs.put k (.tup [.int (i : Nat), v]) hT
    refine ⟨c.put T (.tup [.int (i : Nat), v]), rfl, rfl, b, ?_⟩
    simp only [Dq]
    exact ⟨T, _, rfl, upd_same, .cons (by simp [Dq]) (.cons (Dq.mono (s.trans b.ff) _ _ q) .nil)⟩
def enOf : D → Option (List PyData)
  | .p (.list xs) => some (enL 0 xs)
  | _ => none
theorem si_enum {p pos tpos : Pos} {elts : List Expr} {kk : Nat} (ke : Ok e) (hm : X.mg "enumerate" = none) (ha : PE X a (tS cls X.K e Wx f)) (hg : Gl X "enumerate" := by rfl) (hs : starEach [a] X.env = [(false, eval a X.env)] := by rfl) (hs2 : starEach [a] X.env = (false, eval a X.env) :: starEach [] X.env := by rfl) :
    PI X (.Tuple elts kk tpos) (.Call (.Name "enumerate" p) [a] [] pos) (tSI cls X.K e Wx keepF (iOf enOf f)) := pi_imp (pi_enum hg hm (pa_cons ha pa_nil hs2) hs) fun σ H R ⟨c, δ, eH, r, q⟩ => by
  rw [← eH]
  show tS cls X.K e Wx f σ c.H _
  refine tS_imp (after_it ke r q) fun u H1 ⟨x, c2, l, e2, r2, q2, hl, k⟩ => ?_
  unfold enOf at hl
  split at hl
  · cases hl
    obtain ⟨p, vs, rfl, h1, r1⟩ := dv_lst.mp q2
    rw [← e2]
    exact ⟨p, vs, rfl, SqL.of (r2.ok.fh _ _ h1), k _ (jok_enum h1 r1)⟩
  · cases hl
/-! zip(xs, ys) -/
def zipL : List PyData → List PyData → List PyData
  | x :: xs, y :: ys => .tuple [x, y] :: zipL xs ys
  | _, _ => []
theorem zipL_get : ∀ (xs ys : List PyData) (j : Nat) (d : PyData), (zipL xs ys)[j]? = some d → ∃ x y, xs[j]? = some x ∧ ys[j]? = some y ∧ d = .tuple [x, y]
  | [], _, _, _, h => by simp [zipL] at h
  | _ :: _, [], _, _, h => by simp [zipL] at h
  | x :: xs, y :: ys, 0, d, h => by
    simp [zipL] at h
    exact ⟨x, y, rfl, rfl, h.symm⟩
  | x :: xs, y :: ys, j + 1, d, h => by
    obtain ⟨x', y', h1, h2, h3⟩ := zipL_get xs ys j d (by simpa [zipL] using h)
    exact ⟨x', y', by simpa using h1, by simpa using h2, h3⟩
theorem zipL_len : ∀ (xs ys : List PyData), (zipL xs ys).length = min xs.length ys.length
  | [], _ => by simp [zipL]
  | _ :: _, [] => by simp [zipL]
  | x :: xs, y :: ys => by
    show (zipL xs ys).length + 1 = min (xs.length + 1) (ys.length + 1)
    rw [zipL_len xs ys]; omega
def zpOf (x y : D) : Option (List PyData) := match x, y with
  | .p (.list xs), .p (.list ys) => some (zipL xs ys)
  | .p (.tuple xs), .p (.tuple ys) => some (zipL xs ys)
  | _, _ => none
def iOf2 (g : D → D → Option (List PyData)) (f h : XF W) : XI W := fun δ w => (f δ w).bind fun x w1 => (h δ w1).bind fun y w2 => match g x y with
  | some l => .ok l w2
  | none => .bad
theorem si_zip {p pos tpos : Pos} {elts : List Expr} {kk : Nat} (ke : Ok e) (hm : X.mg "zip" = none) (ha : PE X a (tS cls X.K e Wx f)) (hb : PE X b (tS cls X.K e Wx h)) (hg : Gl X "zip" := by rfl)
    (hs : starEach [a, b] X.env = (false, eval a X.env) :: starEach [b] X.env := by rfl) (hs2 : starEach [b] X.env = (false, eval b X.env) :: starEach [] X.env := by rfl) (hpl : (backTo pos (starEach [b] X.env)).any (·.1) = false := by rfl) :
    PI X (.Tuple elts kk tpos) (.Call (.Name "zip" p) [a, b] [] pos) (tSI cls X.K e Wx keepF (iOf2 zpOf f h)) := pi_imp (RZ.pi_zipA hg hm (pa_cons ha (pa_cons hb pa_nil hs2) hs) hs hpl) fun σ H R ⟨c, δ, eH, r, q⟩ => by
  rw [← eH]
  show tS cls X.K e Wx f σ c.H _
  refine tS_mk r ?_
  unfold iOf2 at q
  cases z : f δ c.w with
  | bad => rw [z] at q; exact q
  | exc n w' => rw [z] at q; exact q
  | ok x w' =>
    rw [z] at q
    dsimp only [Res.bind] at q
    intro u c1 hw b1 q1
    show tS cls X.K e Wx h σ c1.H _
    have r1 := r.step ke b1
    refine tS_mk r1 ?_
    rw [hw]
    cases z2 : h δ w' with
    | bad => rw [z2] at q; exact q
    | exc n w2 => rw [z2] at q; exact fun c2 hw2 b2 => q c2 hw2 (b1.trans r.ok b2)
    | ok y w2 =>
      rw [z2] at q
      dsimp only at q
      intro v c2 hw2 b2 q2
      have q1' := q1.mono b2
      have k2 := b2.ok
      unfold zpOf at q
      split at q
      · rename_i l hl
        split at hl
        · rename_i xs ys
          cases hl
          obtain ⟨p, vs, rfl, h1, r1⟩ := dv_lst.mp q1'
          obtain ⟨p', vs', rfl, h1', r1'⟩ := dv_lst.mp q2
          refine ⟨p, p', vs, vs', rfl, .inl ⟨SqL.of (k2.fh _ _ h1), SqL.of (k2.fh _ _ h1'), q _ c2 hw2 (b1.trans r.ok b2) ?_⟩⟩
          refine ⟨fun i c ⟨k, s⟩ hi => ?_, fun i c ⟨k, s⟩ hi => ⟨vs, vs', SqL.of (k.fh _ _ (s _ _ h1)), SqL.of (k.fh _ _ (s _ _ h1')), ?_⟩, fun i c x H' d ⟨k, s⟩ hy hd => ?_⟩
          · rw [zipL_len] at hi
            obtain ⟨v, e1, _⟩ := r1.get (List.getElem?_eq_getElem (show i < xs.length by omega))
            obtain ⟨v', e1', _⟩ := r1'.get (List.getElem?_eq_getElem (show i < ys.length by omega))
            exact ⟨vs, vs', v, v', SqL.of (k.fh _ _ (s _ _ h1)), SqL.of (k.fh _ _ (s _ _ h1')), e1, e1'⟩
          · rw [zipL_len] at hi; rw [r1.len, r1'.len]; omega
          · obtain ⟨T, x1, x2, rfl, hT, rfl, hx1, hx2⟩ := hy
            obtain ⟨y1, y2, g1, g2, rfl⟩ := zipL_get xs ys i d hd
            obtain ⟨v, e1, qv⟩ := r1.get g1
            obtain ⟨v', e1', qv'⟩ := r1'.get g2
            have e2 := hx1 vs (SqL.of (k.fh _ _ (s _ _ h1)))
            rw [e1] at e2
            cases e2
            have e3 := hx2 vs' (SqL.of (k.fh _ _ (s _ _ h1')))
            rw [e1'] at e3
            cases e3
            have b := Bs.put k (.tup [x1, x2]) hT
            refine ⟨c.put T (.tup [x1, x2]), rfl, rfl, b, ?_⟩
            simp only [Dq]
            exact ⟨T, _, rfl, upd_same, .cons (Dq.mono (s.trans b.ff) _ _ qv) (.cons (Dq.mono (s.trans b.ff) _ _ qv') .nil)⟩
        · rename_i xs ys
          cases hl
          obtain ⟨p, vs, rfl, h1, r1⟩ := dv_tup.mp q1'
          obtain ⟨p', vs', rfl, h1', r1'⟩ := dv_tup.mp q2
          refine ⟨p, p', vs, vs', rfl, .inr ⟨SqT.of (k2.fh _ _ h1), SqT.of (k2.fh _ _ h1'), q _ c2 hw2 (b1.trans r.ok b2) ?_⟩⟩
          refine ⟨fun i c ⟨k, s⟩ hi => ?_, fun i c ⟨k, s⟩ hi => ⟨vs, vs', SqT.of (k.fh _ _ (s _ _ h1)), SqT.of (k.fh _ _ (s _ _ h1')), ?_⟩, fun i c x H' d ⟨k, s⟩ hy hd => ?_⟩
          · rw [zipL_len] at hi
            obtain ⟨v, e1, _⟩ := r1.get (List.getElem?_eq_getElem (show i < xs.length by omega))
            obtain ⟨v', e1', _⟩ := r1'.get (List.getElem?_eq_getElem (show i < ys.length by omega))
            exact ⟨vs, vs', v, v', SqT.of (k.fh _ _ (s _ _ h1)), SqT.of (k.fh _ _ (s _ _ h1')), e1, e1'⟩
          · rw [zipL_len] at hi; rw [r1.len, r1'.len]; omega
          · obtain ⟨T, x1, x2, rfl, hT, rfl, hx1, hx2⟩ := hy
            obtain ⟨y1, y2, g1, g2, rfl⟩ := zipL_get xs ys i d hd
            obtain ⟨v, e1, qv⟩ := r1.get g1
            obtain ⟨v', e1', qv'⟩ := r1'.get g2
            have e2 := hx1 vs (SqT.of (k.fh _ _ (s _ _ h1)))
            rw [e1] at e2
            cases e2
            have e3 := hx2 vs' (SqT.of (k.fh _ _ (s _ _ h1')))
            rw [e1'] at e3
            cases e3
            have b := Bs.put k (.tup [x1, x2]) hT
            refine ⟨c.put T (.tup [x1, x2]), rfl, rfl, b, ?_⟩
            simp only [Dq]
            exact ⟨T, _, rfl, upd_same, .cons (Dq.mono (s.trans b.ff) _ _ qv) (.cons (Dq.mono (s.trans b.ff) _ _ qv') .nil)⟩
        · cases hl
      · exact q.elim
/-! a text, sign by sign -/
def sgnL (x : Str) : List PyData := x.cps.toList.map fun c => PyData.str ⟨#[c]⟩
def sgOf : D → Option (List PyData)
  | .p (.str x) => some (sgnL x)
  | _ => none
theorem si_str (ke : Ok e) (ha : PE X a (tS cls X.K e Wx f)) : PI X tg a (tSI cls X.K e Wx keepF (iOf sgOf f)) := pi_imp (pi_str ha) fun σ H R ⟨c, δ, eH, r, q⟩ => by
  rw [← eH]
  refine tS_imp (after_it ke r q) fun u H1 ⟨x, c2, l, e2, r2, q2, hl, k⟩ => ?_
  unfold sgOf at hl
  split at hl
  · rename_i z
    cases hl
    obtain rfl := dv_str.mp q2
    rw [← e2]
    have hlen : (sgnL z).length = z.cps.size := by simp [sgnL]
    refine ⟨z, rfl, k _ ⟨fun i c _ hi => by rw [hlen] at hi; exact hi, fun i c _ hi => by rw [hlen] at hi; exact hi, fun i c x H' d ⟨k, s⟩ hy hd => ?_⟩⟩
    obtain ⟨rfl, ch, hc, rfl⟩ := hy
    refine ⟨c, rfl, rfl, Bs.refl k, ?_⟩
    have e1 : d = .str ⟨#[ch]⟩ := by
      unfold sgnL at hd
      rw [List.getElem?_map, Array.getElem?_toList, hc] at hd
      simpa using hd.symm
    subst e1
    simp [Dq]
  · cases hl

/-! ## comprehensions -/
def wipeZ (δ : Ev) : List Nat → Ev
  | [] => δ
  | v :: vs => (wipeZ δ vs).set v .no
theorem Rz.wipe {K : PySem.W.Frag} {c : Cur wd} {δ : Ev} {σ : L2.St} (r : Rz cls K e c δ σ) : ∀ vs : List Nat, Rz cls K e c (wipeZ δ vs) (wipe σ vs)
  | [] => r
  | v :: vs => (r.wipe vs).drop none
/-- no exception within -/
def Res.calm {α : Type} (r : Res W α) : Res W α := match r with
  | .exc _ _ => .bad
  | r => r
def asP : D → Option PyData
  | .p d => some d
  | _ => none
def lcGo (tz : TZ) (t : XB W) (f : XF W) (δ : Ev) : List PyData → W → Res W (List PyData)
  | [], w => .ok [] w
  | x :: r, w => match tz x δ with
    | none => .bad
    | some δ1 => (t δ1 w).calm.bind fun b w1 => if b = true then (f δ1 w1).calm.bind fun y w2 => match asP y with
        | some d => (lcGo tz t f δ r w2).bind fun ys w3 => .ok (d :: ys) w3
        | none => .bad
      else lcGo tz t f δ r w1
def xLc (it : XI W) (tz : TZ) (t : XB W) (f : XF W) (vs : List Nat) : XF W := fun δ w => (it δ w).bind fun items w1 => if items.length ≤ lim then (lcGo tz t f (wipeZ δ vs) items w1).bind fun ys w2 => .ok (.p (.list ys)) w2 else .bad
def bYes : XB W := fun _ w => .ok true w
theorem calm_B {K : PySem.W.Frag} {c : Cur wd} {σ : L2.St} {r : Res W Bool} {k : Bool → W → Res W (List PyData)} {ys : List PyData} {wf : W} (h : r.calm.bind k = .ok ys wf) : ∃ b w1, r = .ok b w1 ∧ k b w1 = .ok ys wf := by
  cases r with
  | ok b w1 => exact ⟨b, w1, rfl, h⟩
  | exc n w => cases h
  | bad => cases h
theorem calm_D {r : Res W D} {k : D → W → Res W (List PyData)} {ys : List PyData} {wf : W} (h : r.calm.bind k = .ok ys wf) : ∃ b w1, r = .ok b w1 ∧ k b w1 = .ok ys wf := by
  cases r with
  | ok b w1 => exact ⟨b, w1, rfl, h⟩
  | exc n w => cases h
  | bad => cases h
theorem calm_L {r : Res W (List PyData)} {k : List PyData → W → Res W (List PyData)} {ys : List PyData} {wf : W} (h : r.bind k = .ok ys wf) : ∃ b w1, r = .ok b w1 ∧ k b w1 = .ok ys wf := by
  cases r with
  | ok b w1 => exact ⟨b, w1, rfl, h⟩
  | exc n w => cases h
  | bad => cases h
/-- no exception is asked for within -/
abbrev W00 : WX := fun _ _ _ _ => False
/-- what a comprehension is to lay: a new list at D0, one's own, of these data -/
def fresh (c0 c : Cur wd) (D0 : Addr) (ys : List PyData) : Prop := Fre c0 c D0 ∧ ∃ vs, c.H D0 = some (.lst vs) ∧ DqL c.F ys vs
theorem fresh.put {c0 c : Cur wd} {D0 : Addr} {ys : List PyData} (k0 : Ok c0) (b : Bs c0 c) (h : fresh c0 c D0 ys) : ∃ c' : Cur wd, c'.H = c.H ∧ c'.w = c.w ∧ Bs c0 c' ∧ Dq c'.F (.list ys) (.ref D0) := by
  obtain ⟨⟨f1, f2, f3⟩, vs, g1, g2⟩ := h
  have s1 : Sub c.F (upd c.F D0 (.lst vs)) := sub_new f1
  refine ⟨{ c with F := upd c.F D0 (.lst vs) }, rfl, rfl, ⟨⟨fun x o q => ?_, wd.stab _ _ _ _ _ _ b.ok.wr s1 fun _ _ => rfl, fun x hx => ⟨?_, (b.ok.wf x hx).2⟩⟩, b.ff.trans s1, b.hh, fun x hx => ?_, b.kh, b.kf, b.kg⟩, ?_⟩
  · have q : upd c.F D0 (.lst vs) x = some o := q
    by_cases e1 : x = D0
    · subst e1; rw [upd_same] at q; cases q; exact g1
    · rw [upd_ne e1] at q; exact b.ok.fh _ _ q
  · show upd c.F D0 (.lst vs) x = none
    rw [upd_ne (fun z => f2 (by rw [← z]; exact hx))]
    exact (b.ok.wf x hx).1
  · by_cases e1 : x = D0
    · subst e1; exact .inr f3
    · refine b.fn x fun z => hx ?_
      show upd c.F D0 (.lst vs) x = none
      rw [upd_ne e1]; exact z
  · simp only [Dq]
    exact ⟨D0, vs, rfl, upd_same, DqL.mono s1 _ _ g2⟩
/-- the comprehension's own reading: a new list is laid -/
theorem lc_walk {K : PySem.W.Frag} (ke : Ok e) {J : It} {items : List PyData} {tz : TZ} {g : TG} {t : XB W} {f : XF W} {vs : List Nat} {c0 : Cur wd} {δ : Ev} {σ : L2.St} {Q : VK} {ys : List PyData} {wf : W}
    (r0 : Rz cls K e c0 δ σ) (hl : items.length ≤ lim) (hJ : JOk J (keepB c0) items) (hg : TgOk cls K e g tz) (hz : lcGo tz t f (wipeZ δ vs) items c0.w = .ok ys wf)
    (hw : ∀ (d : PyData) (δ1 : Ev) (σ2 : L2.St) (c : Cur wd), tz d (wipeZ δ vs) = some δ1 → True)
    (hq : ∀ D0 c, c.w = wf → Bs c0 c → fresh c0 c D0 ys → Q (.ref D0) c.H) (hwipe : ∀ x H' (R : L2.St → Hp → Prop), g x (wipe σ vs) H' R → g x (wipe σ vs) H' fun σ2 H2 => wipe σ2 vs = wipe σ vs ∧ R σ2 H2) :
    ∀ D0, c0.H D0 = none → ∃ Wv : Nat → Nat → Hp → Prop, (∃ m, Wv 0 m (upd c0.H D0 (.lst []))) ∧ ∀ i m H, Wv i m H →
      (J.stop i H ∧ Q (.ref D0) H) ∨ (J.go i H ∧ ∃ Nx : Hp → Prop, (∀ H', Nx H' → ∃ m', m' < m ∧ Wv (i + 1) m' H') ∧ ∀ x H', J.yld i H x H' → g x (wipe σ vs) H' fun σ2 H2 => wipe σ2 vs = wipe σ vs ∧ tSB cls K e W00 t σ2 H2 fun b H3 =>
        if b = true then tS cls K e W00 f σ2 H3 fun y H4 => ∃ acc, H4 D0 = some (.lst acc) ∧ acc.length < sizeLine ∧ Nx (upd H4 D0 (.lst (acc ++ [y]))) else Nx H3) := by
  intro D0 hD0
  have k0 : Ok c0 := r0.ok
  -- the state between two turns
  let In : Nat → Hp → Prop := fun i H => ∃ (c : Cur wd) (acc rest zs : List PyData), c.H = H ∧ Bs c0 c ∧ fresh c0 c D0 acc ∧ acc.length ≤ i ∧ items.drop i = rest ∧ lcGo tz t f (wipeZ δ vs) rest c.w = .ok zs wf ∧ acc ++ zs = ys
  refine ⟨fun i m H => m = items.length - i ∧ i ≤ items.length ∧ In i H, ⟨items.length, by simp, Nat.zero_le _, ?_⟩, ?_⟩
  · refine ⟨c0.lay D0 (.lst []), [], items, ys, rfl, Bs.lay k0 _ hD0, ⟨⟨k0.fnone hD0, k0.nofp hD0, hD0⟩, [], upd_same, .nil⟩, Nat.zero_le _, rfl, hz, rfl⟩
  · rintro i m H ⟨rfl, hi, c, acc, rest, zs, rfl, b, hf, hai, hr, hgo, hys⟩
    by_cases hlt : i < items.length
    · refine .inr ⟨hJ.1 i c b hlt, In (i + 1), fun H' q => ⟨items.length - (i + 1), by omega, rfl, hlt, q⟩, fun x H' hy => hwipe x H' _ ?_⟩
      have hd : items[i]? = some items[i] := List.getElem?_eq_getElem hlt
      have hrest : rest = items[i] :: items.drop (i + 1) := by rw [← hr]; exact List.drop_eq_getElem_cons hlt
      obtain ⟨c1, rfl, hw1, b1, q1⟩ := hJ.2.2 i c x H' _ b hy hd
      rw [hrest] at hgo
      have hgo : (match tz items[i] (wipeZ δ vs) with
        | none => Res.bad
        | some δ1 => (t δ1 c.w).calm.bind fun b w1 => if b = true then (f δ1 w1).calm.bind fun y w2 => match asP y with
            | some d => (lcGo tz t f (wipeZ δ vs) (items.drop (i + 1)) w2).bind fun ys w3 => .ok (d :: ys) w3
            | none => .bad
          else lcGo tz t f (wipeZ δ vs) (items.drop (i + 1)) w1) = Res.ok zs wf := hgo
      cases htz : tz items[i] (wipeZ δ vs) with
      | none => rw [htz] at hgo; cases hgo
      | some δ1 =>
        rw [htz] at hgo
        dsimp only at hgo
        rw [← hw1] at hgo
        obtain ⟨bb, w1, ht, hgo⟩ := calm_B (K := K) (c := c1) (σ := σ) hgo
        have b01 := b.trans k0 b1
        have rw1 : Rz cls K e c1 (wipeZ δ vs) (wipe σ vs) := (r0.step ke b01).wipe vs
        have hf1 : fresh c0 c1 D0 acc := by
          obtain ⟨f1, us, g1, g2⟩ := hf
          obtain ⟨f2, e2⟩ := f1.step b1 (by rw [g1]; exact fun z => by cases z)
          exact ⟨f2, us, by rw [e2]; exact g1, DqL.mono b1.ff _ _ g2⟩
        refine hg c1 _ δ1 _ items[i] x _ rw1 q1 htz fun σ2 r2 => ⟨c1, δ1, rfl, r2, ?_⟩
        rw [ht]
        intro c2 hw2 b2
        have b02 := b01.trans k0 b2
        have hf2 : fresh c0 c2 D0 acc := by
          obtain ⟨f1, us, g1, g2⟩ := hf1
          obtain ⟨f2, e2⟩ := f1.step b2 (by rw [g1]; exact fun z => by cases z)
          exact ⟨f2, us, by rw [e2]; exact g1, DqL.mono b2.ff _ _ g2⟩
        cases bb with
        | false =>
          rw [if_neg Bool.false_ne_true] at hgo ⊢
          rw [← hw2] at hgo
          exact ⟨c2, acc, _, zs, rfl, b02, hf2, by omega, rfl, hgo, hys⟩
        | true =>
          rw [if_pos rfl] at hgo ⊢
          obtain ⟨y, w2, hfy, hgo⟩ := calm_D hgo
          rw [← hw2] at hfy
          have r3 := r2.step ke b2
          refine ⟨c2, δ1, rfl, r3, ?_⟩
          rw [hfy]
          intro u c3 hw3 b3 q3
          cases hp : asP y with
          | none => rw [hp] at hgo; cases hgo
          | some d =>
            rw [hp] at hgo
            obtain ⟨zs', w3, hgo', hgo2⟩ := calm_L hgo
            cases hgo2
            obtain ⟨⟨f1, f2, f3⟩, us, g1, g2⟩ := hf2
            obtain ⟨⟨f1', f2', f3'⟩, e3⟩ := Fre.step b3 (⟨f1, f2, f3⟩ : Fre c0 c2 D0) (by rw [g1]; exact fun z => by cases z)
            have g3 : c3.H D0 = some (.lst us) := by rw [e3]; exact g1
            have g4 := DqL.mono b3.ff _ _ g2
            have qd : Dq c3.F d u := by
              cases y with
              | p d' => cases hp; exact q3
              | _ => cases hp
            have b03 := b02.trans k0 b3
            refine ⟨us, g3, by rw [g4.len, ← lim_eq]; omega, ?_⟩
            refine ⟨c3.lay D0 (.lst (us ++ [u])), acc ++ [d], items.drop (i + 1), zs', rfl, ?_, ⟨⟨f1', f2', f3'⟩, us ++ [u], upd_same, g4.append (.cons qd .nil)⟩, by rw [List.length_append]; simp; omega, rfl, by rw [← hw3] at hgo'; exact hgo', by rw [List.append_assoc]; exact hys⟩
            -- the list grows
            refine ⟨⟨fun a o h => ?_, wd.stab _ _ _ _ _ _ b03.ok.wr (Sub.refl _) fun a ha => upd_ne fun (z : a = D0) => f2' (z ▸ ha), fun a ha => ⟨(b03.ok.wf a ha).1, ?_⟩⟩, b03.ff, fun a o h1 h2 => ?_, b03.fn, b03.kh, b03.kf, b03.kg⟩
            · show upd c3.H D0 _ a = some o
              rw [upd_ne (ne_of_none h f1')]; exact b03.ok.fh _ _ h
            · show upd c3.H D0 _ a ≠ none
              rw [upd_ne fun (z : a = D0) => f2' (z ▸ ha)]
              exact (b03.ok.wf a ha).2
            · show upd c3.H D0 _ a = some o
              rw [upd_ne (ne_of_none h2 f3')]; exact b03.hh _ _ h1 h2
    · have hil : i = items.length := by omega
      subst hil
      have hrest : rest = [] := by rw [← hr]; exact List.drop_length
      subst hrest
      cases hgo
      rw [List.append_nil] at hys
      subst hys
      exact .inl ⟨hJ.2.1 _ c b (Nat.le_refl _), hq D0 c rfl b hf⟩

/-! a target changes the block's own slots alone -/
def Outs (σ σ2 : L2.St) (vs : List Nat) : Prop := σ2.length = σ.length ∧ ∀ j, j ∉ vs → σ2[j]? = σ[j]?
theorem wipe_at (σ : L2.St) : ∀ (vs : List Nat) (j : Nat), (wipe σ vs)[j]? = if j ∈ vs then (if j < σ.length then some none else none) else σ[j]?
  | [], j => by simp [wipe]
  | v :: vs, j => by
    unfold wipe
    by_cases e1 : v = j
    · subst e1
      rw [if_pos List.mem_cons_self]
      by_cases hv : v < σ.length
      · rw [List.getElem?_set_self (by rw [wipe_length]; exact hv), if_pos hv]
      · rw [List.getElem?_eq_none (by rw [List.length_set, wipe_length]; omega), if_neg hv]
    · rw [List.getElem?_set_ne e1, wipe_at σ vs j]
      by_cases e2 : j ∈ vs
      · rw [if_pos e2, if_pos (List.mem_cons_of_mem _ e2)]
      · rw [if_neg e2, if_neg (by simp only [List.mem_cons, not_or]; exact ⟨fun z => e1 z.symm, e2⟩)]
theorem wipe_outs {σ σ2 : L2.St} {vs : List Nat} (h : Outs (wipe σ vs) σ2 vs) : wipe σ2 vs = wipe σ vs := by
  obtain ⟨h1, h2⟩ := h
  rw [wipe_length] at h1
  refine List.ext_getElem? fun j => ?_
  rw [wipe_at, wipe_at]
  by_cases e1 : j ∈ vs
  · rw [if_pos e1, if_pos e1, h1]
  · rw [if_neg e1, if_neg e1, h2 j e1, wipe_at, if_neg e1]
def TgIn (g : TG) (vs : List Nat) : Prop := ∀ x σ H (R : L2.St → Hp → Prop), g x σ H R → g x σ H fun σ2 H2 => Outs σ σ2 vs ∧ R σ2 H2
def TgsIn (g : TGs) (vs : List Nat) : Prop := ∀ x σ H (R : L2.St → Hp → Prop), g x σ H R → g x σ H fun σ2 H2 => Outs σ σ2 vs ∧ R σ2 H2
theorem ti_name {i : Nat} {vs : List Nat} (h : i ∈ vs) : TgIn (gName i) vs := fun x σ H R q => ⟨⟨List.length_set, fun j hj => List.getElem?_set_ne fun (z : i = j) => hj (z ▸ h)⟩, q⟩
theorem tis_nil {vs : List Nat} : TgsIn gNil vs := fun x σ H R ⟨e1, q⟩ => ⟨e1, ⟨rfl, fun _ _ => rfl⟩, q⟩
theorem gCons_mono {g : TG} {gs : TGs} {vs : List Nat} (h1 : TgIn g vs) (h2 : TgsIn gs vs) (mono : ∀ x σ H (R R' : L2.St → Hp → Prop), g x σ H R → (∀ a b, R a b → R' a b) → g x σ H R') (mono2 : ∀ x σ H (R R' : L2.St → Hp → Prop), gs x σ H R → (∀ a b, R a b → R' a b) → gs x σ H R') : TgsIn (gCons g gs) vs :=
  fun x σ H R ⟨v, r, e1, q⟩ => ⟨v, r, e1, mono _ _ _ _ _ (h1 _ _ _ _ q) fun σ1 H1 ⟨o1, q1⟩ => mono2 _ _ _ _ _ (h2 _ _ _ _ q1) fun σ2 H2 ⟨o2, q2⟩ => ⟨⟨o2.1.trans o1.1, fun j hj => (o2.2 j hj).trans (o1.2 j hj)⟩, q2⟩⟩
def TgMono (g : TG) : Prop := ∀ x σ H (R R' : L2.St → Hp → Prop), g x σ H R → (∀ a b, R a b → R' a b) → g x σ H R'
def TgsMono (g : TGs) : Prop := ∀ x σ H (R R' : L2.St → Hp → Prop), g x σ H R → (∀ a b, R a b → R' a b) → g x σ H R'
/-- a target: what it does, and where -/
def T3 (cls : Nat → Addr) (K : PySem.W.Frag) (e : Cur wd) (g : TG) (tz : TZ) (vs : List Nat) : Prop := TgOk cls K e g tz ∧ TgIn g vs ∧ TgMono g
def T3s (cls : Nat → Addr) (K : PySem.W.Frag) (e : Cur wd) (g : TGs) (tz : List PyData → Ev → Option Ev) (vs : List Nat) : Prop := TgsOk cls K e g tz ∧ TgsIn g vs ∧ TgsMono g
theorem t3_name {i : Nat} {vs : List Nat} (h : i ∈ vs := by decide) : T3 cls X.K e (gName i) (zN i) vs := ⟨tg_name, ti_name h, fun _ _ _ _ _ q k => k _ _ q⟩
theorem t3_nil {vs : List Nat} : T3s cls X.K e gNil zNil vs := ⟨tgs_nil, tis_nil, fun _ _ _ _ _ ⟨e1, q⟩ k => ⟨e1, k _ _ q⟩⟩
theorem t3_cons {g : TG} {gs : TGs} {t : TZ} {u : List PyData → Ev → Option Ev} {vs : List Nat} (h1 : T3 cls X.K e g t vs) (h2 : T3s cls X.K e gs u vs) : T3s cls X.K e (gCons g gs) (zCons t u) vs :=
  ⟨tgs_cons h1.1 h2.1, gCons_mono h1.2.1 h2.2.1 h1.2.2 h2.2.2, fun x σ H R R' ⟨v, r, e1, q⟩ k => ⟨v, r, e1, h1.2.2 _ _ _ _ _ q fun a b q1 => h2.2.2 _ _ _ _ _ q1 k⟩⟩
theorem t3_tup {n : Nat} {gs : TGs} {u : List PyData → Ev → Option Ev} {vs : List Nat} (h : T3s cls X.K e gs u vs) : T3 cls X.K e (L2.gTup X.K n gs) (zT n u) vs :=
  ⟨tg_tup h.1, fun x σ H R ⟨a, xs, e1, e2, e3, q⟩ => ⟨a, xs, e1, e2, e3, h.2.1 _ _ _ _ q⟩, fun x σ H R R' ⟨a, xs, e1, e2, e3, q⟩ k => ⟨a, xs, e1, e2, e3, h.2.2 _ _ _ _ _ q k⟩⟩
/-- [elt for tg in iter if ..] as a value -/
theorem lc_imp {it : XI W} {g : TG} {tz : TZ} {t : XB W} {f : XF W} {vs : List Nat} {K : PySem.W.Frag} (ke : Ok e) (h3 : T3 cls K e g tz vs) (σ : L2.St) (H : Hp) (Q : VK) (q : tS cls K e Wx (xLc it tz t f vs) σ H Q) :
    tLc (tSI cls K e Wx keepB it) g (tSB cls K e W00 t) (tS cls K e W00 f) vs σ H Q := by
  obtain ⟨c, δ, eH, r, q⟩ := q
  refine ⟨c, δ, eH, r, ?_⟩
  unfold xLc at q
  cases z : it δ c.w with
  | bad => rw [z] at q; exact q
  | exc n w' => rw [z] at q; exact q
  | ok items w1 =>
    rw [z] at q
    dsimp only [Res.bind] at q
    by_cases hl : items.length ≤ lim
    · rw [if_pos hl] at q
      cases z2 : lcGo tz t f (wipeZ δ vs) items w1 with
      | bad => rw [z2] at q; exact q.elim
      | exc n w' =>
        -- lcGo raises nothing
        exfalso
        have no : ∀ (l : List PyData) (w : W) (n : Nat) (w' : W), lcGo tz t f (wipeZ δ vs) l w ≠ .exc n w' := by
          intro l
          induction l with
          | nil => intro w n w' h; cases h
          | cons x l ih =>
            intro w n w' h
            unfold lcGo at h
            cases h1 : tz x (wipeZ δ vs) with
            | none => rw [h1] at h; cases h
            | some δ1 =>
              rw [h1] at h
              dsimp only at h
              cases h2 : t δ1 w with
              | bad => rw [h2] at h; cases h
              | exc _ _ => rw [h2] at h; cases h
              | ok bb w2 =>
                rw [h2] at h
                dsimp only [Res.calm, Res.bind] at h
                cases bb with
                | false => rw [if_neg Bool.false_ne_true] at h; exact ih _ _ _ h
                | true =>
                  rw [if_pos rfl] at h
                  cases h3 : f δ1 w2 with
                  | bad => rw [h3] at h; cases h
                  | exc _ _ => rw [h3] at h; cases h
                  | ok y w3 =>
                    rw [h3] at h
                    dsimp only at h
                    cases h4 : asP y with
                    | none => rw [h4] at h; cases h
                    | some d =>
                      rw [h4] at h
                      dsimp only at h
                      cases h5 : lcGo tz t f (wipeZ δ vs) l w3 with
                      | bad => rw [h5] at h; cases h
                      | exc _ _ => exact ih _ _ _ h5
                      | ok _ _ => rw [h5] at h; cases h
        exact no _ _ _ _ z2
      | ok ys wf =>
        rw [z2] at q
        intro J c' hw b hJ
        have r' := r.step ke b
        rw [← hw] at z2
        refine lc_walk ke r' hl hJ h3.1 z2 (fun _ _ _ _ _ => trivial) (fun D0 c2 hw2 b2 hf => ?_) fun x H' R hg => h3.2.2 _ _ _ _ _ (h3.2.1 _ _ _ _ hg) fun σ2 H2 ⟨o, k⟩ => ⟨wipe_outs o, k⟩
        obtain ⟨c3, e3, w3, b3, q3⟩ := hf.put b.ok b2
        rw [← e3]
        exact q (.ref D0) c3 (by rw [w3, hw2]) (b.trans r.ok b3) q3
    · rw [if_neg hl] at q; exact q.elim
theorem sts_nil : PTs X [] (tSB cls X.K e Wx (bYes (W := W))) := ⟨fun pins s σ H Q I ⟨c, δ, eH, r, q⟩ => pts_nil.run pins s σ H Q I (by rw [← eH]; exact q c rfl (Bs.refl r.ok))⟩
theorem s_lc {elt iter : Expr} {ifs : List Expr} {scope : Scope} {own : List (Str × Nat)} {it : XI W} {g : TG} {tz : TZ} {t : XB W} (ke : Ok e) (hc : X.calm = true) (hN : X.N.Nodup) (hi : PI X tg iter (tSI cls X.K e Wx keepB it)) (ok : BlkOk X.N X.env.scope scope own)
    (hg : ∀ (s : Shared) (H : Hp) (C : Addr) (cl : List (Str × Addr)) (fp : List Addr), PG (X.blk s H scope (compEnvC scope cl C X.env) fp) tg g) (h3 : T3 cls X.K e g tz (own.map (·.2)))
    (ht : ∀ (s : Shared) (H : Hp) (C : Addr) (cl : List (Str × Addr)) (fp : List Addr), PTs (X.blk s H scope (compEnvC scope cl C X.env) fp) ifs (tSB cls X.K e W00 t))
    (he : ∀ (s : Shared) (H : Hp) (C : Addr) (cl : List (Str × Addr)) (fp : List Addr), PE (X.blk s H scope (compEnvC scope cl C X.env) fp) elt (tS cls X.K e W00 f)) (hs : ∀ x, foldedSetIterable iter X.env x = pure x := by intro _; rfl) :
    PE X (.ListComp elt [⟨tg, iter, ifs, 0⟩] scope pos) (tS cls X.K e Wx (xLc it tz t f (own.map (·.2)))) :=
  pe_imp (pe_lc hc hN hi ok hg ht he hs) fun σ H Q q => lc_imp ke h3 σ H Q q
end
end Z

set_option Elab.async false
set_option linter.all false
set_option maxRecDepth 100000
/-! # Z6: statements -/
namespace Z
open PySem PySem.Spec PyProof.Rows L2

inductive SRes (W : Type) where
  | nx (δ : Ev) (w : W) | rt (d : D) (w : W) | bk (δ : Ev) (w : W) | ct (δ : Ev) (w : W) | exc (n : Nat) (δ : Ev) (w : W) | bad
abbrev SF (W : Type) := Ev → W → SRes W
section
variable {W : Type} {wd : WD W}
def afterS (cls : Nat → Addr) (K : PySem.W.Frag) (e c : Cur wd) (Wx : WX) (r : SRes W) (Dn : Ends) : Prop := match r with
  | .nx δ' w' => ∀ σ' c', c'.w = w' → Sub c.F c'.F → Rz cls K e c' δ' σ' → Dn.nx σ' c'.H
  | .rt d w' => ∀ u c', c'.w = w' → Bs e c' → Dv cls K c' d u → Dn.rt u c'.H
  | .bk δ' w' => ∀ σ' c', c'.w = w' → Sub c.F c'.F → Rz cls K e c' δ' σ' → Dn.bk σ' c'.H
  | .ct δ' w' => ∀ σ' c', c'.w = w' → Sub c.F c'.F → Rz cls K e c' δ' σ' → Dn.ct σ' c'.H
  | .exc n δ' w' => ∀ σ' c', c'.w = w' → Sub c.F c'.F → Rz cls K e c' δ' σ' → Wx (.ref (cls n)) none σ' c'.H
  | .bad => False
def tSS (cls : Nat → Addr) (K : PySem.W.Frag) (e : Cur wd) (Wx : WX) (f : SF W) : TS := fun Dn σ H => ∃ c δ, c.H = H ∧ Rz cls K e c δ σ ∧ afterS cls K e c Wx (f δ c.w) Dn
variable {cls : Nat → Addr} {K : PySem.W.Frag} {e c c1 : Cur wd} {Wx : WX} {Dn Dn' : Ends} {r : SRes W}
/-- later on the same is wanted -/
theorem afterS_later (s : Sub c.F c1.F) (h : afterS cls K e c Wx r Dn) : afterS cls K e c1 Wx r Dn := by
  cases r with
  | nx δ' w' => exact fun σ' c' hw s' r' => h σ' c' hw (s.trans s') r'
  | rt d w' => exact h
  | bk δ' w' => exact fun σ' c' hw s' r' => h σ' c' hw (s.trans s') r'
  | ct δ' w' => exact fun σ' c' hw s' r' => h σ' c' hw (s.trans s') r'
  | exc n δ' w' => exact fun σ' c' hw s' r' => h σ' c' hw (s.trans s') r'
  | bad => exact h
end
theorem ps_imp {X : Cx} {st : Stmt} {t t' : TS} (h : PS X st t) (i : ∀ D σ H, t' D σ H → t D σ H) : PS X st t' := ⟨fun pins s σ H D I q => h.run pins s σ H D I (i D σ H q)⟩
theorem pss_imp {X : Cx} {st : List Stmt} {t t' : TS} (h : PSs X st t) (i : ∀ D σ H, t' D σ H → t D σ H) : PSs X st t' := ⟨fun pins s σ H D I q => h.run pins s σ H D I (i D σ H q)⟩

/-! ## slots of one's own -/
section
variable {W : Type} {wd : WD W} {cls : Nat → Addr} {K : PySem.W.Frag} {e c c' : Cur wd} {δ : Ev} {σ : L2.St}
/-- a slot gets new things, laid since c -/
theorem Rz.putNew {i : Nat} {s : Sl} {u : V} {A : List Addr} (ke : Ok e) (r : Rz cls K e c δ σ) (b : Bs c c') (hi : i < δ.length) (hs : SlI cls K c' A s (some (some u))) (hn : A.Nodup) (hA : ∀ a ∈ A, Fre c c' a ∧ c'.H a ≠ none) :
    Rz cls K e c' (δ.set i s) (σ.set i (some u)) := by
  have r1 := r.step ke b
  obtain ⟨o, h1, h2, h3, h4, h5⟩ := r.ex
  have hl := r.len
  have eH : ∀ a, c.H a = none → e.H a = none := fun a h => by
    rcases none_or (e.H a) with q | ⟨x, q⟩
    · exact q
    · by_cases hx : wd.fp e.k a
      · exact absurd h (r.ok.wf a (r.bs.kg a hx)).2
      · rw [r.bs.hh a x hx q] at h; cases h
  have dis : ∀ j a, a ∈ A → a ∈ o j → False := fun j a ha hj => (h5 j a hj).2 (hA a ha).1.2.2
  refine ⟨r1.bs, by simpa using hl, fun j => if j = i then A else o j, fun j t ht => ?_, fun j hj => ?_, fun j k a hj hk => ?_, fun j => ?_, fun j a ha => ?_⟩
  · by_cases e1 : j = i
    · subst e1
      rw [List.getElem?_set_self hi] at ht
      cases ht
      simp only [if_pos]
      rw [List.getElem?_set_self (by omega)]
      exact hs
    · simp only [if_neg e1]
      rw [List.getElem?_set_ne (Ne.symm e1)] at ht ⊢
      exact (h1 j t ht).step b fun a ha => ((h5 j a ha).1.step b (h5 j a ha).2).2
  · by_cases e1 : j = i
    · subst e1; rw [List.getElem?_set_self hi] at hj; cases hj
    · simp only [if_neg e1]
      rw [List.getElem?_set_ne (Ne.symm e1)] at hj
      exact h2 j hj
  · dsimp only at hj hk
    by_cases e1 : j = i
    · by_cases e2 : k = i
      · rw [e1, e2]
      · rw [if_pos e1] at hj; rw [if_neg e2] at hk; exact (dis k a hj hk).elim
    · by_cases e2 : k = i
      · rw [if_neg e1] at hj; rw [if_pos e2] at hk; exact (dis j a hk hj).elim
      · rw [if_neg e1] at hj; rw [if_neg e2] at hk; exact h3 j k a hj hk
  · dsimp only
    by_cases e1 : j = i
    · rw [if_pos e1]; exact hn
    · rw [if_neg e1]; exact h4 j
  · dsimp only at ha
    by_cases e1 : j = i
    · rw [if_pos e1] at ha
      obtain ⟨⟨f1, f2, f3⟩, f4⟩ := hA a ha
      exact ⟨⟨f1, f2, eH a f3⟩, f4⟩
    · rw [if_neg e1] at ha
      obtain ⟨f1, f2⟩ := (h5 j a ha).1.step b (h5 j a ha).2
      exact ⟨f1, by rw [f2]; exact (h5 j a ha).2⟩
/-- one's own object at a changes -/
theorem Rz.write {i : Nat} {s s' : Sl} {a : Addr} {ob : HO} (r : Rz cls K e c δ σ) (hs : δ[i]? = some s)
    (hb : ∀ o : Nat → List Addr, SlI cls K c (o i) s σ[i]? → a ∈ o i ∧ ((o i).Nodup → SlI cls K { c with H := upd c.H a ob } (o i) s' σ[i]?)) : Rz cls K e { c with H := upd c.H a ob } (δ.set i s') σ := by
  obtain ⟨o, h1, h2, h3, h4, h5⟩ := r.ex
  obtain ⟨ha, hs'⟩ := hb o (h1 i s hs)
  replace hs' := hs' (h4 i)
  obtain ⟨⟨f1, f2, f3⟩, f4⟩ := h5 i a ha
  have hi : i < δ.length := (List.getElem?_eq_some_iff.mp hs).1
  have off : ∀ j x, j ≠ i → x ∈ o j → x ≠ a := fun j x hj hx z => hj (h3 j i x hx (z ▸ ha))
  refine ⟨⟨⟨fun x u q => ?_, wd.stab _ _ _ _ _ _ r.ok.wr (Sub.refl _) fun x hx => upd_ne fun (z : x = a) => f2 (z ▸ hx), fun x hx => ⟨(r.ok.wf x hx).1, ?_⟩⟩, r.bs.ff, fun x u n q => ?_, r.bs.fn, r.bs.kh, r.bs.kf, r.bs.kg⟩, by rw [List.length_set]; exact r.len, o, fun j t ht => ?_, fun j hj => ?_, h3, h4, fun j x hx => ?_⟩
  · show upd c.H a ob x = some u
    rw [upd_ne (ne_of_none q f1)]; exact r.ok.fh _ _ q
  · show upd c.H a ob x ≠ none
    rw [upd_ne fun (z : x = a) => f2 (z ▸ hx)]
    exact (r.ok.wf x hx).2
  · show upd c.H a ob x = some u
    rw [upd_ne (ne_of_none q f3)]; exact r.bs.hh _ _ n q
  · by_cases e1 : j = i
    · subst e1
      rw [List.getElem?_set_self hi] at ht
      cases ht
      exact hs'
    · rw [List.getElem?_set_ne (Ne.symm e1)] at ht
      have q := h1 j t ht
      have eq : ∀ x ∈ o j, upd c.H a ob x = c.H x := fun x hx => upd_ne (off j x e1 hx)
      cases t with
      | no => exact q
      | v d =>
        obtain ⟨q1, u, q2, q3⟩ := q
        refine ⟨q1, u, q2, ?_⟩
        cases d with
        | p d => exact q3
        | exc n => exact q3
        | obj n => exact q3
        | scr n => exact q3
        | opq => trivial
      | own xs =>
        obtain ⟨p, vs, q1, q2, q3, q4⟩ := q
        refine ⟨p, vs, q1, q2, ?_, q4⟩
        rw [← q3]; exact eq p (by rw [q1]; exact List.mem_cons_self)
      | own2 xss =>
        obtain ⟨p, as, q1, q2, q3, ql, q4⟩ := q
        refine ⟨p, as, q1, q2, ?_, ql, fun m b xs g1 g2 => ?_⟩
        · rw [← q3]; exact eq p (by rw [q1]; exact List.mem_cons_self)
        · obtain ⟨vs, g3, g4⟩ := q4 m b xs g1 g2
          refine ⟨vs, ?_, g4⟩
          rw [← g3]; exact eq b (by rw [q1]; exact List.mem_cons_of_mem _ (List.mem_of_getElem? g1))
  · by_cases e1 : j = i
    · subst e1; rw [List.getElem?_set_self hi] at hj; cases hj
    · rw [List.getElem?_set_ne (Ne.symm e1)] at hj; exact h2 j hj
  · obtain ⟨g1, g2⟩ := h5 j x hx
    refine ⟨g1, ?_⟩
    show upd c.H a ob x ≠ none
    by_cases e1 : x = a
    · rw [e1, upd_same]; exact fun z => by cases z
    · rw [upd_ne e1]; exact g2
/-- .. a list -/
theorem Rz.own {i : Nat} {xs : List PyData} (r : Rz cls K e c δ σ) (hs : δ[i]? = some (.own xs)) : ∃ a vs, σ[i]? = some (some (.ref a)) ∧ c.H a = some (.lst vs) ∧ DqL c.F xs vs ∧ c.F a = none ∧
    ∀ ys us, DqL c.F ys us → Rz cls K e { c with H := upd c.H a (.lst us) } (δ.set i (.own ys)) σ := by
  obtain ⟨o, h1, h2, h3, h4, h5⟩ := r.ex
  obtain ⟨a, vs, q1, q2, q3, q4⟩ := h1 i _ hs
  refine ⟨a, vs, q2, q3, q4, (h5 i a (by rw [q1]; exact List.mem_cons_self)).1.1, fun ys us h => r.write (s' := .own ys) hs fun o' ⟨a', vs', g1, g2, g3, g4⟩ => ?_⟩
  have ea : a' = a := by rw [q2] at g2; cases g2; rfl
  subst ea
  exact ⟨by rw [g1]; exact List.mem_cons_self, fun _ => ⟨a', us, g1, g2, upd_same, h⟩⟩
/-- .. a row of a list of lists -/
theorem Rz.own2 {i : Nat} {xss : List (List PyData)} (r : Rz cls K e c δ σ) (hs : δ[i]? = some (.own2 xss)) : ∃ a as, σ[i]? = some (some (.ref a)) ∧ c.H a = some (.lst (as.map V.ref)) ∧ c.F a = none ∧ RowsAt c xss as ∧
    ∀ (k : Nat) (b : Addr), as[k]? = some b → c.F b = none ∧ ∀ ys us, DqL c.F ys us → Rz cls K e { c with H := upd c.H b (.lst us) } (δ.set i (.own2 (xss.set k ys))) σ := by
  obtain ⟨o, h1, h2, h3, h4, h5⟩ := r.ex
  obtain ⟨a, as, q1, q2, q3, ql, q4⟩ := h1 i _ hs
  refine ⟨a, as, q2, q3, (h5 i a (by rw [q1]; exact List.mem_cons_self)).1.1, ⟨ql, q4⟩, fun k b hb => ⟨(h5 i b (by rw [q1]; exact List.mem_cons_of_mem _ (List.mem_of_getElem? hb))).1.1, fun ys us h => r.write (s' := .own2 (xss.set k ys)) hs fun o' ⟨a', as', g1, g2, g3, gl, g4⟩ => ?_⟩⟩
  have ea : a' = a := by rw [q2] at g2; cases g2; rfl
  subst ea
  have eas : as' = as := by
    rw [q3] at g3
    have := HO.lst.inj (Option.some.inj g3)
    exact (List.map_inj_right (fun x y h => V.ref.inj h)).mp this.symm
  subst eas
  refine ⟨by rw [g1]; exact List.mem_cons_of_mem _ (List.mem_of_getElem? hb), fun nd => ?_⟩
  rw [g1] at nd
  have hab : a' ≠ b := fun z => (List.nodup_cons.mp nd).1 (z ▸ List.mem_of_getElem? hb)
  have ndA := (List.nodup_cons.mp nd).2
  refine ⟨a', as', g1, g2, ?_, by rw [List.length_set]; exact gl, fun m x xs h1' h2' => ?_⟩
  · show upd c.H b _ a' = _
    rw [upd_ne hab]; exact g3
  · by_cases e1 : m = k
    · subst e1
      rw [hb] at h1'
      cases h1'
      have hm : m < xss.length := by
        have := (List.getElem?_eq_some_iff.mp hb).1
        omega
      rw [List.getElem?_set_self hm] at h2'
      cases h2'
      exact ⟨us, upd_same, h⟩
    · rw [List.getElem?_set_ne (Ne.symm e1)] at h2'
      obtain ⟨vs, f1, f2⟩ := g4 m x xs h1' h2'
      refine ⟨vs, ?_, f2⟩
      show upd c.H b _ x = _
      rw [upd_ne]
      · exact f1
      · intro z
        subst z
        have i1 := (List.getElem?_eq_some_iff.mp h1')
        have i2 := (List.getElem?_eq_some_iff.mp hb)
        obtain ⟨l1, v1⟩ := i1
        obtain ⟨l2, v2⟩ := i2
        exact e1 ((List.getElem_inj ndA).mp (v1.trans v2.symm))
/-- what a slot owns is frozen -/
theorem Rz.frzG {i : Nat} {s : Sl} {d : D} (r : Rz cls K e c δ σ) (hs : δ[i]? = some s)
    (hv : ∀ (A : List Addr) (c' : Cur wd), SlI cls K c A s σ[i]? → Sub c.F c'.F → (∀ a ∈ A, c'.F a = c.H a) → ∃ u, σ[i]? = some (some u) ∧ Dv cls K c' d u) :
    ∃ c' : Cur wd, c'.H = c.H ∧ c'.w = c.w ∧ Sub c.F c'.F ∧ c'.k = c.k ∧ Rz cls K e c' (δ.set i (.v d)) σ := by
  obtain ⟨o, h1, h2, h3, h4, h5⟩ := r.ex
  have hi : i < δ.length := (List.getElem?_eq_some_iff.mp hs).1
  generalize hF : (fun x => if x ∈ o i then c.H x else c.F x : Hp) = F'
  have fin : ∀ x, x ∈ o i → F' x = c.H x := fun x hx => by rw [← hF]; simp only [if_pos hx]
  have fout : ∀ x, x ∉ o i → F' x = c.F x := fun x hx => by rw [← hF]; simp only [if_neg hx]
  have s1 : Sub c.F F' := fun x u q => by
    by_cases hx : x ∈ o i
    · rw [(h5 i x hx).1.1] at q; cases q
    · rw [fout x hx]; exact q
  obtain ⟨u, hu, hd⟩ := hv (o i) { c with F := F' } (h1 i s hs) s1 fin
  refine ⟨{ c with F := F' }, rfl, rfl, s1, rfl, ⟨⟨fun x v q => ?_, wd.stab _ _ _ _ _ _ r.ok.wr s1 fun _ _ => rfl, fun x hx => ⟨?_, (r.ok.wf x hx).2⟩⟩, r.bs.ff.trans s1, r.bs.hh, fun x hx => ?_, r.bs.kh, r.bs.kf, r.bs.kg⟩, by rw [List.length_set]; exact r.len, fun j => if j = i then [] else o j, fun j t ht => ?_, fun j hj => ?_, fun j k x hj hk => ?_, fun j => ?_, fun j x hx => ?_⟩
  · have q : F' x = some v := q
    by_cases hx : x ∈ o i
    · rw [fin x hx] at q; exact q
    · rw [fout x hx] at q; exact r.ok.fh _ _ q
  · show F' x = none
    by_cases hx' : x ∈ o i
    · exact absurd hx (h5 i x hx').1.2.1
    · rw [fout x hx']; exact (r.ok.wf x hx).1
  · by_cases hx' : x ∈ o i
    · exact .inr (h5 i x hx').1.2.2
    · refine r.bs.fn x fun z => hx ?_
      show F' x = none
      rw [fout x hx']; exact z
  · by_cases e1 : j = i
    · subst e1
      rw [List.getElem?_set_self hi] at ht
      cases ht
      simp only [if_pos]
      exact ⟨rfl, u, hu, hd⟩
    · simp only [if_neg e1]
      rw [List.getElem?_set_ne (Ne.symm e1)] at ht
      have q := h1 j t ht
      cases t with
      | no => exact q
      | v d =>
        obtain ⟨g1, u, g2, g3⟩ := q
        refine ⟨g1, u, g2, ?_⟩
        cases d with
        | p d => exact Dq.mono s1 _ _ g3
        | exc n => obtain ⟨y, g4, g5⟩ := g3; exact ⟨y, g4, s1 _ _ g5⟩
        | obj n => exact g3
        | scr n => obtain ⟨y, g4, g5⟩ := g3; exact ⟨y, g4, sqL_mono s1 g5⟩
        | opq => trivial
      | own ys =>
        obtain ⟨p, us, g1, g2, g3, g4⟩ := q
        exact ⟨p, us, g1, g2, g3, DqL.mono s1 _ _ g4⟩
      | own2 yss =>
        obtain ⟨p, as, g1, g2, g3, gl, g4⟩ := q
        refine ⟨p, as, g1, g2, g3, gl, fun m b zs k1 k2 => ?_⟩
        obtain ⟨us, k3, k4⟩ := g4 m b zs k1 k2
        exact ⟨us, k3, DqL.mono s1 _ _ k4⟩
  · by_cases e1 : j = i
    · simp only [if_pos e1]
    · simp only [if_neg e1]
      rw [List.getElem?_set_ne (Ne.symm e1)] at hj
      exact h2 j hj
  · dsimp only at hj hk
    by_cases e1 : j = i
    · rw [if_pos e1] at hj; cases hj
    · by_cases e2 : k = i
      · rw [if_pos e2] at hk; cases hk
      · rw [if_neg e1] at hj; rw [if_neg e2] at hk; exact h3 j k x hj hk
  · dsimp only
    by_cases e1 : j = i
    · rw [if_pos e1]; exact List.nodup_nil
    · rw [if_neg e1]; exact h4 j
  · dsimp only at hx
    by_cases e1 : j = i
    · rw [if_pos e1] at hx; cases hx
    · rw [if_neg e1] at hx
      obtain ⟨⟨g1, g2, g3⟩, g4⟩ := h5 j x hx
      refine ⟨⟨?_, g2, g3⟩, g4⟩
      show F' x = none
      rw [fout x fun z => e1 (h3 j i x hx z)]
      exact g1
/-- a list of one's own is frozen -/
theorem Rz.frz {i : Nat} {xs : List PyData} (r : Rz cls K e c δ σ) (hs : δ[i]? = some (.own xs)) : ∃ c' : Cur wd, c'.H = c.H ∧ c'.w = c.w ∧ Sub c.F c'.F ∧ c'.k = c.k ∧ Rz cls K e c' (δ.set i (.v (.p (.list xs)))) σ :=
  r.frzG hs fun A c' ⟨a, vs, q1, q2, q3, q4⟩ s hA => ⟨.ref a, q2, by
    show Dq c'.F _ _
    simp only [Dq]
    exact ⟨a, vs, rfl, by rw [hA a (by rw [q1]; exact List.mem_cons_self)]; exact q3, DqL.mono s _ _ q4⟩⟩
theorem rows_dq {F : Hp} {c : Cur wd} (s : Sub c.F F) : ∀ {xss : List (List PyData)} {as : List Addr}, RowsAt c xss as → (∀ a ∈ as, F a = c.H a) → DqL F (xss.map .list) (as.map .ref)
  | [], as, ⟨l, _⟩, _ => by
    cases List.length_eq_zero_iff.mp l
    exact .nil
  | xs :: xss, [], ⟨l, _⟩, _ => by simp at l
  | xs :: xss, a :: as, ⟨l, q⟩, h => by
    obtain ⟨vs, q1, q2⟩ := q 0 a xs rfl rfl
    refine .cons ?_ (rows_dq s ⟨by simpa using l, fun j b ys h1 h2 => q (j + 1) b ys (by simpa using h1) (by simpa using h2)⟩ fun b hb => h b (List.mem_cons_of_mem _ hb))
    simp only [Dq]
    exact ⟨a, vs, rfl, by rw [h a List.mem_cons_self]; exact q1, DqL.mono s _ _ q2⟩
/-- .. a list of lists -/
theorem Rz.frz2 {i : Nat} {xss : List (List PyData)} (r : Rz cls K e c δ σ) (hs : δ[i]? = some (.own2 xss)) : ∃ c' : Cur wd, c'.H = c.H ∧ c'.w = c.w ∧ Sub c.F c'.F ∧ c'.k = c.k ∧ Rz cls K e c' (δ.set i (.v (.p (.list (xss.map .list))))) σ :=
  r.frzG hs fun A c' ⟨a, as, q1, q2, q3, q4⟩ s hA => ⟨.ref a, q2, by
    show Dq c'.F _ _
    simp only [Dq]
    exact ⟨a, _, rfl, by rw [hA a (by rw [q1]; exact List.mem_cons_self)]; exact q3, rows_dq s q4 fun b hb => hA b (by rw [q1]; exact List.mem_cons_of_mem _ hb)⟩⟩
end
end Z

set_option Elab.async false
set_option linter.all false
set_option maxRecDepth 100000
/-! # Z7: rules of statements -/
namespace Z
open PySem PySem.Spec PyProof.Rows L2

abbrev XS (W : Type) := Ev → W → Res W Sl
section
variable {W : Type} {wd : WD W}
def afterX (cls : Nat → Addr) (K : PySem.W.Frag) (c : Cur wd) (σ : L2.St) (Wx : WX) (r : Res W Sl) (Q : VK) : Prop := match r with
  | .ok s w' => ∀ u c' A, c'.w = w' → Bs c c' → SlI cls K c' A s (some (some u)) → A.Nodup → (∀ a ∈ A, Fre c c' a ∧ c'.H a ≠ none) → Q u c'.H
  | .exc n w' => ∀ c', c'.w = w' → Bs c c' → Wx (.ref (cls n)) none σ c'.H
  | .bad => False
def tSX (cls : Nat → Addr) (K : PySem.W.Frag) (e : Cur wd) (Wx : WX) (f : XS W) : TE := fun σ H Q => ∃ c δ, c.H = H ∧ Rz cls K e c δ σ ∧ afterX cls K c σ Wx (f δ c.w) Q
end
section
variable {X : Cx} {W : Type} {wd : WD W} {cls : Nat → Addr} {e : Cur wd} {Wx : WX} {tg ex a b d : Expr} {pos pos' : Pos} {f h : XF W} {fl : XL W} {es : List Expr} {g gs : XS W} {t : XB W} {st : Stmt} {sts : List Stmt}
def xV (f : XF W) : XS W := fun δ w => (f δ w).bind fun d w1 => .ok (.v d) w1
theorem x_v (ha : PE X a (tS cls X.K e Wx f)) : PE X a (tSX cls X.K e Wx (xV f)) := pe_imp ha fun σ H Q ⟨c, δ, eH, r, q⟩ => by
  refine ⟨c, δ, eH, r, ?_⟩
  unfold xV at q
  cases z : f δ c.w with
  | bad => rw [z] at q; exact q
  | exc n w => rw [z] at q; exact q
  | ok x w' =>
    rw [z] at q
    exact fun u c' hw b q' => q u c' [] hw b ⟨rfl, u, rfl, q'⟩ List.nodup_nil fun _ h => by cases h
/-- [a, b, ..], one's own -/
def xOwn (fl : XL W) : XS W := fun δ w => (fl δ w).bind fun xs w1 => match allP xs with
  | some ps => if ps.length ≤ lim then .ok (.own ps) w1 else .bad
  | none => .bad
theorem gives_own {K : PySem.W.Frag} {c : Cur wd} {σ : L2.St} {ds : List PyData} {vs : List V} {Q : VK} (h : afterX cls K c σ Wx (.ok (.own ds) c.w) Q) (k : Ok c) (q : DqL c.F ds vs) : ∀ p, c.H p = none → Q (.ref p) (upd c.H p (.lst vs)) := fun p hp => by
  have b := Bs.lay k (.lst vs) hp
  exact h (.ref p) (c.lay p (.lst vs)) [p] rfl b ⟨p, vs, rfl, rfl, upd_same, q⟩ (List.nodup_cons.mpr ⟨by simp, List.nodup_nil⟩) fun a ha => by
    simp at ha; subst ha
    exact ⟨⟨k.fnone hp, k.nofp hp, hp⟩, by show upd c.H a _ a ≠ none; rw [upd_same]; exact fun z => by cases z⟩
theorem x_own (ke : Ok e) (h : PA X es (tSL cls X.K e Wx fl)) : PE X (.List es pos) (tSX cls X.K e Wx (xOwn fl)) := pe_imp (pe_lst h) fun σ H Q ⟨c, δ, eH, r, q⟩ => by
  rw [← eH]
  unfold xOwn at q
  refine ⟨c, δ, rfl, r, ?_⟩
  cases z : fl δ c.w with
  | bad => rw [z] at q; exact q
  | exc n w => rw [z] at q; exact q
  | ok xs w' =>
    rw [z] at q
    dsimp only [Res.bind] at q
    intro us c' hw b q2
    cases z2 : allP xs with
    | none => rw [z2] at q; exact q.elim
    | some ps =>
      rw [z2] at q
      dsimp only at q
      by_cases z3 : ps.length ≤ lim
      · rw [if_pos z3] at q
        have q3 := allP_dq z2 q2
        refine ⟨by rw [q3.len, ← lim_eq]; exact z3, fun p hp => ?_⟩
        have k := b.ok
        have b2 := Bs.lay k (.lst us) hp
        refine q (.ref p) (c'.lay p (.lst us)) [p] hw (b.trans r.ok b2) ⟨p, us, rfl, rfl, upd_same, q3⟩ (List.nodup_cons.mpr ⟨by simp, List.nodup_nil⟩) fun a ha => ?_
        simp at ha; subst ha
        refine ⟨⟨k.fnone hp, k.nofp hp, ?_⟩, by show upd c'.H a _ a ≠ none; rw [upd_same]; exact fun z => by cases z⟩
        rcases none_or (c.H a) with q | ⟨u, q⟩
        · exact q
        · by_cases hx : wd.fp c.k a
          · exact absurd hp (k.wf a (b.kg a hx)).2
          · rw [b.hh a u hx q] at hp; cases hp
      · rw [if_neg z3] at q; exact q.elim
/-- a comprehension, one's own -/
def xLcO (it : XI W) (tz : TZ) (t : XB W) (f : XF W) (vs : List Nat) : XS W := fun δ w => (it δ w).bind fun items w1 => if items.length ≤ lim then match lcGo tz t f (wipeZ δ vs) items w1 with
    | .ok ys w2 => .ok (.own ys) w2
    | _ => .bad
  else .bad
theorem lc_impX {it : XI W} {g : TG} {tz : TZ} {vs : List Nat} {K : PySem.W.Frag} (ke : Ok e) (h3 : T3 cls K e g tz vs) (σ : L2.St) (H : Hp) (Q : VK) (q : tSX cls K e Wx (xLcO it tz t f vs) σ H Q) :
    tLc (tSI cls K e Wx keepB it) g (tSB cls K e W00 t) (tS cls K e W00 f) vs σ H Q := by
  obtain ⟨c, δ, eH, r, q⟩ := q
  refine ⟨c, δ, eH, r, ?_⟩
  unfold xLcO at q
  cases z : it δ c.w with
  | bad => rw [z] at q; exact q
  | exc n w' => rw [z] at q; exact q
  | ok items w1 =>
    rw [z] at q
    dsimp only [Res.bind] at q
    by_cases hl : items.length ≤ lim
    · rw [if_pos hl] at q
      cases z2 : lcGo tz t f (wipeZ δ vs) items w1 with
      | bad => rw [z2] at q; exact q.elim
      | exc n w' => rw [z2] at q; exact q.elim
      | ok ys wf =>
        rw [z2] at q
        intro J c' hw b hJ
        have r' := r.step ke b
        rw [← hw] at z2
        refine lc_walk ke r' hl hJ h3.1 z2 (fun _ _ _ _ _ => trivial) (fun D0 c2 hw2 b2 hf => ?_) fun x H' R hg => h3.2.2 _ _ _ _ _ (h3.2.1 _ _ _ _ hg) fun σ2 H2 ⟨o, k⟩ => ⟨wipe_outs o, k⟩
        obtain ⟨⟨f1, f2, f3⟩, us, g1, g2⟩ := hf
        refine q (.ref D0) c2 [D0] hw2 (b.trans r.ok b2) ⟨D0, us, rfl, rfl, g1, g2⟩ (List.nodup_cons.mpr ⟨by simp, List.nodup_nil⟩) fun a ha => ?_
        simp at ha; subst ha
        refine ⟨⟨f1, f2, ?_⟩, by rw [g1]; exact fun z => by cases z⟩
        rcases none_or (c.H a) with q | ⟨u, q⟩
        · exact q
        · by_cases hx : wd.fp c.k a
          · exact absurd f3 (b.ok.wf a (b.kg a hx)).2
          · rw [b.hh a u hx q] at f3; cases f3
    · rw [if_neg hl] at q; exact q.elim
theorem x_lcO {elt iter : Expr} {ifs : List Expr} {scope : Scope} {own : List (Str × Nat)} {it : XI W} {g : TG} {tz : TZ} {t : XB W} (ke : Ok e) (hc : X.calm = true) (hN : X.N.Nodup) (hi : PI X tg iter (tSI cls X.K e Wx keepB it)) (ok : BlkOk X.N X.env.scope scope own)
    (hg : ∀ (s : Shared) (H : Hp) (C : Addr) (cl : List (Str × Addr)) (fp : List Addr), PG (X.blk s H scope (compEnvC scope cl C X.env) fp) tg g) (h3 : T3 cls X.K e g tz (own.map (·.2)))
    (ht : ∀ (s : Shared) (H : Hp) (C : Addr) (cl : List (Str × Addr)) (fp : List Addr), PTs (X.blk s H scope (compEnvC scope cl C X.env) fp) ifs (tSB cls X.K e W00 t))
    (he : ∀ (s : Shared) (H : Hp) (C : Addr) (cl : List (Str × Addr)) (fp : List Addr), PE (X.blk s H scope (compEnvC scope cl C X.env) fp) elt (tS cls X.K e W00 f)) (hs : ∀ x, foldedSetIterable iter X.env x = pure x := by intro _; rfl) :
    PE X (.ListComp elt [⟨tg, iter, ifs, 0⟩] scope pos) (tSX cls X.K e Wx (xLcO it tz t f (own.map (·.2)))) :=
  pe_imp (pe_lc hc hN hi ok hg ht he hs) fun σ H Q q => lc_impX ke h3 σ H Q q

/-! ## assignments -/
def sSet (i : Nat) (g : XS W) : SF W := fun δ w => match g δ w with
  | .ok s w' => if i < δ.length then .nx (δ.set i s) w' else .bad
  | .exc n w' => .exc n δ w'
  | .bad => .bad
theorem set_imp {K : PySem.W.Frag} {i : Nat} (ke : Ok e) (D : Ends) (σ : L2.St) (H : Hp) (q : tSS cls K e Wx (sSet i g) D σ H) : tAsg (tSX cls K e Wx g) (gName i) D σ H := by
  obtain ⟨c, δ, eH, r, q⟩ := q
  refine ⟨c, δ, eH, r, ?_⟩
  unfold sSet at q
  cases z : g δ c.w with
  | bad => rw [z] at q; exact q
  | exc n w => rw [z] at q; exact fun c' hw b => q σ c' hw b.ff (r.step ke b)
  | ok s w' =>
    rw [z] at q
    dsimp only at q
    by_cases hi : i < δ.length
    · rw [if_pos hi] at q
      exact fun u c' A hw b hs hn hA => q _ c' hw b.ff (r.putNew ke b hi hs hn hA)
    · rw [if_neg hi] at q; exact q.elim
theorem ss_set {i : Nat} {x : Str} {pos' : Pos} (ke : Ok e) (hN : X.N.Nodup) (hi : X.N[i]? = some x) (hx : Loc X.env.scope x) (he : PE X ex (tSX cls X.K e Wx g)) (hs : swapsWith ex (some (.Name x pos')) pos.line X.env = pure false := by rfl)
    (hf : X.fn x = true ∨ X.env.scope.names.lookup x = some .local := by first | exact .inl rfl | exact .inr rfl | assumption) : PS X (.Assign [.Name x pos'] ex pos) (tSS cls X.K e Wx (sSet i g)) :=
  ps_imp (ps_set hN hi hx he hs hf) fun D σ H q => set_imp ke D σ H q
/-- x = [.. for ..] -/
theorem ss_setLc {i : Nat} {y : Str} {py : Pos} {elt iter : Expr} {ifs : List Expr} {scope : Scope} {own : List (Str × Nat)} {spos : Pos} {it : XI W} {g : TG} {tz : TZ} {t : XB W} (ke : Ok e) (hc : X.calm = true) (hN : X.N.Nodup) (hy : X.N[i]? = some y) (hyl : X.env.scope.names.lookup y = some .local)
    (hsw : swapsWith (.ListComp elt [⟨tg, iter, ifs, 0⟩] scope pos) (some (.Name y py)) spos.line X.env = pure true) (hi : PI X tg iter (tSI cls X.K e Wx keepB it)) (ok : BlkOk X.N X.env.scope scope own)
    (hg : ∀ (s : Shared) (H : Hp) (C : Addr) (cl : List (Str × Addr)) (fp : List Addr), PG (X.blk s H scope (compEnvC scope cl C X.env) fp) tg g) (h3 : T3 cls X.K e g tz (own.map (·.2)))
    (ht : ∀ (s : Shared) (H : Hp) (C : Addr) (cl : List (Str × Addr)) (fp : List Addr), PTs (X.blk s H scope (compEnvC scope cl C X.env) fp) ifs (tSB cls X.K e W00 t))
    (he : ∀ (s : Shared) (H : Hp) (C : Addr) (cl : List (Str × Addr)) (fp : List Addr), PE (X.blk s H scope (compEnvC scope cl C X.env) fp) elt (tS cls X.K e W00 f)) (hs : ∀ x, foldedSetIterable iter X.env x = pure x := by intro _; rfl) :
    PS X (.Assign [.Name y py] (.ListComp elt [⟨tg, iter, ifs, 0⟩] scope pos) spos) (tSS cls X.K e Wx (sSet i (xV (xLc it tz t f (own.map (·.2)))))) :=
  ps_imp (ps_setLc hc hN hy hyl hsw hi ok hg ht he hs) fun D σ H q => by
    obtain ⟨c, δ, eH, r, q⟩ := set_imp ke D σ H q
    refine lc_imp (Wx := Wx) ke h3 σ H _ ⟨c, δ, eH, r, ?_⟩
    unfold xV at q
    cases z : xLc it tz t f (own.map (·.2)) δ c.w with
    | bad => rw [z] at q; exact q
    | exc n w => rw [z] at q; exact q
    | ok x w' =>
      rw [z] at q
      exact fun u c' hw b q' => q u c' [] hw b ⟨rfl, u, rfl, q'⟩ List.nodup_nil fun _ h => by cases h
theorem ss_setLcO {i : Nat} {y : Str} {py : Pos} {elt iter : Expr} {ifs : List Expr} {scope : Scope} {own : List (Str × Nat)} {spos : Pos} {it : XI W} {g : TG} {tz : TZ} {t : XB W} (ke : Ok e) (hc : X.calm = true) (hN : X.N.Nodup) (hy : X.N[i]? = some y) (hyl : X.env.scope.names.lookup y = some .local)
    (hsw : swapsWith (.ListComp elt [⟨tg, iter, ifs, 0⟩] scope pos) (some (.Name y py)) spos.line X.env = pure true) (hi : PI X tg iter (tSI cls X.K e Wx keepB it)) (ok : BlkOk X.N X.env.scope scope own)
    (hg : ∀ (s : Shared) (H : Hp) (C : Addr) (cl : List (Str × Addr)) (fp : List Addr), PG (X.blk s H scope (compEnvC scope cl C X.env) fp) tg g) (h3 : T3 cls X.K e g tz (own.map (·.2)))
    (ht : ∀ (s : Shared) (H : Hp) (C : Addr) (cl : List (Str × Addr)) (fp : List Addr), PTs (X.blk s H scope (compEnvC scope cl C X.env) fp) ifs (tSB cls X.K e W00 t))
    (he : ∀ (s : Shared) (H : Hp) (C : Addr) (cl : List (Str × Addr)) (fp : List Addr), PE (X.blk s H scope (compEnvC scope cl C X.env) fp) elt (tS cls X.K e W00 f)) (hs : ∀ x, foldedSetIterable iter X.env x = pure x := by intro _; rfl) :
    PS X (.Assign [.Name y py] (.ListComp elt [⟨tg, iter, ifs, 0⟩] scope pos) spos) (tSS cls X.K e Wx (sSet i (xLcO it tz t f (own.map (·.2))))) :=
  ps_imp (ps_setLc hc hN hy hyl hsw hi ok hg ht he hs) fun D σ H q => lc_impX ke h3 σ H _ (set_imp ke D σ H q)
/-- a, b = e1, e2 -/
def sPar2 (i j : Nat) (g gs : XS W) : SF W := fun δ w => match g δ w with
  | .ok s w1 => match gs δ w1 with
    | .ok s2 w2 => if i < δ.length ∧ j < δ.length then .nx ((δ.set i s).set j s2) w2 else .bad
    | .exc n w' => .exc n δ w'
    | .bad => .bad
  | .exc n w' => .exc n δ w'
  | .bad => .bad
theorem ss_par2 {i j : Nat} {x y : Str} {px py pt : Pos} {kt k2 pt2} (ke : Ok e) (hc : X.calm = true) (hN : X.N.Nodup) (hi : X.N[i]? = some x) (hj : X.N[j]? = some y) (hij : i ≠ j)
    (hx : X.env.scope.names.lookup x = some .local) (hy : X.env.scope.names.lookup y = some .local) (ha : PE X a (tSX cls X.K e Wx g)) (hb : PE X b (tSX cls X.K e Wx gs))
    (hw : swappedStores [.Tuple [.Name x px, .Name y py] kt pt] (.Tuple [a, b] k2 pt2) X.env = pure (some [x, y]) := by rfl) (hs : swapsWithSole [.Tuple [.Name x px, .Name y py] kt pt] (.Tuple [a, b] k2 pt2) pos.line X.env = pure false := by rfl)
    (h1 : starEach [a, b] X.env = (false, eval a X.env) :: starEach [b] X.env := by rfl) (h2 : starEach [b] X.env = (false, eval b X.env) :: starEach [] X.env := by rfl) :
    PS X (.Assign [.Tuple [.Name x px, .Name y py] kt pt] (.Tuple [a, b] k2 pt2) pos) (tSS cls X.K e Wx (sPar2 i j g gs)) :=
  ps_imp (ps_par hc hN hi hj hij hx hy (pa_cons ha (pa_cons hb pa_nil h2) h1) hw hs) fun D σ H q => by
    obtain ⟨c, δ, eH, r, q⟩ := q
    refine ⟨c, δ, eH, r, ?_⟩
    unfold sPar2 at q
    cases z : g δ c.w with
    | bad => rw [z] at q; exact q
    | exc n w => rw [z] at q; exact fun c' hw b => q σ c' hw b.ff (r.step ke b)
    | ok s w1 =>
      rw [z] at q
      dsimp only at q
      intro u c1 A hw1 b1 hs1 hn1 hA1
      have r1 := r.step ke b1
      refine ⟨c1, δ, rfl, r1, ?_⟩
      rw [hw1]
      cases z2 : gs δ w1 with
      | bad => rw [z2] at q; exact q
      | exc n w => rw [z2] at q; exact fun c' hw b => q σ c' hw (b1.ff.trans b.ff) (r1.step ke b)
      | ok s2 w2 =>
        rw [z2] at q
        dsimp only at q
        by_cases hh : i < δ.length ∧ j < δ.length
        · rw [if_pos hh] at q
          intro v c2 A2 hw2 b2 hs2 hn2 hA2
          refine ⟨u, v, rfl, q _ c2 hw2 (b1.ff.trans b2.ff) ?_⟩
          exact (r.putNew ke b1 hh.1 hs1 hn1 hA1).putNew ke b2 (by rw [List.length_set]; exact hh.2) hs2 hn2 hA2
        · rw [if_neg hh] at q; exact q.elim
def sPar3 (i j l : Nat) (g gs gt : XS W) : SF W := fun δ w => match g δ w with
  | .ok s w1 => match gs δ w1 with
    | .ok s2 w2 => match gt δ w2 with
      | .ok s3 w3 => if i < δ.length ∧ j < δ.length ∧ l < δ.length then .nx (((δ.set i s).set j s2).set l s3) w3 else .bad
      | .exc n w' => .exc n δ w'
      | .bad => .bad
    | .exc n w' => .exc n δ w'
    | .bad => .bad
  | .exc n w' => .exc n δ w'
  | .bad => .bad
theorem ss_par3 {i j l : Nat} {x y z : Str} {gt : XS W} {px py pz pt : Pos} {kt k2 pt2} (ke : Ok e) (hc : X.calm = true) (hN : X.N.Nodup) (hi : X.N[i]? = some x) (hj : X.N[j]? = some y) (hl : X.N[l]? = some z) (hij : i ≠ j) (hil : i ≠ l) (hjl : j ≠ l)
    (hx : X.env.scope.names.lookup x = some .local) (hy : X.env.scope.names.lookup y = some .local) (hz : X.env.scope.names.lookup z = some .local) (ha : PE X a (tSX cls X.K e Wx g)) (hb : PE X b (tSX cls X.K e Wx gs)) (hd : PE X d (tSX cls X.K e Wx gt))
    (hw : swappedStores [.Tuple [.Name x px, .Name y py, .Name z pz] kt pt] (.Tuple [a, b, d] k2 pt2) X.env = pure (some [x, y, z]) := by rfl)
    (hs : swapsWithSole [.Tuple [.Name x px, .Name y py, .Name z pz] kt pt] (.Tuple [a, b, d] k2 pt2) pos.line X.env = pure false := by rfl)
    (h1 : starEach [a, b, d] X.env = (false, eval a X.env) :: starEach [b, d] X.env := by rfl) (h2 : starEach [b, d] X.env = (false, eval b X.env) :: starEach [d] X.env := by rfl) (h3 : starEach [d] X.env = (false, eval d X.env) :: starEach [] X.env := by rfl) :
    PS X (.Assign [.Tuple [.Name x px, .Name y py, .Name z pz] kt pt] (.Tuple [a, b, d] k2 pt2) pos) (tSS cls X.K e Wx (sPar3 i j l g gs gt)) :=
  ps_imp (ps_par3 hc hN hi hj hl hij hil hjl hx hy hz (pa_cons ha (pa_cons hb (pa_cons hd pa_nil h3) h2) h1) hw hs) fun D σ H q => by
    obtain ⟨c, δ, eH, r, q⟩ := q
    refine ⟨c, δ, eH, r, ?_⟩
    unfold sPar3 at q
    cases z : g δ c.w with
    | bad => rw [z] at q; exact q
    | exc n w => rw [z] at q; exact fun c' hw b => q σ c' hw b.ff (r.step ke b)
    | ok s w1 =>
      rw [z] at q
      dsimp only at q
      intro u c1 A hw1 b1 hs1 hn1 hA1
      have r1 := r.step ke b1
      refine ⟨c1, δ, rfl, r1, ?_⟩
      rw [hw1]
      cases z2 : gs δ w1 with
      | bad => rw [z2] at q; exact q
      | exc n w => rw [z2] at q; exact fun c' hw b => q σ c' hw (b1.ff.trans b.ff) (r1.step ke b)
      | ok s2 w2 =>
        rw [z2] at q
        dsimp only at q
        intro v c2 A2 hw2 b2 hs2 hn2 hA2
        have r2 := r1.step ke b2
        refine ⟨c2, δ, rfl, r2, ?_⟩
        rw [hw2]
        cases z3 : gt δ w2 with
        | bad => rw [z3] at q; exact q
        | exc n w => rw [z3] at q; exact fun c' hw b => q σ c' hw ((b1.ff.trans b2.ff).trans b.ff) (r2.step ke b)
        | ok s3 w3 =>
          rw [z3] at q
          dsimp only at q
          by_cases hh : i < δ.length ∧ j < δ.length ∧ l < δ.length
          · rw [if_pos hh] at q
            intro v3 c3 A3 hw3 b3 hs3 hn3 hA3
            refine ⟨u, v, v3, rfl, q _ c3 hw3 ((b1.ff.trans b2.ff).trans b3.ff) ?_⟩
            exact ((r.putNew ke b1 hh.1 hs1 hn1 hA1).putNew ke b2 (by rw [List.length_set]; exact hh.2.1) hs2 hn2 hA2).putNew ke b3 (by rw [List.length_set, List.length_set]; exact hh.2.2) hs3 hn3 hA3
          · rw [if_neg hh] at q; exact q.elim
/-- target = e, e a value of data -/
def sAsg (tz : TZ) (f : XF W) : SF W := fun δ w => match f δ w with
  | .ok x w' => match (asP x).bind fun d => tz d δ with
    | some δ' => .nx δ' w'
    | none => .bad
  | .exc n w' => .exc n δ w'
  | .bad => .bad
theorem asP_dq {c : Cur wd} {x : D} {p : PyData} {K : PySem.W.Frag} {u : V} (h : asP x = some p) (q : Dv cls K c x u) : Dq c.F p u := by
  cases x with
  | p d => cases h; exact q
  | _ => cases h
theorem ss_asg {g : TG} {tz : TZ} {vs : List Nat} (ke : Ok e) (he : PE X ex (tS cls X.K e Wx f)) (hg : PG X tg g) (h3 : T3 cls X.K e g tz vs) (hs : swapsWithSole [tg] ex pos.line X.env = pure false := by rfl) (hw : swappedStores [tg] ex X.env = pure none := by rfl)
    (h1 : (assignEach [tg] X.env).map (·.2) = [assign tg X.env] := by rfl) : PS X (.Assign [tg] ex pos) (tSS cls X.K e Wx (sAsg tz f)) :=
  ps_imp (ps_asg he hg hs hw h1) fun D σ H ⟨c, δ, eH, r, q⟩ => by
    refine ⟨c, δ, eH, r, ?_⟩
    unfold sAsg at q
    cases z : f δ c.w with
    | bad => rw [z] at q; exact q
    | exc n w => rw [z] at q; exact fun c' hw b => q σ c' hw b.ff (r.step ke b)
    | ok x w' =>
      rw [z] at q
      dsimp only at q
      intro u c' hw b q'
      cases z2 : asP x with
      | none => rw [z2] at q; exact q.elim
      | some p =>
        rw [z2] at q
        dsimp only [Option.bind] at q
        cases z3 : tz p δ with
        | none => rw [z3] at q; exact q.elim
        | some δ' =>
          rw [z3] at q
          exact h3.1 c' δ δ' σ p u _ (r.step ke b) (asP_dq z2 q') z3 fun σ' r' => q σ' c' hw b.ff r'
/-- n += e, n -= e -/
def sAug (i : Nat) (op : Int → Int → Int) (f : XF W) : SF W := fun δ w => match δ[i]? with
  | some (.v (.p (.int m))) => match f δ w with
    | .ok x w' => match asI x with
      | some n => .nx (δ.set i (.v (.p (.int (op m n))))) w'
      | none => .bad
    | .exc n w' => .exc n δ w'
    | .bad => .bad
  | _ => .bad
theorem ss_aug {i : Nat} {x : Str} {op : Operator} {g : Int → Int → Int} {pos' : Pos} (ke : Ok e) (hN : X.N.Nodup) (hi : X.N[i]? = some x) (hx : Loc X.env.scope x) (he : PE X ex (tS cls X.K e Wx f)) (ho : PIp X op (ipI g)) (hf : X.fn x = true ∨ X.env.scope.names.lookup x = some .local := by first | exact .inl rfl | exact .inr rfl | assumption) :
    PS X (.AugAssign (.Name x pos') op ex pos) (tSS cls X.K e Wx (sAug i g f)) := ps_imp (ps_aug hN hi hx he ho hf) fun D σ H ⟨c, δ, eH, r, q⟩ => by
  unfold sAug at q
  split at q
  · rename_i m hm
    obtain ⟨o, h1, _⟩ := id r.ex
    obtain ⟨_, u, e1, q1⟩ := h1 i _ hm
    have hi' : i < δ.length := (List.getElem?_eq_some_iff.mp hm).1
    refine ⟨u, e1, c, δ, eH, r, ?_⟩
    cases z : f δ c.w with
    | bad => rw [z] at q; exact q
    | exc n w => rw [z] at q; exact fun c' hw b => q σ c' hw b.ff (r.step ke b)
    | ok x w' =>
      rw [z] at q
      dsimp only at q
      intro v c' hw b q'
      cases z2 : asI x with
      | none => rw [z2] at q; exact q.elim
      | some n =>
        rw [z2] at q
        refine ⟨m, n, dv_int.mp q1, asI_eq z2 q', ?_⟩
        exact q _ c' hw b.ff ((r.step ke b).put hi' (dv_int.mpr rfl))
  · exact q.elim
/-- xs += e, xs one's own -/
def sExt (i : Nat) (f : XF W) : SF W := fun δ w => match δ[i]? with
  | some (.own xs) => match f δ w with
    | .ok x w' => match lstOf x with
      | some ys => if xs.length + ys.length ≤ lim then .nx (δ.set i (.own (xs ++ ys))) w' else .bad
      | none => .bad
    | .exc n w' => .exc n δ w'
    | .bad => .bad
  | _ => .bad
theorem lstOf_eq {K : PySem.W.Frag} {c : Cur wd} {x : D} {ys : List PyData} {u : V} (h : lstOf x = some ys) (q : Dv cls K c x u) : ∃ p vs, u = .ref p ∧ c.F p = some (.lst vs) ∧ DqL c.F ys vs := by
  unfold lstOf at h
  split at h
  · cases h; exact dv_lst.mp q
  · cases h
theorem ss_ext {i : Nat} {x : Str} {pos' : Pos} (ke : Ok e) (hN : X.N.Nodup) (hi : X.N[i]? = some x) (hx : Loc X.env.scope x) (he : PE X ex (tS cls X.K e Wx f)) (hf : X.fn x = true ∨ X.env.scope.names.lookup x = some .local := by first | exact .inl rfl | exact .inr rfl | assumption) :
    PS X (.AugAssign (.Name x pos') .Add ex pos) (tSS cls X.K e Wx (sExt i f)) := ps_imp (ps_aug hN hi hx he iop_ext hf) fun D σ H ⟨c, δ, eH, r, q⟩ => by
  unfold sExt at q
  split at q
  · rename_i xs hm
    obtain ⟨a0, vs0, e1, _, _, _, _⟩ := r.own hm
    refine ⟨.ref a0, e1, c, δ, eH, r, ?_⟩
    cases z : f δ c.w with
    | bad => rw [z] at q; exact q
    | exc n w => rw [z] at q; exact fun c' hw b => q σ c' hw b.ff (r.step ke b)
    | ok x w' =>
      rw [z] at q
      dsimp only at q
      intro v c' hw b q'
      cases z2 : lstOf x with
      | none => rw [z2] at q; exact q.elim
      | some ys =>
        rw [z2] at q
        dsimp only at q
        by_cases z3 : xs.length + ys.length ≤ lim
        · rw [if_pos z3] at q
          obtain ⟨p, us, rfl, g1, g2⟩ := lstOf_eq z2 q'
          have r' := r.step ke b
          obtain ⟨a1, vs1, e1', g3, g4, g5, k⟩ := r'.own hm
          have ea : a1 = a0 := by rw [e1] at e1'; cases e1'; rfl
          subst ea
          refine ⟨a1, p, vs1, us, rfl, rfl, g3, r'.ok.fh _ _ g1, by rw [g4.len, g2.len, ← lim_eq]; exact z3, ?_⟩
          have r2 := k (xs ++ ys) (vs1 ++ us) (g4.append g2)
          have es : σ.set i (some (.ref a1)) = σ := by
            refine List.ext_getElem? fun j => ?_
            by_cases ej : j = i
            · subst ej
              rw [List.getElem?_set_self (by have := (List.getElem?_eq_some_iff.mp e1').1; exact this)]; exact e1'.symm
            · rw [List.getElem?_set_ne (Ne.symm ej)]
          show D.nx (σ.set i (some (.ref a1))) _
          rw [es]
          exact q σ { c' with H := upd c'.H a1 (.lst (vs1 ++ us)) } hw b.ff r2
        · rw [if_neg z3] at q; exact q.elim
  · exact q.elim
end
end Z

set_option Elab.async false
set_option linter.all false
set_option maxRecDepth 100000
/-! # Z8: stores into lists of one's own, blocks, loops -/
namespace Z
open PySem PySem.Spec PyProof.Rows L2
section
variable {X : Cx} {W : Type} {wd : WD W} {cls : Nat → Addr} {e : Cur wd} {Wx : WX} {tg ex a b d o : Expr} {pos pos' : Pos} {f h k : XF W} {fl : XL W} {es : List Expr} {g gs : XS W} {t : XB W} {st : Stmt} {sts sts' : List Stmt} {sf sg : SF W}
/-- the name of an own list -/
theorem var_own {K : PySem.W.Frag} {i : Nat} {xs : List PyData} {c : Cur wd} {δ : Ev} {σ : L2.St} {Q : VK} (r : Rz cls K e c δ σ) (hm : δ[i]? = some (.own xs)) (q : ∀ p vs, σ[i]? = some (some (.ref p)) → c.H p = some (.lst vs) → DqL c.F xs vs → Q (.ref p) c.H) : tVar i σ c.H Q := by
  obtain ⟨p, vs, e1, g1, g2, _⟩ := r.own hm
  exact ⟨.ref p, e1, q p vs e1 g1 g2⟩
/-! xs.append(e) -/
def sApp (i : Nat) (f : XF W) : SF W := fun δ w => match δ[i]? with
  | some (.own xs) => match f δ w with
    | .ok x w' => match asP x with
      | some p => if xs.length < lim then .nx (δ.set i (.own (xs ++ [p]))) w' else .bad
      | none => .bad
    | .exc n w' => .exc n δ w'
    | .bad => .bad
  | _ => .bad
theorem ss_app {i : Nat} {to : TE} {apos cpos : Pos} (ke : Ok e) (ho : PE X o (tVar i)) (ha : PE X a (tS cls X.K e Wx f))
    (hbase : attributeBase o "append" X.env (eval o X.env) = eval o X.env := by rfl)
    (hfew : ((backTo cpos (starEach (a :: []) X.env)).all (fun x => !x.1) && (backToKw cpos (keywordEach [] X.env)).all (fun x => x.1.isSome)
      && decide ((a :: []).length + ([] : List Keyword).length + (if ([] : List Keyword).isEmpty then 0 else 1) < 30)) = true := by rfl)
    (hline : (apos.endLine == cpos.line) = true := by rfl) (hs : starEach (a :: []) X.env = (false, eval a X.env) :: starEach [] X.env := by rfl) (hplain : (backTo cpos (starEach [] X.env)).any (·.1) = false := by rfl)
    (hsw : swapsWith (.Call (.Attribute o "append" apos) (a :: []) [] cpos) none pos.line X.env = pure false := by rfl) :
    PS X (.Expr (.Call (.Attribute o "append" apos) (a :: []) [] cpos) pos) (tSS cls X.K e Wx (sApp i f)) :=
  ps_imp (ps_expr (pe_bm PySem.F.plainAttrs_list PySem.F.slot_list_append PySem.F.type_list_append mt_append ho (pa_cons ha pa_nil hs) hbase hfew hline hs hplain) hsw) fun D σ H ⟨c, δ, eH, r, q⟩ => by
    rw [← eH]
    unfold sApp at q
    split at q
    · rename_i xs0 hm
      unfold tDrop tBM
      refine var_own r hm fun p vs e1 g1 g2 => ⟨.inl ⟨rfl, vs, SqL.of g1⟩, ?_⟩
      refine ⟨c, δ, rfl, r, ?_⟩
      cases z : f δ c.w with
      | bad => rw [z] at q; exact q
      | exc n w => rw [z] at q; exact fun c' hw b => q σ c' hw b.ff (r.step ke b)
      | ok x w' =>
        rw [z] at q
        dsimp only at q
        intro u c' hw b q'
        cases z2 : asP x with
        | none => rw [z2] at q; exact q.elim
        | some d =>
          rw [z2] at q
          dsimp only at q
          by_cases z3 : xs0.length < lim
          · rw [if_pos z3] at q
            have r' := r.step ke b
            obtain ⟨a1, vs1, e1', g3, g4, g5, kk⟩ := r'.own hm
            have ea : a1 = p := by rw [e1] at e1'; cases e1'; rfl
            subst ea
            exact ⟨a1, vs1, u, rfl, rfl, g3, by rw [g4.len, ← lim_eq]; exact z3, q σ { c' with H := upd c'.H a1 (.lst (vs1 ++ [u])) } hw b.ff (kk (xs0 ++ [d]) (vs1 ++ [u]) (g4.append (.cons (asP_dq z2 q') .nil)))⟩
          · rw [if_neg z3] at q; exact q.elim
    · exact q.elim
/-! xs[k] = e -/
def sSetI (i : Nat) (k f : XF W) : SF W := fun δ w => match δ[i]? with
  | some (.own xs) => match f δ w with
    | .ok x w1 => match k δ w1 with
      | .ok y w2 => match asP x, (asI y).bind (ixN xs.length) with
        | some p, some j => .nx (δ.set i (.own (xs.set j p))) w2
        | _, _ => .bad
      | .exc n w' => .exc n δ w'
      | .bad => .bad
    | .exc n w' => .exc n δ w'
    | .bad => .bad
  | _ => .bad
theorem ss_setI {i : Nat} {spos : Pos} (ke : Ok e) (ho : PE X o (tVar i)) (hk : PE X b (tS cls X.K e Wx k)) (hv : PE X ex (tS cls X.K e Wx f))
    (ha : ∀ v, assign (.Subscript o b spos) X.env v = (do
      let ov ← holding [v] (eval o X.env)
      let iv ← holding [v, ov] (eval b X.env)
      standAt spos
      holding [v, ov, iv] (setItem ov iv v)
      release [v, ov, iv] []) := by intro _; rfl)
    (hs : swapsWithSole [.Subscript o b spos] ex pos.line X.env = pure false := by rfl) (hw : swappedStores [.Subscript o b spos] ex X.env = pure none := by rfl)
    (h1 : (assignEach [.Subscript o b spos] X.env).map (·.2) = [assign (.Subscript o b spos) X.env] := by rfl) :
    PS X (.Assign [.Subscript o b spos] ex pos) (tSS cls X.K e Wx (sSetI i k f)) :=
  ps_imp (ps_asg hv (pg_sub ho hk set_list ha) hs hw h1) fun D σ H ⟨c, δ, eH, r, q⟩ => by
    refine ⟨c, δ, eH, r, ?_⟩
    unfold sSetI at q
    split at q
    · rename_i xs hm
      cases z : f δ c.w with
      | bad => rw [z] at q; exact q
      | exc n w => rw [z] at q; exact fun c' hw b => q σ c' hw b.ff (r.step ke b)
      | ok x w1 =>
        rw [z] at q
        dsimp only at q
        intro u c1 hw1 b1 q1
        have r1 := r.step ke b1
        refine var_own r1 hm fun p vs e1 g1 g2 => ⟨c1, δ, rfl, r1, ?_⟩
        rw [hw1]
        cases z2 : k δ w1 with
        | bad => rw [z2] at q; exact q
        | exc n w => rw [z2] at q; exact fun c' hw b => q σ c' hw (b1.ff.trans b.ff) (r1.step ke b)
        | ok y w2 =>
          rw [z2] at q
          dsimp only at q
          intro v c2 hw2 b2 q2
          split at q
          · rename_i p' j hp hj
            cases hy : asI y with
            | none => rw [hy] at hj; cases hj
            | some m =>
              rw [hy] at hj
              have r2 := r1.step ke b2
              obtain ⟨a1, vs1, e1', g3, g4, g5, kk⟩ := r2.own hm
              have ea : a1 = p := by rw [e1] at e1'; cases e1'; rfl
              subst ea
              refine ⟨a1, vs1, m, j, rfl, asI_eq hy q2, g3, by rw [g4.len]; exact hj, ?_⟩
              exact q σ { c2 with H := upd c2.H a1 (.lst (vs1.set j u)) } hw2 (b1.ff.trans b2.ff) (kk _ _ (g4.set (asP_dq hp (q1.mono b2)) j))
          · exact q.elim
    · exact q.elim
/-! xs[k][m] = e, xs a list of lists -/
def sSetII (i : Nat) (k h f : XF W) : SF W := fun δ w => match δ[i]? with
  | some (.own2 xss) => match f δ w with
    | .ok x w1 => match k δ w1 with
      | .ok y w2 => match (asI y).bind (ixN xss.length) with
        | some j => match h δ w2 with
          | .ok z w3 => match asP x, (asI z).bind (ixN (xss.getD j []).length) with
            | some p, some l => .nx (δ.set i (.own2 (xss.set j ((xss.getD j []).set l p)))) w3
            | _, _ => .bad
          | .exc n w' => .exc n δ w'
          | .bad => .bad
        | none => .bad
      | .exc n w' => .exc n δ w'
      | .bad => .bad
    | .exc n w' => .exc n δ w'
    | .bad => .bad
  | _ => .bad
theorem ixN_lt {n : Nat} {m : Int} {j : Nat} (h : ixN n m = some j) : j < n := (ixN_seq h).2.1
theorem ss_setII {i : Nat} {spos : Pos} {p2 : Pos} (ke : Ok e) (ho : PE X o (tVar i)) (hk : PE X b (tS cls X.K e Wx k)) (hh : PE X d (tS cls X.K e Wx h)) (hv : PE X ex (tS cls X.K e Wx f)) (hpl : PlainIx b := by exact fun _ _ => rfl)
    (ha : ∀ v, assign (.Subscript (.Subscript o b p2) d spos) X.env v = (do
      let ov ← holding [v] (eval (.Subscript o b p2) X.env)
      let iv ← holding [v, ov] (eval d X.env)
      standAt spos
      holding [v, ov, iv] (setItem ov iv v)
      release [v, ov, iv] []) := by intro _; rfl)
    (hs : swapsWithSole [.Subscript (.Subscript o b p2) d spos] ex pos.line X.env = pure false := by rfl) (hw : swappedStores [.Subscript (.Subscript o b p2) d spos] ex X.env = pure none := by rfl)
    (h1 : (assignEach [.Subscript (.Subscript o b p2) d spos] X.env).map (·.2) = [assign (.Subscript (.Subscript o b p2) d spos) X.env] := by rfl) :
    PS X (.Assign [.Subscript (.Subscript o b p2) d spos] ex pos) (tSS cls X.K e Wx (sSetII i k h f)) :=
  ps_imp (ps_asg hv (pg_sub (pe_ix ix_list ho hk hpl) hh set_list ha) hs hw h1) fun D σ H ⟨c, δ, eH, r, q⟩ => by
    refine ⟨c, δ, eH, r, ?_⟩
    unfold sSetII at q
    split at q
    · rename_i xss hm
      cases z : f δ c.w with
      | bad => rw [z] at q; exact q
      | exc n w => rw [z] at q; exact fun c' hw b => q σ c' hw b.ff (r.step ke b)
      | ok x w1 =>
        rw [z] at q
        dsimp only at q
        intro u c1 hw1 b1 q1
        have r1 := r.step ke b1
        obtain ⟨p, as, e1, g1, g2, g3, _⟩ := r1.own2 hm
        refine ⟨.ref p, e1, c1, δ, rfl, r1, ?_⟩
        rw [hw1]
        cases z2 : k δ w1 with
        | bad => rw [z2] at q; exact q
        | exc n w => rw [z2] at q; exact fun c' hw b => q σ c' hw (b1.ff.trans b.ff) (r1.step ke b)
        | ok y w2 =>
          rw [z2] at q
          dsimp only at q
          intro v c2 hw2 b2 q2
          have r2 := r1.step ke b2
          cases hy : asI y with
          | none => rw [hy] at q; exact q.elim
          | some m =>
            rw [hy] at q
            dsimp only [Option.bind] at q
            cases hj : ixN xss.length m with
            | none => rw [hj] at q; exact q.elim
            | some j =>
              rw [hj] at q
              dsimp only at q
              obtain ⟨p', as', e1', g1', g2', g3', kk⟩ := r2.own2 hm
              have ep : p' = p := by rw [e1] at e1'; cases e1'; rfl
              subst ep
              have hjl : j < as'.length := by rw [g3'.1]; exact ixN_lt hj
              have hb : as'[j]? = some as'[j] := List.getElem?_eq_getElem hjl
              have hat : atI (as'.map V.ref) m = some (.ref as'[j]) := by
                unfold atI
                rw [List.length_map, g3'.1, hj]
                simp [hjl]
              refine ⟨p', _, m, _, rfl, asI_eq hy q2, SqL.of g1', hat, c2, δ, rfl, r2, ?_⟩
              rw [hw2]
              cases z3 : h δ w2 with
              | bad => rw [z3] at q; exact q
              | exc n w => rw [z3] at q; exact fun c' hw b => q σ c' hw ((b1.ff.trans b2.ff).trans b.ff) (r2.step ke b)
              | ok zz w3 =>
                rw [z3] at q
                dsimp only at q
                intro v3 c3 hw3 b3 q3
                split at q
                · rename_i pp l hp hl
                  cases hz : asI zz with
                  | none => rw [hz] at hl; cases hl
                  | some mm =>
                    rw [hz] at hl
                    have r3 := r2.step ke b3
                    obtain ⟨p3, as3, e3, g31, g32, g33, kk3⟩ := r3.own2 hm
                    have ep3 : p3 = p' := by rw [e1'] at e3; cases e3; rfl
                    subst ep3
                    have eas : as3 = as' := by
                      have hx := b3.hh p3 _ (fun zfp => ?_) g1'
                      · rw [g31] at hx
                        exact (List.map_inj_right (fun x y h => V.ref.inj h)).mp (HO.lst.inj (Option.some.inj hx))
                      · obtain ⟨oo, w1', _, _, _, w5⟩ := r2.ex
                        obtain ⟨a9, as9, q91, q92, _⟩ := w1' i _ hm
                        have : a9 = p3 := by rw [e1'] at q92; cases q92; rfl
                        subst this
                        exact (w5 i a9 (by rw [q91]; exact List.mem_cons_self)).1.2.1 zfp
                    subst eas
                    have hxs : xss[j]? = some (xss.getD j []) := by
                      have := ixN_lt hj
                      rw [List.getD_eq_getElem?_getD, List.getElem?_eq_getElem this]; rfl
                    obtain ⟨us, k1, k2⟩ := g33.2 j _ _ hb hxs
                    refine ⟨as3[j], us, mm, l, rfl, asI_eq hz q3, k1, by rw [k2.len]; exact hl, ?_⟩
                    exact q σ { c3 with H := upd c3.H as3[j] (.lst (us.set l u)) } hw3 ((b1.ff.trans b2.ff).trans b3.ff) ((kk3 j _ hb).2 _ _ (k2.set (asP_dq hp ((q1.mono b2).mono b3)) l))
                · exact q.elim
    · exact q.elim

/-! ## blocks -/
def sNil : SF W := fun δ w => .nx δ w
def sSeq (sf sg : SF W) : SF W := fun δ w => match sf δ w with
  | .nx δ' w' => sg δ' w'
  | r => r
theorem ss_nil : PSs X [] (tSS cls X.K e Wx (sNil (W := W))) := pss_imp pss_nil fun D σ H ⟨c, δ, eH, r, q⟩ => by
  rw [← eH]; exact q σ c rfl (Sub.refl _) r
theorem ss_cons (h1 : PS X st (tSS cls X.K e Wx sf)) (h2 : PSs X sts (tSS cls X.K e Wx sg)) : PSs X (st :: sts) (tSS cls X.K e Wx (sSeq sf sg)) :=
  pss_imp (pss_cons h1 h2) fun D σ H ⟨c, δ, eH, r, q⟩ => by
    refine ⟨c, δ, eH, r, ?_⟩
    unfold sSeq at q
    cases z : sf δ c.w with
    | nx δ' w' =>
      rw [z] at q
      intro σ' c' hw s r'
      refine ⟨c', δ', rfl, r', ?_⟩
      rw [hw]
      exact afterS_later s q
    | rt d w' => rw [z] at q; exact q
    | bk δ' w' => rw [z] at q; exact q
    | ct δ' w' => rw [z] at q; exact q
    | exc n δ' w' => rw [z] at q; exact q
    | bad => rw [z] at q; exact q
theorem ss_one (h1 : PS X st (tSS cls X.K e Wx sf)) : PSs X [st] (tSS cls X.K e Wx sf) := pss_one h1
/-- a list of one's own is frozen, then the rest -/
def sFrz (i : Nat) (sf : SF W) : SF W := fun δ w => match δ[i]? with
  | some (.own xs) => sf (δ.set i (.v (.p (.list xs)))) w
  | some (.own2 xss) => sf (δ.set i (.v (.p (.list (xss.map .list))))) w
  | _ => .bad
theorem frz_imp {i : Nat} {K : PySem.W.Frag} {D : Ends} {σ : L2.St} {H : Hp} (q : tSS cls K e Wx (sFrz i sf) D σ H) : tSS cls K e Wx sf D σ H := by
  obtain ⟨c, δ, eH, r, q⟩ := q
  unfold sFrz at q
  split at q
  · rename_i xs hm
    obtain ⟨c', e1, e2, s, _, r'⟩ := r.frz hm
    refine ⟨c', _, e1.trans eH, r', ?_⟩
    rw [e2]
    exact afterS_later s q
  · rename_i xs hm
    obtain ⟨c', e1, e2, s, _, r'⟩ := r.frz2 hm
    refine ⟨c', _, e1.trans eH, r', ?_⟩
    rw [e2]
    exact afterS_later s q
  · exact q.elim
theorem ss_frz {i : Nat} (h : PSs X sts (tSS cls X.K e Wx sf)) : PSs X sts (tSS cls X.K e Wx (sFrz i sf)) := pss_imp h fun D σ H q => frz_imp q
theorem ss_frz1 {i : Nat} (h : PS X st (tSS cls X.K e Wx sf)) : PS X st (tSS cls X.K e Wx (sFrz i sf)) := ps_imp h fun D σ H q => frz_imp q
def sDrop (f : XF W) : SF W := fun δ w => match f δ w with
  | .ok _ w' => .nx δ w'
  | .exc n w' => .exc n δ w'
  | .bad => .bad
theorem ss_expr (ke : Ok e) (he : PE X ex (tS cls X.K e Wx f)) (hs : swapsWith ex none pos.line X.env = pure false := by rfl) : PS X (.Expr ex pos) (tSS cls X.K e Wx (sDrop f)) :=
  ps_imp (ps_expr he hs) fun D σ H ⟨c, δ, eH, r, q⟩ => by
    refine ⟨c, δ, eH, r, ?_⟩
    unfold sDrop at q
    cases z : f δ c.w with
    | bad => rw [z] at q; exact q
    | exc n w => rw [z] at q; exact fun c' hw b => q σ c' hw b.ff (r.step ke b)
    | ok x w1 => rw [z] at q; exact fun u c' hw b _ => q σ c' hw b.ff (r.step ke b)
def sRet (f : XF W) : SF W := fun δ w => match f δ w with
  | .ok d w' => .rt d w'
  | .exc n w' => .exc n δ w'
  | .bad => .bad
theorem ss_ret (ke : Ok e) (he : PE X ex (tS cls X.K e Wx f)) : PS X (.Return (some ex) pos) (tSS cls X.K e Wx (sRet f)) :=
  ps_imp (ps_ret he) fun D σ H ⟨c, δ, eH, r, q⟩ => by
    refine ⟨c, δ, eH, r, ?_⟩
    unfold sRet at q
    cases z : f δ c.w with
    | bad => rw [z] at q; exact q
    | exc n w => rw [z] at q; exact fun c' hw b => q σ c' hw b.ff (r.step ke b)
    | ok x w1 => rw [z] at q; exact fun u c' hw b q' => q u c' hw (r.bs.trans ke b) q'
def sIf (t : XB W) (sf sg : SF W) : SF W := fun δ w => match t δ w with
  | .ok true w' => sf δ w'
  | .ok false w' => sg δ w'
  | .exc n w' => .exc n δ w'
  | .bad => .bad
theorem ss_if (ke : Ok e) (hc : PT X ex (tSB cls X.K e Wx t)) (ha : PSs X sts (tSS cls X.K e Wx sf)) (hb : PSs X sts' (tSS cls X.K e Wx sg)) : PS X (.If ex sts sts' pos) (tSS cls X.K e Wx (sIf t sf sg)) :=
  ps_imp (ps_if hc ha hb) fun D σ H ⟨c, δ, eH, r, q⟩ => by
    refine ⟨c, δ, eH, r, ?_⟩
    unfold sIf at q
    cases z : t δ c.w with
    | bad => rw [z] at q; exact q
    | exc n w => rw [z] at q; exact fun c' hw b => q σ c' hw b.ff (r.step ke b)
    | ok x w1 =>
      rw [z] at q
      intro c' hw b
      have r' := r.step ke b
      cases x with
      | true =>
        rw [if_pos rfl]
        refine ⟨c', δ, rfl, r', ?_⟩
        rw [hw]; exact afterS_later b.ff q
      | false =>
        rw [if_neg Bool.false_ne_true]
        refine ⟨c', δ, rfl, r', ?_⟩
        rw [hw]; exact afterS_later b.ff q
def sBrk : SF W := fun δ w => .bk δ w
def sCnt : SF W := fun δ w => .ct δ w
theorem ss_brk : PS X (.Break pos) (tSS cls X.K e Wx (sBrk (W := W))) := ps_imp ps_break fun D σ H ⟨c, δ, eH, r, q⟩ => by
  rw [← eH]; exact q σ c rfl (Sub.refl _) r
theorem ss_cnt : PS X (.Continue pos) (tSS cls X.K e Wx (sCnt (W := W))) := ps_imp ps_continue fun D σ H ⟨c, δ, eH, r, q⟩ => by
  rw [← eH]; exact q σ c rfl (Sub.refl _) r
theorem ss_pass : PS X (.Pass pos) (tSS cls X.K e Wx (sNil (W := W))) := ps_imp ps_pass fun D σ H ⟨c, δ, eH, r, q⟩ => by
  rw [← eH]; exact q σ c rfl (Sub.refl _) r

/-! ## for -/
def forGo (tz : TZ) (body : SF W) : List PyData → Ev → W → SRes W
  | [], δ, w => .nx δ w
  | x :: l, δ, w => match tz x δ with
    | none => .bad
    | some δ1 => match body δ1 w with
      | .nx δ2 w2 => forGo tz body l δ2 w2
      | .ct δ2 w2 => forGo tz body l δ2 w2
      | .bk δ2 w2 => .nx δ2 w2
      | r => r
def sFor (it : XI W) (tz : TZ) (body : SF W) : SF W := fun δ w => match it δ w with
  | .ok items w1 => forGo tz body items δ w1
  | .exc n w' => .exc n δ w'
  | .bad => .bad
theorem ss_for {iter : Expr} {it : XI W} {gg : TG} {tz : TZ} {vs : List Nat} (ke : Ok e) (hp : PassesOwn (model X.prog X.w) X.A X.env X.xe) (hc : X.calm = true) (hi : PI X tg iter (tSI cls X.K e Wx keepF it)) (hg : PG X tg gg) (h3 : T3 cls X.K e gg tz vs) (hb : PSs X sts (tSS cls X.K e Wx sf))
    (hs : ∀ x, foldedSetIterable iter X.env x = pure x := by intro _; rfl) : PS X (.For tg iter sts [] pos) (tSS cls X.K e Wx (sFor it tz sf)) :=
  ps_imp (ps_for hp hc hi hg hb hs) fun D σ H ⟨c, δ, eH, r, q⟩ => by
    refine ⟨c, δ, eH, r, ?_⟩
    unfold sFor at q
    cases z : it δ c.w with
    | bad => rw [z] at q; exact q
    | exc n w => rw [z] at q; exact fun c' hw b => q σ c' hw b.ff (r.step ke b)
    | ok items w1 =>
      rw [z] at q
      intro J c1 hw1 b1 ⟨j1, j2, j3⟩
      have r1 := r.step ke b1
      -- between two turns
      let In : List PyData → L2.St → Hp → Prop := fun rest σ H => ∃ c2 δ2, c2.H = H ∧ Rz cls X.K e c2 δ2 σ ∧ Sub c1.F c2.F ∧ afterS cls X.K e c2 Wx (forGo tz sf rest δ2 c2.w) D
      refine ⟨fun i m σ H => m = items.length - i ∧ i ≤ items.length ∧ In (items.drop i) σ H, ⟨items.length, by simp, Nat.zero_le _, c1, δ, rfl, r1, Sub.refl _, ?_⟩, ?_⟩
      · rw [hw1]; exact afterS_later b1.ff q
      · rintro i m σ2 H2 ⟨rfl, hi, c2, δ2, rfl, r2, s2, q2⟩
        by_cases hlt : i < items.length
        · refine .inr ⟨j1 i c2 ⟨r2.ok, s2⟩ hlt, In (items.drop (i + 1)), fun σ' H' k => ⟨items.length - (i + 1), by omega, rfl, hlt, k⟩, fun x H' hy => ?_⟩
          obtain ⟨c3, rfl, hw3, b3, q3⟩ := j3 i c2 x H' _ ⟨r2.ok, s2⟩ hy (List.getElem?_eq_getElem hlt)
          have r3 := r2.step ke b3
          rw [List.drop_eq_getElem_cons hlt] at q2
          unfold forGo at q2
          cases z2 : tz items[i] δ2 with
          | none => rw [z2] at q2; exact q2.elim
          | some δ3 =>
            rw [z2] at q2
            dsimp only at q2
            refine h3.1 c3 δ2 δ3 σ2 _ x _ r3 q3 z2 fun σ3 r4 => ⟨c3, δ3, rfl, r4, ?_⟩
            rw [hw3]
            have q2 := afterS_later b3.ff q2
            cases z3 : sf δ3 c2.w with
            | nx δ4 w4 =>
              rw [z3] at q2
              exact fun σ' c' hw s r' => ⟨c', δ4, rfl, r', (s2.trans b3.ff).trans s, by rw [hw]; exact afterS_later s q2⟩
            | ct δ4 w4 =>
              rw [z3] at q2
              exact fun σ' c' hw s r' => ⟨c', δ4, rfl, r', (s2.trans b3.ff).trans s, by rw [hw]; exact afterS_later s q2⟩
            | bk δ4 w4 => rw [z3] at q2; exact q2
            | rt d w' => rw [z3] at q2; exact q2
            | exc n δ' w' => rw [z3] at q2; exact q2
            | bad => rw [z3] at q2; exact q2
        · have e1 : i = items.length := by omega
          subst e1
          rw [List.drop_length] at q2
          exact .inl ⟨j2 _ c2 ⟨r2.ok, s2⟩ (Nat.le_refl _), q2 σ2 c2 rfl (Sub.refl _) r2⟩

/-! ## while, by fuel -/
def whileGo (t : XB W) (body : SF W) : Nat → Ev → W → SRes W
  | 0, _, _ => .bad
  | n + 1, δ, w => match t δ w with
    | .ok true w1 => match body δ w1 with
      | .nx δ2 w2 => whileGo t body n δ2 w2
      | .ct δ2 w2 => whileGo t body n δ2 w2
      | .bk δ2 w2 => .nx δ2 w2
      | r => r
    | .ok false w1 => .nx δ w1
    | .exc m w' => .exc m δ w'
    | .bad => .bad
theorem ss_while {n : Nat} (ke : Ok e) (hp : PassesOwn (model X.prog X.w) X.A X.env X.xe) (hc : PT X ex (tSB cls X.K e Wx t)) (hb : PSs X sts (tSS cls X.K e Wx sf)) : PS X (.While ex sts [] pos) (tSS cls X.K e Wx (whileGo t sf n)) :=
  ps_imp (ps_while hp hc hb) fun D σ H ⟨c, δ, eH, r, q⟩ => by
    refine ⟨fun m σ H => ∃ c δ, c.H = H ∧ Rz cls X.K e c δ σ ∧ afterS cls X.K e c Wx (whileGo t sf m δ c.w) D, ⟨n, c, δ, eH, r, q⟩, ?_⟩
    rintro m σ2 H2 ⟨c2, δ2, rfl, r2, q2⟩
    cases m with
    | zero => exact q2.elim
    | succ m =>
      unfold whileGo at q2
      refine ⟨c2, δ2, rfl, r2, ?_⟩
      cases z : t δ2 c2.w with
      | bad => rw [z] at q2; exact q2
      | exc n w => rw [z] at q2; exact fun c' hw b => q2 σ2 c' hw b.ff (r2.step ke b)
      | ok x w1 =>
        rw [z] at q2
        intro c3 hw3 b3
        have r3 := r2.step ke b3
        cases x with
        | false => rw [if_neg Bool.false_ne_true]; exact q2 σ2 c3 hw3 b3.ff r3
        | true =>
          rw [if_pos rfl]
          dsimp only at q2
          refine ⟨fun σ' H' => ∃ c δ, c.H = H' ∧ Rz cls X.K e c δ σ' ∧ afterS cls X.K e c Wx (whileGo t sf m δ c.w) D, fun σ' H' k => ⟨m, Nat.lt_succ_self m, k⟩, c3, δ2, rfl, r3, ?_⟩
          rw [hw3]
          have q2 := afterS_later b3.ff q2
          cases z3 : sf δ2 w1 with
          | nx δ4 w4 =>
            rw [z3] at q2
            exact fun σ' c' hw s r' => ⟨c', δ4, rfl, r', by rw [hw]; exact afterS_later s q2⟩
          | ct δ4 w4 =>
            rw [z3] at q2
            exact fun σ' c' hw s r' => ⟨c', δ4, rfl, r', by rw [hw]; exact afterS_later s q2⟩
          | bk δ4 w4 => rw [z3] at q2; exact q2
          | rt d w' => rw [z3] at q2; exact q2
          | exc n δ' w' => rw [z3] at q2; exact q2
          | bad => rw [z3] at q2; exact q2
end
end Z

set_option Elab.async false
set_option linter.all false
set_option maxRecDepth 100000
/-! # Z9: defs, calls, raise -/
namespace Z
open PySem PySem.Spec PyProof.Rows L2
abbrev FZ (W : Type) := List D → W → Res W D
section
variable {W : Type} {wd : WD W}
def afterF (cls : Nat → Addr) (K : PySem.W.Frag) (c : Cur wd) (r : Res W D) (Q : VK) (E : XK) : Prop := match r with
  | .ok d w' => ∀ u c', c'.w = w' → Bs c c' → Dv cls K c' d u → Q u c'.H
  | .exc n w' => ∀ c', c'.w = w' → Bs c c' → E (.ref (cls n)) none c'.H
  | .bad => False
/-- a def keeps what the function says -/
def spZ (cls : Nat → Addr) (K : PySem.W.Frag) (wd : WD W) (n : Nat) (f : FZ W) : Sp := fun vs H Q E => ∃ (c : Cur wd) (ds : List D), c.H = H ∧ Ok c ∧ DvL cls K c ds vs ∧ ds.length = n ∧ afterF cls K c (f ds c.w) Q E
theorem DvL.len {cls : Nat → Addr} {K : PySem.W.Frag} {c : Cur wd} : ∀ {ds : List D} {vs : List V}, DvL cls K c ds vs → vs.length = ds.length
  | [], vs, h => by
    have h : vs = [] := h
    rw [h]; rfl
  | d :: ds, vs, ⟨u, us, e1, _, t⟩ => by rw [e1, List.length_cons, List.length_cons, t.len]
theorem DvL.get {cls : Nat → Addr} {K : PySem.W.Frag} {c : Cur wd} : ∀ {ds : List D} {vs : List V} {i : Nat} {d : D}, DvL cls K c ds vs → ds[i]? = some d → ∃ u, vs[i]? = some u ∧ Dv cls K c d u
  | [], _, _, _, _, e => by simp at e
  | d :: ds, vs, 0, x, ⟨u, us, e1, q, _⟩, e => by
    simp at e; subst e; subst e1
    exact ⟨u, rfl, q⟩
  | d :: ds, vs, i + 1, x, ⟨u, us, e1, _, t⟩, e => by
    subst e1
    obtain ⟨v, h1, h2⟩ := DvL.get (i := i) t (by simpa using e)
    exact ⟨v, by simpa using h1, h2⟩
/-- a def's function, by its body's -/
def runZ (n : Nat) (sf : SF W) : FZ W := fun ds w => match sf (ds.map .v ++ List.replicate (n - ds.length) .no) w with
  | .nx _ w' => .ok (.p .none) w'
  | .rt d w' => .ok d w'
  | .exc m _ w' => .exc m w'
  | _ => .bad
theorem rz_start {cls : Nat → Addr} {K : PySem.W.Frag} {c : Cur wd} {N : List Str} {ds : List D} {vs : List V} (k : Ok c) (h : DvL cls K c ds vs) : Rz cls K c c (ds.map Sl.v ++ List.replicate (N.length - ds.length) .no) (L2.start N vs) := by
  have hl := h.len
  refine Rz.of_vals k (by unfold L2.start; simp [hl]) fun i s hs => ?_
  by_cases hi : i < ds.length
  · rw [List.getElem?_append_left (by simpa using hi), List.getElem?_map] at hs
    rw [List.getElem?_eq_getElem hi] at hs
    have hs : Sl.v ds[i] = s := by simpa using hs
    obtain ⟨u, e1, q⟩ := h.get (List.getElem?_eq_getElem hi)
    refine .inr ⟨ds[i], u, hs.symm, ?_, q⟩
    unfold L2.start
    rw [List.getElem?_append_left (by simpa [hl] using hi), List.getElem?_map, e1]; rfl
  · rw [List.getElem?_append_right (by simpa using Nat.le_of_not_lt hi), List.getElem?_replicate] at hs
    split at hs
    · exact .inl (Option.some.inj hs).symm
    · cases hs
end
section
variable {P : Program} {w : World} {K : PySem.W.Frag} {mg : Str → Option Value} {base : Heap} {W : Type} {wd : WD W} {cls : Nat → Addr}
abbrev WxE (E : XK) : WX := fun c d _ H => E c d H
/-- THE RULE for a def -/
theorem okZ {x qual : Str} {st : Stmt} {f : Addr} {fd : FuncData} {N ps : List Str} {k : Nat} {sf : SF W} (F : Fun K x qual st f fd) (S : FnScope N ps (defScope st))
    (hb : ∀ (cdv : Value) (A : Around) (outer : List Env) (s : Shared) (H : Hp) (E : XK) (e : Cur wd), Ok e → Room k (A.deeper (envOfC qual (defScope st) s.heap.objs.size f cdv)) →
      PSs (cxOf (L2.CX P w) P w K mg base N qual (defScope st) f cdv A outer s H E) (defBody st) (tSS cls K e (WxE E) sf)) :
    FnOk P w K mg base (L2.CX P w) (k + 1) f fd ps (spZ cls K wd ps.length (runZ N.length sf)) := by
  refine F.okX S (fun vs H Q E ⟨c, ds, _, _, h, hl, _⟩ => h.len.trans hl) (fun cdv A outer s H vs Q E hr ⟨c, ds, eH, kc, h, hl, q⟩ => ⟨_, hb cdv A outer s H E c kc hr, ?_⟩)
  refine ⟨c, _, eH, rz_start (N := N) kc h, ?_⟩
  unfold runZ at q
  cases z : sf (ds.map Sl.v ++ List.replicate (N.length - ds.length) .no) c.w with
  | nx δ' w' => rw [z] at q; exact fun σ' c' hw s r => q .non c' hw r.bs (dv_non.mpr rfl)
  | rt d w' => rw [z] at q; exact fun u c' hw b q' => q u c' hw b q'
  | bk δ' w' => rw [z] at q; exact q.elim
  | ct δ' w' => rw [z] at q; exact q.elim
  | exc n δ' w' => rw [z] at q; exact fun σ' c' hw s r => q c' hw r.bs
  | bad => rw [z] at q; exact q
end
section
variable {X : Cx} {W : Type} {wd : WD W} {cls : Nat → Addr} {e : Cur wd} {Wx : WX} {a : Expr} {pos p : Pos} {fl : XL W} {es : List Expr} {f : Addr} {fd : FuncData} {ps : List Str} {k n : Nat} {fz : FZ W} {x : Str}
def xCall (fz : FZ W) (fl : XL W) : XF W := fun δ w => (fl δ w).bind fz
theorem callS_imp {K : PySem.W.Frag} {σ : L2.St} {H : Hp} {Q : VK} (ke : Ok e) (hn : ∀ δ w ds w', fl δ w = .ok ds w' → ds.length = n) (q : tS cls K e Wx (xCall fz fl) σ H Q) : tCallS (spZ cls K wd n fz) (WE Wx) (tSL cls K e Wx fl) σ H Q := by
  obtain ⟨c, δ, eH, r, q⟩ := q
  rw [← eH]
  refine ⟨c, δ, rfl, r, ?_⟩
  unfold xCall at q
  cases z : fl δ c.w with
  | bad => rw [z] at q; exact q
  | exc n w => rw [z] at q; exact q
  | ok ds w1 =>
    rw [z] at q
    dsimp only [Res.bind] at q
    intro us c1 hw b1 q1
    refine ⟨c1, ds, rfl, b1.ok, q1, hn _ _ _ _ z, ?_⟩
    rw [hw]
    cases z2 : fz ds w1 with
    | bad => rw [z2] at q; exact q
    | exc m w2 => rw [z2] at q; exact fun c' hw' b' => q c' hw' (b1.trans r.ok b')
    | ok d w2 => rw [z2] at q; exact fun u c' hw' b' q' => q u c' hw' (b1.trans r.ok b') q'
/-- how many values a list of forms gives -/
def LenIs (fl : XL W) (n : Nat) : Prop := ∀ δ w ds w', fl δ w = .ok ds w' → ds.length = n
theorem ln_nil : LenIs (lNil (W := W)) 0 := fun δ w ds w' h => by cases h; rfl
theorem ln_cons {f : XF W} {n : Nat} (h : LenIs fl n) : LenIs (lCons f fl) (n + 1) := fun δ w ds w' z => by
  unfold lCons at z
  cases z1 : f δ w with
  | bad => rw [z1] at z; cases z
  | exc _ _ => rw [z1] at z; cases z
  | ok x w1 =>
    rw [z1] at z
    dsimp only [Res.bind] at z
    cases z2 : fl δ w1 with
    | bad => rw [z2] at z; cases z
    | exc _ _ => rw [z2] at z; cases z
    | ok xs w2 =>
      rw [z2] at z
      cases z
      rw [List.length_cons, h _ _ _ _ z2]
theorem s_call (ke : Ok e) (F : FnOk X.prog X.w X.K X.mg X.base (L2.CX X.prog X.w) k f fd ps (spZ cls X.K wd n fz)) (hr : Room k X.A) (hm : X.mg x = some (.ref f)) (hk : PySem.W.keepIn X.K (.ref f) = true) (hb : Binds X.K fd ps []) (tk : Takes X Wx)
    (ha : PA X (a :: es) (tSL cls X.K e Wx fl)) (hn : LenIs fl n) (hg : Gl X x := by rfl) (hdb : (x == ("__debug__" : Str)) = false := by decide) (he : starEach (a :: es) X.env = (false, eval a X.env) :: starEach es X.env := by rfl)
    (hpl : (backTo pos (starEach es X.env)).any (·.1) = false := by rfl) : PE X (.Call (.Name x p) (a :: es) [] pos) (tS cls X.K e Wx (xCall fz fl)) :=
  pe_imp (pe_callS F hr hg hm hk hb (fun σ => passAt tk σ) ha hdb he hpl) fun σ H Q q => callS_imp ke hn q
/-! a def that knows no world, called in one -/
def noObj : D → Bool
  | .obj _ => false
  | _ => true
def liftZ (fz : FZ Unit) : FZ W := fun ds w => if ds.all noObj = true then match fz ds () with
    | .ok d _ => .ok d w
    | .exc n _ => .exc n w
    | .bad => .bad
  else .bad
def cu (c : Cur wd) : Cur W0 := ⟨(), c.F, (), c.H⟩
theorem cu_ok {c : Cur wd} (k : Ok c) : Ok (cu c) := ⟨k.fh, trivial, fun _ h => h.elim⟩
theorem cu_bs {c : Cur wd} {c' : Cur W0} (k : Ok c) (b : Bs (cu c) c') : Bs c ⟨c.k, c'.F, c.w, c'.H⟩ where
  ok := ⟨b.ok.fh, wd.stab _ _ _ _ _ _ k.wr b.ff fun a ha => by
      obtain ⟨u, hu⟩ := (none_or (c.H a)).resolve_left (k.wf a ha).2
      show c'.H a = c.H a
      rw [hu]; exact b.hh a u (fun z => z) hu, fun a ha => by
      obtain ⟨h1, h2⟩ := k.wf a ha
      refine ⟨?_, fun z => ?_⟩
      · rcases none_or (c'.F a) with q | ⟨v, q⟩
        · exact q
        · rcases b.fn a (by rw [q]; exact fun z => by cases z) with z | z
          · exact absurd h1 z
          · exact absurd z h2
      · obtain ⟨u, hu⟩ := (none_or (c.H a)).resolve_left h2
        have := b.hh a u (fun z => z) hu
        have z : c'.H a = none := z
        rw [z] at this; cases this⟩
  ff := b.ff
  hh := fun a o _ h => b.hh a o (fun z => z) h
  fn := b.fn
  kh := fun _ _ h => h
  kf := fun _ h => .inl h
  kg := fun _ h => h
theorem cu_dv {K : PySem.W.Frag} {c : Cur wd} {d : D} {v : V} (hn : noObj d = true) (h : Dv cls K c d v) : Dv cls K (cu c) d v := by
  cases d with
  | p d => exact h
  | exc n => exact h
  | obj n => cases hn
  | scr ns => exact h
  | opq => trivial
theorem dv_cu {K : PySem.W.Frag} {c : Cur wd} {c' : Cur W0} {d : D} {v : V} (h : Dv cls K c' d v) : Dv cls K (⟨c.k, c'.F, c.w, c'.H⟩ : Cur wd) d v := by
  cases d with
  | p d => exact h
  | exc n => exact h
  | obj n => obtain ⟨_, _, z⟩ := h; cases z
  | scr ns => exact h
  | opq => trivial
theorem cu_dvl {K : PySem.W.Frag} {c : Cur wd} : ∀ {ds : List D} {vs : List V}, ds.all noObj = true → DvL cls K c ds vs → DvL cls K (cu c) ds vs
  | [], _, _, h => h
  | d :: ds, vs, hn, ⟨u, us, e1, q, t⟩ => by
    rw [List.all_cons, Bool.and_eq_true] at hn
    exact ⟨u, us, e1, cu_dv hn.1 q, cu_dvl hn.2 t⟩
/-- its promise, in the world -/
theorem sp_lift {K : PySem.W.Frag} {f0 : FZ Unit} (vs : List V) (H : Hp) (Q : VK) (E : XK) (h : spZ cls K wd n (liftZ f0) vs H Q E) : spZ cls K W0 n f0 vs H Q E := by
  obtain ⟨c, ds, eH, k, q, hl, h⟩ := h
  unfold liftZ at h
  by_cases hn : ds.all noObj = true
  · rw [if_pos hn] at h
    refine ⟨cu c, ds, eH, cu_ok k, cu_dvl hn q, hl, ?_⟩
    show afterF cls K (cu c) (f0 ds ()) Q E
    cases z : f0 ds () with
    | bad => rw [z] at h; exact h
    | exc m w => rw [z] at h; exact fun c' _ b => h ⟨c.k, c'.F, c.w, c'.H⟩ rfl (cu_bs k b)
    | ok d w => rw [z] at h; exact fun u c' _ b q' => h u ⟨c.k, c'.F, c.w, c'.H⟩ rfl (cu_bs k b) (dv_cu q')
  · rw [if_neg hn] at h; exact h.elim
theorem fn_lift {P : Program} {w : World} {K : PySem.W.Frag} {mg : Str → Option Value} {base : Heap} {CX : CXT} {f0 : FZ Unit} (F : FnOk P w K mg base CX k f fd ps (spZ cls K W0 n f0)) : FnOk P w K mg base CX k f fd ps (spZ cls K wd n (liftZ f0)) :=
  F.imp fun vs H Q E h => sp_lift vs H Q E h

/-! ## raise -/
/-- what the top tells of an exception class of its own over ValueError -/
structure ExC (K : PySem.W.Frag) (mg : Str → Option Value) (x : Str) (C : Addr) : Prop where
  gC : mg x = some (.ref C)
  xC : PySem.W.excIn K C [.type "ValueError", .type "Exception", .type "BaseException", .type "object"] "ValueError.__new__" = true
  kC : PySem.W.keepIn K (.ref C) = true
  bC : PySem.W.subIn K (.ref C) (.type "BaseException") = some true
  tC : PySem.W.typeIn K (.ref C) = some (.type "type")
def sRaise (n : Nat) : SF W := fun δ w => .exc n δ w
theorem ss_raise {m : Str} {j n : Nat} {p p2 pos pos' : Pos} (hc : X.calm = true) (tk : Takes X Wx) (T : ExC X.K X.mg x (cls n)) (hg : Gl X x := by rfl) (hdb : (x == ("__debug__" : Str)) = false := by decide) :
    PS X (.Raise (some (.Call (.Name x p) [.Constant (.str m) j p2] [] pos)) none pos') (tSS cls X.K e Wx (sRaise (W := W) n)) :=
  ps_imp (ps_raise hc tk (pmk_own PySem.F.excBase_ValueError T.xC T.gC T.kC (raises_own T.bC T.tC) hg hdb)) fun D σ H ⟨c, δ, eH, r, q⟩ => by
    rw [← eH]
    exact q σ c rfl (Sub.refl _) r
end
end Z

set_option Elab.async false
set_option linter.all false
set_option maxRecDepth 100000
/-! # Z10: what is read of a list of one's own; defs by their names -/
namespace Z
open PySem PySem.Spec PyProof.Rows L2
section
variable {X : Cx} {W : Type} {wd : WD W} {cls : Nat → Addr} {e : Cur wd} {Wx : WX} {tg ex a b d o : Expr} {pos pos' : Pos} {f h k : XF W} {i : Nat}
/-! walked -/
def iOwn (i : Nat) : XI W := fun δ w => match δ[i]? with
  | some (.own xs) => .ok xs w
  | _ => .bad
theorem own_nofp {K : PySem.W.Frag} {c : Cur wd} {δ : Ev} {σ : L2.St} {xs : List PyData} {p : Addr} (r : Rz cls K e c δ σ) (hm : δ[i]? = some (.own xs)) (hp : σ[i]? = some (some (.ref p))) : ¬ wd.fp c.k p := fun z => by
  obtain ⟨oo, w1, _, _, _, w5⟩ := r.ex
  obtain ⟨a9, vs9, q91, q92, _⟩ := w1 i _ hm
  have : a9 = p := by rw [hp] at q92; cases q92; rfl
  subst this
  exact (w5 i a9 (by rw [q91]; exact List.mem_cons_self)).1.2.1 z
theorem si_own (ke : Ok e) (ho : PE X o (tVar i)) : PI X tg o (tSI cls X.K e Wx keepB (iOwn (W := W) i)) := pi_imp (pi_list ho) fun σ H R ⟨c, δ, eH, r, q⟩ => by
  rw [← eH]
  unfold iOwn at q
  split at q
  · rename_i xs hm
    refine var_own r hm fun p vs e1 g1 g2 => ⟨p, rfl, ⟨vs, SqL.of g1⟩, q _ c rfl (Bs.refl r.ok) ?_⟩
    have hfp := own_nofp r hm e1
    refine ⟨fun j c' b hj => ?_, fun j c' b hj => ⟨vs, SqL.of (b.hh _ _ hfp g1), by rw [g2.len]; exact hj⟩, fun j c' x H' dd b hy hd => ?_⟩
    · obtain ⟨v, e2, _⟩ := g2.get (List.getElem?_eq_getElem hj)
      exact ⟨vs, v, SqL.of (b.hh _ _ hfp g1), e2⟩
    · obtain ⟨rfl, hx⟩ := hy
      obtain ⟨v, e2, qv⟩ := g2.get hd
      have e3 := hx vs (SqL.of (b.hh _ _ hfp g1))
      rw [e2] at e3
      cases e3
      exact ⟨c', rfl, rfl, Bs.refl b.ok, Dq.mono b.ff _ _ qv⟩
  · exact q.elim
/-! an item -/
def xIxO (i : Nat) (f : XF W) : XF W := fun δ w => match δ[i]? with
  | some (.own xs) => (f δ w).bind fun y w1 => opt (((asI y).bind (atI xs)).map .p) w1
  | _ => .bad
theorem s_ixO (ke : Ok e) (ho : PE X o (tVar i)) (hb : PE X b (tS cls X.K e Wx f)) (hs : PlainIx b := by exact fun _ _ => rfl) : PE X (.Subscript o b pos) (tS cls X.K e Wx (xIxO i f)) :=
  pe_imp (pe_ix ix_list ho hb hs) fun σ H Q ⟨c, δ, eH, r, q⟩ => by
    rw [← eH]
    unfold xIxO at q
    split at q
    · rename_i xs hm
      show tVar i σ c.H _
      refine var_own r hm fun p vs e1 g1 g2 => tS_imp (after_one (K := X.K) ke r q) fun v H2 ⟨y, c3, e3, b3, r3, q4, q5⟩ => ?_
      replace q5 := after_opt q5
      cases hy : asI y with
      | none => rw [hy] at q5; exact gives_no q5
      | some m =>
        rw [hy] at q5
        dsimp only [Option.bind] at q5
        cases hat : atI xs m with
        | none => rw [hat] at q5; exact gives_no q5
        | some dd =>
          rw [hat] at q5
          obtain ⟨v', k1, k2⟩ := atI_dq g2 hat
          have hfp := own_nofp r hm e1
          rw [← e3]
          exact ⟨p, vs, m, v', rfl, asI_eq hy q4, SqL.of (b3.hh _ _ hfp g1), k1, gives_v q5 r3.ok (Dq.mono b3.ff _ _ k2)⟩
    · exact q.elim
/-! xs[k][m], a list of lists -/
def xIxOO (i : Nat) (k f : XF W) : XF W := fun δ w => match δ[i]? with
  | some (.own2 xss) => (k δ w).bind fun y w1 => match (asI y).bind (atI xss) with
    | some xs => (f δ w1).bind fun z w2 => opt (((asI z).bind (atI xs)).map .p) w2
    | none => .bad
  | _ => .bad
theorem s_ixOO {p2 : Pos} (ke : Ok e) (ho : PE X o (tVar i)) (hb : PE X b (tS cls X.K e Wx k)) (hd : PE X d (tS cls X.K e Wx f)) (hs : PlainIx b := by exact fun _ _ => rfl) (hs2 : PlainIx d := by exact fun _ _ => rfl) :
    PE X (.Subscript (.Subscript o b p2) d pos) (tS cls X.K e Wx (xIxOO i k f)) :=
  pe_imp (pe_ix ix_list (pe_ix ix_list ho hb hs) hd hs2) fun σ H Q ⟨c, δ, eH, r, q⟩ => by
    rw [← eH]
    unfold xIxOO at q
    split at q
    · rename_i xss hm
      obtain ⟨p, as, e1, g1, g2, g3, _⟩ := r.own2 hm
      refine ⟨.ref p, e1, ?_⟩
      refine tS_imp (after_one (K := X.K) ke r q) fun v H2 ⟨y, c3, e3, b3, r3, q4, q5⟩ => ?_
      cases hy : asI y with
      | none => rw [hy] at q5; exact q5.elim
      | some m =>
        rw [hy] at q5
        dsimp only [Option.bind] at q5
        cases hat : atI xss m with
        | none => rw [hat] at q5; exact q5.elim
        | some xs =>
          rw [hat] at q5
          dsimp only at q5
          obtain ⟨p', as', e1', g1', g2', g3', _⟩ := r3.own2 hm
          have ep : p' = p := by rw [e1] at e1'; cases e1'; rfl
          subst ep
          unfold atI at hat
          cases hj : ixN xss.length m with
          | none => rw [hj] at hat; cases hat
          | some j =>
            rw [hj] at hat
            have hat : xss[j]? = some xs := hat
            have hjl : j < as'.length := by rw [g3'.1]; exact ixN_lt hj
            obtain ⟨us, k1, k2⟩ := g3'.2 j as'[j] xs (List.getElem?_eq_getElem hjl) hat
            rw [← e3]
            refine ⟨p', _, m, .ref as'[j], rfl, asI_eq hy q4, SqL.of g1', ?_, ?_⟩
            · unfold atI
              rw [List.length_map, g3'.1, hj]
              simp [hjl]
            · refine tS_imp (after_one (K := X.K) ke r3 q5) fun v2 H4 ⟨z, c5, e5, b5, r5, q6, q7⟩ => ?_
              replace q7 := after_opt q7
              cases hz : asI z with
              | none => rw [hz] at q7; exact gives_no q7
              | some mm =>
                rw [hz] at q7
                dsimp only [Option.bind] at q7
                cases hat2 : atI xs mm with
                | none => rw [hat2] at q7; exact gives_no q7
                | some dd =>
                  rw [hat2] at q7
                  obtain ⟨v', l1, l2⟩ := atI_dq k2 hat2
                  have hfp : ¬ wd.fp c3.k as'[j] := fun zz => by
                    obtain ⟨oo, w1, _, _, _, w5⟩ := r3.ex
                    obtain ⟨a9, as9, q91, q92, q93, _⟩ := w1 i _ hm
                    have e9 : a9 = p' := by rw [e1'] at q92; cases q92; rfl
                    subst e9
                    rw [g1'] at q93
                    have eas : as' = as9 := (List.map_inj_right (fun x y h => V.ref.inj h)).mp (HO.lst.inj (Option.some.inj q93))
                    exact (w5 i as'[j] (by rw [q91, ← eas]; exact List.mem_cons_of_mem _ (List.getElem_mem hjl))).1.2.1 zz
                  rw [← e5]
                  exact ⟨as'[j], us, mm, v', rfl, asI_eq hz q6, SqL.of (b5.hh _ _ hfp k1), l1, gives_v q7 r5.ok (Dq.mono b5.ff _ _ l2)⟩
    · exact q.elim
/-! len(xs) -/
def xLenO (i : Nat) : XF W := fun δ w => match δ[i]? with
  | some (.own xs) => .ok (.p (.int xs.length)) w
  | _ => .bad
theorem s_lenO {p : Pos} (ke : Ok e) (hm : X.mg "len" = none) (ho : PE X o (tVar i)) (hg : Gl X "len" := by rfl)
    (he : starEach (o :: []) X.env = (false, eval o X.env) :: starEach [] X.env := by rfl) (hpl : (backTo pos (starEach [] X.env)).any (·.1) = false := by rfl) : PE X (.Call (.Name "len" p) [o] [] pos) (tS cls X.K e Wx (xLenO (W := W) i)) :=
  pe_imp (pe_callB call_len hg hm PySem.boot_len (pa_cons ho pa_nil he) (by decide) (by decide) he hpl) fun σ H Q ⟨c, δ, eH, r, q⟩ => by
    rw [← eH]
    unfold xLenO at q
    split at q
    · rename_i xs hm
      show tVar i σ c.H _
      refine var_own r hm fun p vs e1 g1 g2 => ⟨_, _, rfl, .inl ⟨vs, SqL.of g1, rfl⟩, ?_⟩
      rw [g2.len]
      exact q _ c rfl (Bs.refl r.ok) (dv_int.mpr rfl)
    · exact q.elim
/-! xs == e, xs != e -/
def xCmpO (i : Nat) (g : D → D → Option D) (f : XF W) : XF W := fun δ w => match δ[i]? with
  | some (.own xs) => (f δ w).bind fun y w1 => opt (g (.p (.list xs)) y) w1
  | _ => .bad
theorem cmpO {op : CmpOp} {g : D → D → Option D} {bb : PyData → PyData → Bool} (ke : Ok e) (hg : ∀ x y, g x y = match x, y with | .p a, .p b => if eqOk a b = true then some (.p (.bool (bb a b))) else none | _, _ => none)
    (rule : ∀ (s : Shared) (u v : Value) (da db : PyData) (as bs : List Addr) (Q : Value → Shared → Prop), Reads s.heap u da as → Reads s.heap v db bs → PyData.canLay0 da = true → PyData.canLay0 db = true → X.A.units + min da.depth db.depth < cLine → Q (.bool (bb da db)) s → wpAny (model X.prog X.w) X.A (compareOp op u v) Q X.xe s)
    (hu : X.A.units + 64 < cLine) (ho : PE X o (tVar i)) (hb : PE X b (tS cls X.K e Wx f)) : PC X op o b (tS cls X.K e Wx (xCmpO i g f)) := ⟨fun pins s σ H Q I ⟨c, δ, eH, r, q⟩ => by
  subst eH
  unfold xCmpO at q
  split at q
  · rename_i xs hm
    have h1 : tVar i σ c.H fun u H' => H' = c.H ∧ ∃ p vs, u = .ref p ∧ σ[i]? = some (some (.ref p)) ∧ c.H p = some (.lst vs) ∧ DqL c.F xs vs := var_own r hm fun p vs e1 g1 g2 => ⟨rfl, p, vs, rfl, e1, g1, g2⟩
    refine thn (ho.run pins s σ c.H _ I h1) fun u s1 ⟨x, H1, I1, r1, e1, p, vs, ex, ep, g1, g2⟩ => ?_
    subst e1 ex
    refine thn (hb.run pins s1 σ c.H _ I1 (after_one (K := X.K) ke r q)) fun v s2 ⟨y, H2, I2, r2, yd, c3, e3, b3, r3, q4, q5⟩ => ?_
    subst e3
    replace q5 := after_opt q5
    rw [hg] at q5
    cases yd with
    | p db =>
      dsimp only at q5
      by_cases z : eqOk (.list xs) db = true
      · rw [if_pos z] at q5
        simp only [eqOk, Bool.and_eq_true, decide_eq_true_eq] at z
        have hfp := own_nofp r hm ep
        have g1' := b3.hh _ _ hfp g1
        obtain ⟨as, k1⟩ := Dp.reads I2 (.list xs) (.ref p) u (.lst (SqL.of g1') (DqL.dp r3.ok.fh _ _ (DqL.mono b3.ff _ _ g2))) r1
        obtain ⟨bs, k2⟩ := Dp.reads I2 db y v (Dq.dp r3.ok.fh db y q4) r2
        exact rule s2 u v _ _ _ _ _ k1 k2 z.1.1 z.1.2 (by omega) ⟨.bl _, c3.H, I2, rfl, gives_v q5 r3.ok (dv_bl.mpr rfl)⟩
      · rw [if_neg z] at q5; exact gives_no q5
    | _ => exact gives_no q5
  · exact q.elim⟩
theorem s_neO (ke : Ok e) (hu : X.A.units + 64 < cLine) (ho : PE X o (tVar i)) (hb : PE X b (tS cls X.K e Wx f)) : PE X (.Compare o [.NotEq] [b] pos) (tS cls X.K e Wx (xCmpO i gNe f)) :=
  pe_cmp (cmpO (g := gNe) (bb := fun a b => !PyData.eqv a b) ke (fun x y => by cases x <;> cases y <;> rfl) (fun s u v da db as bs Q h1 h2 h3 h4 h5 h6 => SeqAt.compareNe_reads h1 h2 h3 h4 h5 h6) hu ho hb)
theorem st_neO (ke : Ok e) (hu : X.A.units + 64 < cLine) (ho : PE X o (tVar i)) (hb : PE X b (tS cls X.K e Wx f)) : PT X (.Compare o [.NotEq] [b] pos) (tSB cls X.K e Wx (xB asB (xCmpO i gNe f))) :=
  pt_imp (pt_cmp (cmpO (g := gNe) (bb := fun a b => !PyData.eqv a b) (f := f) ke (fun x y => by cases x <;> cases y <;> rfl) (fun s u v da db as bs Q h1 h2 h3 h4 h5 h6 => SeqAt.compareNe_reads h1 h2 h3 h4 h5 h6) hu ho hb)) fun σ H Q ⟨c, δ, eH, r, q⟩ => by
    rw [← eH]
    exact tS_imp (after_oneB (K := X.K) ke r q) fun u H1 ⟨x, c2, e2, b2, r2, q2, q3⟩ => by
      obtain ⟨bb, hb, q4⟩ := after_optB (K := X.K) r2.ok q3
      exact ⟨bb, asB_eq hb q2, by rw [← e2]; exact q4⟩
/-! xs = xs[lo:hi], the slice one's own -/
def xSlO (i : Nat) (lo hi : Option (XF W)) : XS W := fun δ w => match δ[i]? with
  | some (.own xs) => (oEv lo δ w).bind fun l w2 => (oEv hi δ w2).bind fun u w3 => .ok (.own (cutP xs l u)) w3
  | _ => .bad
/-! ## a def of the text, by its name -/
end
/-- where the def x stands, its text -/
def Df (K : PySem.W.Frag) (mg : Str → Option Value) (x : Str) (st : Stmt) : Prop := ∃ f fd, mg x = some (.ref f) ∧ Fun K x x st f fd
/-- the def x keeps what fz says -/
def Kp (P : Program) (w : World) (K : PySem.W.Frag) (mg : Str → Option Value) (base : Heap) {W : Type} (cls : Nat → Addr) (wd : WD W) (x : Str) (k n : Nat) (fz : FZ W) : Prop :=
  ∃ f fd ps, mg x = some (.ref f) ∧ PySem.W.keepIn K (.ref f) = true ∧ Binds K fd ps [] ∧ FnOk P w K mg base (L2.CX P w) k f fd ps (spZ cls K wd n fz)
section
variable {P : Program} {w : World} {K : PySem.W.Frag} {mg : Str → Option Value} {base : Heap} {W : Type} {wd : WD W} {cls : Nat → Addr} {x : Str} {k n : Nat}
theorem Kp.lift {f0 : FZ Unit} (h : Kp P w K mg base cls W0 x k n f0) : Kp P w K mg base cls wd x k n (liftZ f0) := by
  obtain ⟨f, fd, ps, h1, h2, h3, h4⟩ := h
  exact ⟨f, fd, ps, h1, h2, h3, fn_lift h4⟩
theorem kpZ {st : Stmt} {N ps : List Str} {sf : SF W} (D : Df K mg x st) (S : FnScope N ps (defScope st))
    (bs : ∀ (kV doc pm : Value) (an : Option Addr) (cdv ct : Value) (us : List Value), us.length = ps.length → bindArgs (PySem.W.fnOf x x (defArgs st) (defBody st) (defScope st) .none kV doc pm an cdv ct) ⟨us, []⟩ = pure (ps.zip us))
    (hb : ∀ (f : Addr) (cdv : Value) (A : Around) (outer : List Env) (s : Shared) (H : Hp) (E : XK) (e : Cur wd), Ok e → Room k (A.deeper (envOfC x (defScope st) s.heap.objs.size f cdv)) →
      PSs (cxOf (L2.CX P w) P w K mg base N x (defScope st) f cdv A outer s H E) (defBody st) (tSS cls K e (WxE E) sf)) : Kp P w K mg base cls wd x (k + 1) ps.length (runZ N.length sf) := by
  obtain ⟨f, fd, h1, F⟩ := D
  exact ⟨f, fd, ps, h1, F.kp, F.binds bs, okZ F S (hb f)⟩
end
section
variable {X : Cx} {W : Type} {wd : WD W} {cls : Nat → Addr} {e : Cur wd} {Wx : WX} {a : Expr} {pos p : Pos} {fl : XL W} {es : List Expr} {k n : Nat} {fz : FZ W} {x : Str}
theorem s_callK (ke : Ok e) (F : Kp X.prog X.w X.K X.mg X.base cls wd x k n fz) (hr : Room k X.A) (tk : Takes X Wx) (ha : PA X (a :: es) (tSL cls X.K e Wx fl)) (hn : LenIs fl n) (hg : Gl X x := by rfl) (hdb : (x == ("__debug__" : Str)) = false := by decide)
    (he : starEach (a :: es) X.env = (false, eval a X.env) :: starEach es X.env := by rfl) (hpl : (backTo pos (starEach es X.env)).any (·.1) = false := by rfl) : PE X (.Call (.Name x p) (a :: es) [] pos) (tS cls X.K e Wx (xCall fz fl)) := by
  obtain ⟨f, fd, ps, h1, h2, h3, h4⟩ := F
  exact s_call ke h4 hr h1 h2 h3 tk ha hn hg hdb he hpl
end
/-- the built-ins that the text calls stand as they are -/
structure Bt (mg : Str → Option Value) : Prop where
  len : mg "len" = none
  range : mg "range" = none
  isi : mg "isinstance" = none
  sum : mg "sum" = none
  tuple : mg "tuple" = none
  list : mg "list" = none
  all : mg "all" = none
  any : mg "any" = none
  enum : mg "enumerate" = none
  zip : mg "zip" = none
  sorted : mg "sorted" = none
  min : mg "min" = none
  max : mg "max" = none
  set : mg "set" = none
  str : mg "str" = none
  int : mg "int" = none
  bool : mg "bool" = none
  verr : mg "ValueError" = none
end Z

set_option Elab.async false
set_option linter.all false
set_option maxRecDepth 100000
/-! # Z11: small things that the printed terms use -/
namespace Z
open PySem PySem.Spec PyProof.Rows L2
theorem bt_len : bootBuiltins "len" = some (.builtin "len") := by decide +kernel
theorem bt_sum : bootBuiltins "sum" = some (.builtin "sum") := by decide +kernel
theorem bt_all : bootBuiltins "all" = some (.builtin "all") := by decide +kernel
theorem bt_any : bootBuiltins "any" = some (.builtin "any") := by decide +kernel
theorem bt_min : bootBuiltins "min" = some (.builtin "min") := by decide +kernel
theorem bt_max : bootBuiltins "max" = some (.builtin "max") := by decide +kernel
theorem bt_sorted : bootBuiltins "sorted" = some (.builtin "sorted") := by decide +kernel
theorem bt_list : bootBuiltins "list" = some (.type "list") := by decide +kernel
theorem bt_tuple : bootBuiltins "tuple" = some (.type "tuple") := by decide +kernel
theorem bt_int : bootBuiltins "int" = some (.type "int") := by decide +kernel
theorem bt_str : bootBuiltins "str" = some (.type "str") := by decide +kernel
theorem bt_bool : bootBuiltins "bool" = some (.type "bool") := by decide +kernel
section
variable {X : Cx} {W : Type} {wd : WD W} {cls : Nat → Addr} {e : Cur wd} {Wx : WX} {tg ex a b d o : Expr} {pos pos' : Pos} {f h k : XF W} {i : Nat}
theorem s_one {op} (h : PE X a (tS cls X.K e Wx f)) : PE X (.BoolOp op [a] pos) (tS cls X.K e Wx f) := pe_one h
/-- a list, a tuple, a text -/
def seqOf : D → Option (List PyData)
  | .p (.list xs) => some xs
  | .p (.tuple xs) => some xs
  | .p (.str x) => some (sgnL x)
  | _ => none
theorem si_seq (ke : Ok e) (ha : PE X a (tS cls X.K e Wx f)) : PI X tg a (tSI cls X.K e Wx keepF (iOf seqOf f)) := ⟨fun pins s σ H R I ⟨c, δ, eH, r, q⟩ => by
  have key : ∀ g : D → Option (List PyData), (∀ x w', f δ c.w = .ok x w' → g x = seqOf x) → tSI cls X.K e Wx keepF (iOf g f) σ H R := fun g hg => by
    refine ⟨c, δ, eH, r, ?_⟩
    unfold iOf at q ⊢
    cases z : f δ c.w with
    | bad => rw [z] at q; exact q
    | exc n w' => rw [z] at q; exact q
    | ok x w' =>
      rw [z] at q
      dsimp only [Res.bind] at q ⊢
      rw [hg x w' z]; exact q
  cases z : f δ c.w with
  | bad => exact (si_list ke ha).run pins s σ H R I (key lstOf fun x w' h => by rw [z] at h; cases h)
  | exc n w' => exact (si_list ke ha).run pins s σ H R I (key lstOf fun x w' h => by rw [z] at h; cases h)
  | ok x w' =>
    by_cases h1 : ∃ xs, x = .p (.tuple xs)
    · obtain ⟨xs, rfl⟩ := h1
      exact (si_tup ke ha).run pins s σ H R I (key tupOf fun x w' h => by rw [z] at h; cases h; rfl)
    · by_cases h2 : ∃ xs, x = .p (.str xs)
      · obtain ⟨xs, rfl⟩ := h2
        exact (si_str ke ha).run pins s σ H R I (key sgOf fun x w' h => by rw [z] at h; cases h; rfl)
      · refine (si_list ke ha).run pins s σ H R I (key lstOf fun y w' h => ?_)
        rw [z] at h
        cases h
        cases x with
        | p d =>
          cases d with
          | tuple xs => exact absurd ⟨xs, rfl⟩ h1
          | str xs => exact absurd ⟨xs, rfl⟩ h2
          | _ => rfl
        | _ => rfl⟩
end
end Z

set_option Elab.async false
set_option linter.all false
set_option maxRecDepth 100000
/-! # Z12: the draws, a world -/
namespace Z
open PySem PySem.Spec PyProof.Rows L2
/-- the world's thing at p is changed -/
theorem Rz.wset {W : Type} {wd : WD W} {cls : Nat → Addr} {K : PySem.W.Frag} {e c : Cur wd} {δ : Ev} {σ : L2.St} {p : Addr} {ob : HO} {w' : W} (r : Rz cls K e c δ σ) (hf : wd.fp c.k p) (hr : wd.rel c.k w' c.F (upd c.H p ob)) : Rz cls K e { c with w := w', H := upd c.H p ob } δ σ := by
  obtain ⟨o, h1, h2, h3, h4, h5⟩ := r.ex
  have hF := (r.ok.wf p hf)
  have off : ∀ j x, x ∈ o j → x ≠ p := fun j x hx z => (h5 j x hx).1.2.1 (z ▸ hf)
  have eold : ¬ wd.fp e.k p → e.H p = none := fun z => (r.bs.kf p hf).resolve_left z
  refine ⟨⟨⟨fun x u q => ?_, hr, fun x hx => ⟨(r.ok.wf x hx).1, ?_⟩⟩, r.bs.ff, fun x u n q => ?_, r.bs.fn, r.bs.kh, r.bs.kf, r.bs.kg⟩, r.len, o, fun j t ht => ?_, h2, h3, h4, fun j x hx => ?_⟩
  · show upd c.H p ob x = some u
    rw [upd_ne (ne_of_none q hF.1)]; exact r.ok.fh _ _ q
  · show upd c.H p ob x ≠ none
    by_cases z : x = p
    · rw [z, upd_same]; exact fun z => by cases z
    · rw [upd_ne z]; exact (r.ok.wf x hx).2
  · show upd c.H p ob x = some u
    have : x ≠ p := fun z => by
      subst z
      rw [eold n] at q; cases q
    rw [upd_ne this]; exact r.bs.hh _ _ n q
  · have q := h1 j t ht
    have eq : ∀ x ∈ o j, upd c.H p ob x = c.H x := fun x hx => upd_ne (off j x hx)
    cases t with
    | no => exact q
    | v d =>
      obtain ⟨q1, u, q2, q3⟩ := q
      refine ⟨q1, u, q2, ?_⟩
      cases d <;> exact q3
    | own xs =>
      obtain ⟨a, vs, g1, g2, g3, g4⟩ := q
      exact ⟨a, vs, g1, g2, (eq a (by rw [g1]; exact List.mem_cons_self)).trans g3, g4⟩
    | own2 xss =>
      obtain ⟨a, as, g1, g2, g3, g4, g5⟩ := q
      refine ⟨a, as, g1, g2, (eq a (by rw [g1]; exact List.mem_cons_self)).trans g3, g4, fun j' b xs k1 k2 => ?_⟩
      obtain ⟨vs, k3, k4⟩ := g5 j' b xs k1 k2
      exact ⟨vs, (eq b (by rw [g1]; exact List.mem_cons_of_mem _ (List.mem_of_getElem? k1))).trans k3, k4⟩
  · obtain ⟨f1, f2⟩ := h5 j x hx
    refine ⟨f1, ?_⟩
    show upd c.H p ob x ≠ none
    rw [upd_ne (off j x hx)]; exact f2
abbrev Wd := Option (List Int × Int)
def wRel : Option (Addr × Addr) → Wd → Hp → Prop
  | none, none, _ => True
  | some (a, b), some (ns, n), H => H a = some (.lst [.ref b, .int n]) ∧ H b = some (.lst (ns.map V.int))
  | _, _, _ => False
def wFp : Option (Addr × Addr) → Addr → Prop
  | none, _ => False
  | some (a, b), x => x = a ∨ x = b
def wHd : Option (Addr × Addr) → Nat → Option Addr
  | some (a, _), 0 => some a
  | some (_, b), 1 => some b
  | _, _ => none
def WW : WD Wd where
  Key := Option (Addr × Addr)
  rel := fun k w _ H => wRel k w H
  fp := wFp
  hd := wHd
  stab := fun k w _ _ H H' h _ q => by
    cases k with
    | none => cases w with
      | none => trivial
      | some p => exact h.elim
    | some ab =>
      obtain ⟨a, b⟩ := ab
      cases w with
      | none => exact h.elim
      | some p =>
        obtain ⟨ns, n⟩ := p
        exact ⟨(q a (.inl rfl)).trans h.1, (q b (.inr rfl)).trans h.2⟩
section
variable {X : Cx} {cls : Nat → Addr} {e : Cur WW} {Wx : WX} {tg ex a b d o : Expr} {pos pos' : Pos} {f h k fo : XF Wd} {i : Nat}
theorem dv_obj0 {K : PySem.W.Frag} {c : Cur WW} {v : V} (h : Dv cls K c (.obj 0) v) : ∃ a b, v = .ref a ∧ c.k = some (a, b) := by
  obtain ⟨a, e1, h⟩ := h
  have h : wHd c.k 0 = some a := h
  cases z : c.k with
  | none => rw [z] at h; cases h
  | some ab =>
    rw [z] at h
    cases h
    exact ⟨_, ab.2, e1, rfl⟩
theorem dv_obj1 {K : PySem.W.Frag} {c : Cur WW} {v : V} (h : Dv cls K c (.obj 1) v) : ∃ a b, v = .ref b ∧ c.k = some (a, b) := by
  obtain ⟨a, e1, h⟩ := h
  have h : wHd c.k 1 = some a := h
  cases z : c.k with
  | none => rw [z] at h; cases h
  | some ab =>
    rw [z] at h
    cases h
    exact ⟨ab.1, _, e1, rfl⟩
theorem ok_w {c : Cur WW} {a b : Addr} {ns : List Int} {n : Int} (k : Ok c) (h1 : c.k = some (a, b)) (h2 : c.w = some (ns, n)) : c.H a = some (.lst [.ref b, .int n]) ∧ c.H b = some (.lst (ns.map V.int)) := by
  have := k.wr
  rw [h1, h2] at this
  exact this
/-! an item of a thing of the world -/
def gIxW (x y : D) (w : Wd) : Option D := match x, y, w with
  | .obj 0, .p (.int i), some (ns, n) => if i = 0 then some (.obj 1) else if i = 1 then some (.p (.int n)) else none
  | .obj 1, .p (.int i), some (ns, n) => (atI ns i).map fun m => .p (.int m)
  | _, _, _ => none
def xIxW (f h : XF Wd) : XF Wd := fun δ w => (f δ w).bind fun x w1 => (h δ w1).bind fun y w2 => opt (gIxW x y w2) w2
theorem atI_map {ns : List Int} {i m : Int} (h : atI ns i = some m) : atI (ns.map V.int) i = some (.int m) := by
  unfold atI at h ⊢
  rw [List.length_map]
  cases z : ixN ns.length i with
  | none => rw [z] at h; cases h
  | some j =>
    rw [z] at h
    have h : ns[j]? = some m := h
    show (ns.map V.int)[j]? = _
    rw [List.getElem?_map, h]; rfl
theorem s_ixW (ke : Ok e) (ha : PE X a (tS cls X.K e Wx f)) (hb : PE X b (tS cls X.K e Wx h)) (hs : PlainIx b := by exact fun _ _ => rfl) : PE X (.Subscript a b pos) (tS cls X.K e Wx (xIxW f h)) :=
  pe_imp (pe_ix ix_list ha hb hs) fun σ H Q ⟨c, δ, eH, r, q⟩ => by
    rw [← eH]
    have z := after_two (k := fun x y w => opt (gIxW x y w) w) ke r q
    obtain ⟨c0, δ0, e0, r0, q0⟩ := z
    refine ⟨c0, δ0, e0, r0, after_mono q0 fun u c1 _ ⟨c1', δ1, e1, r1, q1⟩ => ⟨c1', δ1, e1, r1, after_mono q1 fun v c2 _ ⟨x, y, c2', e2, r2, q2, q3, q4⟩ => ?_⟩⟩
    replace q4 := after_opt q4
    have kk := r2.ok
    rw [← e2]
    unfold gIxW at q4
    split at q4
    · rename_i i ns n hw
      obtain ⟨a, b, rfl, hk⟩ := dv_obj0 q2
      obtain rfl := dv_int.mp q3
      obtain ⟨g1, g2⟩ := ok_w kk hk hw
      by_cases z0 : i = 0
      · subst z0
        rw [if_pos rfl] at q4
        exact ⟨a, _, 0, .ref b, rfl, rfl, SqL.of g1, rfl, gives_v q4 kk ⟨b, rfl, by show wHd c2'.k 1 = _; rw [hk]; rfl⟩⟩
      · rw [if_neg z0] at q4
        by_cases z1 : i = 1
        · subst z1
          rw [if_pos rfl] at q4
          exact ⟨a, _, 1, .int n, rfl, rfl, SqL.of g1, rfl, gives_v q4 kk (dv_int.mpr rfl)⟩
        · rw [if_neg z1] at q4; exact gives_no q4
    · rename_i i ns n hw
      obtain ⟨a, b, rfl, hk⟩ := dv_obj1 q2
      obtain rfl := dv_int.mp q3
      obtain ⟨g1, g2⟩ := ok_w kk hk hw
      cases z : atI ns i with
      | none => rw [z] at q4; exact gives_no q4
      | some m =>
        rw [z] at q4
        exact ⟨b, _, i, .int m, rfl, rfl, SqL.of g2, atI_map z, gives_v q4 kk (dv_int.mpr rfl)⟩
    · exact gives_no q4
/-! its length -/
def gLenW (x : D) (w : Wd) : Option D := match x, w with
  | .obj 1, some (ns, _) => some (.p (.int ns.length))
  | _, _ => none
def xLenW (f : XF Wd) : XF Wd := fun δ w => (f δ w).bind fun x w1 => opt (gLenW x w1) w1
theorem s_lenW {p : Pos} (ke : Ok e) (hm : X.mg "len" = none) (ho : PE X o (tS cls X.K e Wx f)) (hg : Gl X "len" := by rfl)
    (he : starEach (o :: []) X.env = (false, eval o X.env) :: starEach [] X.env := by rfl) (hpl : (backTo pos (starEach [] X.env)).any (·.1) = false := by rfl) : PE X (.Call (.Name "len" p) [o] [] pos) (tS cls X.K e Wx (xLenW f)) :=
  pe_imp (pe_callB call_len hg hm PySem.boot_len (pa_cons ho pa_nil he) (by decide) (by decide) he hpl) fun σ H Q ⟨c, δ, eH, r, q⟩ => by
    rw [← eH]
    refine tS_imp (after_one (K := X.K) ke r q) fun u H1 ⟨x, c2, e2, b2, r2, q2, q3⟩ => ?_
    replace q3 := after_opt q3
    rw [← e2]
    unfold gLenW at q3
    split at q3
    · rename_i ns n hw
      obtain ⟨a, b, rfl, hk⟩ := dv_obj1 q2
      obtain ⟨g1, g2⟩ := ok_w r2.ok hk hw
      refine ⟨_, _, rfl, .inl ⟨_, SqL.of g2, rfl⟩, ?_⟩
      rw [List.length_map]
      exact gives_v q3 r2.ok (dv_int.mpr rfl)
    · exact gives_no q3
/-! a store into a thing of the world -/
def upW (x y z : D) (w : Wd) : Option Wd := match y, z, x, w with
  | .obj 0, .p (.int i), .p (.int m), some (ns, _) => if i = 1 then some (some (ns, m)) else none
  | .obj 1, .p (.int i), .p (.int m), some (ns, n) => (ixN ns.length i).map fun j => some (ns.set j m, n)
  | _, _, _, _ => none
def sSetW (fo k f : XF Wd) : SF Wd := fun δ w => match f δ w with
  | .ok x w1 => match fo δ w1 with
    | .ok y w2 => match k δ w2 with
      | .ok z w3 => match upW x y z w3 with
        | some w4 => .nx δ w4
        | none => .bad
      | .exc n w' => .exc n δ w'
      | .bad => .bad
    | .exc n w' => .exc n δ w'
    | .bad => .bad
  | .exc n w' => .exc n δ w'
  | .bad => .bad
theorem ss_setW {spos : Pos} (ke : Ok e) (ho : PE X o (tS cls X.K e Wx fo)) (hk : PE X b (tS cls X.K e Wx k)) (hv : PE X ex (tS cls X.K e Wx f))
    (ha : ∀ v, assign (.Subscript o b spos) X.env v = (do let ov ← holding [v] (eval o X.env); let iv ← holding [v, ov] (eval b X.env); standAt spos; holding [v, ov, iv] (setItem ov iv v); release [v, ov, iv] []) := by intro _; rfl)
    (hs : swapsWithSole [.Subscript o b spos] ex pos.line X.env = pure false := by rfl) (hw : swappedStores [.Subscript o b spos] ex X.env = pure none := by rfl)
    (h1 : (assignEach [.Subscript o b spos] X.env).map (·.2) = [assign (.Subscript o b spos) X.env] := by rfl) :
    PS X (.Assign [.Subscript o b spos] ex pos) (tSS cls X.K e Wx (sSetW fo k f)) :=
  ps_imp (ps_asg hv (pg_sub ho hk set_list ha) hs hw h1) fun D σ H ⟨c, δ, eH, r, q⟩ => by
    refine ⟨c, δ, eH, r, ?_⟩
    unfold sSetW at q
    cases z : f δ c.w with
    | bad => rw [z] at q; exact q
    | exc n w => rw [z] at q; exact fun c' hw b => q σ c' hw b.ff (r.step ke b)
    | ok x w1 =>
      rw [z] at q
      dsimp only at q
      intro u c1 hw1 b1 q1
      have r1 := r.step ke b1
      refine ⟨c1, δ, rfl, r1, ?_⟩
      rw [hw1]
      cases z2 : fo δ w1 with
      | bad => rw [z2] at q; exact q
      | exc n w => rw [z2] at q; exact fun c' hw b => q σ c' hw (b1.ff.trans b.ff) (r1.step ke b)
      | ok y w2 =>
        rw [z2] at q
        dsimp only at q
        intro v c2 hw2 b2 q2
        have r2 := r1.step ke b2
        refine ⟨c2, δ, rfl, r2, ?_⟩
        rw [hw2]
        cases z3 : k δ w2 with
        | bad => rw [z3] at q; exact q
        | exc n w => rw [z3] at q; exact fun c' hw b => q σ c' hw ((b1.ff.trans b2.ff).trans b.ff) (r2.step ke b)
        | ok y3 w3 =>
          rw [z3] at q
          dsimp only at q
          intro v3 c3 hw3 b3 q3
          have r3 := r2.step ke b3
          cases z4 : upW x y y3 w3 with
          | none => rw [z4] at q; exact q.elim
          | some w4 =>
            rw [z4] at q
            dsimp only at q
            rw [← hw3] at z4
            have q1' := (q1.mono b2).mono b3
            have q2' := q2.mono b3
            unfold upW at z4
            split at z4
            · rename_i i m ns n0 hw
              split at z4
              · rename_i hi
                subst hi
                cases z4
                obtain ⟨a, b, rfl, hk⟩ := dv_obj0 q2'
                obtain rfl := dv_int.mp q3
                obtain rfl := dv_int.mp q1'
                obtain ⟨g1, g2⟩ := ok_w r3.ok hk hw
                have ne : b ≠ a := fun z => by
                  subst z
                  rw [g1] at g2
                  have := HO.lst.inj (Option.some.inj g2)
                  cases ns with
                  | nil => cases this
                  | cons _ _ => cases this
                refine ⟨a, [.ref b, .int n0], 1, 1, rfl, rfl, g1, rfl, ?_⟩
                refine q σ { c3 with w := some (ns, m), H := upd c3.H a (.lst [.ref b, .int m]) } rfl ((b1.ff.trans b2.ff).trans b3.ff) (r3.wset (by rw [hk]; exact .inl rfl) ?_)
                rw [hk]
                exact ⟨upd_same, (upd_ne ne).trans g2⟩
              · cases z4
            · rename_i i m ns n0 hw
              cases z5 : ixN ns.length i with
              | none => rw [z5] at z4; cases z4
              | some j =>
                rw [z5] at z4
                cases z4
                obtain ⟨a, b, rfl, hk⟩ := dv_obj1 q2'
                obtain rfl := dv_int.mp q3
                obtain rfl := dv_int.mp q1'
                obtain ⟨g1, g2⟩ := ok_w r3.ok hk hw
                have ne : a ≠ b := fun z => by
                  subst z
                  rw [g1] at g2
                  have := HO.lst.inj (Option.some.inj g2)
                  cases ns with
                  | nil => cases this
                  | cons _ _ => cases this
                refine ⟨b, ns.map V.int, i, j, rfl, rfl, g2, by rw [List.length_map]; exact z5, ?_⟩
                refine q σ { c3 with w := some (ns.set j m, n0), H := upd c3.H b (.lst ((ns.map V.int).set j (.int m))) } rfl ((b1.ff.trans b2.ff).trans b3.ff) (r3.wset (by rw [hk]; exact .inr rfl) ?_)
                rw [hk]
                exact ⟨(upd_ne ne).trans g1, by rw [upd_same, List.map_set]⟩
            · cases z4
end
end Z

set_option Elab.async false
set_option linter.all false
set_option maxRecDepth 100000
/-! # Z13: sorted, orders of data -/
namespace Z
open PySem PySem.Spec PyProof.Rows L2
open PySem.W (alike alikeAll dataLt keyToks keyToksAll dataLe EachIs)
open PyProof.Rows (itemOrd)
/-! the order -/
def le0 (a b : PyData) : Bool := !dataLt b a
theorem le0_eq : dataLe false (id : PyData → PyData) = le0 := by
  rw [PySem.W.dataLe_eq]; rfl
theorem le0_total (a b : PyData) : (le0 a b || le0 b a) = true := by
  unfold le0 dataLt
  cases h : lexLt itemOrd (keyToks b) (keyToks a) with
  | false => rfl
  | true =>
    cases h2 : lexLt itemOrd (keyToks a) (keyToks b) with
    | false => rfl
    | true =>
      have := lex_trans _ _ _ h h2
      rw [lex_irrefl] at this
      cases this
theorem le0_trans (a b c : PyData) (h1 : le0 a b = true) (h2 : le0 b c = true) : le0 a c = true := by
  unfold le0 dataLt at *
  cases h : lexLt itemOrd (keyToks c) (keyToks a) with
  | false => rfl
  | true =>
    rcases lex_negTrans _ (keyToks b) _ h with h | h
    · rw [h] at h2; cases h2
    · rw [h] at h1; cases h1
mutual
theorem eqv_alike : ∀ x y : PyData, alike x y = true → PyData.eqv x y = true → x = y
  | .none, y, h, e => by cases y <;> simp [alike] at h ⊢
  | .bool b, y, h, e => by cases y <;> simp [alike, PyData.eqv] at h e ⊢; exact e
  | .int b, y, h, e => by cases y <;> simp [alike, PyData.eqv] at h e ⊢; exact e
  | .str b, y, h, e => by cases y <;> simp [alike, PyData.eqv] at h e ⊢; exact e
  | .list xs, y, h, e => by
    cases y <;> simp [alike, PyData.eqv] at h e ⊢
    exact eqvAll_alike xs _ h e
  | .tuple xs, y, h, e => by
    cases y <;> simp [alike, PyData.eqv] at h e ⊢
    exact eqvAll_alike xs _ h e
  | .dict _, y, h, e => by cases y <;> simp [alike] at h
theorem eqvAll_alike : ∀ xs ys : List PyData, alikeAll xs ys = true → PyData.eqvAll xs ys = true → xs = ys
  | [], [], _, _ => rfl
  | [], _ :: _, _, e => by simp [PyData.eqvAll] at e
  | _ :: _, [], _, e => by simp [PyData.eqvAll] at e
  | x :: xs, y :: ys, h, e => by
    simp only [alikeAll, PyData.eqvAll, Bool.and_eq_true] at h e
    rw [eqv_alike x y h.1 e.1, eqvAll_alike xs ys h.2 e.2]
end
theorem le0_anti {a b : PyData} (h : alike a b = true) (h1 : le0 a b = true) (h2 : le0 b a = true) : a = b := by
  unfold le0 dataLt at h1 h2
  have e : keyToks a = keyToks b := lex_total _ _ (by simpa using h2) (by simpa using h1)
  cases z : PyData.eqv a b with
  | true => exact eqv_alike a b h z
  | false =>
    have q := (PySem.W.toks_eqv a b h).2 z
    have q1 := q [.inl 0] [.inl 1]
    have q2 := q [.inl 1] [.inl 0]
    rw [e, PySem.W.lex_pre] at q1 q2
    rw [← q2] at q1
    exact absurd q1 (by decide)
/-! sorting -/
def insP (x : PyData) : List PyData → List PyData
  | [] => [x]
  | y :: ys => if le0 x y = true then x :: y :: ys else y :: insP x ys
def sortP : List PyData → List PyData
  | [] => []
  | x :: xs => insP x (sortP xs)
theorem insP_perm (x : PyData) : ∀ ys, (insP x ys).Perm (x :: ys)
  | [] => List.Perm.refl _
  | y :: ys => by
    unfold insP
    split
    · exact List.Perm.refl _
    · exact (List.Perm.cons y (insP_perm x ys)).trans (List.Perm.swap x y ys)
theorem sortP_perm : ∀ xs, (sortP xs).Perm xs
  | [] => List.Perm.refl _
  | x :: xs => (insP_perm x _).trans (List.Perm.cons x (sortP_perm xs))
abbrev Sd (l : List PyData) : Prop := l.Pairwise fun a b => le0 a b = true
theorem insP_sd (x : PyData) : ∀ {ys}, Sd ys → Sd (insP x ys)
  | [], _ => List.pairwise_singleton _ _
  | y :: ys, h => by
    unfold insP
    obtain ⟨h1, h2⟩ := List.pairwise_cons.mp h
    split
    · rename_i z
      refine List.pairwise_cons.mpr ⟨fun a ha => ?_, h⟩
      rcases List.mem_cons.mp ha with rfl | ha
      · exact z
      · exact le0_trans _ _ _ z (h1 a ha)
    · rename_i z
      have z' : le0 y x = true := by
        have := le0_total x y
        simp only [Bool.or_eq_true] at this
        exact this.resolve_left z
      refine List.pairwise_cons.mpr ⟨fun a ha => ?_, insP_sd x h2⟩
      rcases List.mem_cons.mp ((insP_perm x ys).mem_iff.mp ha) with rfl | ha
      · exact z'
      · exact h1 a ha
theorem sortP_sd : ∀ xs, Sd (sortP xs)
  | [] => List.Pairwise.nil
  | x :: xs => insP_sd x (sortP_sd xs)
def allAlike (xs : List PyData) : Bool := xs.all fun a => xs.all fun b => alike a b
/-- a sorted rearrangement is the sorted list -/
theorem sortP_uniq {xs ys : List PyData} (ha : allAlike xs = true) (hp : ys.Perm xs) (hs : Sd ys) : sortP xs = ys := by
  refine List.Perm.eq_of_pairwise (le := fun a b => le0 a b = true) (fun a b h1 h2 l1 l2 => ?_) (sortP_sd xs) hs ((sortP_perm xs).trans hp.symm)
  simp only [allAlike, List.all_eq_true] at ha
  exact le0_anti (ha a ((sortP_perm xs).mem_iff.mp h1) b (hp.mem_iff.mp h2)) l1 l2
theorem sortP_merge {xs : List PyData} (ha : allAlike xs = true) : xs.mergeSort le0 = sortP xs :=
  (sortP_uniq ha (List.mergeSort_perm _ _) (List.pairwise_mergeSort le0_trans le0_total xs)).symm
def isTup1 : PyData → Bool
  | .tuple (_ :: _) => true
  | _ => false
def isOther : PyData → Bool
  | .none => false
  | .tuple _ => false
  | _ => true
def sortOk (xs : List PyData) : Bool := allAlike xs && (xs.all isTup1 || xs.all isOther) && decide (xs.length ≤ lim) && xs.all fun a => decide (a.depth ≤ 32)
def gSorted : List D → Option D
  | [.p (.list xs)] => if sortOk xs = true then some (.p (.list (sortP xs))) else none
  | _ => none
theorem each_of {K : PySem.W.Frag} {X : Cx} {F H : Hp} {σ : L2.St} {pins : List (Addr × Obj)} {s : Shared} (I : Inv X pins σ H s) (sb : Sub F H) : ∀ {ds : List PyData} {vs : List V} {us : List Value}, DqL F ds vs → Vals vs us →
    EachIs (fun u d => ∃ v, RelV v u ∧ Dq F d v) us ds ∧ EachIs (fun u d => ∃ as, Reads s.heap u (id d) as) us ds
  | [], _, _, h, r => by
    rw [h.unnil] at r
    cases r
    exact ⟨.nil, .nil⟩
  | d :: ds, _, _, h, r => by
    obtain ⟨u, us, rfl, q, t⟩ := h.uncons
    cases r with
    | cons r1 r2 =>
      obtain ⟨g1, g2⟩ := each_of (K := K) I sb t r2
      exact ⟨.cons ⟨_, r1, q⟩ g1, .cons (Dp.reads I d u _ (Dq.dp sb d u q) r1) g2⟩
theorem each_back {F : Hp} : ∀ {us : List Value} {ds : List PyData}, EachIs (fun u d => ∃ v, RelV v u ∧ Dq F d v) us ds → ∃ vs, Vals vs us ∧ DqL F ds vs
  | _, _, .nil => ⟨[], .nil, .nil⟩
  | _, _, .cons ⟨v, h1, h2⟩ t => by
    obtain ⟨vs, g1, g2⟩ := each_back t
    exact ⟨v :: vs, .cons h1 g1, .cons h2 g2⟩
section
variable {X : Cx} {W : Type} {wd : WD W} {cls : Nat → Addr}
theorem cg_sorted (hu : X.A.units + 64 < cLine) (hc : X.calm = true) : CallG X cls wd (.builtin "sorted") gSorted := by
  intro pins s σ H vs us Q I r ⟨c, ds, eH, k, qs, q⟩
  unfold gSorted at q
  split at q
  · rename_i xs
    obtain ⟨u, rfl, q1⟩ := qs.one
    obtain ⟨p, ws, rfl, h1, r1⟩ := dv_lst.mp q1
    by_cases z : sortOk xs = true
    · rw [if_pos z] at q
      simp only [sortOk, Bool.and_eq_true, decide_eq_true_eq] at z
      obtain ⟨⟨⟨z1, z2⟩, z3⟩, z4⟩ := z
      rw [Vals.ref1 r]
      have hq : SqL X.K H p ws := by rw [← eH]; exact SqL.of (k.fh _ _ h1)
      obtain ⟨its, rv, hl, hz⟩ := I.list hq
      obtain ⟨e1, e2⟩ := each_of (K := X.K) I (by rw [← eH]; exact k.fh) r1 rv
      have hal : PySem.W.AllAlike (xs.map id) := by
        rw [List.map_id]
        simp only [allAlike, List.all_eq_true] at z1
        exact fun d hd d' hd' => z1 d hd d' hd'
      have hk : PySem.W.Sortable (xs.map id) := by
        rw [List.map_id]
        simp only [Bool.or_eq_true, List.all_eq_true] at z2
        rcases z2 with z2 | z2
        · refine .inl fun d hd => ?_
          have := z2 d hd
          unfold isTup1 at this
          split at this
          · exact ⟨_, _, rfl⟩
          · cases this
        · refine .inr fun d hd => ?_
          have := z2 d hd
          unfold isOther at this
          split at this
          · cases this
          · cases this
          · rename_i h1 h2
            exact ⟨h1, h2⟩
      refine PySem.W.sorted_data hl.isList e1 e2 hal hk (by rw [← lim_eq]; exact z3) (fun b hb => ?_) fun out hlen eo => ?_
      · simp only [List.all_eq_true, decide_eq_true_eq] at z4
        have := z4 b hb
        show X.A.units + 2 + b.depth < cLine
        omega
      · rw [le0_eq, sortP_merge z1] at eo
        obtain ⟨vs', g1, g2⟩ := each_back eo
        obtain ⟨ep, he'⟩ := PyProof.Rows.sortedAll_at s.heap its (List.toArray out)
        have hlv : vs'.length ≤ sizeLine := by rw [g2.len, (sortP_perm xs).length_eq, ← lim_eq]; exact z3
        refine ⟨.ref _, upd H (s.heap.objs.size + 1) (.lst vs'), I.laid (t' := s.toks) (fun _ _ => PyProof.Rows.sortedAll_old) (Nat.le_succ _) ⟨hlv, out, ep, g1, he'⟩, rfl, ?_⟩
        have hf : c.H (s.heap.objs.size + 1) = none := by rw [eH]; exact I.hok.fresh (Nat.le_succ _)
        rw [← eH]
        exact gives_lst q k g2 _ hf
    · rw [if_neg z] at q; exact gives_no q
  · exact gives_no q
/-! < and > of data -/
def ordOk (a b : PyData) : Bool := alike a b && isOther0 a && decide (min a.depth b.depth ≤ 64)
where isOther0 : PyData → Bool
  | .none => false
  | _ => true
theorem ordOk_ne {a b : PyData} (h : ordOk a b = true) : alike a b = true ∧ a ≠ .none ∧ min a.depth b.depth ≤ 64 := by
  simp only [ordOk, Bool.and_eq_true, decide_eq_true_eq] at h
  refine ⟨h.1.1, fun z => ?_, h.2⟩
  subst z
  have := h.1.2
  simp [ordOk.isOther0] at this
def gLtD : D → D → Option D
  | .p a, .p b => if ordOk a b = true then some (.p (.bool (dataLt a b))) else none
  | _, _ => none
def gGtD : D → D → Option D
  | .p a, .p b => if ordOk a b = true then some (.p (.bool (dataLt b a))) else none
  | _, _ => none
theorem og_ltD (hu : X.A.units + 64 < cLine) : OpG X cls wd (compareOp .Lt) gLtD := by
  intro pins s σ H u v p p' Q I rx ry ⟨c, x, y, eH, k, qx, qy, q⟩
  unfold gLtD at q
  split at q
  · rename_i a b
    by_cases z : ordOk a b = true
    · rw [if_pos z] at q
      obtain ⟨z1, z2, z3⟩ := ordOk_ne z
      subst eH
      obtain ⟨as, k1⟩ := Dp.reads I a u p (Dq.dp k.fh a u qx) rx
      obtain ⟨bs, k2⟩ := Dp.reads I b v p' (Dq.dp k.fh b v qy) ry
      exact PySem.W.lt_data k1 k2 z1 z2 (by omega) ⟨.bl _, c.H, I, rfl, gives_v q k (dv_bl.mpr rfl)⟩
    · rw [if_neg z] at q; exact gives_no q
  · exact gives_no q
theorem og_gtD (hu : X.A.units + 64 < cLine) : OpG X cls wd (compareOp .Gt) gGtD := by
  intro pins s σ H u v p p' Q I rx ry ⟨c, x, y, eH, k, qx, qy, q⟩
  unfold gGtD at q
  split at q
  · rename_i a b
    by_cases z : ordOk a b = true
    · rw [if_pos z] at q
      obtain ⟨z1, z2, z3⟩ := ordOk_ne z
      subst eH
      obtain ⟨as, k1⟩ := Dp.reads I a u p (Dq.dp k.fh a u qx) rx
      obtain ⟨bs, k2⟩ := Dp.reads I b v p' (Dq.dp k.fh b v qy) ry
      exact PySem.W.gt_data k1 k2 z1 z2 (by omega) ⟨.bl _, c.H, I, rfl, gives_v q k (dv_bl.mpr rfl)⟩
    · rw [if_neg z] at q; exact gives_no q
  · exact gives_no q
end
end Z

set_option Elab.async false
set_option linter.all false
set_option maxRecDepth 100000
/-! # Z14: a list of lists of one's own -/
namespace Z
open PySem PySem.Spec PyProof.Rows L2
section
variable {X : Cx} {W : Type} {wd : WD W} {cls : Nat → Addr} {e : Cur wd} {Wx : WX} {tg ex a b d o : Expr} {pos pos' : Pos} {f h k : XF W} {g : XS W} {i : Nat}
def lcGoO (tz : TZ) (f : XS W) (δ : Ev) : List PyData → W → Res W (List (List PyData))
  | [], w => .ok [] w
  | x :: r, w => match tz x δ with
    | none => .bad
    | some δ1 => match f δ1 w with
      | .ok (.own xs) w2 => (lcGoO tz f δ r w2).bind fun ys w3 => .ok (xs :: ys) w3
      | _ => .bad
def xLcOO (it : XI W) (tz : TZ) (f : XS W) (vs : List Nat) : XS W := fun δ w => (it δ w).bind fun items w1 => if items.length ≤ lim then match lcGoO tz f (wipeZ δ vs) items w1 with
    | .ok ys w2 => .ok (.own2 ys) w2
    | _ => .bad
  else .bad
/-- what is laid: a new list of new lists -/
def freshO (c0 c : Cur wd) (D0 : Addr) (as : List Addr) (yss : List (List PyData)) : Prop := c.H D0 = some (.lst (as.map V.ref)) ∧ RowsAt c yss as ∧ (D0 :: as).Nodup ∧ ∀ a ∈ D0 :: as, Fre c0 c a ∧ c.H a ≠ none
theorem freshO.step {c0 c c' : Cur wd} {D0 : Addr} {as : List Addr} {yss : List (List PyData)} (h : freshO c0 c D0 as yss) (b : Bs c c') : freshO c0 c' D0 as yss := by
  obtain ⟨h1, ⟨h2, h3⟩, h4, h5⟩ := h
  have st := fun a ha => Fre.step b (h5 a ha).1 (h5 a ha).2
  refine ⟨(st D0 List.mem_cons_self).2.trans h1, ⟨h2, fun j x xs k1 k2 => ?_⟩, h4, fun a ha => ⟨(st a ha).1, by rw [(st a ha).2]; exact (h5 a ha).2⟩⟩
  obtain ⟨vs, g1, g2⟩ := h3 j x xs k1 k2
  exact ⟨vs, (st x (List.mem_cons_of_mem _ (List.mem_of_getElem? k1))).2.trans g1, DqL.mono b.ff _ _ g2⟩
theorem fre_back {c0 c c' : Cur wd} {a : Addr} (k0 : Ok c0) (b : Bs c0 c) (h : c.H a = none) : c0.H a = none := by
  rcases none_or (c0.H a) with q | ⟨x, q⟩
  · exact q
  · by_cases hx : wd.fp c0.k a
    · exact absurd h (b.ok.wf a (b.kg a hx)).2
    · rw [b.hh a x hx q] at h; cases h
theorem lc_walkO {K : PySem.W.Frag} (ke : Ok e) {J : It} {items : List PyData} {tz : TZ} {g : TG} {f : XS W} {vs : List Nat} {c0 : Cur wd} {δ : Ev} {σ : L2.St} {Q : VK} {ys : List (List PyData)} {wf : W}
    (r0 : Rz cls K e c0 δ σ) (hl : items.length ≤ lim) (hJ : JOk J (keepB c0) items) (hg : TgOk cls K e g tz) (hz : lcGoO tz f (wipeZ δ vs) items c0.w = .ok ys wf)
    (hq : ∀ D0 as c, c.w = wf → Bs c0 c → freshO c0 c D0 as ys → Q (.ref D0) c.H) (hwipe : ∀ x H' (R : L2.St → Hp → Prop), g x (wipe σ vs) H' R → g x (wipe σ vs) H' fun σ2 H2 => wipe σ2 vs = wipe σ vs ∧ R σ2 H2) :
    ∀ D0, c0.H D0 = none → ∃ Wv : Nat → Nat → Hp → Prop, (∃ m, Wv 0 m (upd c0.H D0 (.lst []))) ∧ ∀ i m H, Wv i m H →
      (J.stop i H ∧ Q (.ref D0) H) ∨ (J.go i H ∧ ∃ Nx : Hp → Prop, (∀ H', Nx H' → ∃ m', m' < m ∧ Wv (i + 1) m' H') ∧ ∀ x H', J.yld i H x H' → g x (wipe σ vs) H' fun σ2 H2 => wipe σ2 vs = wipe σ vs ∧ tSB cls K e W00 (bYes (W := W)) σ2 H2 fun b H3 =>
        if b = true then tSX cls K e W00 f σ2 H3 fun y H4 => ∃ acc, H4 D0 = some (.lst acc) ∧ acc.length < sizeLine ∧ Nx (upd H4 D0 (.lst (acc ++ [y]))) else Nx H3) := by
  intro D0 hD0
  have k0 : Ok c0 := r0.ok
  let In : Nat → Hp → Prop := fun i H => ∃ (c : Cur wd) (as : List Addr) (acc : List (List PyData)) (rest : List PyData) (zs : List (List PyData)), c.H = H ∧ Bs c0 c ∧ freshO c0 c D0 as acc ∧ acc.length ≤ i ∧ items.drop i = rest ∧ lcGoO tz f (wipeZ δ vs) rest c.w = .ok zs wf ∧ acc ++ zs = ys
  refine ⟨fun i m H => m = items.length - i ∧ i ≤ items.length ∧ In i H, ⟨items.length, by simp, Nat.zero_le _, ?_⟩, ?_⟩
  · refine ⟨c0.lay D0 (.lst []), [], [], items, ys, rfl, Bs.lay k0 _ hD0, ⟨upd_same, ⟨rfl, fun j x xs k1 _ => by simp at k1⟩, by simp, fun a ha => ?_⟩, Nat.zero_le _, rfl, hz, rfl⟩
    simp at ha; subst ha
    exact ⟨⟨k0.fnone hD0, k0.nofp hD0, hD0⟩, by show upd c0.H a _ a ≠ none; rw [upd_same]; exact fun z => by cases z⟩
  · rintro i m H ⟨rfl, hi, c, as, acc, rest, zs, rfl, b, hf, hai, hr, hgo, hys⟩
    by_cases hlt : i < items.length
    · refine .inr ⟨hJ.1 i c b hlt, In (i + 1), fun H' q => ⟨items.length - (i + 1), by omega, rfl, hlt, q⟩, fun x H' hy => hwipe x H' _ ?_⟩
      have hd : items[i]? = some items[i] := List.getElem?_eq_getElem hlt
      have hrest : rest = items[i] :: items.drop (i + 1) := by rw [← hr]; exact List.drop_eq_getElem_cons hlt
      obtain ⟨c1, rfl, hw1, b1, q1⟩ := hJ.2.2 i c x H' _ b hy hd
      rw [hrest] at hgo
      have hgo : (match tz items[i] (wipeZ δ vs) with
        | none => Res.bad
        | some δ1 => match f δ1 c.w with
          | .ok (.own xs) w2 => (lcGoO tz f (wipeZ δ vs) (items.drop (i + 1)) w2).bind fun ys w3 => .ok (xs :: ys) w3
          | _ => .bad) = Res.ok zs wf := hgo
      cases htz : tz items[i] (wipeZ δ vs) with
      | none => rw [htz] at hgo; cases hgo
      | some δ1 =>
        rw [htz] at hgo
        dsimp only at hgo
        rw [← hw1] at hgo
        have b01 := b.trans k0 b1
        have rw1 : Rz cls K e c1 (wipeZ δ vs) (wipe σ vs) := (r0.step ke b01).wipe vs
        have hf1 := hf.step b1
        refine hg c1 _ δ1 _ items[i] x _ rw1 q1 htz fun σ2 r2 => ⟨c1, δ1, rfl, r2, ?_⟩
        intro c2 hw2 b2
        have b02 := b01.trans k0 b2
        have hf2 := hf1.step b2
        rw [if_pos rfl]
        rw [← hw2] at hgo
        have r3 := r2.step ke b2
        refine ⟨c2, δ1, rfl, r3, ?_⟩
        cases hfy : f δ1 c2.w with
        | bad => rw [hfy] at hgo; cases hgo
        | exc _ _ => rw [hfy] at hgo; cases hgo
        | ok s w2 =>
          rw [hfy] at hgo
          cases s with
          | no => cases hgo
          | v _ => cases hgo
          | own2 _ => cases hgo
          | own xs =>
            dsimp only at hgo
            intro u c3 A hw3 b3 q3 hnA hA
            obtain ⟨zs', w3, hgo', hgo2⟩ : ∃ b w1, lcGoO tz f (wipeZ δ vs) (items.drop (i + 1)) w2 = .ok b w1 ∧ Res.ok (xs :: b) w1 = Res.ok zs wf := by
              cases z : lcGoO tz f (wipeZ δ vs) (items.drop (i + 1)) w2 with
              | ok b w1 => rw [z] at hgo; exact ⟨b, w1, rfl, hgo⟩
              | exc _ _ => rw [z] at hgo; cases hgo
              | bad => rw [z] at hgo; cases hgo
            cases hgo2
            obtain ⟨r, us, rfl, eu, g1, g2⟩ := q3
            cases eu
            have hf3 := hf2.step b3
            obtain ⟨⟨n1, n2, n3⟩, n4⟩ := hA r List.mem_cons_self
            have b03 := b02.trans k0 b3
            obtain ⟨f1, ⟨f2, f3⟩, f4, f5⟩ := hf3
            obtain ⟨⟨d1, d2, d3⟩, d4⟩ := f5 D0 List.mem_cons_self
            have hnew : r ∉ D0 :: as := fun z => (hf2.2.2.2 r z).2 n3
            have hal : as.length ≤ i := by rw [f2]; exact hai
            refine ⟨as.map V.ref, f1, by rw [List.length_map, ← lim_eq]; omega, ?_⟩
            have b03' : Bs c0 (c3.lay D0 (.lst (as.map V.ref ++ [V.ref r]))) := by
              refine ⟨⟨fun a o h => ?_, wd.stab _ _ _ _ _ _ b03.ok.wr (Sub.refl _) fun a ha => upd_ne fun (z : a = D0) => d2 (z ▸ ha), fun a ha => ⟨(b03.ok.wf a ha).1, ?_⟩⟩, b03.ff, fun a o h1 h2 => ?_, b03.fn, b03.kh, b03.kf, b03.kg⟩
              · show upd c3.H D0 _ a = some o
                rw [upd_ne (ne_of_none h d1)]; exact b03.ok.fh _ _ h
              · show upd c3.H D0 _ a ≠ none
                rw [upd_ne fun (z : a = D0) => d2 (z ▸ ha)]
                exact (b03.ok.wf a ha).2
              · show upd c3.H D0 _ a = some o
                rw [upd_ne (ne_of_none h2 d3)]; exact b03.hh _ _ h1 h2
            have nd : (D0 :: as).Nodup := f4
            rw [List.nodup_cons] at nd
            have rne : r ≠ D0 := fun z => hnew (z ▸ List.mem_cons_self)
            refine ⟨c3.lay D0 (.lst (as.map V.ref ++ [V.ref r])), as ++ [r], acc ++ [xs], items.drop (i + 1), zs', rfl, b03', ⟨?_, ⟨by rw [List.length_append, List.length_append, f2]; rfl, fun j x ys' k1 k2 => ?_⟩, ?_, fun a ha => ?_⟩, by rw [List.length_append]; simp; omega, rfl, by rw [← hw3] at hgo'; exact hgo', by rw [List.append_assoc]; exact hys⟩
            · show upd c3.H D0 _ D0 = _
              rw [upd_same, List.map_append]; rfl
            · have hxD : x ≠ D0 := fun z => by
                subst z
                rcases List.mem_append.mp (List.mem_of_getElem? k1) with m | m
                · exact nd.1 m
                · exact rne (List.mem_singleton.mp m).symm
              show ∃ vs, upd c3.H D0 _ x = some (.lst vs) ∧ _
              rw [upd_ne hxD]
              by_cases hj : j < as.length
              · rw [List.getElem?_append_left hj] at k1
                rw [List.getElem?_append_left (by omega)] at k2
                exact f3 j x ys' k1 k2
              · rw [List.getElem?_append_right (by omega)] at k1
                rw [List.getElem?_append_right (by omega)] at k2
                rw [← f2] at k2
                cases hz : j - as.length with
                | zero =>
                  rw [hz] at k1 k2
                  cases k1; cases k2
                  exact ⟨us, g1, g2⟩
                | succ m => rw [hz] at k1; cases k1
            · rw [← List.cons_append, List.nodup_append]
              refine ⟨f4, by simp, fun a ha b hb z => ?_⟩
              rw [List.mem_singleton.mp hb] at z
              subst z
              exact hnew ha
            · rw [← List.cons_append] at ha
              rcases List.mem_append.mp ha with m | m
              · obtain ⟨f6, f7⟩ := f5 a m
                refine ⟨f6, ?_⟩
                show upd c3.H D0 _ a ≠ none
                by_cases z : a = D0
                · rw [z, upd_same]; exact fun z => by cases z
                · rw [upd_ne z]; exact f7
              · rw [List.mem_singleton.mp m]
                refine ⟨⟨n1, n2, fre_back (c' := c3) k0 b02 n3⟩, ?_⟩
                show upd c3.H D0 _ r ≠ none
                rw [upd_ne rne]; exact n4
    · have hil : i = items.length := by omega
      subst hil
      have hrest : rest = [] := by rw [← hr]; exact List.drop_length
      subst hrest
      cases hgo
      rw [List.append_nil] at hys
      subst hys
      exact .inl ⟨hJ.2.1 _ c b (Nat.le_refl _), hq D0 as c rfl b hf⟩
theorem lc_impOO {it : XI W} {g : TG} {tz : TZ} {f : XS W} {vs : List Nat} {K : PySem.W.Frag} (ke : Ok e) (h3 : T3 cls K e g tz vs) (σ : L2.St) (H : Hp) (Q : VK) (q : tSX cls K e Wx (xLcOO it tz f vs) σ H Q) :
    tLc (tSI cls K e Wx keepB it) g (tSB cls K e W00 (bYes (W := W))) (tSX cls K e W00 f) vs σ H Q := by
  obtain ⟨c, δ, eH, r, q⟩ := q
  refine ⟨c, δ, eH, r, ?_⟩
  unfold xLcOO at q
  cases z : it δ c.w with
  | bad => rw [z] at q; exact q
  | exc n w' => rw [z] at q; exact q
  | ok items w1 =>
    rw [z] at q
    dsimp only [Res.bind] at q
    by_cases hl : items.length ≤ lim
    · rw [if_pos hl] at q
      cases z2 : lcGoO tz f (wipeZ δ vs) items w1 with
      | bad => rw [z2] at q; exact q.elim
      | exc n w' => rw [z2] at q; exact q.elim
      | ok ys wf =>
        rw [z2] at q
        intro J c' hw b hJ
        have r' := r.step ke b
        rw [← hw] at z2
        refine lc_walkO ke r' hl hJ h3.1 z2 (fun D0 as c2 hw2 b2 hf => ?_) fun x H' R hg => h3.2.2 _ _ _ _ _ (h3.2.1 _ _ _ _ hg) fun σ2 H2 ⟨o, k⟩ => ⟨wipe_outs o, k⟩
        obtain ⟨f1, f2, f3, f4⟩ := hf
        refine q (.ref D0) c2 (D0 :: as) hw2 (b.trans r.ok b2) ⟨D0, as, rfl, rfl, f1, f2⟩ f3 fun a ha => ?_
        obtain ⟨⟨g1, g2, g3⟩, g4⟩ := f4 a ha
        exact ⟨⟨g1, g2, fre_back (c' := c2) r.ok b g3⟩, g4⟩
    · rw [if_neg hl] at q; exact q.elim
theorem x_lcOO {elt iter : Expr} {scope : Scope} {own : List (Str × Nat)} {it : XI W} {g : TG} {tz : TZ} {f : XS W} (ke : Ok e) (hc : X.calm = true) (hN : X.N.Nodup) (hi : PI X tg iter (tSI cls X.K e Wx keepB it)) (ok : BlkOk X.N X.env.scope scope own)
    (hg : ∀ (s : Shared) (H : Hp) (C : Addr) (cl : List (Str × Addr)) (fp : List Addr), PG (X.blk s H scope (compEnvC scope cl C X.env) fp) tg g) (h3 : T3 cls X.K e g tz (own.map (·.2)))
    (he : ∀ (s : Shared) (H : Hp) (C : Addr) (cl : List (Str × Addr)) (fp : List Addr), PE (X.blk s H scope (compEnvC scope cl C X.env) fp) elt (tSX cls X.K e W00 f)) (hs : ∀ x, foldedSetIterable iter X.env x = pure x := by intro _; rfl) :
    PE X (.ListComp elt [⟨tg, iter, [], 0⟩] scope pos) (tSX cls X.K e Wx (xLcOO it tz f (own.map (·.2)))) :=
  pe_imp (pe_lc hc hN hi ok hg (fun _ _ _ _ _ => sts_nil) he hs) fun σ H Q q => lc_impOO ke h3 σ H Q q
theorem ss_setLcOO {i : Nat} {y : Str} {py : Pos} {elt iter : Expr} {scope : Scope} {own : List (Str × Nat)} {spos : Pos} {it : XI W} {g : TG} {tz : TZ} {f : XS W} (ke : Ok e) (hc : X.calm = true) (hN : X.N.Nodup) (hy : X.N[i]? = some y) (hyl : X.env.scope.names.lookup y = some .local)
    (hsw : swapsWith (.ListComp elt [⟨tg, iter, [], 0⟩] scope pos) (some (.Name y py)) spos.line X.env = pure true) (hi : PI X tg iter (tSI cls X.K e Wx keepB it)) (ok : BlkOk X.N X.env.scope scope own)
    (hg : ∀ (s : Shared) (H : Hp) (C : Addr) (cl : List (Str × Addr)) (fp : List Addr), PG (X.blk s H scope (compEnvC scope cl C X.env) fp) tg g) (h3 : T3 cls X.K e g tz (own.map (·.2)))
    (he : ∀ (s : Shared) (H : Hp) (C : Addr) (cl : List (Str × Addr)) (fp : List Addr), PE (X.blk s H scope (compEnvC scope cl C X.env) fp) elt (tSX cls X.K e W00 f)) (hs : ∀ x, foldedSetIterable iter X.env x = pure x := by intro _; rfl) :
    PS X (.Assign [.Name y py] (.ListComp elt [⟨tg, iter, [], 0⟩] scope pos) spos) (tSS cls X.K e Wx (sSet i (xLcOO it tz f (own.map (·.2))))) :=
  ps_imp (ps_setLc hc hN hy hyl hsw hi ok hg (fun _ _ _ _ _ => sts_nil) he hs) fun D σ H q => lc_impOO ke h3 σ H _ (set_imp ke D σ H q)
/-! list(e), one's own -/
def listOf0 : D → Option (List PyData)
  | .p (.list xs) => some xs
  | .p (.tuple xs) => some xs
  | _ => none
def xListO (f : XF W) : XS W := fun δ w => (f δ w).bind fun x w1 => match listOf0 x with
  | some xs => .ok (.own xs) w1
  | none => .bad
theorem afterX_bind {K : PySem.W.Frag} {c : Cur wd} {σ : L2.St} {r : Res W D} {k : D → W → Res W Sl} {Q : VK} (kc : Ok c) (h : afterX cls K c σ Wx (r.bind k) Q) :
    after cls K c σ Wx r fun u H' => ∃ d c', c'.H = H' ∧ Bs c c' ∧ Dv cls K c' d u ∧ afterX cls K c' σ Wx (k d c'.w) Q := by
  cases r with
  | bad => exact h
  | exc n w' => exact h
  | ok d w' =>
    intro u c' hw b q
    refine ⟨d, c', rfl, b, q, ?_⟩
    have h' : afterX cls K c σ Wx (k d w') Q := h
    rw [hw]
    cases z : k d w' with
    | bad => rw [z] at h'; exact h'
    | exc n w2 => rw [z] at h'; exact fun c2 e2 b2 => h' c2 e2 (b.trans kc b2)
    | ok s w2 =>
      rw [z] at h'
      exact fun u2 c2 A e2 b2 q2 hn hA => h' u2 c2 A e2 (b.trans kc b2) q2 hn fun a ha => ⟨⟨(hA a ha).1.1, (hA a ha).1.2.1, fre_back (c' := c2) kc b (hA a ha).1.2.2⟩, (hA a ha).2⟩
theorem after_oneX {K : PySem.W.Frag} (ke : Ok e) {c : Cur wd} {δ : Ev} {σ : L2.St} {f : XF W} {k : D → W → Res W Sl} {Q : VK} (r : Rz cls K e c δ σ) (q : afterX cls K c σ Wx ((f δ c.w).bind k) Q) :
    tS cls K e Wx f σ c.H fun u H1 => ∃ x c2, c2.H = H1 ∧ Bs c c2 ∧ Rz cls K e c2 δ σ ∧ Dv cls K c2 x u ∧ afterX cls K c2 σ Wx (k x c2.w) Q :=
  tS_mk r (after_mono (afterX_bind r.ok q) fun u c1 b1 ⟨x, c1', e1, b1', q1, q2⟩ => ⟨x, c1', e1, b1', r.step ke b1', q1, q2⟩)
theorem x_listO {p : Pos} (ke : Ok e) (hm : X.mg "list" = none) (ha : PE X a (tS cls X.K e Wx f)) (hg : Gl X "list" := by rfl)
    (he : starEach (a :: []) X.env = (false, eval a X.env) :: starEach [] X.env := by rfl) (hpl : (backTo pos (starEach [] X.env)).any (·.1) = false := by rfl) : PE X (.Call (.Name "list" p) [a] [] pos) (tSX cls X.K e Wx (xListO f)) :=
  pe_imp (pe_callTy call_list_of hg hm bt_list (pa_cons ha pa_nil he) (by decide) (by decide) he hpl) fun σ H Q ⟨c, δ, eH, r, q⟩ => by
    rw [← eH]
    refine tS_imp (after_oneX (K := X.K) ke r q) fun u H1 ⟨x, c2, e2, b2, r2, q2, q3⟩ => ?_
    rw [← e2]
    unfold listOf0 at q3
    split at q3
    · rename_i h
      split at h
      · cases h
        obtain ⟨p, vs, rfl, h1, r1⟩ := dv_lst.mp q2
        exact ⟨p, vs, rfl, .inl (SqL.of (r2.ok.fh _ _ h1)), gives_own q3 r2.ok r1⟩
      · cases h
        obtain ⟨p, vs, rfl, h1, r1⟩ := dv_tup.mp q2
        exact ⟨p, vs, rfl, .inr (SqT.of (r2.ok.fh _ _ h1)), gives_own q3 r2.ok r1⟩
      · cases h
    · exact q3.elim
end
end Z

set_option Elab.async false
set_option linter.all false
set_option maxRecDepth 100000
/-! # Z15: how the draws start -/
namespace Z
open PySem PySem.Spec PyProof.Rows L2
section
variable {X : Cx} {W : Type} {wd : WD W} {cls : Nat → Addr} {e : Cur wd} {Wx : WX} {tg ex a b d o : Expr} {pos pos' : Pos} {f h k : XF W} {g gs : XS W} {t : XB W} {i : Nat}
/-! the script -/
theorem dpAll_ints {K : PySem.W.Frag} {H : Hp} : ∀ ns : List Int, DpAll K H (ns.map V.int) (ns.map PyData.int)
  | [] => .nil
  | n :: ns => .cons (.int n) (dpAll_ints ns)
def gNeS : D → D → Option D
  | .scr ns, .p b => if eqOk (.list (ns.map .int)) b = true then some (.p (.bool (!PyData.eqv (.list (ns.map .int)) b))) else none
  | _, _ => none
theorem og_neS (hu : X.A.units + 64 < cLine) : OpG X cls wd (compareOp .NotEq) gNeS := by
  intro pins s σ H u v p p' Q I rx ry ⟨c, x, y, eH, k, qx, qy, q⟩
  unfold gNeS at q
  split at q
  · rename_i ns b
    by_cases z : eqOk (.list (ns.map .int)) b = true
    · rw [if_pos z] at q
      simp only [eqOk, Bool.and_eq_true, decide_eq_true_eq] at z
      subst eH
      obtain ⟨a, rfl, sq⟩ := qx
      obtain ⟨as, k1⟩ := Dp.reads I (.list (ns.map .int)) (.ref a) p (.lst (sqL_mono k.fh sq) (dpAll_ints ns)) rx
      obtain ⟨bs, k2⟩ := Dp.reads I b v p' (Dq.dp k.fh b v qy) ry
      exact SeqAt.compareNe_reads k1 k2 z.1.1 z.1.2 (by omega) ⟨.bl _, c.H, I, rfl, gives_v q k (dv_bl.mpr rfl)⟩
    · rw [if_neg z] at q; exact gives_no q
  · exact gives_no q
def xListS (f : XF W) : XS W := fun δ w => (f δ w).bind fun x w1 => match x with
  | .scr ns => .ok (.own (ns.map .int)) w1
  | _ => .bad
theorem x_listS {p : Pos} (ke : Ok e) (hm : X.mg "list" = none) (ha : PE X a (tS cls X.K e Wx f)) (hg : Gl X "list" := by rfl)
    (he : starEach (a :: []) X.env = (false, eval a X.env) :: starEach [] X.env := by rfl) (hpl : (backTo pos (starEach [] X.env)).any (·.1) = false := by rfl) : PE X (.Call (.Name "list" p) [a] [] pos) (tSX cls X.K e Wx (xListS f)) :=
  pe_imp (pe_callTy call_list_of hg hm bt_list (pa_cons ha pa_nil he) (by decide) (by decide) he hpl) fun σ H Q ⟨c, δ, eH, r, q⟩ => by
    rw [← eH]
    refine tS_imp (after_oneX (K := X.K) ke r q) fun u H1 ⟨x, c2, e2, b2, r2, q2, q3⟩ => ?_
    rw [← e2]
    cases x with
    | scr ns =>
      obtain ⟨p, rfl, sq⟩ := q2
      exact ⟨p, _, rfl, .inl (sqL_mono r2.ok.fh sq), gives_own q3 r2.ok (DqL.of_ints ns)⟩
    | _ => exact q3.elim
def xIfX (t : XB W) (g gs : XS W) : XS W := fun δ w => (t δ w).bind fun b w1 => if b = true then g δ w1 else gs δ w1
theorem afterX_B {K : PySem.W.Frag} {c : Cur wd} {σ : L2.St} {r : Res W Bool} {k : Bool → W → Res W Sl} {Q : VK} (kc : Ok c) (h : afterX cls K c σ Wx (r.bind k) Q) :
    afterB cls c σ Wx r fun u H' => ∃ c', c'.H = H' ∧ Bs c c' ∧ afterX cls K c' σ Wx (k u c'.w) Q := by
  cases r with
  | bad => exact h
  | exc n w' => exact h
  | ok d w' =>
    intro c' hw b
    refine ⟨c', rfl, b, ?_⟩
    have h' : afterX cls K c σ Wx (k d w') Q := h
    rw [hw]
    cases z : k d w' with
    | bad => rw [z] at h'; exact h'
    | exc n w2 => rw [z] at h'; exact fun c2 e2 b2 => h' c2 e2 (b.trans kc b2)
    | ok s w2 =>
      rw [z] at h'
      exact fun u2 c2 A e2 b2 q2 hn hA => h' u2 c2 A e2 (b.trans kc b2) q2 hn fun a ha => ⟨⟨(hA a ha).1.1, (hA a ha).1.2.1, fre_back (c' := c2) kc b (hA a ha).1.2.2⟩, (hA a ha).2⟩
theorem x_if (ke : Ok e) (hc : PT X d (tSB cls X.K e Wx t)) (ha : PE X a (tSX cls X.K e Wx g)) (hb : PE X b (tSX cls X.K e Wx gs)) : PE X (.IfExp d a b pos) (tSX cls X.K e Wx (xIfX t g gs)) :=
  pe_imp (pe_ifExp hc ha hb) fun σ H Q ⟨c, δ, eH, r, q⟩ => by
    rw [← eH]
    unfold xIfX at q
    have q' := afterX_B (K := X.K) r.ok q
    refine tSB_imp (⟨c, δ, rfl, r, q'⟩ : tSB cls X.K e Wx t σ c.H _) fun x H1 ⟨c2, e2, b2, q2⟩ => ?_
    have r2 := r.step ke b2
    rw [← e2]
    cases x with
    | true => rw [if_pos rfl] at q2 ⊢; exact ⟨c2, δ, rfl, r2, q2⟩
    | false => rw [if_neg Bool.false_ne_true] at q2 ⊢; exact ⟨c2, δ, rfl, r2, q2⟩
end
section
variable {X : Cx} {cls : Nat → Addr} {e : Cur WW} {Wx : WX} {tg ex a b d o : Expr} {pos pos' : Pos} {g : XS Wd}
def sStart (g : XS Wd) : SF Wd := fun δ w => match g δ w with
  | .ok (.own xs) none => match ints? xs with
    | some ns => .rt (.obj 0) (some (ns, 0))
    | none => .bad
  | _ => .bad
theorem ss_start {p2 : Pos} {j : Nat} (ke : Ok e) (ha : PE X a (tSX cls X.K e Wx g)) (hs : starEach [a, .Constant (.int 0) j p2] X.env = (false, eval a X.env) :: starEach [.Constant (.int 0) j p2] X.env := by rfl) (hs2 : starEach [.Constant (.int 0) j p2] X.env = (false, eval (.Constant (.int 0) j p2) X.env) :: starEach [] X.env := by rfl) :
    PS X (.Return (some (.List [a, .Constant (.int 0) j p2] pos)) pos') (tSS cls X.K e Wx (sStart g)) :=
  ps_imp (ps_ret (pe_lst (pa_cons ha (pa_cons pe_int pa_nil hs2) hs))) fun D σ H ⟨c, δ, eH, r, q⟩ => by
    subst eH
    refine ⟨c, δ, rfl, r, ?_⟩
    unfold sStart at q
    cases z : g δ c.w with
    | bad => rw [z] at q; exact q.elim
    | exc n w => rw [z] at q; exact q.elim
    | ok s w =>
      rw [z] at q
      cases s with
      | no => exact q.elim
      | v _ => exact q.elim
      | own2 _ => exact q.elim
      | own xs =>
        cases w with
        | some _ => exact q.elim
        | none =>
          dsimp only at q
          cases zi : ints? xs with
          | none => rw [zi] at q; exact q.elim
          | some ns =>
            rw [zi] at q
            have exs := ints?_eq zi
            subst exs
            intro u c1 A hw b ⟨p, vs, hA, hu, g1, g2⟩ hn hfr
            cases hu
            have g3 := g2.ints
            subst g3
            have hp : p ∈ A := by rw [hA]; exact List.mem_cons_self
            obtain ⟨⟨f1, f2, f3⟩, f4⟩ := hfr p hp
            refine ⟨by simp; rw [sizeLine_eq]; omega, fun p2 hp2 => ?_⟩
            have k1 := b.ok
            have ek : c1.k = none := by
              have := k1.wr
              rw [hw] at this
              cases zk : c1.k with
              | none => rfl
              | some ab => rw [zk] at this; exact this.elim
            have ne : p ≠ p2 := fun z => by rw [← z] at hp2; exact f4 hp2
            have hF2 : c1.F p2 = none := k1.fnone hp2
            let c2 : Cur WW := ⟨some (p2, p), c1.F, some (ns, 0), upd c1.H p2 (.lst [.ref p, .int 0])⟩
            have b2 : Bs c c2 := by
              have ec : c.k = none := by
                cases zk : c.k with
                | none => rfl
                | some ab =>
                  have h1 : wHd c.k 0 = some ab.1 := by rw [zk]; rfl
                  have h2 : wHd c1.k 0 = some ab.1 := b.kh 0 _ h1
                  rw [ek] at h2; cases h2
              refine ⟨⟨fun x o hx => ?_, ?_, fun x hx => ?_⟩, b.ff, fun x o hx1 hx => ?_, b.fn, fun n x hx => ?_, fun x hx => ?_, fun x hx => ?_⟩
              · show upd c1.H p2 _ x = some o
                rw [upd_ne (ne_of_none hx hF2)]; exact k1.fh _ _ hx
              · exact ⟨upd_same, (upd_ne ne).trans g1⟩
              · rcases hx with rfl | rfl
                · exact ⟨hF2, by show upd c1.H x _ x ≠ none; rw [upd_same]; exact fun z => by cases z⟩
                · exact ⟨f1, by show upd c1.H p2 _ x ≠ none; rw [upd_ne ne, g1]; exact fun z => by cases z⟩
              · show upd c1.H p2 _ x = some o
                have := b.hh x o hx1 hx
                rw [upd_ne (ne_of_none this hp2)]; exact this
              · have hx : wHd c.k n = some x := hx
                rw [ec] at hx; cases hx
              · refine .inr ?_
                rcases hx with rfl | rfl
                · exact fre_back (c' := c1) r.ok b hp2
                · exact f3
              · have hx : wFp c.k x := hx
                rw [ec] at hx; exact hx.elim
            exact q (.ref p2) c2 rfl (r.bs.trans ke b2) ⟨p2, rfl, rfl⟩
end
end Z
namespace Z
open PySem PySem.Spec PyProof.Rows L2
section
variable {X : Cx} {W : Type} {wd : WD W} {cls : Nat → Addr} {e : Cur wd} {Wx : WX} {ex : Expr} {f : XF W}
theorem poN : PoZ X cls e Wx none none := trivial
theorem poS (h : PE X ex (tS cls X.K e Wx f)) : PoZ X cls e Wx (some ex) (some f) := h
end
end Z

set_option Elab.async false
set_option linter.all false
set_option maxRecDepth 100000
/-! # Z16: the law's end -/
namespace Z
open PySem PySem.Spec PyProof.Rows L2
theorem walk_Z {l : PySem.W.OpenLaw} {k : Nat} {q : Program} {loose : List Str} {XP : (Str → Option Value) → Heap → Prop} {YP : World → Heap → Prop} {d : DefRec} {fz : FZ Wd}
    (hn : l.most = some 63) (hdf : d.params.defaults = []) (hr : Room k callerA)
    (F : ∀ (w : World) (mg : Str → Option Value) (fa : Addr) (h : Heap), YP w h → h.Ns mainGlobals mg → mg d.name = some (.ref fa) → ∃ (K : PySem.W.Frag) (cls : Nat → Addr) (fd : FuncData), K.In h ∧ (∀ (s : Shared) (u : Value), BindsTo s fd ⟨[u], []⟩ [("_law_script", u)]) ∧
      ∀ base : Heap, K.In base → base.Ns mainGlobals mg → FnOk l.prog w K mg base (L2.CX l.prog w) k fa fd ["_law_script"] (spZ cls K WW 1 fz))
    (hm : ∀ ns : List Int, ns.length ≤ 63 → ∃ w', fz [.scr ns] none = .ok (.p (.bool true)) w') :
    PySem.W.WalkO q loose XP YP l.row.toRowW d [] (fun f vs => PySem.call f vs) := by
  refine Att.attach_call hn hdf fun w s₀ s₁ mg mb fa o pm cd doc a vs ns G Y ho hd hcd hmg hobj hints hlen hg => ?_
  obtain ⟨K, cls, fd, KX, hb, hF⟩ := F w mg fa _ Y G.T.g hmg
  refine law_call KX G.T.g G.T.b G.T.builtins G.T.nolimit hg hobj hints (Nat.le_trans hlen (by decide)) hr hF hb (fun H hO hS => ?_) fun H e s' => ?_
  · obtain ⟨w', e⟩ := hm ns hlen
    refine ⟨⟨none, H, none, H⟩, [.scr ns], rfl, ⟨Sub.refl _, trivial, fun _ h => h.elim⟩, ⟨_, [], rfl, ⟨a, rfl, hS⟩, rfl⟩, rfl, ?_⟩
    show afterF cls K _ (fz [.scr ns] none) _ _
    rw [e]
    exact fun u c' _ _ q => dv_bl.mp q
  · rintro ⟨_, _, _, _, _, _, _, _, _, _, _, _, z⟩
    exact z
section
variable {K : PySem.W.Frag} {h : Heap} {mg : Str → Option Value}
theorem df_of (X : K.In h) (G : h.Ns mainGlobals mg) {x : Str} {st : Stmt} (hg : (He.Fa.glo x).ok K = true) (hk : (He.Fa.keep x).ok K = true)
    (hd : ∃ oc od osl kV doc pm an cdv ct, K.lookup (He.fAd K (x, none)) = some ⟨oc, od, .func (PySem.W.fnOf x x (defArgs st) (defBody st) (defScope st) .none kV doc pm an cdv ct), osl⟩ ∧ PySem.W.codeIn K cdv x = true) : Df K mg x st := by
  obtain ⟨oc, od, osl, kV, doc, pm, an, cdv, ct, h1, h2⟩ := hd
  exact ⟨He.ga K x, _, He.glo_ok X G hg, fun_mk h1 h2 (He.keep_ok hk)⟩
theorem exC_of (X : K.In h) (G : h.Ns mainGlobals mg) {x : Str} (hg : (He.Fa.glo x).ok K = true) (hk : (He.Fa.exc x).ok K = true) : ExC K mg x (He.ga K x) := by
  obtain ⟨h1, h2, h3, h4⟩ := He.exc_ok hk
  exact ⟨He.glo_ok X G hg, h1, h2, h3, h4⟩
def zBt : List Str := ["len", "range", "isinstance", "sum", "tuple", "list", "all", "any", "enumerate", "zip", "sorted", "min", "max", "set", "str", "int", "bool", "ValueError"]
theorem bt_of (X : K.In h) (G : h.Ns mainGlobals mg) (hf : ∀ x ∈ zBt, (He.Fa.free x).ok K = true) : Bt mg := by
  have f : ∀ x, x ∈ zBt → mg x = none := fun x hx => He.free_ok X G (hf x hx)
  exact ⟨f _ (by decide), f _ (by decide), f _ (by decide), f _ (by decide), f _ (by decide), f _ (by decide), f _ (by decide), f _ (by decide), f _ (by decide), f _ (by decide), f _ (by decide), f _ (by decide), f _ (by decide), f _ (by decide), f _ (by decide), f _ (by decide), f _ (by decide), f _ (by decide)⟩
def zExc : List Str := ["BadSheet", "BadTable", "BadSums", "BadNumber", "BadChanges", "BadText", "NotFound", "SheetError"]
def zCls (K : PySem.W.Frag) (i : Nat) : Addr := He.ga K (zExc.getD i "")
theorem fact_of {fa : List He.Fa} {fn : List He.FnD} (c : He.SaysE fa fn K) {f : He.Fa} (h : f ∈ fa) : f.ok K = true := by
  obtain ⟨i, hi⟩ := List.getElem?_of_mem h
  exact c.fact i hi
end
end Z

set_option Elab.async false
set_option linter.all false
set_option maxRecDepth 100000
/-! # Z17: len(set(tuples)) -/
namespace Z
open PySem PySem.Spec PyProof.Rows L2
def tups? : List PyData → Option (List (List Int))
  | [] => some []
  | .tuple xs :: r => (ints? xs).bind fun ns => (tups? r).map (ns :: ·)
  | _ => none
/-- without what comes again -/
def ddp {α : Type} [DecidableEq α] : List α → List α
  | [] => []
  | x :: r => if x ∈ r then ddp r else x :: ddp r
theorem mem_ddp {α : Type} [DecidableEq α] {x : α} : ∀ {l : List α}, x ∈ ddp l ↔ x ∈ l
  | [] => Iff.rfl
  | y :: r => by
    unfold ddp
    split
    · rename_i h
      rw [mem_ddp, List.mem_cons]
      exact ⟨.inr, fun q => q.elim (fun e => e ▸ h) id⟩
    · rw [List.mem_cons, List.mem_cons, mem_ddp]
theorem nodup_ddp {α : Type} [DecidableEq α] : ∀ l : List α, (ddp l).Nodup
  | [] => List.nodup_nil
  | y :: r => by
    unfold ddp
    split
    · exact nodup_ddp r
    · rename_i h
      exact List.nodup_cons.mpr ⟨fun q => h (mem_ddp.mp q), nodup_ddp r⟩
theorem ddp_nodup {α : Type} [DecidableEq α] : ∀ {l : List α}, l.Nodup → ddp l = l
  | [], _ => rfl
  | y :: r, h => by
    obtain ⟨h1, h2⟩ := List.nodup_cons.mp h
    unfold ddp
    rw [if_neg h1, ddp_nodup h2]
theorem tups_dq {K : PySem.W.Frag} {F H : Hp} (s : Sub F H) : ∀ {ds : List PyData} {vs : List V} {ks : List (List Int)}, tups? ds = some ks → DqL F ds vs → ∃ ps : List (Addr × List Int), vs = ps.map (fun p => V.ref p.1) ∧ ps.map (·.2) = ks ∧ ∀ p ∈ ps, SqT K H p.1 (p.2.map V.int)
  | [], vs, ks, h, q => by
    rw [q.unnil]
    cases h
    exact ⟨[], rfl, rfl, fun p h => by cases h⟩
  | d :: ds, vs, ks, h, q => by
    obtain ⟨u, us, rfl, q1, q2⟩ := q.uncons
    cases d with
    | tuple xs =>
      have h : ((ints? xs).bind fun ns => (tups? ds).map (ns :: ·)) = some ks := h
      cases e1 : ints? xs with
      | none => rw [e1] at h; cases h
      | some ns =>
        rw [e1] at h
        cases e2 : tups? ds with
        | none => rw [e2] at h; cases h
        | some ks' =>
          rw [e2] at h
          cases h
          obtain ⟨ps, g1, g2, g3⟩ := tups_dq (K := K) s e2 q2
          simp only [Dq] at q1
          obtain ⟨a, vs, rfl, f1, f2⟩ := q1
          rw [ints?_eq e1] at f2
          rw [f2.ints] at f1
          refine ⟨(a, ns) :: ps, by rw [g1]; rfl, by rw [List.map_cons, g2], fun p hp => ?_⟩
          rcases List.mem_cons.mp hp with rfl | hp
          · exact SqT.of (s _ _ f1)
          · exact g3 p hp
    | _ => cases h
def gLenSet : D → Option D
  | .p (.list xs) => (tups? xs).bind fun ks => if ks.length < 64 then some (.p (.int ((ddp ks).length : Int))) else none
  | _ => none
section
variable {X : Cx} {W : Type} {wd : WD W} {cls : Nat → Addr} {e : Cur wd} {Wx : WX} {a : Expr} {f : XF W}
def tLenSetT (K : PySem.W.Frag) (ta : TE) : TE := fun σ H Q => ta σ H fun x H1 => ∃ (l : Addr) (ks : List (Addr × List Int)), x = V.ref l ∧ SqL K H1 l (ks.map fun p => V.ref p.1) ∧ (∀ p ∈ ks, SqT K H1 p.1 (p.2.map V.int)) ∧ ks.length < 64 ∧ Q (.int ((ddp (ks.map (·.2))).length : Int)) H1
theorem pe_lenSetT {ta : TE} {p p2 q pos : Pos} (hc : X.calm = true) (hu : X.A.units + 64 < cLine) (hg : Gl X "len") (hm : X.mg "len" = none) (hg2 : Gl X "set") (hm2 : X.mg "set" = none) (ha : PE X a ta)
    (na : starEach [a] X.env = (false, eval a X.env) :: starEach [] X.env := by rfl) : PE X (.Call (.Name "len" p) [.Call (.Name "set" p2) [a] [] q] [] pos) (tLenSetT X.K ta) := by
  refine ⟨fun pins s σ H Q I h => ?_⟩
  refine Call_ (ld_blt I hg hm PySem.boot_len ?_)
  refine PyProof.Rows.callWith_builtin1 (PyProof.Rows.args_cons ?_ rfl) rfl rfl
  refine Call_ (ld_blt I hg2 hm2 PyProof.Rows.boot_set ?_)
  refine PyProof.Rows.callWith_type1 (PyProof.Rows.args_cons (thn (ha.run pins s σ H _ I h) fun v s1 ⟨x, H1, I1, r1, q1⟩ => PyProof.Rows.args_nil ?_) na) na rfl
  obtain ⟨l, ks, rfl, hq, hk, hf, q1⟩ := q1
  cases r1
  obtain ⟨its, rv, pl, hz⟩ := I1.list hq
  refine call_set_tups (P := X.prog) (w := X.w) ks (I1.ok.hd hc) pl.isList (by simpa using refs_of_vals rv) (fun p hp => I1.isT (hk p hp)) hf (by omega) fun h' tk L es ep t R g k => ?_
  refine PyProof.Rows.args_nil ?_
  obtain ⟨o, ho, hex, hd⟩ := R.ob
  have I2 : Inv X pins σ H1 { s1 with heap := h', toks := tk } := I1.kept fun b o e => k b o e
  have hsz : es.size = L.length := by
    have := congrArg List.length R.rows
    unfold rowsOf at this
    rw [Array.length_toList, List.length_map] at this
    exact this
  have hL : L.length = (ddp (ks.map (·.2))).length := by
    rw [← List.length_map (f := fun (p : Addr × List Int) => p.2)]
    refine List.Perm.length_eq ((List.perm_ext_iff_of_nodup R.nd (nodup_ddp _)).mpr fun z => ?_)
    rw [mem_ddp]
    constructor
    · intro hz
      obtain ⟨p, hp, rfl⟩ := List.mem_map.mp hz
      exact List.mem_map.mpr ⟨p, List.mem_of_mem_take (g.sub p hp), rfl⟩
    · intro hz
      obtain ⟨p, hp, rfl⟩ := List.mem_map.mp hz
      exact g.all p (by rw [List.take_length]; exact hp)
  refine call_len_set ho hex hd (SetTR.fits (s := { s1 with heap := h', toks := tk }) R) (by have := R.few; rw [hsz]; omega) ⟨.int ((ddp (ks.map (·.2))).length : Int), H1, I2.tok _, ⟨_, by rw [hsz, hL]⟩, q1⟩
theorem s_lenSet {p p2 q pos : Pos} (ke : Ok e) (hc : X.calm = true) (hu : X.A.units + 64 < cLine) (hm : X.mg "len" = none) (hm2 : X.mg "set" = none) (ha : PE X a (tS cls X.K e Wx f)) (hg : Gl X "len" := by rfl) (hg2 : Gl X "set" := by rfl)
    (na : starEach [a] X.env = (false, eval a X.env) :: starEach [] X.env := by rfl) : PE X (.Call (.Name "len" p) [.Call (.Name "set" p2) [a] [] q] [] pos) (tS cls X.K e Wx (x1 gLenSet f)) :=
  pe_imp (pe_lenSetT hc hu hg hm hg2 hm2 ha na) fun σ H Q ⟨c, δ, eH, r, q⟩ => by
    rw [← eH]
    refine tS_imp (after_one ke r q) fun u H1 ⟨x, c2, e2, b2, r2, q2, q3⟩ => ?_
    replace q3 := after_opt q3
    rw [← e2]
    unfold gLenSet at q3
    split at q3
    · rename_i xs
      obtain ⟨l, vs, rfl, h1, h2⟩ := dv_lst.mp q2
      cases z : tups? xs with
      | none => rw [z] at q3; exact gives_no q3
      | some ks =>
        rw [z] at q3
        dsimp only [Option.bind] at q3
        by_cases hl : ks.length < 64
        · rw [if_pos hl] at q3
          obtain ⟨ps, g1, g2, g3⟩ := tups_dq (K := X.K) r2.ok.fh z h2
          subst g1 g2
          exact ⟨l, ps, rfl, SqL.of (r2.ok.fh _ _ h1), g3, by rw [List.length_map] at hl; exact hl, gives_v q3 r2.ok (dv_int.mpr rfl)⟩
        · rw [if_neg hl] at q3; exact gives_no q3
    · exact gives_no q3
end
end Z

set_option Elab.async false
set_option linter.all false
set_option maxRecDepth 100000
/-! # Z18: memo tables, a world: dicts whose keys are nested tuples of ints -/
namespace Z
open PySem PySem.Spec PyProof.Rows L2
mutual
def nk : PyData → Option NestedKey
  | .none => some .none
  | .int i => some (.num i)
  | .tuple xs => (nkL xs).map .tup
  | _ => none
def nkL : List PyData → Option (List NestedKey)
  | [] => some []
  | x :: xs => (nk x).bind fun k => (nkL xs).map (k :: ·)
end
mutual
theorem nested_of {X : Cx} {pins : List (Addr × Obj)} {σ : L2.St} {H F : Hp} {s : Shared} (I : Inv X pins σ H s) (sb : Sub F H) : ∀ (d : PyData) (k : NestedKey) (v : V) (u : Value), nk d = some k → Dq F d v → RelV v u → NestedIs s.heap k u
  | .none, k, v, u, h, q, r => by
    simp only [nk, Option.some.injEq] at h
    simp only [Dq] at q
    subst h; subst q
    cases r
    exact .none
  | .int i, k, v, u, h, q, r => by
    simp only [nk, Option.some.injEq] at h
    simp only [Dq] at q
    subst h; subst q
    obtain ⟨t, rfl⟩ := r
    exact .int i t
  | .tuple xs, k, v, u, h, q, r => by
    simp only [nk, Option.map_eq_some_iff] at h
    obtain ⟨ks, h1, rfl⟩ := h
    simp only [Dq] at q
    obtain ⟨a, vs, rfl, f1, f2⟩ := q
    cases r
    obtain ⟨its, rv, ⟨o, ho, hc, n, hd⟩, _⟩ := I.tuple (SqT.of (sb _ _ f1))
    exact .tup ho hc hd (by simpa using nestedL_of I sb xs ks vs its h1 f2 rv)
  | .bool _, _, _, _, h, _, _ => by simp [nk] at h
  | .str _, _, _, _, h, _, _ => by simp [nk] at h
  | .list _, _, _, _, h, _, _ => by simp [nk] at h
  | .dict _, _, _, _, h, _, _ => by simp [nk] at h
theorem nestedL_of {X : Cx} {pins : List (Addr × Obj)} {σ : L2.St} {H F : Hp} {s : Shared} (I : Inv X pins σ H s) (sb : Sub F H) : ∀ (ds : List PyData) (ks : List NestedKey) (vs : List V) (us : List Value), nkL ds = some ks → DqL F ds vs → Vals vs us → NestedAll s.heap ks us
  | [], ks, vs, us, h, q, r => by
    simp only [nkL, Option.some.injEq] at h
    subst h
    rw [q.unnil] at r
    cases r
    exact .nil
  | d :: ds, ks, vs, us, h, q, r => by
    simp only [nkL] at h
    cases h1 : nk d with
    | none => rw [h1] at h; cases h
    | some k =>
      rw [h1] at h
      simp only [Option.bind_some, Option.map_eq_some_iff] at h
      obtain ⟨ks', h2, rfl⟩ := h
      obtain ⟨u, us', rfl, q1, q2⟩ := q.uncons
      cases r with
      | cons r1 r2 => exact .cons (nested_of I sb d k u _ h1 q1 r1) (nestedL_of I sb ds ks' us' _ h2 q2 r2)
end
/-! ## the dict's object -/
abbrev Ent := NestedKey × Addr × V
abbrev EntV := NestedKey × Addr × Value
def EntsR : List Ent → List EntV → Prop
  | [], xs => xs = []
  | e :: es, xs => ∃ x r, xs = x :: r ∧ e.1 = x.1 ∧ e.2.1 = x.2.1 ∧ RelV e.2.2 x.2.2 ∧ EntsR es r
def DcP (P : Program) (w : World) (a : Addr) (ents : List Ent) (h : Heap) : Prop :=
  ∃ (xs : List EntV) (o : Obj) (es : Array DictEntry) (ep : Nat), EntsR ents xs ∧ h.get? a = some o ∧ o.ExactDict ∧ o.data = .dict es ep ∧ es.toList = xs.map (entryOfKey (nestedKind P w)) ∧ (xs.map (·.1)).Nodup ∧ (a == sysModules) = false
def DcZ (P : Program) (w : World) (a : Addr) (ents : List Ent) : HO := .ext (DcP P w a ents)
theorem dcZ_ok {P : Program} {w : World} {H : Hp} {h : Heap} {a : Addr} {ents : List Ent} (x : DcP P w a ents h) : ObjOk P w H h a (DcZ P w a ents) := by
  refine ⟨x, ?_, fun h1 h2 p k => ?_⟩
  · obtain ⟨xs, o, es, ep, _, ho, _⟩ := x
    exact ⟨o, ho⟩
  · obtain ⟨xs, o, es, ep, g1, g2, g3⟩ := p
    exact ⟨xs, o, es, ep, g1, k o g2, g3⟩
theorem entsR_len : ∀ {es : List Ent} {xs : List EntV}, EntsR es xs → xs.length = es.length
  | [], _, h => by
    have h : _ = [] := h
    rw [h]; rfl
  | e :: es, _, ⟨x, r, h, _, _, _, t⟩ => by rw [h, List.length_cons, List.length_cons, entsR_len t]
theorem entsR_mem : ∀ {es : List Ent} {xs : List EntV}, EntsR es xs → ∀ x ∈ xs, ∃ e ∈ es, e.1 = x.1 ∧ e.2.1 = x.2.1 ∧ RelV e.2.2 x.2.2
  | [], _, h, x, hx => by
    have h : _ = [] := h
    rw [h] at hx; cases hx
  | e :: es, _, ⟨y, r, h, h1, h2, h3, t⟩, x, hx => by
    rw [h] at hx
    rcases List.mem_cons.mp hx with rfl | hx
    · exact ⟨e, List.mem_cons_self, h1, h2, h3⟩
    · obtain ⟨e', m, g⟩ := entsR_mem t x hx
      exact ⟨e', List.mem_cons_of_mem _ m, g⟩
def lookE (es : List Ent) (k : NestedKey) : Option (Addr × V) := (es.find? fun e => decide (e.1 = k)).map (·.2)
theorem entsR_look (k : NestedKey) : ∀ {es : List Ent} {xs : List EntV}, EntsR es xs → (atKey xs k).isSome = (lookE es k).isSome ∧ ∀ p, lookE es k = some p → ∃ q, atKey xs k = some q ∧ RelV p.2 q.2
  | [], _, h => by
    have h : _ = [] := h
    rw [h]
    exact ⟨rfl, fun p h => by cases h⟩
  | e :: es, _, ⟨x, r, h, h1, h2, h3, t⟩ => by
    rw [h]
    unfold lookE atKey
    by_cases z : e.1 = k
    · have z' : x.1 = k := h1 ▸ z
      rw [List.find?_cons_of_pos (by simpa using z'), List.find?_cons_of_pos (by simpa using z)]
      exact ⟨rfl, fun p hp => by cases hp; exact ⟨_, rfl, h3⟩⟩
    · have z' : ¬x.1 = k := fun q => z (h1.trans q)
      rw [List.find?_cons_of_neg (by simpa using z'), List.find?_cons_of_neg (by simpa using z)]
      exact entsR_look k t
theorem entsR_snoc {k : NestedKey} {b : Addr} {v : V} {u : Value} (hr : RelV v u) : ∀ {es : List Ent} {xs : List EntV}, EntsR es xs → EntsR (es ++ [(k, b, v)]) (xs ++ [(k, b, u)])
  | [], _, h => by
    have h : _ = [] := h
    rw [h]
    exact ⟨_, _, rfl, rfl, rfl, hr, rfl⟩
  | e :: es, _, ⟨x, r, h, h1, h2, h3, t⟩ => by
    rw [h]
    exact ⟨x, _, rfl, h1, h2, h3, entsR_snoc hr t⟩
/-! ## the world -/
abbrev Memo := List (PyData × PyData)
def EntF (F : Hp) : List Ent → Memo → Prop
  | [], m => m = []
  | e :: es, m => ∃ kv r, m = kv :: r ∧ nk kv.1 = some e.1 ∧ e.1.depth ≤ 8 ∧ Dq F kv.1 (.ref e.2.1) ∧ Dq F kv.2 e.2.2 ∧ EntF F es r
theorem EntF.mono {F F' : Hp} (s : Sub F F') : ∀ {es : List Ent} {m : Memo}, EntF F es m → EntF F' es m
  | [], _, h => h
  | _ :: _, _, ⟨kv, r, h, h1, h2, h3, h4, t⟩ => ⟨kv, r, h, h1, h2, Dq.mono s _ _ h3, Dq.mono s _ _ h4, t.mono s⟩
theorem EntF.mem {F : Hp} : ∀ {es : List Ent} {m : Memo}, EntF F es m → ∀ e ∈ es, ∃ d, nk d = some e.1 ∧ e.1.depth ≤ 8 ∧ Dq F d (.ref e.2.1)
  | [], _, _, e, he => by cases he
  | x :: es, _, ⟨kv, r, h, h1, h2, h3, h4, t⟩, e, he => by
    rcases List.mem_cons.mp he with rfl | he
    · exact ⟨kv.1, h1, h2, h3⟩
    · exact t.mem e he
def lookM (m : Memo) (k : NestedKey) : Option PyData := (m.find? fun kv => decide (nk kv.1 = some k)).map (·.2)
theorem EntF.look {F : Hp} (k : NestedKey) : ∀ {es : List Ent} {m : Memo}, EntF F es m → (lookE es k).isSome = (lookM m k).isSome ∧ ∀ d, lookM m k = some d → ∃ p, lookE es k = some p ∧ Dq F d p.2
  | [], _, h => by
    have h : _ = [] := h
    rw [h]
    exact ⟨rfl, fun p h => by cases h⟩
  | e :: es, _, ⟨kv, r, h, h1, h2, h3, h4, t⟩ => by
    rw [h]
    unfold lookE lookM
    by_cases z : e.1 = k
    · have z' : nk kv.1 = some k := by rw [h1, z]
      rw [List.find?_cons_of_pos (by simpa using z), List.find?_cons_of_pos (by simpa using z')]
      exact ⟨rfl, fun p hp => by cases hp; exact ⟨_, rfl, h4⟩⟩
    · have z' : ¬nk kv.1 = some k := fun q => z (by rw [h1] at q; exact Option.some.inj q)
      rw [List.find?_cons_of_neg (by simpa using z), List.find?_cons_of_neg (by simpa using z')]
      exact t.look k
theorem EntF.snoc {F : Hp} {kv : PyData × PyData} {e : Ent} (h1 : nk kv.1 = some e.1) (h2 : e.1.depth ≤ 8) (h3 : Dq F kv.1 (.ref e.2.1)) (h4 : Dq F kv.2 e.2.2) : ∀ {es : List Ent} {m : Memo}, EntF F es m → EntF F (es ++ [e]) (m ++ [kv])
  | [], _, h => by
    have h : _ = [] := h
    rw [h]
    exact ⟨kv, [], rfl, h1, h2, h3, h4, rfl⟩
  | _ :: _, _, ⟨kv', r, h, g1, g2, g3, g4, t⟩ => by
    rw [h]
    exact ⟨kv', _, rfl, g1, g2, g3, g4, t.snoc h1 h2 h3 h4⟩
def MemAt (P : Program) (w : World) (F H : Hp) (a : Addr) (m : Memo) : Prop := ∃ ents, H a = some (DcZ P w a ents) ∧ EntF F ents m ∧ ents.length ≤ lim
def relM (P : Program) (w : World) (k : List Addr) (ms : List Memo) (F H : Hp) : Prop := k.Nodup ∧ k.length = ms.length ∧ ∀ (i : Nat) a m, k[i]? = some a → ms[i]? = some m → MemAt P w F H a m
def WM (P : Program) (w : World) : WD (List Memo) where
  Key := List Addr
  rel := relM P w
  fp := fun k x => x ∈ k
  hd := fun k n => k[n]?
  stab := fun k ms F F' H H' h s q => ⟨h.1, h.2.1, fun i a m h1 h2 => by
    obtain ⟨ents, g1, g2, g3⟩ := h.2.2 i a m h1 h2
    exact ⟨ents, (q a (List.mem_of_getElem? h1)).trans g1, g2.mono s, g3⟩⟩
/-! a def that knows memo tables of its own alone, called elsewhere -/
section
variable {W : Type} {wd : WD W} {cls : Nat → Addr} {n : Nat} {f : Addr} {fd : FuncData} {ps : List Str} {k : Nat}
def liftM (fz : FZ (List Memo)) : FZ W := fun ds w => if ds.all noObj = true then match fz ds [] with
    | .ok d _ => if noObj d = true then .ok d w else .bad
    | .exc n _ => .exc n w
    | .bad => .bad
  else .bad
def cuM (P : Program) (w : World) (c : Cur wd) : Cur (WM P w) := ⟨([] : List Addr), c.F, [], c.H⟩
theorem cuM_ok {P : Program} {w : World} {c : Cur wd} (k : Ok c) : Ok (cuM P w c) := ⟨k.fh, ⟨List.nodup_nil, rfl, fun i a m h _ => by cases h⟩, fun a h => by cases (show a ∈ ([] : List Addr) from h)⟩
theorem cuM_bs {P : Program} {w : World} {c : Cur wd} {c' : Cur (WM P w)} (k : Ok c) (b : Bs (cuM P w c) c') : Bs c ⟨c.k, c'.F, c.w, c'.H⟩ where
  ok := ⟨b.ok.fh, wd.stab _ _ _ _ _ _ k.wr b.ff fun a ha => by
      obtain ⟨u, hu⟩ := (none_or (c.H a)).resolve_left (k.wf a ha).2
      show c'.H a = c.H a
      rw [hu]; exact b.hh a u (fun z => by cases (show a ∈ ([] : List Addr) from z)) hu, fun a ha => by
      obtain ⟨h1, h2⟩ := k.wf a ha
      refine ⟨?_, fun z => ?_⟩
      · rcases none_or (c'.F a) with q | ⟨v, q⟩
        · exact q
        · rcases b.fn a (by rw [q]; exact fun z => by cases z) with z | z
          · exact absurd h1 z
          · exact absurd z h2
      · obtain ⟨u, hu⟩ := (none_or (c.H a)).resolve_left h2
        have := b.hh a u (fun z => by cases (show a ∈ ([] : List Addr) from z)) hu
        have z : c'.H a = none := z
        rw [z] at this; cases this⟩
  ff := b.ff
  hh := fun a o _ h => b.hh a o (fun z => by cases (show a ∈ ([] : List Addr) from z)) h
  fn := b.fn
  kh := fun _ _ h => h
  kf := fun _ h => .inl h
  kg := fun _ h => h
theorem cuM_dv {P : Program} {w : World} {K : PySem.W.Frag} {c : Cur wd} {d : D} {v : V} (hn : noObj d = true) (h : Dv cls K c d v) : Dv cls K (cuM P w c) d v := by
  cases d with
  | p d => exact h
  | exc n => exact h
  | obj n => cases hn
  | scr ns => exact h
  | opq => trivial
theorem dv_cuM {P : Program} {w : World} {K : PySem.W.Frag} {c : Cur wd} {c' : Cur (WM P w)} {d : D} {v : V} (hn : noObj d = true) (h : Dv cls K c' d v) : Dv cls K (⟨c.k, c'.F, c.w, c'.H⟩ : Cur wd) d v := by
  cases d with
  | p d => exact h
  | exc n => exact h
  | obj n => cases hn
  | scr ns => exact h
  | opq => trivial
theorem cuM_dvl {P : Program} {w : World} {K : PySem.W.Frag} {c : Cur wd} : ∀ {ds : List D} {vs : List V}, ds.all noObj = true → DvL cls K c ds vs → DvL cls K (cuM P w c) ds vs
  | [], _, _, h => h
  | d :: ds, vs, hn, ⟨u, us, e1, q, t⟩ => by
    rw [List.all_cons, Bool.and_eq_true] at hn
    exact ⟨u, us, e1, cuM_dv hn.1 q, cuM_dvl hn.2 t⟩
theorem sp_liftM {P : Program} {w : World} {K : PySem.W.Frag} {f0 : FZ (List Memo)} (vs : List V) (H : Hp) (Q : VK) (E : XK) (h : spZ cls K wd n (liftM f0) vs H Q E) : spZ cls K (WM P w) n f0 vs H Q E := by
  obtain ⟨c, ds, eH, k, q, hl, h⟩ := h
  unfold liftM at h
  by_cases hn : ds.all noObj = true
  · rw [if_pos hn] at h
    refine ⟨cuM P w c, ds, eH, cuM_ok k, cuM_dvl hn q, hl, ?_⟩
    show afterF cls K (cuM P w c) (f0 ds []) Q E
    cases z : f0 ds [] with
    | bad => rw [z] at h; exact h
    | exc m w => rw [z] at h; exact fun c' _ b => h ⟨c.k, c'.F, c.w, c'.H⟩ rfl (cuM_bs k b)
    | ok d w =>
      rw [z] at h
      dsimp only at h
      by_cases hd : noObj d = true
      · rw [if_pos hd] at h
        exact fun u c' _ b q' => h u ⟨c.k, c'.F, c.w, c'.H⟩ rfl (cuM_bs k b) (dv_cuM hd q')
      · rw [if_neg hd] at h; exact h.elim
  · rw [if_neg hn] at h; exact h.elim
theorem Kp.liftM {P : Program} {w : World} {K : PySem.W.Frag} {mg : Str → Option Value} {base : Heap} {x : Str} {f0 : FZ (List Memo)} (h : Kp P w K mg base cls (WM P w) x k n f0) : Kp P w K mg base cls wd x k n (liftM f0) := by
  obtain ⟨f, fd, ps, h1, h2, h3, h4⟩ := h
  exact ⟨f, fd, ps, h1, h2, h3, h4.imp fun vs H Q E h => sp_liftM vs H Q E h⟩
end
/-! no promise at all (the fuel's end) -/
theorem kp_bad {P : Program} {w : World} {K : PySem.W.Frag} {mg : Str → Option Value} {base : Heap} {W : Type} {wd : WD W} {cls : Nat → Addr} {x : Str} {k n : Nat} {f0 : FZ W} (h : Kp P w K mg base cls wd x k n f0) : Kp P w K mg base cls wd x k n (fun _ _ => .bad) := by
  obtain ⟨f, fd, ps, h1, h2, h3, h4⟩ := h
  exact ⟨f, fd, ps, h1, h2, h3, h4.imp fun vs H Q E ⟨c, ds, _, _, _, _, z⟩ => z.elim⟩
end Z

set_option Elab.async false
set_option linter.all false
set_option maxRecDepth 100000
/-! # Z19: what is done with memo tables -/
namespace Z
open PySem PySem.Spec PyProof.Rows L2
section
variable {X : Cx} {W : Type} {wd : WD W} {cls : Nat → Addr} {e : Cur wd} {Wx : WX} {a b : Expr} {pos : Pos}
def rGW (cls : Nat → Addr) (K : PySem.W.Frag) (wd : WD W) (g : D → D → W → Option D) : R2 := fun u v H Q => ∃ (c : Cur wd) (x y : D), c.H = H ∧ Ok c ∧ Dv cls K c x u ∧ Dv cls K c y v ∧ gives cls K c (g x y c.w) Q
def x2W (g : D → D → W → Option D) (f h : XF W) : XF W := fun δ w => (f δ w).bind fun x w1 => (h δ w1).bind fun y w2 => opt (g x y w2) w2
theorem s_cmpW {op : CmpOp} {g : D → D → W → Option D} {f h : XF W} (ke : Ok e) (ho : OpR X (compareOp op) (rGW cls X.K wd g)) (ha : PE X a (tS cls X.K e Wx f)) (hb : PE X b (tS cls X.K e Wx h)) (hm : behindInMarks op b = false) : PE X (.Compare a [op] [b] pos) (tS cls X.K e Wx (x2W g f h)) :=
  pe_imp (pe_cmpR ho ha hb hm) fun σ H Q ⟨c, δ, eH, r, q⟩ => by
    rw [← eH]
    have z := after_two (k := fun x y w => opt (g x y w) w) ke r q
    obtain ⟨c0, δ0, e0, r0, q0⟩ := z
    exact ⟨c0, δ0, e0, r0, after_mono q0 fun u c1 _ ⟨c1', δ1, e1, r1, q1⟩ => ⟨c1', δ1, e1, r1, after_mono q1 fun v c2 _ ⟨x, y, c2', e2, r2, q2, q3, q4⟩ => ⟨c2', x, y, e2, r2.ok, q2, q3, after_opt q4⟩⟩⟩
theorem xB_x2W {g : D → D → W → Option D} {f h : XF W} {k : D → Option Bool} {δ : Ev} {w : W} : xB k (x2W g f h) δ w = ((f δ w).bind fun x w1 => (h δ w1).bind fun y w2 => (opt (g x y w2) w2).bind fun z w3 => optB (k z) w3) := by
  unfold xB x2W
  cases f δ w with
  | bad => rfl
  | exc _ _ => rfl
  | ok x w1 =>
    dsimp only [Res.bind]
    cases h δ w1 with
    | bad => rfl
    | exc _ _ => rfl
    | ok y w2 => rfl
theorem st_cmpW {op : CmpOp} {g : D → D → W → Option D} {f h : XF W} (ke : Ok e) (ho : OpR X (compareOp op) (rGW cls X.K wd g)) (ha : PE X a (tS cls X.K e Wx f)) (hb : PE X b (tS cls X.K e Wx h)) (hm : behindInMarks op b = false) : PT X (.Compare a [op] [b] pos) (tSB cls X.K e Wx (xB asB (x2W g f h))) :=
  pt_imp (pt_cmpR ho ha hb hm) fun σ H Q ⟨c, δ, eH, r, q⟩ => by
    rw [← eH]
    rw [xB_x2W] at q
    show tS cls X.K e Wx f σ c.H _
    refine tS_imp (after_oneB (K := X.K) ke r q) fun u H1 ⟨x, c2, e2, b2, r2, q2, q3⟩ => ?_
    rw [← e2]
    refine tS_imp (after_oneB (K := X.K) ke r2 q3) fun v H2 ⟨y, c3, e3, b3, r3, q4, q5⟩ => ?_
    exact ⟨c3, x, y, e3, r3.ok, q2.mono b3, q4, gives_B q5⟩
end
section
variable {X : Cx} {cls : Nat → Addr}
theorem mem_dict {c : Cur (WM X.prog X.w)} {pins : List (Addr × Obj)} {σ : L2.St} {s : Shared} {n : Nat} {a : Addr} {m : Memo} (I : Inv X pins σ c.H s) (k : Ok c) (hk : (show List Addr from c.k)[n]? = some a) (hm : c.w[n]? = some m) :
    ∃ (ents : List Ent) (xs : List EntV), c.H a = some (DcZ X.prog X.w a ents) ∧ EntsR ents xs ∧ EntF c.F ents m ∧ s.heap.DictOfH (nestedKind X.prog X.w) a xs ∧ (a == sysModules) = false ∧ ents.length ≤ lim := by
  obtain ⟨ents, g1, g2, g3⟩ := k.wr.2.2 n a m hk hm
  obtain ⟨⟨xs, o, es, ep, f1, f2, f3, f4, f5, f6, f7⟩, _, _⟩ := I.hok a _ g1
  refine ⟨ents, xs, g1, f1, g2, ⟨o, es, ep, f2, f3, f4, f5, fun x hx => ?_, f6⟩, f7, g3⟩
  obtain ⟨e, he, h1, h2, h3⟩ := entsR_mem f1 x hx
  obtain ⟨d, d1, d2, d3⟩ := g2.mem e he
  rw [h1] at d1 d2
  rw [h2] at d3
  exact ⟨nested_of I k.fh d x.1 (.ref x.2.1) (.ref x.2.1) d1 d3 rfl, d2⟩
def keyOf (d : PyData) : Option NestedKey := match d with
  | .tuple xs => (nk (.tuple xs)).bind fun k => if k.depth ≤ 8 then some k else none
  | _ => none
theorem key_is {c : Cur (WM X.prog X.w)} {pins : List (Addr × Obj)} {σ : L2.St} {s : Shared} (I : Inv X pins σ c.H s) (k : Ok c) {d : PyData} {key : NestedKey} (h : keyOf d = some key) {v : V} {u : Value} (q : Dq c.F d v) (r : RelV v u) :
    ∃ b, v = .ref b ∧ u = .ref b ∧ (nestedKind X.prog X.w).is s.heap key b ∧ nk d = some key ∧ key.depth ≤ 8 := by
  unfold keyOf at h
  split at h
  · rename_i xs
    cases e1 : nk (.tuple xs) with
    | none => rw [e1] at h; cases h
    | some k' =>
      rw [e1] at h
      dsimp only [Option.bind] at h
      by_cases hd : k'.depth ≤ 8
      · rw [if_pos hd] at h
        cases h
        have q' := q
        simp only [Dq] at q'
        obtain ⟨b, vs, rfl, _, _⟩ := q'
        cases r
        exact ⟨b, rfl, rfl, ⟨nested_of I k.fh (.tuple xs) _ (.ref b) (.ref b) e1 q rfl, hd⟩, rfl, hd⟩
      · rw [if_neg hd] at h; cases h
  · cases h
theorem room8 {A : Around} (h : A.units + 64 < cLine) : (nestedKind X.prog X.w).room A.in1 := by
  show A.units + 1 + 8 < cLine
  omega
def gInM (neg : Bool) (x y : D) (w : List Memo) : Option D := match x, y with
  | .p d, .obj n => (keyOf d).bind fun k => (w[n]?).map fun m => .p (.bool (xor neg (lookM m k).isSome))
  | _, _ => none
theorem og_notInM (hu : X.A.units + 64 < cLine) : OpR X (compareOp .NotIn) (rGW cls X.K (WM X.prog X.w) (gInM true)) := by
  intro pins s σ H u v p p' Q I rx ry ⟨c, x, y, eH, k, qx, qy, q⟩
  subst eH
  unfold gInM at q
  split at q
  · rename_i d n
    cases e1 : keyOf d with
    | none => rw [e1] at q; exact gives_no q
    | some key =>
      rw [e1] at q
      cases e2 : c.w[n]? with
      | none => rw [e2] at q; exact gives_no q
      | some m =>
        rw [e2] at q
        obtain ⟨b, rfl, rfl, hb, _, _⟩ := key_is I k e1 qx rx
        obtain ⟨a, rfl, ha⟩ := qy
        cases ry
        obtain ⟨ents, xs, g1, g2, g3, g4, g5, g6⟩ := mem_dict I k ha e2
        refine notIn_keyed (kvs := pairsH xs) (room8 hu) hb g5 ⟨xs, g4, rfl⟩ ?_
        have el : (valueAt (pairsH xs) key).isSome = (lookM m key).isSome := by
          rw [valueAt_pairsH, Option.isSome_map, (entsR_look key g2).1, (g3.look key).1]
        rw [el]
        exact ⟨.bl (!(lookM m key).isSome), c.H, I.tok _, rfl, gives_v q k (dv_bl.mpr (by rw [Bool.true_xor]))⟩
  · exact gives_no q
theorem ents_new {ents : List Ent} {xs : List EntV} {m : Memo} {F : Hp} {key : NestedKey} (g2 : EntsR ents xs) (g3 : EntF F ents m) (h : lookM m key = none) : atKey xs key = none := by
  have e1 := (entsR_look key g2).1
  have e2 := (g3.look key).1
  rw [e2, h] at e1
  cases z : atKey xs key with
  | none => rfl
  | some _ => rw [z] at e1; cases e1
end
section
variable {X : Cx} {cls : Nat → Addr} {e : Cur (WM X.prog X.w)} {Wx : WX} {a b ex o : Expr} {pos pos' : Pos} {f h k fo : XF (List Memo)}
/-! known[k] -/
def gIxM (x y : D) (w : List Memo) : Option D := match x, y with
  | .obj n, .p d => (keyOf d).bind fun k => (w[n]?).bind fun m => (lookM m k).map .p
  | _, _ => none
theorem s_ixM (ke : Ok e) (hu : X.A.units + 64 < cLine) (ho : PE X o (tS cls X.K e Wx fo)) (hi : PE X b (tS cls X.K e Wx k)) (hs : NoSl b := by exact fun _ _ => rfl) : PE X (.Subscript o b pos) (tS cls X.K e Wx (x2W gIxM fo k)) := by
  refine ⟨fun pins s σ H Q I ⟨c, δ, eH, r, q⟩ => ?_⟩
  subst eH
  have z := after_two (k := fun x y w => opt (gIxM x y w) w) ke r q
  refine subD_of PySem.F.slot_dict_getitem.lookup hs (thn (ho.run pins s σ c.H _ I z) fun u s1 ⟨x, H1, I1, rx, q1⟩ => thn (hi.run pins s1 σ H1 _ I1 q1) fun iv s2 ⟨y, H2, I2, ry, xd, yd, c2, e2, r2, qx, qy, q3⟩ => ?_)
  subst e2
  replace q3 := after_opt q3
  unfold gIxM at q3
  split at q3
  · rename_i n d
    cases e1 : keyOf d with
    | none => rw [e1] at q3; exact gives_no q3
    | some key =>
      rw [e1] at q3
      cases e2 : c2.w[n]? with
      | none => rw [e2] at q3; exact gives_no q3
      | some m =>
        rw [e2] at q3
        dsimp only [Option.bind] at q3
        cases e3 : lookM m key with
        | none => rw [e3] at q3; exact gives_no q3
        | some vd =>
          rw [e3] at q3
          obtain ⟨bb, rfl, rfl, hb, _, _⟩ := key_is I2 r2.ok e1 qy ry
          obtain ⟨aa, rfl, ha⟩ := qx
          cases rx
          obtain ⟨ents, xs, g1, g2, g3, g4, g5, g6⟩ := mem_dict I2 r2.ok ha e2
          obtain ⟨p, hp, hv⟩ := (g3.look key).2 vd e3
          obtain ⟨q', hq', rv⟩ := (entsR_look key g2).2 p hp
          refine ⟨g4.typeIs, wpAny_getItem_heap (room8 hu) hb g4 hq' ⟨p.2, c2.H, I2.tok _, rv, gives_v q3 r2.ok hv⟩⟩
  · exact gives_no q3
theorem nodup_ix {α : Type} : ∀ {xs : List α} {i j : Nat} {x : α}, xs.Nodup → xs[i]? = some x → xs[j]? = some x → i = j
  | [], _, _, _, _, h, _ => by cases h
  | y :: ys, 0, 0, _, _, _, _ => rfl
  | y :: ys, 0, j + 1, x, hn, h1, h2 => by
    cases h1
    exact absurd (List.mem_of_getElem? (by simpa using h2)) (List.nodup_cons.mp hn).1
  | y :: ys, i + 1, 0, x, hn, h1, h2 => by
    cases h2
    exact absurd (List.mem_of_getElem? (by simpa using h1)) (List.nodup_cons.mp hn).1
  | y :: ys, i + 1, j + 1, x, hn, h1, h2 => by
    have h1' : ys[i]? = some x := by simpa using h1
    have h2' : ys[j]? = some x := by simpa using h2
    rw [nodup_ix (List.nodup_cons.mp hn).2 h1' h2']
/-! known[k] = e, k new -/
def upM (x y z : D) (w : List Memo) : Option (List Memo) := match y, z, x with
  | .obj n, .p d, .p v => (keyOf d).bind fun k => (w[n]?).bind fun m => if lookM m k = none ∧ m.length < 100000 then some (w.set n (m ++ [(d, v)])) else none
  | _, _, _ => none
def sSetM (fo k f : XF (List Memo)) : SF (List Memo) := fun δ w => match f δ w with
  | .ok x w1 => match fo δ w1 with
    | .ok y w2 => match k δ w2 with
      | .ok z w3 => match upM x y z w3 with
        | some w4 => .nx δ w4
        | none => .bad
      | _ => .bad
    | _ => .bad
  | .exc n w' => .exc n δ w'
  | .bad => .bad
theorem entF_len {F : Hp} : ∀ {es : List Ent} {m : Memo}, EntF F es m → m.length = es.length
  | [], _, h => by
    have h : _ = [] := h
    rw [h]; rfl
  | _ :: _, _, ⟨_, _, h, _, _, _, _, t⟩ => by rw [h, List.length_cons, List.length_cons, entF_len t]
theorem ss_setM (ke : Ok e) (hu : X.A.units + 64 < cLine) (ho : PE X o (tS cls X.K e Wx fo)) (hi : PE X b (tS cls X.K e Wx k)) (hv : PE X ex (tS cls X.K e Wx f)) (hs : swapsWith ex (some (.Subscript o b pos')) pos.line X.env = pure false := by rfl) :
    PS X (.Assign [.Subscript o b pos'] ex pos) (tSS cls X.K e Wx (sSetM fo k f)) := by
  refine ⟨fun pins s σ H Dn I ⟨c, δ, eH, r, q⟩ => ?_⟩
  subst eH
  have hq : tS cls X.K e Wx f σ c.H fun u H1 => tS cls X.K e Wx fo σ H1 fun v H2 => tS cls X.K e Wx k σ H2 fun t H3 => ∃ x y z c3 w4, c3.H = H3 ∧ Rz cls X.K e c3 δ σ ∧ Dv cls X.K c3 x u ∧ Dv cls X.K c3 y v ∧ Dv cls X.K c3 z t ∧ upM x y z c3.w = some w4 ∧ ∀ c4 : Cur (WM X.prog X.w), c4.w = w4 → c4.F = c3.F → Rz cls X.K e c4 δ σ → Dn.nx σ c4.H := by
    refine ⟨c, δ, rfl, r, ?_⟩
    unfold sSetM at q
    cases z : f δ c.w with
    | bad => rw [z] at q; exact q
    | exc n w => rw [z] at q; exact fun c' hw b => q σ c' hw b.ff (r.step ke b)
    | ok x w1 =>
      rw [z] at q
      dsimp only at q
      intro u c1 hw1 b1 q1
      have r1 := r.step ke b1
      refine ⟨c1, δ, rfl, r1, ?_⟩
      rw [hw1]
      cases z2 : fo δ w1 with
      | bad => rw [z2] at q; exact q.elim
      | exc n w => rw [z2] at q; exact q.elim
      | ok y w2 =>
        rw [z2] at q
        dsimp only at q
        intro v c2 hw2 b2 q2
        have r2 := r1.step ke b2
        refine ⟨c2, δ, rfl, r2, ?_⟩
        rw [hw2]
        cases z3 : k δ w2 with
        | bad => rw [z3] at q; exact q.elim
        | exc n w => rw [z3] at q; exact q.elim
        | ok y3 w3 =>
          rw [z3] at q
          dsimp only at q
          intro t c3 hw3 b3 q3
          cases z4 : upM x y y3 w3 with
          | none => rw [z4] at q; exact q.elim
          | some w4 =>
            rw [z4] at q
            exact ⟨x, y, y3, c3, w4, rfl, r2.step ke b3, (q1.mono b2).mono b3, q2.mono b3, q3, by rw [hw3]; exact z4, fun c4 h1 h2 r4 => q σ c4 h1 (by rw [h2]; exact (b1.ff.trans b2.ff).trans b3.ff) r4⟩
  refine wpAny_Assign_Subscript (thn (hv.run pins s σ c.H _ I hq) fun rr s1 ⟨v, H1, I1, rv, q1⟩ => thn (ho.run pins s1 σ H1 _ I1 q1) fun u s2 ⟨x, H2, I2, rx, q2⟩ => thn (hi.run pins s2 σ H2 _ I2 q2) fun iv s3 ⟨y, H3, I3, ry, xd, yd, zd, c3, w4, e3, r3, qv, qo, qk, hup, fin⟩ => ?_) hs
  subst e3
  unfold upM at hup
  split at hup
  · rename_i n d vd
    cases e1 : keyOf d with
    | none => rw [e1] at hup; cases hup
    | some key =>
      rw [e1] at hup
      cases e2 : c3.w[n]? with
      | none => rw [e2] at hup; cases hup
      | some m =>
        rw [e2] at hup
        dsimp only [Option.bind] at hup
        by_cases hnew : lookM m key = none ∧ m.length < 100000
        · rw [if_pos hnew] at hup
          cases hup
          obtain ⟨bb, rfl, rfl, hb, hnk, hdep⟩ := key_is I3 r3.ok e1 qk ry
          obtain ⟨aa, rfl, ha⟩ := qo
          cases rx
          obtain ⟨ents, xs, g1, g2, g3, g4, g5, g6⟩ := mem_dict I3 r3.ok ha e2
          have hno := ents_new g2 g3 hnew.1
          have hlen := entF_len g3
          have hxl := entsR_len g2
          refine wpAny_setItem_heap (hsz := by rw [hxl, ← lim_eq]; exact g6) (room8 hu) hb g4 fun h' hm' hs' => ?_
          rw [storedH_new hno] at hm'
          obtain ⟨o', es, ep, f2, f3, f4, f5, f6, f7⟩ := hm'
          have hfp : (WM X.prog X.w).fp c3.k aa := List.mem_of_getElem? ha
          have hval : Dq c3.F vd v := qv
          have new : ObjOk X.prog X.w (upd c3.H aa (DcZ X.prog X.w aa (ents ++ [(key, bb, v)]))) h' aa (DcZ X.prog X.w aa (ents ++ [(key, bb, v)])) :=
            dcZ_ok ⟨xs ++ [(key, bb, rr)], o', es, ep, entsR_snoc rv g2, f2, f3, f4, f5, f7, g5⟩
          refine ⟨σ, _, d_write (t' := s3.toks + (nestedKind X.prog X.w).draws key) I3 (by rw [g1]; exact True.intro) hs' ⟨o', f2⟩ new, ?_⟩
          refine fin { c3 with w := c3.w.set n (m ++ [(d, vd)]), H := upd c3.H aa (DcZ X.prog X.w aa (ents ++ [(key, bb, v)])) } rfl rfl (r3.wset hfp ?_)
          obtain ⟨w1, w2, w3⟩ := r3.ok.wr
          have ha' : (show List Addr from c3.k)[n]? = some aa := ha
          have snoc' : EntF c3.F (ents ++ [(key, bb, v)]) (m ++ [(d, vd)]) := EntF.snoc (kv := (d, vd)) (e := (key, bb, v)) hnk hdep (show Dq c3.F d (.ref bb) from qk) hval g3
          refine ⟨w1, by rw [List.length_set]; exact w2, fun i a' m' h1 h2 => ?_⟩
          by_cases hi : i = n
          · subst hi
            have ea : a' = aa := Option.some.inj (h1.symm.trans ha')
            subst ea
            rw [List.getElem?_set_self (List.getElem?_eq_some_iff.mp e2).1] at h2
            cases h2
            exact ⟨_, upd_same, snoc', by rw [List.length_append, ← hlen]; have := hnew.2; simp [lim]; omega⟩
          · rw [List.getElem?_set_ne (Ne.symm hi)] at h2
            obtain ⟨ents', k1, k2, k3⟩ := w3 i a' m' h1 h2
            have hne : a' ≠ aa := fun z => by
              subst z
              have l1 := (List.getElem?_eq_some_iff.mp h1)
              have l2 := (List.getElem?_eq_some_iff.mp ha')
              exact hi (nodup_ix w1 h1 ha')
            exact ⟨ents', (upd_ne hne).trans k1, k2, k3⟩
        · rw [if_neg hnew] at hup; cases hup
  · cases hup
/-! {} -/
def xNewM : XF (List Memo) := fun _ w => .ok (.obj w.length) (w ++ [[]])
theorem s_newM (ke : Ok e) : PE X (.Dict [] [] pos) (tS cls X.K e Wx xNewM) := ⟨fun pins s σ H Q I ⟨c, δ, eH, r, q⟩ => by
  subst eH
  have hf : c.H s.heap.objs.size = none := I.hok.fresh (Nat.le_refl _)
  have hsys : (s.heap.objs.size == sysModules) = false := beq_eq_false_iff_ne.mpr (Ne.symm (Nat.ne_of_lt I.big))
  have hok : ∀ H, ObjOk X.prog X.w H (s.heap.push { cls := .type "dict", data := .dict #[] }) s.heap.objs.size (DcZ X.prog X.w s.heap.objs.size []) := fun H =>
    dcZ_ok ⟨[], _, #[], 0, rfl, Heap.get?_push_size _ rfl, ⟨rfl, rfl, rfl⟩, rfl, rfl, List.nodup_nil, hsys⟩
  have k := r.ok
  generalize hp : s.heap.objs.size = p at *
  have hnk : p ∉ (show List Addr from c.k) := fun z => (k.wf p z).2 hf
  let c' : Cur (WM X.prog X.w) := ⟨(show List Addr from c.k) ++ [p], c.F, c.w ++ [[]], upd c.H p (DcZ X.prog X.w p [])⟩
  have hwl := k.wr.2.1
  have b : Bs c c' := by
    refine ⟨⟨fun x o hx => ?_, ⟨?_, by rw [List.length_append, List.length_append, hwl]; rfl, fun i a m h1 h2 => ?_⟩, fun x hx => ?_⟩, Sub.refl _, fun x o _ hx => ?_, fun x hx => .inl hx, fun n x hx => ?_, fun x hx => ?_, fun x hx => ?_⟩
    · show upd c.H p _ x = some o
      rw [upd_ne (ne_of_none (k.fh _ _ hx) hf)]; exact k.fh _ _ hx
    · rw [List.nodup_append]
      refine ⟨k.wr.1, by simp, fun a ha b hb z => ?_⟩
      rw [List.mem_singleton.mp hb] at z
      exact hnk (z ▸ ha)
    · by_cases hi : i < (show List Addr from c.k).length
      · rw [List.getElem?_append_left hi] at h1
        rw [List.getElem?_append_left (by rw [← hwl]; exact hi)] at h2
        obtain ⟨ents, g1, g2, g3⟩ := k.wr.2.2 i a m h1 h2
        exact ⟨ents, (upd_ne (ne_of_none g1 hf)).trans g1, g2, g3⟩
      · have hi' : (show List Addr from c.k).length ≤ i := Nat.le_of_not_lt hi
        rw [List.getElem?_append_right hi'] at h1
        rw [List.getElem?_append_right (by rw [← hwl]; exact hi'), ← hwl] at h2
        cases hz : i - (show List Addr from c.k).length with
        | zero =>
          rw [hz] at h1 h2
          cases h1; cases h2
          exact ⟨[], upd_same, rfl, Nat.zero_le _⟩
        | succ j => rw [hz] at h1; cases h1
    · rcases List.mem_append.mp hx with hx | hx
      · refine ⟨(k.wf x hx).1, ?_⟩
        show upd c.H p _ x ≠ none
        rw [upd_ne fun (z : x = p) => hnk (z ▸ hx)]; exact (k.wf x hx).2
      · rw [List.mem_singleton.mp hx]
        exact ⟨k.fnone hf, by show upd c.H p _ p ≠ none; rw [upd_same]; exact fun z => by cases z⟩
    · show upd c.H p _ x = some o
      rw [upd_ne (ne_of_none hx hf)]; exact hx
    · have hx : (show List Addr from c.k)[n]? = some x := hx
      show ((show List Addr from c.k) ++ [p])[n]? = some x
      rw [List.getElem?_append_left (List.getElem?_eq_some_iff.mp hx).1]; exact hx
    · rcases List.mem_append.mp hx with hx | hx
      · exact .inl hx
      · rw [List.mem_singleton.mp hx]; exact .inr hf
    · exact List.mem_append_left _ hx
  refine wpAny_Dict_empty ⟨.ref p, _, I.laid (a := p) (o := DcZ X.prog X.w p []) (t' := s.toks) (fun _ _ q => Heap.get?_push_of_some _ q) (by rw [hp]; exact Nat.le_refl _) (hok _), by rw [hp]; rfl, ?_⟩
  refine q (.ref p) c' rfl b ⟨p, rfl, ?_⟩
  show ((show List Addr from c.k) ++ [p])[c.w.length]? = some p
  rw [← hwl, List.getElem?_append_right (Nat.le_refl _), Nat.sub_self]; rfl⟩
end
section
variable {X : Cx} {W : Type} {wd : WD W} {cls : Nat → Addr} {e : Cur wd} {Wx : WX} {sts : List Stmt}
theorem ss_bad : PSs X sts (tSS cls X.K e Wx fun _ _ => .bad) := ⟨fun pins s σ H Dn I ⟨c, δ, eH, r, q⟩ => q.elim⟩
end
end Z

set_option Elab.async false
set_option linter.all false
set_option maxRecDepth 100000
/-! # Z20: typed data; how the functions are computed -/
namespace Z
open PySem
class Py (α : Type) where
  enc : α → PyData
  lay : ∀ a, (enc a).canLay0 = true
  dep : Nat
  hdep : ∀ a, (enc a).depth ≤ dep
  eqv : ∀ a b, PyData.eqv (enc a) (enc b) = true ↔ a = b
def pv {α : Type} [Py α] (a : α) : D := .p (Py.enc a)
instance : Py Int where
  enc := .int
  lay := fun _ => rfl
  dep := 0
  hdep := fun _ => Nat.le_refl 0
  eqv := fun a b => by simp [PyData.eqv]
instance : Py Bool where
  enc := .bool
  lay := fun _ => rfl
  dep := 0
  hdep := fun _ => Nat.le_refl 0
  eqv := fun a b => by simp [PyData.eqv]
theorem layAll_map {α : Type} [Py α] : ∀ xs : List α, PyData.canLayAll0 (xs.map Py.enc) = true
  | [] => rfl
  | x :: xs => by
    show PyData.canLayAll0 (Py.enc x :: xs.map Py.enc) = true
    rw [PyData.canLayAll0, Py.lay, layAll_map xs]; rfl
theorem depAll_map {α : Type} [Py α] : ∀ xs : List α, PyData.depthAll (xs.map Py.enc) ≤ Py.dep α
  | [] => by simp [PyData.depthAll]
  | x :: xs => by
    show PyData.depthAll (Py.enc x :: xs.map Py.enc) ≤ _
    rw [PyData.depthAll]
    have := Py.hdep x
    have := depAll_map xs
    omega
theorem eqvAll_map {α : Type} [Py α] : ∀ xs ys : List α, PyData.eqvAll (xs.map Py.enc) (ys.map Py.enc) = true ↔ xs = ys
  | [], [] => by simp [PyData.eqvAll]
  | [], _ :: _ => by simp [PyData.eqvAll]
  | _ :: _, [] => by simp [PyData.eqvAll]
  | x :: xs, y :: ys => by
    show PyData.eqvAll (Py.enc x :: xs.map Py.enc) (Py.enc y :: ys.map Py.enc) = true ↔ _
    rw [PyData.eqvAll, Bool.and_eq_true, Py.eqv, eqvAll_map xs ys, List.cons.injEq]
instance {α : Type} [Py α] : Py (List α) where
  enc := fun xs => .list (xs.map Py.enc)
  lay := fun xs => by show PyData.canLayAll0 _ = true; exact layAll_map xs
  dep := Py.dep α + 1
  hdep := fun xs => by
    have := depAll_map xs
    simp only [PyData.depth]
    omega
  eqv := fun xs ys => by
    rw [← eqvAll_map xs ys]; simp [PyData.eqv]
instance {α β : Type} [Py α] [Py β] : Py (α × β) where
  enc := fun p => .tuple [Py.enc p.1, Py.enc p.2]
  lay := fun p => by simp [PyData.canLay0, PyData.canLayAll0, Py.lay]
  dep := max (Py.dep α) (Py.dep β) + 1
  hdep := fun p => by
    have := Py.hdep p.1
    have := Py.hdep p.2
    simp only [PyData.depth, PyData.depthAll]
    omega
  eqv := fun p q => by
    obtain ⟨a, b⟩ := p
    obtain ⟨c, d⟩ := q
    simp [PyData.eqv, PyData.eqvAll, Py.eqv]
/-- a tuple of alike things -/
structure Tp (α : Type) where
  l : List α
instance {α : Type} [Py α] : Py (Tp α) where
  enc := fun xs => .tuple (xs.l.map Py.enc)
  lay := fun xs => by show PyData.canLayAll0 _ = true; exact layAll_map xs.l
  dep := Py.dep α + 1
  hdep := fun xs => by
    have := depAll_map xs.l
    simp only [PyData.depth]
    omega
  eqv := fun xs ys => by
    have e : xs = ys ↔ xs.l = ys.l := by cases xs; cases ys; simp
    rw [e, ← eqvAll_map xs.l ys.l]; simp [PyData.eqv]
section
variable {α β : Type} [Py α] [Py β]
theorem eqv_pv [DecidableEq α] (a b : α) : PyData.eqv (Py.enc a) (Py.enc b) = decide (a = b) := by
  by_cases h : a = b
  · rw [decide_eq_true h]; exact (Py.eqv a b).mpr h
  · rw [decide_eq_false h]
    cases z : PyData.eqv (Py.enc a) (Py.enc b) with
    | false => rfl
    | true => exact absurd ((Py.eqv a b).mp z) h
theorem eqOk_pv (a : α) (b : β) (h : min (Py.dep α) (Py.dep β) ≤ 64) : eqOk (Py.enc a) (Py.enc b) = true := by
  have := Py.hdep a
  have := Py.hdep b
  simp only [eqOk, Py.lay, Bool.true_and, decide_eq_true_eq]
  omega
/-! ## the operations -/
theorem e_eq [DecidableEq α] (a b : α) (h : Py.dep α ≤ 64 := by decide) : gEq (pv a) (pv b) = some (pv (decide (a = b))) := by
  show (if eqOk (Py.enc a) (Py.enc b) = true then some (D.p (.bool (PyData.eqv (Py.enc a) (Py.enc b)))) else none) = _
  rw [if_pos (eqOk_pv a b (by omega)), eqv_pv]; rfl
theorem e_ne [DecidableEq α] (a b : α) (h : Py.dep α ≤ 64 := by decide) : gNe (pv a) (pv b) = some (pv (!decide (a = b))) := by
  show (if eqOk (Py.enc a) (Py.enc b) = true then some (D.p (.bool (!PyData.eqv (Py.enc a) (Py.enc b)))) else none) = _
  rw [if_pos (eqOk_pv a b (by omega)), eqv_pv]; rfl
theorem e_add (a b : Int) : gAdd (pv a) (pv b) = some (pv (a + b)) := rfl
theorem e_sub (a b : Int) : gSub (pv a) (pv b) = some (pv (a - b)) := rfl
theorem e_cat (a b : List α) (h : a.length + b.length ≤ lim) : gAdd (pv a) (pv b) = some (pv (a ++ b)) := by
  show (if (a.map Py.enc).length + (b.map Py.enc).length ≤ lim then some (D.p (.list (a.map Py.enc ++ b.map Py.enc))) else none) = _
  rw [if_pos (by simpa using h), ← List.map_append]; rfl
theorem e_mul (a b : Int) (h : cMul a b = true) : gMul (pv a) (pv b) = some (pv (a * b)) := by
  show (if cMul a b = true then some (D.p (.int (a * b))) else none) = _
  rw [if_pos h]; rfl
theorem e_div (a b : Int) (h : 0 < b ∧ b < 1073741824) : gDiv (pv a) (pv b) = some (pv (a / b)) := by
  show (if cDiv a b = true then some (D.p (.int (a / b))) else none) = _
  rw [if_pos (by simp [cDiv, h])]; rfl
theorem e_mod (a b : Int) (h : 0 < b) : gMod (pv a) (pv b) = some (pv (a % b)) := by
  show (if (decide (0 < b)) = true then some (D.p (.int (a % b))) else none) = _
  rw [if_pos (by simp [h])]; rfl
theorem e_neg (a : Int) : gNeg (pv a) = some (pv (-a)) := rfl
theorem e_not (a : Bool) : gNot (pv a) = some (pv (!a)) := rfl
theorem e_lt (a b : Int) : gLt (pv a) (pv b) = some (pv (decide (a < b))) := rfl
theorem e_le (a b : Int) : gLe (pv a) (pv b) = some (pv (decide (a ≤ b))) := rfl
theorem e_gt (a b : Int) : gGt (pv a) (pv b) = some (pv (decide (b < a))) := rfl
theorem e_ge (a b : Int) : gGe (pv a) (pv b) = some (pv (decide (b ≤ a))) := rfl
theorem e_isB (n a b : Bool) : gIs n (pv a) (pv b) = some (pv (xor n (decide (a = b)))) := rfl
theorem e_asB (b : Bool) : asB (pv b) = some b := rfl
theorem e_truB (b : Bool) : truth (pv b) = some b := rfl
theorem e_truI (b : Int) : truth (pv b) = some (b != 0) := rfl
theorem e_asI (b : Int) : asI (pv b) = some b := rfl
theorem e_oInt (b : Int) : oInt (pv b) = some (some b) := rfl
theorem e_asP (a : α) : asP (pv a) = some (Py.enc a) := rfl
theorem e_listOf0 (a : List α) : listOf0 (pv a) = some (a.map Py.enc) := rfl
theorem e_lstOf (a : List α) : lstOf (pv a) = some (a.map Py.enc) := rfl
theorem e_isiI (S : String) (a : Int) : gIsi S (pv a) = some (pv (tyIs "int" S)) := rfl
theorem e_isiB (S : String) (a : Bool) : gIsi S (pv a) = some (pv (tyIs "bool" S)) := rfl
theorem e_isiL (S : String) (a : List α) : gIsi S (pv a) = some (pv (tyIs "list" S)) := rfl
theorem e_isiP (S : String) (a : α × β) : gIsi S (pv a) = some (pv (tyIs "tuple" S)) := rfl
theorem e_len (a : List α) : gLen [pv a] = some (pv (a.length : Int)) := by
  show some (D.p (.int ((a.map Py.enc).length : Int))) = _
  rw [List.length_map]; rfl
theorem e_lenP (a : α × β) : gLen [pv a] = some (pv (2 : Int)) := rfl
theorem e_sum (a : List Int) : gSum [pv a] = some (pv a.sum) := by
  show (ints? (a.map PyData.int)).map (fun ns => D.p (.int ns.sum)) = _
  rw [ints?_map]; rfl
theorem e_max (a : List Int) (h : a ≠ []) : gMax [pv a] = some (pv (lmax a)) := by
  show ((ints? (a.map PyData.int)).bind fun ns => if ns = [] then none else some (D.p (.int (lmax ns)))) = _
  rw [ints?_map]
  show (if a = [] then none else some (D.p (.int (lmax a)))) = _
  rw [if_neg h]; rfl
theorem e_min (a : List Int) (h : a ≠ []) : gMin [pv a] = some (pv (lmin a)) := by
  show ((ints? (a.map PyData.int)).bind fun ns => if ns = [] then none else some (D.p (.int (lmin ns)))) = _
  rw [ints?_map]
  show (if a = [] then none else some (D.p (.int (lmin a)))) = _
  rw [if_neg h]; rfl
theorem e_max2 (a b : Int) : gMax [pv a, pv b] = some (pv (if b > a then b else a)) := rfl
theorem e_min2 (a b : Int) : gMin [pv a, pv b] = some (pv (if b < a then b else a)) := rfl
theorem e_min3 (a b c : Int) : gMin [pv a, pv b, pv c] = some (pv (if b < a then (if c < b then c else b) else (if c < a then c else a))) := rfl
theorem e_all (a : List Bool) : gAll [pv a] = some (pv (a.all id)) := by
  show (bools? (a.map PyData.bool)).map (fun ns => D.p (.bool (ns.all id))) = _
  rw [bools?_map]; rfl
theorem bools?_ints : ∀ a : Int, ∀ r : List PyData, bools? (.int a :: r) = none := fun a r => rfl
theorem e_anyI (a : List Int) : gAny [pv a] = some (pv (a.any (· != 0))) := by
  cases a with
  | nil => rfl
  | cons x r =>
    show (match bools? (.int x :: r.map PyData.int) with
      | some bs => some (D.p (.bool (bs.any id)))
      | none => (ints? ((x :: r).map PyData.int)).map fun (ns : List Int) => D.p (.bool (ns.any (· != 0)))) = _
    rw [bools?_ints, ints?_map]; rfl
theorem e_anyB (a : List Bool) : gAny [pv a] = some (pv (a.any id)) := by
  show (match bools? (a.map PyData.bool) with
      | some bs => some (D.p (.bool (bs.any id)))
      | none => (ints? (a.map PyData.bool)).map fun (ns : List Int) => D.p (.bool (ns.any (· != 0)))) = _
  rw [bools?_map]; rfl
theorem e_nil : gList [] = some (.p (.list [])) := rfl
theorem e_nilT : D.p (.list []) = pv ([] : List Int) := rfl
theorem e_l1 (a : α) : gList [pv a] = some (pv [a]) := rfl
theorem e_l2 (a b : α) : gList [pv a, pv b] = some (pv [a, b]) := rfl
theorem e_l3 (a b c : α) : gList [pv a, pv b, pv c] = some (pv [a, b, c]) := rfl
theorem e_t2 (a : α) (b : β) : gTupD [pv a, pv b] = some (pv (a, b)) := rfl
theorem e_t3 {γ : Type} [Py γ] (a : α) (b : β) (c : γ) : gTupD [pv a, pv b, pv c] = some (D.p (.tuple [Py.enc a, Py.enc b, Py.enc c])) := rfl
theorem e_asPp (d : PyData) : asP (D.p d) = some d := rfl
theorem e_zT3 (u : List PyData → Ev → Option Ev) (a b c : PyData) (δ : Ev) : zT 3 u (.tuple [a, b, c]) δ = u [a, b, c] δ := rfl
theorem e_listL (a : List α) : gListOf [pv a] = some (pv a) := rfl
/-- xs[i], in range -/
def ixD {α : Type} [Inhabited α] (xs : List α) (i : Int) : α := (L2.atI xs i).getD default
theorem e_ix [Inhabited α] (xs : List α) (i : Int) (h : -(xs.length : Int) ≤ i ∧ i < xs.length) : gIx (pv xs) (pv i) = some (pv (ixD xs i)) := by
  show ((L2.atI (xs.map Py.enc) i).map .p) = some (pv ((L2.atI xs i).getD default))
  unfold L2.atI
  rw [List.length_map]
  have hj : ∃ j, L2.ixN xs.length i = some j ∧ j < xs.length := by
    unfold L2.ixN
    by_cases h0 : 0 ≤ i
    · rw [if_pos h0, if_pos h.2]
      exact ⟨_, rfl, by omega⟩
    · rw [if_neg h0, if_pos h.1]
      exact ⟨_, rfl, by omega⟩
  obtain ⟨j, e, hl⟩ := hj
  rw [e]
  show ((xs.map Py.enc)[j]?).map D.p = some (pv ((xs[j]?).getD default))
  rw [List.getElem?_map, List.getElem?_eq_getElem hl]; rfl
theorem e_ixP0 (p : α × β) : gIx (pv p) (pv (0 : Int)) = some (pv p.1) := rfl
theorem e_ixP1 (p : α × β) : gIx (pv p) (pv (1 : Int)) = some (pv p.2) := rfl
/-- xs[lo:hi] -/
def cut {α : Type} (xs : List α) (lo hi : Option Int) : List α := (xs.drop (HT.sIx xs.length 0 lo)).take (HT.sIx xs.length xs.length hi - HT.sIx xs.length 0 lo)
theorem e_sl (xs : List α) (lo hi : Option Int) : gSl (pv xs) lo hi = some (pv (cut xs lo hi)) := by
  show some (D.p (.list (cutP (xs.map Py.enc) lo hi))) = _
  unfold cutP
  rw [List.length_map, ← List.map_drop, ← List.map_take]; rfl
theorem e_rev (xs : List α) : gRev (pv xs) = some (pv xs.reverse) := by
  show some (D.p (.list (xs.map Py.enc).reverse)) = _
  rw [← List.map_reverse]; rfl
theorem e_in [DecidableEq α] (n : Bool) (a : α) (xs : List α) (h : Py.dep α ≤ 60 := by decide) : gIn n (pv a) (pv xs) = some (pv (xor n (decide (a ∈ xs)))) := by
  show (if inOk (Py.enc a) (xs.map Py.enc) = true then some (D.p (.bool (xor n ((xs.map Py.enc).any fun z => PyData.eqv z (Py.enc a))))) else none) = _
  have h1 : inOk (Py.enc a) (xs.map Py.enc) = true := by
    have := Py.hdep a
    simp only [inOk, Py.lay, layAll_map, Bool.true_and, decide_eq_true_eq]
    omega
  have h2 : ((xs.map Py.enc).any fun z => PyData.eqv z (Py.enc a)) = decide (a ∈ xs) := by
    rw [List.any_map]
    rw [Bool.eq_iff_iff]
    simp only [List.any_eq_true, Function.comp, Py.eqv, decide_eq_true_eq]
    exact ⟨fun ⟨x, h, e⟩ => e ▸ h, fun h => ⟨a, h, rfl⟩⟩
  rw [if_pos h1, h2]; rfl
/-! ## what is walked -/
def rg (a b : Int) : List Int := (List.range (b - a).toNat).map fun (i : Nat) => a + (i : Int)
def enum {α : Type} (i : Nat) : List α → List (Int × α)
  | [] => []
  | x :: r => ((i : Int), x) :: enum (i + 1) r
theorem e_seq (xs : List α) : seqOf (pv xs) = some (xs.map Py.enc) := rfl
theorem e_rg (n : Int) (h : -1000000000 ≤ n ∧ n ≤ 1000000000) : rgOf1 (pv n) = some ((rg 0 n).map Py.enc) := by
  show (if -1000000000 ≤ n ∧ n ≤ 1000000000 then some (rgL 0 n) else none) = _
  rw [if_pos h]
  unfold rgL rg
  rw [List.map_map]; rfl
theorem enL_map (xs : List α) : ∀ i, enL i (xs.map Py.enc) = (enum i xs).map Py.enc := by
  induction xs with
  | nil => intro i; rfl
  | cons x r ih => intro i; show _ :: enL (i + 1) (r.map Py.enc) = _; rw [ih]; rfl
theorem e_en (xs : List α) : enOf (pv xs) = some ((enum 0 xs).map Py.enc) := by
  show some (enL 0 (xs.map Py.enc)) = _
  rw [enL_map]
theorem zipL_map : ∀ (xs : List α) (ys : List β), zipL (xs.map Py.enc) (ys.map Py.enc) = (xs.zip ys).map Py.enc
  | [], _ => by simp [zipL]
  | _ :: _, [] => by simp [zipL]
  | x :: xs, y :: ys => by
    show _ :: zipL (xs.map Py.enc) (ys.map Py.enc) = _
    rw [zipL_map xs ys]; rfl
theorem e_zp (xs : List α) (ys : List β) : zpOf (pv xs) (pv ys) = some ((xs.zip ys).map Py.enc) := by
  show some (zipL (xs.map Py.enc) (ys.map Py.enc)) = _
  rw [zipL_map]
theorem e_zN (i : Nat) (x : α) (δ : Ev) : zN i (Py.enc x) δ = if i < δ.length then some (δ.set i (.v (pv x))) else none := rfl
theorem e_zT (u : List PyData → Ev → Option Ev) (p : α × β) (δ : Ev) : zT 2 u (Py.enc p) δ = u [Py.enc p.1, Py.enc p.2] δ := rfl
theorem e_zCons (t : TZ) (u : List PyData → Ev → Option Ev) (d : PyData) (r : List PyData) (δ : Ev) : zCons t u (d :: r) δ = (t d δ).bind (u r) := rfl
theorem e_zNil (δ : Ev) : zNil [] δ = some δ := rfl
theorem e_pl (ys : List α) : D.p (.list (ys.map Py.enc)) = pv ys := rfl
theorem e_noObj (a : α) : noObj (pv a) = true := rfl
/-! ## comprehensions -/
def lcS {α W : Type} (body : α → W → Res W (Option PyData)) : List α → W → Res W (List PyData)
  | [], w => .ok [] w
  | x :: r, w => (body x w).bind fun o w1 => (lcS body r w1).bind fun ys w2 => .ok (o.toList ++ ys) w2
theorem lcS_congr {W : Type} {f g : α → W → Res W (Option PyData)} {xs : List α} {w : W} (h : ∀ x, x ∈ xs → ∀ w, f x w = g x w) : lcS f xs w = lcS g xs w := by
  induction xs generalizing w with
  | nil => rfl
  | cons x r ih =>
    unfold lcS
    rw [h x List.mem_cons_self]
    congr 1
    funext o w1
    rw [ih fun x hx => h x (List.mem_cons_of_mem _ hx)]
theorem mem_rg {a b k : Int} : k ∈ rg a b ↔ a ≤ k ∧ k < b := by
  unfold rg
  simp only [List.mem_map, List.mem_range]
  constructor
  · rintro ⟨i, h, rfl⟩; omega
  · rintro ⟨h1, h2⟩
    exact ⟨(k - a).toNat, by omega, by omega⟩
theorem len_rg (a b : Int) : (rg a b).length = (b - a).toNat := by simp [rg]
theorem len_enum {α : Type} : ∀ (xs : List α) (i : Nat), (enum i xs).length = xs.length
  | [], _ => rfl
  | _ :: xs, i => by show (enum (i + 1) xs).length + 1 = _; rw [len_enum xs]; rfl
theorem cut1_eq {α : Type} (xs : List α) : cut xs none (some (-1)) = xs.take (xs.length - 1) := by
  have e1 : HT.sIx xs.length xs.length (some (-1)) = xs.length - 1 := by
    unfold HT.sIx
    dsimp only
    rw [if_pos (by decide)]
    omega
  unfold cut
  rw [e1]
  show (xs.drop 0).take (xs.length - 1 - 0) = _
  rw [List.drop_zero, Nat.sub_zero]
theorem len_cut1 {α : Type} (xs : List α) : (cut xs none (some (-1))).length = xs.length - 1 := by
  rw [cut1_eq, List.length_take]
  omega
theorem mem_cut1 {α : Type} {xs : List α} {x : α} (h : x ∈ cut xs none (some (-1))) : x ∈ xs := by
  rw [cut1_eq] at h; exact List.mem_of_mem_take h
theorem ixD_mem {α : Type} [Inhabited α] {xs : List α} {i : Int} (h : -(xs.length : Int) ≤ i ∧ i < xs.length) : ixD xs i ∈ xs := by
  have hj : ∃ j, L2.ixN xs.length i = some j ∧ j < xs.length := by
    unfold L2.ixN
    by_cases h0 : 0 ≤ i
    · rw [if_pos h0, if_pos h.2]
      exact ⟨_, rfl, by omega⟩
    · rw [if_neg h0, if_pos h.1]
      exact ⟨_, rfl, by omega⟩
  obtain ⟨j, e, hl⟩ := hj
  unfold ixD L2.atI
  rw [e]
  show (xs[j]?).getD default ∈ xs
  rw [List.getElem?_eq_getElem hl]
  exact List.getElem_mem hl
def keepD {W : Type} (y : D) (w : W) : Res W (Option PyData) := match asP y with
  | some d => .ok (some d) w
  | none => .bad
def tzD {W γ : Type} (o : Option Ev) (k : Ev → Res W γ) : Res W γ := match o with
  | some δ => k δ
  | none => .bad
theorem keepD_pv {W : Type} (a : α) (w : W) : keepD (pv a) w = .ok (some (Py.enc a)) w := rfl
theorem keepD_p {W : Type} (a : PyData) (w : W) : keepD (.p a) w = .ok (some a) w := rfl
theorem tzD_some {W γ : Type} (δ : Ev) (k : Ev → Res W γ) : tzD (some δ) k = k δ := rfl
theorem lcGo_map {W : Type} (tz : TZ) (t : XB W) (f : XF W) (δ : Ev) (xs : List α) (w : W) : lcGo tz t f δ (xs.map Py.enc) w = lcS (fun x w => tzD (tz (Py.enc x) δ) fun δ1 => (t δ1 w).calm.bind fun b w1 => if b = true then (f δ1 w1).calm.bind keepD else .ok none w1) xs w := by
  induction xs generalizing w with
  | nil => rfl
  | cons x r ih =>
    show lcGo tz t f δ (Py.enc x :: r.map Py.enc) w = _
    unfold lcGo lcS tzD
    cases tz (Py.enc x) δ with
    | none => rfl
    | some δ1 =>
      dsimp only
      cases (t δ1 w).calm with
      | bad => rfl
      | exc _ _ => rfl
      | ok b w1 =>
        cases b with
        | false =>
          show lcGo tz t f δ (r.map Py.enc) w1 = (lcS _ r w1).bind fun ys w2 => .ok ys w2
          rw [ih]
          unfold tzD
          cases lcS _ r w1 <;> rfl
        | true =>
          show (f δ1 w1).calm.bind _ = ((f δ1 w1).calm.bind _).bind _
          cases (f δ1 w1).calm with
          | bad => rfl
          | exc _ _ => rfl
          | ok y w2 =>
            unfold keepD
            show (match asP y with
              | some d => _
              | none => _) = (Res.bind (match asP y with
              | some d => _
              | none => _) _)
            cases asP y with
            | none => rfl
            | some d =>
              show (lcGo tz t f δ (r.map Py.enc) w2).bind _ = (lcS _ r w2).bind _
              rw [ih]
              unfold tzD keepD
              rfl
theorem lcS_pure {W : Type} (g : α → β) (xs : List α) (w : W) : lcS (fun x w => .ok (some (Py.enc (g x))) w) xs w = .ok ((xs.map g).map Py.enc) w := by
  induction xs with
  | nil => rfl
  | cons x r ih =>
    unfold lcS
    show (lcS _ r w).bind _ = _
    rw [ih]; rfl
theorem lcS_filt {W : Type} (p : α → Prop) [DecidablePred p] (g : α → β) (xs : List α) (w : W) : lcS (fun x w => .ok (if p x then some (Py.enc (g x)) else none) w) xs w = .ok (((xs.filter fun x => decide (p x)).map g).map Py.enc) w := by
  induction xs with
  | nil => rfl
  | cons x r ih =>
    unfold lcS
    by_cases h : p x
    · rw [if_pos h]
      show (lcS _ r w).bind _ = _
      rw [ih, List.filter_cons_of_pos (by simpa using h)]; rfl
    · rw [if_neg h]
      show (lcS _ r w).bind _ = _
      rw [ih, List.filter_cons_of_neg (by simpa using h)]; rfl
theorem lc_eq {W : Type} {body : α → W → Res W (Option PyData)} {xs : List α} {w : W} (g : α → β) (h : ∀ x, x ∈ xs → ∀ w, body x w = .ok (some (Py.enc (g x))) w) : lcS body xs w = .ok ((xs.map g).map Py.enc) w :=
  (lcS_congr h).trans (lcS_pure g xs w)
theorem lc_eqF {W : Type} {body : α → W → Res W (Option PyData)} {xs : List α} {w : W} (p : α → Prop) [DecidablePred p] (g : α → β) (h : ∀ x, x ∈ xs → ∀ w, body x w = .ok (if p x then some (Py.enc (g x)) else none) w) : lcS body xs w = .ok (((xs.filter fun x => decide (p x)).map g).map Py.enc) w :=
  (lcS_congr h).trans (lcS_filt p g xs w)
/-- a comprehension that draws -/
theorem lc_draw {W : Type} {body : α → W → Res W (Option PyData)} (G : W → Prop) (P : β → Prop) : ∀ (xs : List α), (∀ x, x ∈ xs → ∀ w, G w → ∃ r w', body x w = .ok (some (Py.enc (r : β))) w' ∧ P r ∧ G w') → ∀ w, G w → ∃ (rs : List β) (w' : W), lcS body xs w = .ok (rs.map Py.enc) w' ∧ rs.length = xs.length ∧ (∀ r ∈ rs, P r) ∧ G w'
  | [], _, w, g => ⟨[], w, rfl, rfl, fun _ h => (by cases h), g⟩
  | x :: xs, h, w, g => by
    obtain ⟨r, w1, e1, p1, g1⟩ := h x List.mem_cons_self w g
    obtain ⟨rs, w2, e2, l2, p2, g2⟩ := lc_draw G P xs (fun x hx => h x (List.mem_cons_of_mem _ hx)) w1 g1
    refine ⟨r :: rs, w2, ?_, by simp [l2], fun z hz => ?_, g2⟩
    · unfold lcS
      rw [e1]
      show (lcS body xs w1).bind _ = _
      rw [e2]; rfl
    · rcases List.mem_cons.mp hz with rfl | hz
      · exact p1
      · exact p2 z hz
/-- a loop, by an invariant -/
theorem forGo_inv {W σ : Type} {tz : TZ} {body : SF W} {w : W} (I : σ → Ev → Prop) (step : σ → α → σ) : ∀ (xs : List α), (∀ x, x ∈ xs → ∀ s δ, I s δ → ∃ δ1, tz (Py.enc x) δ = some δ1 ∧ ∃ δ2, (body δ1 w = .nx δ2 w ∨ body δ1 w = .ct δ2 w) ∧ I (step s x) δ2) →
    ∀ s δ, I s δ → ∃ δ', forGo tz body (xs.map Py.enc) δ w = .nx δ' w ∧ I (xs.foldl step s) δ'
  | [], _, s, δ, h => ⟨δ, rfl, h⟩
  | x :: xs, h, s, δ, hi => by
    obtain ⟨δ1, e1, δ2, e2, h2⟩ := h x List.mem_cons_self s δ hi
    obtain ⟨δ', e3, h3⟩ := forGo_inv I step xs (fun x hx => h x (List.mem_cons_of_mem _ hx)) (step s x) δ2 h2
    refine ⟨δ', ?_, h3⟩
    show forGo tz body (Py.enc x :: xs.map Py.enc) δ w = _
    unfold forGo
    rw [e1]
    rcases e2 with e2 | e2
    · dsimp only; rw [e2]; exact e3
    · dsimp only; rw [e2]; exact e3
theorem forGo_pre0 {W : Type} {tz : TZ} {body : SF W} {w : W} (I : List α → Ev → Prop) : ∀ (xs pre : List α), (∀ p x r, pre ++ xs = p ++ x :: r → ∀ δ, I p δ → ∃ δ1, tz (Py.enc x) δ = some δ1 ∧ ∃ δ2, (body δ1 w = .nx δ2 w ∨ body δ1 w = .ct δ2 w) ∧ I (p ++ [x]) δ2) →
    ∀ δ, I pre δ → ∃ δ', forGo tz body (xs.map Py.enc) δ w = .nx δ' w ∧ I (pre ++ xs) δ'
  | [], pre, _, δ, h => ⟨δ, rfl, by rw [List.append_nil]; exact h⟩
  | x :: xs, pre, h, δ, hi => by
    obtain ⟨δ1, e1, δ2, e2, h2⟩ := h pre x xs rfl δ hi
    obtain ⟨δ', e3, h3⟩ := forGo_pre0 I xs (pre ++ [x]) (fun p y r e => h p y r (by rw [← e, List.append_assoc]; rfl)) δ2 h2
    refine ⟨δ', ?_, by rw [List.append_assoc] at h3; exact h3⟩
    show forGo tz body (Py.enc x :: xs.map Py.enc) δ w = _
    unfold forGo
    rw [e1]
    rcases e2 with e2 | e2
    · dsimp only; rw [e2]; exact e3
    · dsimp only; rw [e2]; exact e3
/-- a loop: I says what holds behind the first ones -/
theorem forGo_pre {W : Type} {tz : TZ} {body : SF W} {w : W} {xs : List α} {δ : Ev} (I : List α → Ev → Prop) (h0 : I [] δ) (h : ∀ p x r, xs = p ++ x :: r → ∀ δ, I p δ → ∃ δ1, tz (Py.enc x) δ = some δ1 ∧ ∃ δ2, (body δ1 w = .nx δ2 w ∨ body δ1 w = .ct δ2 w) ∧ I (p ++ [x]) δ2) :
    ∃ δ', forGo tz body (xs.map Py.enc) δ w = .nx δ' w ∧ I xs δ' := by
  have := forGo_pre0 (tz := tz) (body := body) (w := w) I xs [] h δ h0
  simpa using this
theorem forGo_preW {W : Type} {tz : TZ} {body : SF W} (I : List α → Ev → W → Prop) : ∀ (xs pre : List α), (∀ p x r, pre ++ xs = p ++ x :: r → ∀ δ w, I p δ w → ∃ δ1, tz (Py.enc x) δ = some δ1 ∧ ∃ δ2 w2, (body δ1 w = .nx δ2 w2 ∨ body δ1 w = .ct δ2 w2) ∧ I (p ++ [x]) δ2 w2) →
    ∀ δ w, I pre δ w → ∃ δ' w', forGo tz body (xs.map Py.enc) δ w = .nx δ' w' ∧ I (pre ++ xs) δ' w'
  | [], pre, _, δ, w, h => ⟨δ, w, rfl, by rw [List.append_nil]; exact h⟩
  | x :: xs, pre, h, δ, w, hi => by
    obtain ⟨δ1, e1, δ2, w2, e2, h2⟩ := h pre x xs rfl δ w hi
    obtain ⟨δ', w', e3, h3⟩ := forGo_preW I xs (pre ++ [x]) (fun p y r e => h p y r (by rw [← e, List.append_assoc]; rfl)) δ2 w2 h2
    refine ⟨δ', w', ?_, by rw [List.append_assoc] at h3; exact h3⟩
    show forGo tz body (Py.enc x :: xs.map Py.enc) δ w = _
    unfold forGo
    rw [e1]
    rcases e2 with e2 | e2
    · dsimp only; rw [e2]; exact e3
    · dsimp only; rw [e2]; exact e3
end
/-! ## results -/
section
variable {W α β : Type}
theorem t_ii : tyIs "int" "int" = true := rfl
theorem t_ib : tyIs "int" "bool" = false := rfl
theorem t_il : tyIs "int" "list" = false := rfl
theorem t_it : tyIs "int" "tuple" = false := rfl
theorem t_bi : tyIs "bool" "int" = true := rfl
theorem t_bb : tyIs "bool" "bool" = true := rfl
theorem t_bl : tyIs "bool" "list" = false := rfl
theorem t_bt : tyIs "bool" "tuple" = false := rfl
theorem t_li : tyIs "list" "int" = false := rfl
theorem t_lb : tyIs "list" "bool" = false := rfl
theorem t_ll : tyIs "list" "list" = true := rfl
theorem t_lt : tyIs "list" "tuple" = false := rfl
theorem t_ti : tyIs "tuple" "int" = false := rfl
theorem t_tb : tyIs "tuple" "bool" = false := rfl
theorem t_tl : tyIs "tuple" "list" = false := rfl
theorem t_tt : tyIs "tuple" "tuple" = true := rfl
theorem i_and (b : Bool) (x : Bool) : (if b = true then x else false) = (b && x) := by cases b <;> rfl
theorem i_or (b : Bool) (x : Bool) : (if b = true then true else x) = (b || x) := by cases b <;> rfl
theorem i_andP (c : Prop) [Decidable c] (x : Bool) : (if c then x else false) = (decide c && x) := by by_cases h : c <;> simp [h]
theorem i_orP (c : Prop) [Decidable c] (x : Bool) : (if c then true else x) = (decide c || x) := by by_cases h : c <;> simp [h]
theorem lim_if {γ δ : Type} {xs : List γ} {a b : δ} (h : xs.length ≤ lim) : (if xs.length ≤ lim then a else b) = a := if_pos h
theorem lim_if2 {δ : Type} {m n : Nat} {a b : δ} (h : m + n ≤ lim) : (if m + n ≤ lim then a else b) = a := if_pos h
theorem lim_ifL {δ : Type} {m : Nat} {a b : δ} (h : m < lim) : (if m < lim then a else b) = a := if_pos h
theorem xOwn_nil {W : Type} (δ : Ev) (w : W) : xOwn lNil δ w = .ok (.own []) w := rfl
theorem i_ff (b x : Bool) : (if b = false then false else x) = (b && x) := by cases b <;> rfl
theorem i_ok (c : Prop) [Decidable c] (a b : α) (w : W) : (if c then Res.ok a w else .ok b w) = Res.ok (if c then a else b) w := by split <;> rfl
theorem i_pv [Py α] (c : Prop) [Decidable c] (a b : α) : (if c then pv a else pv b) = pv (if c then a else b) := by split <;> rfl
def andD (o : Option Bool) (r : Res W D) (w : W) : Res W D := match o with
  | some true => r
  | some false => .ok (pv false) w
  | none => .bad
def orD (o : Option Bool) (r : Res W D) (w : W) : Res W D := match o with
  | some true => .ok (pv true) w
  | some false => r
  | none => .bad
theorem andD_ev (b : Bool) (r : Res W D) (w : W) : andD (some b) r w = if b = true then r else .ok (pv false) w := by cases b <;> rfl
theorem orD_ev (b : Bool) (r : Res W D) (w : W) : orD (some b) r w = if b = true then .ok (pv true) w else r := by cases b <;> rfl
theorem xAnd_ev (f h : XF W) (δ : Ev) (w : W) : xAnd f h δ w = (f δ w).bind fun x w1 => andD (asB x) (h δ w1) w1 := rfl
theorem xOr_ev (f h : XF W) (δ : Ev) (w : W) : xOr f h δ w = (f δ w).bind fun x w1 => orD (asB x) (h δ w1) w1 := rfl
theorem xChain_ev (g g' : D → D → Option D) (f h k : XF W) (δ : Ev) (w : W) : xChain g g' f h k δ w = (f δ w).bind fun x w1 => (h δ w1).bind fun y w2 => andD ((g x y).bind asB) ((k δ w2).bind fun z w3 => opt (g' y z) w3) w2 := rfl
def ifD (r : Res W Bool) (δ : Ev) (a b : W → SRes W) : SRes W := match r with
  | .ok true w => a w
  | .ok false w => b w
  | .exc n w => .exc n δ w
  | .bad => .bad
theorem sIf_ev (t : XB W) (sf sg : SF W) (δ : Ev) (w : W) : sIf t sf sg δ w = ifD (t δ w) δ (fun w => sf δ w) fun w => sg δ w := by
  unfold sIf ifD
  cases t δ w with
  | ok b w => cases b <;> rfl
  | exc n w => rfl
  | bad => rfl
theorem ifD_ev (b : Bool) (w : W) (δ : Ev) (x y : W → SRes W) : ifD (.ok b w) δ x y = if b = true then x w else y w := by cases b <;> rfl
def seqD (r : SRes W) (k : Ev → W → SRes W) : SRes W := match r with
  | .nx δ w => k δ w
  | r => r
theorem sSeq_ev (sf sg : SF W) (δ : Ev) (w : W) : sSeq sf sg δ w = seqD (sf δ w) sg := rfl
theorem seqD_nx (δ : Ev) (w : W) (k : Ev → W → SRes W) : seqD (.nx δ w) k = k δ w := rfl
theorem seqD_rt (d : D) (w : W) (k : Ev → W → SRes W) : seqD (.rt d w) k = .rt d w := rfl
theorem seqD_exc (n : Nat) (δ : Ev) (w : W) (k : Ev → W → SRes W) : seqD (.exc n δ w) k = .exc n δ w := rfl
theorem seqD_ite (c : Prop) [Decidable c] (a b : SRes W) (k : Ev → W → SRes W) : seqD (if c then a else b) k = if c then seqD a k else seqD b k := by split <;> rfl
def liftD (r : Res Unit D) (w : W) : Res W D := match r with
  | .ok d _ => .ok d w
  | .exc n _ => .exc n w
  | .bad => .bad
theorem lift_ev (f : FZ Unit) (ds : List D) (w : W) : liftZ f ds w = if ds.all noObj = true then liftD (f ds ()) w else .bad := rfl
theorem liftD_ok (d : D) (u : Unit) (w : W) : liftD (.ok d u) w = .ok d w := rfl
theorem liftD_exc (n : Nat) (u : Unit) (w : W) : (liftD (.exc n u) w : Res W D) = .exc n w := rfl
theorem e_noObjP (d : PyData) : noObj (.p d) = true := rfl
def runD (r : SRes W) : Res W D := match r with
  | .nx _ w' => .ok (.p .none) w'
  | .rt d w' => .ok d w'
  | .exc m _ w' => .exc m w'
  | _ => .bad
theorem run_ev (n : Nat) (sf : SF W) (ds : List D) (w : W) : runZ n sf ds w = runD (sf (ds.map .v ++ List.replicate (n - ds.length) .no) w) := rfl
theorem runD_nx (δ : Ev) (w : W) : runD (.nx δ w) = .ok (.p .none) w := rfl
theorem runD_rt (d : D) (w : W) : runD (.rt d w) = .ok d w := rfl
theorem runD_exc (n : Nat) (δ : Ev) (w : W) : runD (.exc n δ w) = .exc n w := rfl
theorem runD_ite (c : Prop) [Decidable c] (a b : SRes W) : runD (if c then a else b) = if c then runD a else runD b := by split <;> rfl
theorem r_bind (a : α) (w : W) (f : α → W → Res W β) : (Res.ok a w).bind f = f a w := rfl
theorem r_bindX (n : Nat) (w : W) (f : α → W → Res W β) : (Res.exc n w : Res W α).bind f = .exc n w := rfl
theorem r_bindB (f : α → W → Res W β) : (Res.bad : Res W α).bind f = .bad := rfl
theorem r_calm (a : α) (w : W) : (Res.ok a w).calm = .ok a w := rfl
theorem r_opt (d : D) (w : W) : opt (some d) w = .ok d w := rfl
theorem r_optB (d : Bool) (w : W) : optB (some d) w = .ok d w := rfl
theorem r_int (i : Int) (δ : Ev) (w : W) : xInt i δ w = .ok (pv i) w := rfl
theorem r_bl (i : Bool) (δ : Ev) (w : W) : xBl i δ w = .ok (pv i) w := rfl
theorem r_non (δ : Ev) (w : W) : xNon δ w = .ok (.p .none) w := rfl
theorem r_var (i : Nat) (δ : Ev) (w : W) (d : D) (h : δ[i]? = some (.v d)) : xVar i δ w = .ok d w := by
  unfold xVar; rw [h]
end
end Z

set_option Elab.async false
set_option linter.all false
set_option maxRecDepth 100000
/-! # Z21: an exception held behind its suite; isinstance of a held one -/
namespace Z
open PySem PySem.Spec PyProof.Rows L2
section
variable {X : Cx} {pins : List (Addr × Obj)} {σ : L2.St} {H : Hp} {s : Shared}
/-- an object of one's own that nothing knew is known from now on -/
theorem inv_track {a : Addr} {oe : Obj} {φ : Heap → Prop} (I : Inv X pins σ H s) (na : H a = none) (n0 : X.s_0.heap.get? a = none) (nL : X.env.locals ≠ a) (nc : ∀ x c, X.env.cells.lookup x = some c → c ≠ a)
    (np : ∀ p ∈ X.pn ++ pins, p.1 ≠ a) (hφ : ObjOk X.prog X.w (upd H a (.ext φ)) s.heap a (.ext φ)) : Inv X pins σ (upd H a (.ext φ)) s := by
  have far : ∀ b o, H b = some o → upd H a (.ext φ) b = some o := fun b o q => (upd_ne (ne_of_none q na)).trans q
  have off : ∀ b o, X.s_0.heap.get? b = some o → b ≠ a := fun b o q z => by rw [z, n0] at q; cases q
  exact {
    ok := I.ok
    os := I.os
    bare := I.bare
    base := {
      keep := fun b o q n hb hx => I.base.keep b o q n hb hx
      slot := fun b o q n hb hx => I.base.slot b o q n hb hx
      free := fun b o q n hx => (upd_ne (off b o q)).trans (I.base.free b o q n hx)
      there := fun b o q hx => I.base.there b o q hx
      tups := fun b xs q => far b _ (I.base.tups b xs q)
      frzs := fun b o u q => far b _ (I.base.frzs b o u q)
      tbls := fun b ps q => by
        obtain ⟨m, q'⟩ := I.base.tbls b ps q
        exact ⟨m, far b _ q'⟩ }
    loc := I.loc
    cell := I.cell
    free := (upd_ne nL).trans I.free
    freeC := fun x c q => (upd_ne (nc x c q)).trans (I.freeC x c q)
    pin := fun p hp => by
      obtain ⟨h1, h2, h3⟩ := I.pin p hp
      exact ⟨h1, (upd_ne (np p hp)).trans h2, h3⟩
    hok := fun b u q => by
      by_cases hb : b = a
      · subst hb
        rw [upd_same] at q
        cases q
        exact hφ
      · rw [upd_ne hb] at q
        exact (I.hok b u q).stay (fun _ _ _ r => r) (fun c r => far c _ r) fun c xs r => far c _ r
    len := I.len }
end
theorem exZ_ok {P : Program} {w : World} {H : Hp} {h : Heap} {C a : Addr} {oe : Obj} {vs : Array Value} (e : h.get? a = some oe) (z : Zc (.ref C) none oe) (d : oe.data = .fields vs) : ObjOk P w H h a (ExZ C a) :=
  ⟨⟨oe, vs, e, z, d⟩, ⟨oe, e⟩, fun h1 h2 ⟨o1, v1, g1, g2, g3⟩ k => ⟨o1, v1, k o1 g1, g2, g3⟩⟩
/-- 'except x as n: y = n' wishes of an exception of the body: slot j holds it from then on -/
def wHold (K : PySem.W.Frag) (c : Value) (i j : Nat) (D : Ends) : WX := fun cls d σ H =>
  PySem.W.exmOne K cls c = some true ∧ d = none ∧ ∃ C, cls = .ref C ∧ ∀ a, H a = none → D.nx ((σ.set j (some (.ref a))).set i none) (upd H a (ExZ C a))
section
variable {X : Cx} {x n y : Str} {c : Value} {i j : Nat} {body : List Stmt} {np p1 p2 p3 pos pos' : Pos} {tb : WX → TS}
theorem ps_hold (hs : X.stack = X.env :: X.outer) (hf : X.env.frame = some X.env.locals) (hex : X.ex = []) (hN : X.N.Nodup) (hi : X.N[i]? = some n) (hln : X.env.scope.names.lookup n = some .local)
    (hj : X.N[j]? = some y) (hly : X.env.scope.names.lookup y = some .local) (hij : j ≠ i) (hc : Names X x c)
    (hdn : (n == ("__debug__" : Str)) = false) (hcn : (n == ("__classdict__" : Str)) = false)
    (hb : ∀ (W : WX) (pn : List (Addr × Obj)) (xe : Value → Shared → Prop), Takes (X.tr pn xe) W → PassesOwn (model X.prog X.w) X.A X.env xe → PSs (X.tr pn xe) body (tb W)) :
    PS X (.Try body [.ExceptHandler (some (.Name x np)) (some n) [.Assign [.Name y p1] (.Name n p2) p3] pos'] [] [] pos) (fun D σ H => tb (wHold X.K c i j D) D σ H) := by
  constructor
  intro pins s σ H D I h
  have okX := I.ok
  have frm : X.A.frames = some (X.env :: X.outer) := okX.frames.trans (congrArg some hs)
  let Xc : Value → Shared → Prop := fun e s1 => wpAny (model X.prog X.w) X.A (noteFrame e X.env) (fun _ s2 => wpAny (model X.prog X.w) X.A (setFlight e none) (fun _ s3 =>
    wpAny (model X.prog X.w) X.A (handleBy e X.env [.ExceptHandler (some (.Name x np)) (some n) [.Assign [.Name y p1] (.Name n p2) p3] pos']) (SP X pins D) X.xe s3) X.xe s2) X.xe s1
  have tk : Takes (X.tr (X.pn ++ pins) Xc) (wHold X.K c i j D) := by
    intro u s' xx
    obtain ⟨a, B, sI, ps, σ', H', cls, d, eu, J0, nb, up, sky, na, os, ag, hm, ed, C, ecls, fin⟩ := xx
    subst eu; subst ed; subst ecls
    have J : Inv X pins σ' H' sI := J0.ofTry okX
    have sky2 : Sky B (X.env :: X.outer) a (Zc (.ref C) none) X.env.locals s'.heap := hs ▸ sky
    show wpAny (model X.prog X.w) X.A (noteFrame (.ref a) X.env) _ _ _
    refine Sky.land Zc.steady frm hf sky2 ?_
    intro h3 fl3 up3
    have J3 : Inv X pins σ' H' { s' with heap := h3 } := J.landed nb fl3.1 (up.trans up3) os ag
    have there3 := fl3.there
    obtain ⟨oe3, vs3, g3, z3, d3⟩ := there3
    have apart : a ∉ frs (X.env :: X.outer) := by
      intro hmem
      obtain ⟨_, o', e', hnf⟩ := fl3.2.2.1.mem hmem
      rw [g3] at e'
      cases e'
      exact hnf _ d3
    have apL : a ≠ X.env.locals := by
      rintro rfl
      exact apart (List.mem_filterMap.mpr ⟨X.env, .head _, hf⟩)
    have apF : a ∉ X.fs := by
      intro hmem
      obtain ⟨ev, hev, q⟩ := List.mem_filterMap.mp hmem
      exact apart (List.mem_filterMap.mpr ⟨ev, .tail _ hev, q⟩)
    have notB : B.get? a = none := fl3.2.1
    have new0 : X.s_0.heap.get? a = none := by
      cases q : X.s_0.heap.get? a with
      | none => rfl
      | some o =>
        obtain ⟨o', q'⟩ := J.base.there a o q (by rw [hex]; exact List.not_mem_nil)
        have z := nb a o' q' (by rw [hs]; exact apart)
        rw [notB] at z
        cases z
    have offPin : ∀ p ∈ X.pn ++ pins, p.1 ≠ a := by
      intro p hp e
      obtain ⟨k1, k2, k3, k4, k5⟩ := J.pin p hp
      have z := nb p.1 p.2 k1 (by rw [hs, e]; exact apart)
      rw [e, notB] at z
      cases z
    have S3 := J3.suite g3 d3 na apL apF
    refine wpAny_handleBy_cons (codeAny_handlers_test ?_) nofun
    have LT : PySem.W.Looks (model X.prog X.w) h3 (typeOf (.ref a)) (.ref C) := fun A Q E s k q => wpAny_typeOf_ref (k _ _ g3) (z3.1 ▸ q)
    have LM := PySem.W.exm_one (M := model X.prog X.w) (J3.kIn) LT hm
    have named : ∀ {Q : Value → Shared → Prop} {E : Value → Shared → Prop}, Q c { s' with heap := h3 } → wpAny (model X.prog X.w) (X.A.mark (some (.ref a))) (eval (.Name x np) X.env) Q E { s' with heap := h3 } := by
      intro Q E q
      obtain ⟨hg, hdbg, hor⟩ := hc
      rcases hor with hmg | ⟨hmg, hv, hnn⟩
      · exact ld_glob (X := X.suite a ((a, oe3) :: (X.pn ++ pins))) S3 hg hmg q hdbg
      · exact ld_blt (X := X.suite a ((a, oe3) :: (X.pn ++ pins))) S3 hg hmg hv q hnn hdbg
    refine named (LM.here ?_)
    refine codeAny_handlers_suite_as (HandSPX.lands_againZ fl3 ?_)
    intro h4 fl4 up4
    have J4 : Inv X pins σ' H' { s' with heap := h4 } := J.landed nb fl4.1 ((up.trans up3).trans up4) os ag
    have there4 := fl4.there
    obtain ⟨oe4, vs4, g4, z4, d4⟩ := there4
    have S4 := J4.suite g4 d4 na apL apF
    have hiσ : i < σ'.length := by rw [J.len]; exact (List.getElem?_eq_some_iff.mp hi).1
    refine store_ok (X := X.suite a ((a, oe4) :: (X.pn ++ pins))) (v := .ref a) S4 hN hi (.inl hln) rfl ?_ (.inr hln)
    intro s5 S5
    have set1 : PS (X.suite a ((a, oe4) :: (X.pn ++ pins))) (.Assign [.Name y p1] (.Name n p2) p3) (tAsg (tVar i) (gName j)) :=
      ps_set hN hj (.inl hly) (pe_var hi (.inl hln) hdn hcn) rfl (.inr hly)
    let Dn : Ends := { nx := fun σ6 H6 => σ6 = (σ'.set i (some (.ref a))).set j (some (.ref a)) ∧ H6 = H', rt := fun _ _ => False }
    have run1 := (pss_one set1).run [] s5 _ H' Dn S5 ⟨.ref a, List.getElem?_set_self hiσ, rfl, rfl⟩
    refine wpAny_mono run1 ?_ (fun _ _ z => z.elim)
    intro f s6 hsp
    cases f with
    | next =>
      obtain ⟨σ6, H6, S6, e6, eH⟩ := hsp
      subst e6; subst eH
      obtain ⟨q1, q2, q3, q4, q5⟩ := S6.pin (a, oe4) (.head _)
      have J6 : Inv X pins ((σ'.set i (some (.ref a))).set j (some (.ref a))) H6 s6 := S6.unsuite okX
      have offC : ∀ z k, X.env.cells.lookup z = some k → k ≠ a := by
        intro z k e e2
        obtain ⟨v, o, ho, hd⟩ := J6.cell z k e
        rw [e2] at ho
        have ho' := q1.symm.trans ho
        cases ho'
        exact q5 v hd
      have J7 := inv_track (oe := oe4) J6 q2 new0 (Ne.symm apL) offC offPin (exZ_ok (C := C) q1 z4 d4)
      refine gone_ok J7 hN hi hln ?_
      intro s7 J8
      refine ⟨_, _, J8, ?_⟩
      have e9 : ((σ'.set i (some (V.ref a))).set j (some (.ref a))).set i none = (σ'.set j (some (.ref a))).set i none := by
        refine List.ext_getElem? fun k => ?_
        by_cases h1 : k = i
        · subst h1
          rw [List.getElem?_set_self (by simpa using hiσ), List.getElem?_set_self (by simpa using hiσ)]
        · rw [List.getElem?_set_ne (Ne.symm h1), List.getElem?_set_ne (Ne.symm h1)]
          by_cases h2 : k = j
          · subst h2
            have hjσ : k < σ'.length := by rw [J.len]; exact (List.getElem?_eq_some_iff.mp hj).1
            rw [List.getElem?_set_self (by simpa using hjσ), List.getElem?_set_self hjσ]
          · rw [List.getElem?_set_ne (Ne.symm h2), List.getElem?_set_ne (Ne.symm h2), List.getElem?_set_ne (Ne.symm h1)]
      rw [e9]
      exact fin a na
    | ret v =>
      obtain ⟨_, _, _, _, _, z⟩ := hsp
      exact z.elim
    | brk =>
      obtain ⟨_, _, _, z⟩ := hsp
      exact z.elim
    | cont =>
      obtain ⟨_, _, _, z⟩ := hsp
      exact z.elim
  have body1 := (hb (wHold X.K c i j D) (X.pn ++ pins) Xc tk PassesOwn.looking).run [] s σ H D (I.toTry _) h
  refine wpAny_Try_except (wpAny_mono body1 ?_ fun _ _ q => q)
  intro f s1 hsp
  cases f with
  | next =>
    obtain ⟨σ1, H1, J1, q1⟩ := hsp
    exact wpAny_execs_nil ⟨σ1, H1, J1.ofTry okX, q1⟩
  | ret v =>
    obtain ⟨v1, σ1, H1, J1, r1, q1⟩ := hsp
    exact ⟨v1, σ1, H1, J1.ofTry okX, r1, q1⟩
  | brk =>
    obtain ⟨σ1, H1, J1, q1⟩ := hsp
    exact ⟨σ1, H1, J1.ofTry okX, q1⟩
  | cont =>
    obtain ⟨σ1, H1, J1, q1⟩ := hsp
    exact ⟨σ1, H1, J1.ofTry okX, q1⟩
end
/-! ## what the classes of exceptions are to one another -/
/-- what K must say of the classes 0..7 (7 over the others, ValueError over all) -/
structure ExF (K : PySem.W.Frag) (cls : Nat → Addr) : Prop where
  ga : ∀ m, m < 8 → PySem.W.findIn K (.ref (cls m)) "__getattribute__" = some (some (.builtin "BaseException.__getattribute__"))
  gt : ∀ m, m < 8 → PySem.W.findIn K (.ref (cls m)) "__getattr__" = some none
  sb : ∀ m, m < 8 → PySem.W.subIn K (.ref (cls m)) (.type "BaseException") = some true
  hd : ∀ m, m < 8 → PySem.W.hasDictIn K (cls m) = true
  ca : ∀ m, m < 8 → PySem.W.findIn K (.ref (cls m)) "__class__" = some (some (.builtin "object.__class__"))
  sp : PySem.W.specialIn K (.builtin "object.__class__") "__get__" = some (some (.builtin "getset_descriptor.__get__"))
  tk : PySem.W.takesIn K (.builtin "object.__class__") = some true
  mr : ∀ m, m < 8 → PySem.W.mroIn K (cls m) (.type "object") = some true
  ki : ∀ m n, m < 8 → n < 8 → PySem.W.kitOne K (.ref (cls m)) (.ref (cls n)) = some (decide (m = n) || decide (n = 7))
  kv : ∀ m, m < 8 → PySem.W.kitOne K (.ref (cls m)) (.type "ValueError") = some true
  xm : ∀ m, m < 8 → PySem.W.exmOne K (.ref (cls m)) (.ref (cls 7)) = some true
theorem exF_x {K : PySem.W.Frag} {cls : Nat → Addr} (F : ExF K cls) {m : Nat} (hm : m < 8) {a : Addr} {oe : Obj} : PySem.W.KitX K (.ref a) (.ref (cls m)) (fun h => PySem.W.InstAt h a oe (cls m) none) :=
  PySem.W.handS_kitx_exc (F.ga m hm) (F.gt m hm) (F.sb m hm) (F.hd m hm) (F.ca m hm) F.sp F.tk (F.mr m hm)
section
variable {X : Cx} {W : Type} {wd : WD W} {cls : Nat → Addr} {e : Cur wd} {Wx : WX} {a : Expr} {f : XF W} {sts : List Stmt} {sf : SF W}
/-- isinstance(e, c), e held -/
def rIsX (K : PySem.W.Frag) (cls : Nat → Addr) (wd : WD W) (cv : V) (g : D → Option D) : List V → Hp → VK → Prop := fun xs H Q => ∃ (c : Cur wd) (x : D) (u : V), c.H = H ∧ Ok c ∧ xs = [u, cv] ∧ Dv cls K c x u ∧ gives cls K c (g x) Q
def gIsX (n : Nat) : D → Option D
  | .exc m => if m < 8 then some (.p (.bool (decide (m = n) || decide (n = 7)))) else none
  | _ => none
def gIsV : D → Option D
  | .exc m => if m < 8 then some (.p (.bool true)) else none
  | _ => none
theorem call_isX (F : ExF X.K cls) {cv : V} {cw : Value} {g : D → Option D} (hr : ∀ u, RelV cv u → u = cw) (hg : ∀ x d, g x = some d → ∃ m b, x = .exc m ∧ m < 8 ∧ d = .p (.bool b) ∧ PySem.W.kitOne X.K (.ref (cls m)) cw = some b) :
    CallR X (.builtin "isinstance") (rIsX X.K cls wd cv g) := by
  intro pins s σ H xs us Q I r h
  obtain ⟨c, x, u, eH, k, rfl, q, d, ed, q2⟩ := h
  obtain ⟨m, b, rfl, hm, rfl, hk⟩ := hg x d ed
  obtain ⟨a, rfl, hF⟩ := q
  cases r with
  | cons r1 r =>
    cases r with
    | cons r2 r =>
      cases r
      cases r1
      cases hr _ r2
      subst eH
      obtain ⟨⟨oe, vs, g1, g2, g3⟩, _⟩ := (show ObjOk X.prog X.w c.H s.heap a (ExZ (cls m) a) from I.hok a _ (k.fh _ _ hF))
      have IA : PySem.W.InstAt s.heap a oe (cls m) none := ⟨g1, g2.1, by unfold PySem.W.notCls; rw [g3], by rw [g2.2]; trivial⟩
      exact PySem.W.kia_one (exF_x F hm) I.kIn IA hk (fun z => nomatch z) fun tk => ⟨.bl b, c.H, I.tok tk, rfl, q2 _ c rfl (Bs.refl k) (dv_bl.mpr rfl)⟩
theorem s_isX {x : Str} {n : Nat} {p p2 pos : Pos} (ke : Ok e) (F : ExF X.K cls) (hn : n < 8) (hm : X.mg "isinstance" = none) (hx : X.mg x = some (.ref (cls n))) (ha : PE X a (tS cls X.K e Wx f))
    (hg : Gl X "isinstance" := by rfl) (hgx : Gl X x := by rfl) (hdx : (x == ("__debug__" : Str)) = false := by decide) (hv : bootBuiltins "isinstance" = some (.builtin "isinstance") := by decide +kernel)
    (he : starEach [a, .Name x p2] X.env = (false, eval a X.env) :: starEach [.Name x p2] X.env := by rfl) (he2 : starEach [.Name x p2] X.env = (false, eval (.Name x p2) X.env) :: starEach [] X.env := by rfl)
    (hpl : (backTo pos (starEach [.Name x p2] X.env)).any (·.1) = false := by rfl) :
    PE X (.Call (.Name "isinstance" p) [a, .Name x p2] [] pos) (tS cls X.K e Wx (x1 (gIsX n) f)) :=
  pe_imp (pe_callB (call_isX (wd := wd) (cv := .ref (cls n)) (cw := .ref (cls n)) (g := gIsX n) F (fun u r => r) (fun x d h => by
    unfold gIsX at h
    split at h
    · rename_i m
      split at h
      · rename_i hm
        cases h
        exact ⟨m, _, rfl, hm, rfl, F.ki m n hm hn⟩
      · cases h
    · cases h)) hg hm hv (pa_cons ha (pa_cons (pe_glob (v := .ref (cls n)) hgx hx rfl hdx) pa_nil he2) he) (by decide) (by decide) he hpl) fun σ H Q ⟨c, δ, eH, r, q⟩ => by
    rw [← eH]
    show tS cls X.K e Wx f σ c.H _
    refine tS_imp (after_one ke r q) fun u H1 ⟨x, c2, e2, b2, r2, q2, q3⟩ => ?_
    exact ⟨c2, x, u, e2, r2.ok, rfl, q2, after_opt q3⟩
theorem s_isV {p p2 pos : Pos} (ke : Ok e) (F : ExF X.K cls) (hm : X.mg "isinstance" = none) (hms : X.mg "ValueError" = none) (ha : PE X a (tS cls X.K e Wx f))
    (hg : Gl X "isinstance" := by rfl) (hgs : Gl X "ValueError" := by rfl) (hv : bootBuiltins "isinstance" = some (.builtin "isinstance") := by decide +kernel) (hvs : bootBuiltins "ValueError" = some (.type "ValueError") := by decide +kernel)
    (he : starEach [a, .Name "ValueError" p2] X.env = (false, eval a X.env) :: starEach [.Name "ValueError" p2] X.env := by rfl) (he2 : starEach [.Name "ValueError" p2] X.env = (false, eval (.Name "ValueError" p2) X.env) :: starEach [] X.env := by rfl)
    (hpl : (backTo pos (starEach [.Name "ValueError" p2] X.env)).any (·.1) = false := by rfl) :
    PE X (.Call (.Name "isinstance" p) [a, .Name "ValueError" p2] [] pos) (tS cls X.K e Wx (x1 gIsV f)) :=
  pe_imp (pe_callB (call_isX (wd := wd) (cv := .ty "ValueError") (cw := .type "ValueError") (g := gIsV) F (fun u r => r) (fun x d h => by
    unfold gIsV at h
    split at h
    · rename_i m
      split at h
      · rename_i hm
        cases h
        exact ⟨m, _, rfl, hm, rfl, F.kv m hm⟩
      · cases h
    · cases h)) hg hm hv (pa_cons ha (pa_cons (pe_bltn (v := .ty "ValueError") hgs hms hvs rfl (by decide) (by decide)) pa_nil he2) he) (by decide) (by decide) he hpl) fun σ H Q ⟨c, δ, eH, r, q⟩ => by
    rw [← eH]
    show tS cls X.K e Wx f σ c.H _
    refine tS_imp (after_one ke r q) fun u H1 ⟨x, c2, e2, b2, r2, q2, q3⟩ => ?_
    exact ⟨c2, x, u, e2, r2.ok, rfl, q2, after_opt q3⟩
/-- try: .. except SheetError as x: y = x -/
def sHold (i j : Nat) (sf : SF W) : SF W := fun δ w => match sf δ w with
  | .exc m δ' w' => if m < 8 ∧ j < δ'.length then .nx ((δ'.set j (.v (.exc m))).set i .no) w' else .bad
  | r => r
theorem ss_hold {x n y : Str} {i j : Nat} {body : List Stmt} {np p1 p2 p3 pos pos' : Pos} (ke : Ok e) (hs : X.stack = X.env :: X.outer) (hf : X.env.frame = some X.env.locals) (hex : X.ex = []) (F : ExF X.K cls) (hN : X.N.Nodup) (hi : X.N[i]? = some n) (hln : X.env.scope.names.lookup n = some .local)
    (hj : X.N[j]? = some y) (hly : X.env.scope.names.lookup y = some .local) (hij : j ≠ i) (hx : X.mg x = some (.ref (cls 7)))
    (hb : ∀ (Wx : WX) (pn : List (Addr × Obj)) (xe : Value → Shared → Prop), Takes (X.tr pn xe) Wx → PassesOwn (model X.prog X.w) X.A X.env xe → PSs (X.tr pn xe) body (tSS cls X.K e Wx sf))
    (hg : Gl X x := by rfl) (hdx : (x == ("__debug__" : Str)) = false := by decide) (hdn : (n == ("__debug__" : Str)) = false := by decide) (hcn : (n == ("__classdict__" : Str)) = false := by decide) :
    PS X (.Try body [.ExceptHandler (some (.Name x np)) (some n) [.Assign [.Name y p1] (.Name n p2) p3] pos'] [] [] pos) (tSS cls X.K e Wx (sHold i j sf)) :=
  ps_imp (ps_hold hs hf hex hN hi hln hj hly hij ⟨hg, hdx, .inl hx⟩ hdn hcn hb) fun D σ H ⟨c, δ, eH, r, q⟩ => by
    refine ⟨c, δ, eH, r, ?_⟩
    unfold sHold at q
    cases z : sf δ c.w with
    | nx δ' w' => rw [z] at q; exact q
    | rt d w' => rw [z] at q; exact q
    | bk δ' w' => rw [z] at q; exact q
    | ct δ' w' => rw [z] at q; exact q
    | bad => rw [z] at q; exact q
    | exc m δ' w' =>
      rw [z] at q
      dsimp only at q
      by_cases hm : m < 8 ∧ j < δ'.length
      · rw [if_pos hm] at q
        intro σ' c' hw sb r'
        refine ⟨F.xm m hm.1, rfl, cls m, rfl, fun a ha => ?_⟩
        have b := Bs.put r'.ok (ExZ (cls m) a) ha
        have r2 := (r'.step ke b).put (d := .exc m) (u := .ref a) hm.2 ⟨a, rfl, upd_same⟩
        exact q _ (c'.put a (ExZ (cls m) a)) hw (sb.trans b.ff) (r2.drop none)
      · rw [if_neg hm] at q; exact q.elim
end
/-! ## the facts, off the head's look -/
def exChk (K : PySem.W.Frag) (cls : Nat → Addr) : Bool :=
  ((List.range 8).all fun m => decide (PySem.W.findIn K (.ref (cls m)) "__getattribute__" = some (some (.builtin "BaseException.__getattribute__"))) && (decide (PySem.W.findIn K (.ref (cls m)) "__getattr__" = some none) &&
    (decide (PySem.W.subIn K (.ref (cls m)) (.type "BaseException") = some true) && (PySem.W.hasDictIn K (cls m) && (decide (PySem.W.findIn K (.ref (cls m)) "__class__" = some (some (.builtin "object.__class__"))) &&
    (decide (PySem.W.mroIn K (cls m) (.type "object") = some true) && (((List.range 8).all fun n => decide (PySem.W.kitOne K (.ref (cls m)) (.ref (cls n)) = some (decide (m = n) || decide (n = 7)))) &&
    (decide (PySem.W.kitOne K (.ref (cls m)) (.type "ValueError") = some true) && decide (PySem.W.exmOne K (.ref (cls m)) (.ref (cls 7)) = some true))))))))) &&
  (decide (PySem.W.specialIn K (.builtin "object.__class__") "__get__" = some (some (.builtin "getset_descriptor.__get__"))) && decide (PySem.W.takesIn K (.builtin "object.__class__") = some true))
theorem exF_of {K : PySem.W.Frag} {cls : Nat → Addr} (h : exChk K cls = true) : ExF K cls := by
  unfold exChk at h
  simp only [Bool.and_eq_true, List.all_eq_true, decide_eq_true_eq, List.mem_range] at h
  obtain ⟨h1, h2, h3⟩ := h
  exact ⟨fun m hm => (h1 m hm).1, fun m hm => (h1 m hm).2.1, fun m hm => (h1 m hm).2.2.1, fun m hm => (h1 m hm).2.2.2.1, fun m hm => (h1 m hm).2.2.2.2.1, h2, h3, fun m hm => (h1 m hm).2.2.2.2.2.1,
    fun m n hm hn => (h1 m hm).2.2.2.2.2.2.1 n hn, fun m hm => (h1 m hm).2.2.2.2.2.2.2.1, fun m hm => (h1 m hm).2.2.2.2.2.2.2.2⟩
/-- a look with one more check -/
def hookX (n : Nat) (fa : List He.Fa) (fn : List He.FnD) (ck : PySem.W.Frag → Bool) : PySem.W.Hook where
  α := He.Al × Bool
  obs := fun s => (He.obsG n fa fn s.heap.get?, ck (He.frG s.heap.get? (He.asG s.heap.get? n)))
  val := fun _ => (He.valE fn, true)
  says := fun _ h => ∃ K : PySem.W.Frag, K.In h ∧ He.SaysE fa fn K ∧ ck K = true
  of := fun _ _ e => ⟨_, He.frG_in, congrArg Prod.fst e, congrArg Prod.snd e⟩
  keeps := fun _ _ _ ⟨K, hK, c⟩ k => ⟨K, PySem.W.Frag.In.keeps hK k, c⟩
def obsX (n : Nat) (fa : List He.Fa) (fn : List He.FnD) (ck : PySem.W.Frag → Bool) (g : Addr → Option Obj) : He.Al × Bool := (He.obsG n fa fn g, ck (He.frG g (He.asG g n)))
theorem obsX_eq {n : Nat} {fa : List He.Fa} {fn : List He.FnD} {ck : PySem.W.Frag → Bool} {g : Addr → Option Obj} {s : Shared} (h : ∀ a, g a = s.heap.get? a) : obsX n fa fn ck g = (hookX n fa fn ck).obs s := by
  have e : g = s.heap.get? := funext h
  rw [e] <;> rfl
end Z

set_option Elab.async false
set_option linter.all false
set_option maxRecDepth 100000
/-! # Z22: methods of lists, texts by functions; counts, places of truth values; sorted(set(ints)) -/
namespace Z
open PySem PySem.Spec PyProof.Rows L2
theorem vals_count {y : V} : ∀ {ys : List V} {us : List Value}, Vals ys us → ys.all flatV = true → us.countP (eqU y) = ys.countP fun z => eqV z y
  | _, _, .nil, _ => rfl
  | z :: ys, u :: us, .cons r t, h => by
    rw [List.all_cons, Bool.and_eq_true] at h
    rw [List.countP_cons, List.countP_cons, vals_count t h.2, eqU_of r h.1]
section
variable {X : Cx}
def rCntF (K : PySem.W.Frag) : V → List V → Hp → VK → Prop := fun x xs H Q => ∃ (p : Addr) (ys : List V) (y : V), x = .ref p ∧ xs = [y] ∧ SqL K H p ys ∧ flatV y = true ∧ ys.all flatV = true ∧ Q (.int (ys.countP fun z => eqV z y : Nat)) H
theorem mt_cntF : MtR X "list.count" (rCntF X.K) := by
  intro pins s σ H x xs v us Q I rx rxs h
  obtain ⟨p, ys, y, rfl, rfl, hs, fy, fys, q⟩ := h
  cases rx
  obtain ⟨u, rfl, ru⟩ := rxs.one
  obtain ⟨its, rv, ⟨⟨cls, dd, data, sl⟩, n, ho, hc, hdn, hd⟩, hlen⟩ := I.list hs
  have hc : cls = _ := hc
  have hd : data = _ := hd
  subst hc; subst hd
  have cnt : its.toArray.toList.countP (eqU y) = ys.countP fun z => eqV z y := vals_count rv fys
  refine call_meets PySem.F.slot_list_count ⟨_, ho, rfl⟩ PySem.F.entry_list_count (PySem.F.args_list_count_2 _ _) (SeqAt.list_countAt p its.toArray n dd sl u (eqU y)) ⟨ho, ?_, ?_⟩
  · intro z hz
    exact mem_eqAt ru fy rv fys z (by simpa using hz)
  · rw [cnt]
    exact ⟨.int _, H, I.tok _, ⟨s.toks, rfl⟩, q⟩
end
section
variable {X : Cx} {W : Type} {wd : WD W} {cls : Nat → Addr} {e : Cur wd} {Wx : WX} {a b o : Expr} {f h : XF W}
/-- a method of one argument, by a function -/
def rMt (cls : Nat → Addr) (K : PySem.W.Frag) (wd : WD W) (g : D → D → Option D) : V → List V → Hp → VK → Prop := fun u us H Q => ∃ (c : Cur wd) (x y : D) (v : V), c.H = H ∧ Ok c ∧ us = [v] ∧ Dv cls K c x u ∧ Dv cls K c y v ∧ gives cls K c (g x y) Q
theorem mtR_imp {id : String} {r r' : V → List V → Hp → VK → Prop} (h : MtR X id r) (i : ∀ x xs H Q, r' x xs H Q → r x xs H Q) : MtR X id r' := fun pins s σ H x xs v us Q I rx rxs q => h pins s σ H x xs v us Q I rx rxs (i _ _ _ _ q)
def strOf : D → Option Str
  | .p (.str x) => some x
  | _ => none
/-- the thing asked is of this kind -/
def xMt (k : D → Bool) (g : D → D → Option D) (f h : XF W) : XF W := fun δ w => (f δ w).bind fun x w1 => if k x = true then (h δ w1).bind fun y w2 => opt (g x y) w2 else .bad
def isL : D → Bool
  | .p (.list _) => true
  | _ => false
def isS : D → Bool
  | .p (.str _) => true
  | _ => false
theorem isL_ty {K : PySem.W.Frag} {c : Cur wd} {x : D} {u : V} (k : Ok c) (h : isL x = true) (q : Dv cls K c x u) : tyV K "list" u c.H := by
  unfold isL at h
  split at h
  · obtain ⟨p, vs, rfl, h1, _⟩ := dv_lst.mp q
    exact .inl ⟨rfl, vs, SqL.of (k.fh _ _ h1)⟩
  · cases h
theorem isS_ty {K : PySem.W.Frag} {c : Cur wd} {x : D} {u : V} (k : Ok c) (h : isS x = true) (q : Dv cls K c x u) : tyV K "str" u c.H := by
  unfold isS at h
  split at h
  · obtain rfl := dv_str.mp q
    exact rfl
  · cases h
theorem mt_imp {T : String} {kd : D → Bool} {g : D → D → Option D} (ke : Ok e) (hk : ∀ (c : Cur wd) (x : D) (u : V), Ok c → kd x = true → Dv cls X.K c x u → tyV X.K T u c.H) (hs1 : starEach (a :: []) X.env = (false, eval a X.env) :: starEach [] X.env)
    (σ : L2.St) (H : Hp) (Q : VK) (q : tS cls X.K e Wx (xMt kd g f h) σ H Q) : tBM X.K T (rMt cls X.K wd g) (tS cls X.K e Wx f) (tSL cls X.K e Wx (lCons h lNil)) σ H Q := by
  obtain ⟨c, δ, eH, r, q⟩ := q
  subst eH
  refine tS_imp (after_one ke r q) fun u H1 ⟨x, c2, e2, b2, r2, q2, q3⟩ => ?_
  subst e2
  by_cases hx : kd x = true
  · rw [if_pos hx] at q3
    refine ⟨hk c2 x u r2.ok hx q2, ?_⟩
    refine ⟨c2, δ, rfl, r2, ?_⟩
    unfold lCons
    cases z : h δ c2.w with
    | bad => rw [z] at q3; exact q3
    | exc n w => rw [z] at q3; exact q3
    | ok y w =>
      rw [z] at q3
      intro us c3 hw b3 ⟨v, vs, ev, q4, q5⟩
      have q5 : vs = [] := q5
      subst q5
      refine ⟨c3, x, y, v, rfl, b3.ok, ev, q2.mono b3, q4, ?_⟩
      cases z2 : g x y with
      | none => rw [Res.bind, z2] at q3; exact q3.elim
      | some d =>
        rw [Res.bind, z2] at q3
        exact ⟨d, rfl, fun u' c4 hw4 b4 q6 => q3 u' c4 (hw4.trans hw) (b3.trans r2.ok b4) q6⟩
  · rw [if_neg hx] at q3; exact q3.elim
theorem s_mt {T id : String} {name : Str} {kd : D → Bool} {g : D → D → Option D} {apos cpos : Pos} (ke : Ok e) (hk : ∀ (c : Cur wd) (x : D) (u : V), Ok c → kd x = true → Dv cls X.K c x u → tyV X.K T u c.H)
    (pa : PlainAttrs T) (slot : Slot T name id) (hty : typeOf (.builtin id) = pure (.type "method_descriptor")) (hm : MtR X id (rMt cls X.K wd g)) (ho : PE X o (tS cls X.K e Wx f)) (ha : PE X a (tS cls X.K e Wx h))
    (hbase : attributeBase o name X.env (eval o X.env) = eval o X.env := by rfl)
    (hfew : ((backTo cpos (starEach (a :: []) X.env)).all (fun x => !x.1) && (backToKw cpos (keywordEach [] X.env)).all (fun x => x.1.isSome) && decide ((a :: []).length + ([] : List Keyword).length + (if ([] : List Keyword).isEmpty then 0 else 1) < 30)) = true := by rfl)
    (hline : (apos.endLine == cpos.line) = true := by rfl) (hs : starEach (a :: []) X.env = (false, eval a X.env) :: starEach [] X.env := by rfl) (hplain : (backTo cpos (starEach [] X.env)).any (·.1) = false := by rfl) :
    PE X (.Call (.Attribute o name apos) (a :: []) [] cpos) (tS cls X.K e Wx (xMt kd g f h)) :=
  pe_imp (pe_bm pa slot hty hm ho (sa_cons ke ha sa_nil hs) hbase hfew hline hs hplain) fun σ H Q q => mt_imp ke hk hs σ H Q q
/-! ## counts, places of truth values -/
theorem flat_bls (bs : List Bool) : (bs.map V.bl).all flatV = true := by
  rw [List.all_map]
  exact List.all_eq_true.mpr fun _ _ => rfl
def gCnt : D → D → Option D
  | .p (.list xs), .p (.bool b) => (bools? xs).map fun bs => .p (.int (bs.countP fun z => z == b : Nat))
  | _, _ => none
theorem mg_cnt : MtR X "list.count" (rMt cls X.K wd gCnt) := mtR_imp mt_cntF fun u us H Q ⟨c, x, y, v, eH, k, eu, q1, q2, q⟩ => by
  subst eH
  unfold gCnt at q
  split at q
  · rename_i xs b
    cases z : bools? xs with
    | none => rw [z] at q; exact gives_no q
    | some bs =>
      rw [z] at q
      obtain ⟨p, rfl, h1⟩ := bools_list k z q1
      obtain rfl := dv_bl.mp q2
      refine ⟨p, bs.map V.bl, .bl b, rfl, eu, h1, rfl, flat_bls bs, ?_⟩
      have ec : ((bs.map V.bl).countP fun z => eqV z (.bl b)) = bs.countP fun z => z == b := by
        rw [List.countP_map]; rfl
      rw [ec]
      exact gives_v q k (dv_int.mpr rfl)
  · exact gives_no q
/-- the first place -/
def fstAt (b : Bool) : List Bool → Option Nat
  | [] => none
  | x :: r => if x = b then some 0 else (fstAt b r).map (· + 1)
theorem fstAt_is {b : Bool} : ∀ {bs : List Bool} {j : Nat}, fstAt b bs = some j → bs[j]? = some b ∧ ∀ m z, m < j → bs[m]? = some z → z ≠ b
  | [], _, h => by cases h
  | x :: r, j, h => by
    unfold fstAt at h
    by_cases hx : x = b
    · rw [if_pos hx] at h
      cases h
      exact ⟨by rw [hx]; rfl, fun m z hm => by omega⟩
    · rw [if_neg hx] at h
      obtain ⟨i, hi, rfl⟩ := Option.map_eq_some_iff.mp h
      obtain ⟨h1, h2⟩ := fstAt_is hi
      refine ⟨by simpa using h1, fun m z hm hz => ?_⟩
      cases m with
      | zero => simp at hz; rw [← hz]; exact hx
      | succ m => exact h2 m z (by omega) (by simpa using hz)
def gIdx : D → D → Option D
  | .p (.list xs), .p (.bool b) => (bools? xs).bind fun bs => (fstAt b bs).map fun j => .p (.int (j : Nat))
  | _, _ => none
theorem mg_idx : MtR X "list.index" (rMt cls X.K wd gIdx) := mtR_imp mt_index fun u us H Q ⟨c, x, y, v, eH, k, eu, q1, q2, q⟩ => by
  subst eH
  unfold gIdx at q
  split at q
  · rename_i xs b
    cases z : bools? xs with
    | none => rw [z] at q; exact gives_no q
    | some bs =>
      rw [z] at q
      dsimp only [Option.bind] at q
      cases z2 : fstAt b bs with
      | none => rw [z2] at q; exact gives_no q
      | some j =>
        rw [z2] at q
        obtain ⟨p, rfl, h1⟩ := bools_list k z q1
        obtain rfl := dv_bl.mp q2
        obtain ⟨g1, g2⟩ := fstAt_is z2
        refine ⟨p, bs.map V.bl, .bl b, j, .bl b, rfl, eu, h1, rfl, flat_bls bs, by rw [List.getElem?_map, g1]; rfl, by show (b == b) = true; simp, fun m z' hm hz => ?_, gives_v q k (dv_int.mpr rfl)⟩
        rw [List.getElem?_map, Option.map_eq_some_iff] at hz
        obtain ⟨zb, hz, rfl⟩ := hz
        show (zb == b) = false
        exact beq_eq_false_iff_ne.mpr (g2 m zb hm hz)
  · exact gives_no q
end
end Z

set_option Elab.async false
set_option linter.all false
set_option maxRecDepth 100000
/-! # Z23: sorted(set(ints)) -/
namespace Z
open PySem PySem.Spec PyProof.Rows L2
/-! ## sorted(set(ints)) -/
/-- the new, empty set -/
abbrev eset (w : World) : Obj := { cls := .type "set", dict := none, data := .set #[] 0 (.fresh 0 0 (!w.params.followText "set-order")) }
section
variable {P : Program} {w : World} {A : Around} {E : Value → Shared → Prop} {s : Shared}
set_option maxHeartbeats 3200000 in
theorem call_set_lisI {l : Addr} {items : Array Value} (ns : List Int) {Q : Value → Shared → Prop} (hh : A.handled = none) (hl : s.heap.IsList l items) (hit : IntsAre items.toList ns) (hb : ns.length + 1 < scanBound)
    (fin : ∀ (h' : Heap) (tk c : Nat), SetR w h' s.heap.objs.size (fun j => decide (j ∈ ns)) c → c ≤ ns.length → (∀ b o, s.heap.get? b = some o → h'.get? b = some o) → Q (.ref s.heap.objs.size) { s with heap := h', toks := tk }) :
    wpAny (model P w) A (call (.type "set") [.ref l]) Q E s := by
  have many : items.size = ns.length := (Array.length_toList (xs := items)).symm.trans (IntsAre.length hit)
  obtain ⟨cm, tl, mro_⟩ := F.called_set.mro
  have made_ := F.called_set.made
  have sub_ := F.called_set.sub
  refine wpAny_call (codeAny_of_tree ?_)
  show wpAny (model P w) _ (callAny (.type "set") _) _ _ s
  refine wpAny_pure ⟨Code.quiet_builtin _ (by decide +kernel), codeAny_builtin F.entry_type_call ?_⟩
  rw [Around.under_plain (weight_type_call_type "set" [.ref l] []) rfl]
  have notT := F.called_set.notType
  have canC := F.called_set.canCreate
  have tcall := F.typeCall_set_1 (.ref l)
  repeat (any_goals (first | assumption | wp_step))
  let h1 : Heap := s.heap.push (eset w)
  refine codeAny_mono (code_set_led1 (P := P) (w := w) (A := _) (s := s) (.ref l) (E := E) (Q₁ := fun obj t => obj = .ref s.heap.objs.size ∧ t = { s with heap := h1 }) ⟨rfl, rfl⟩) ?_
  intro r t hr
  cases r with
  | error x => exact hr
  | ok fl =>
    cases fl with
    | ret obj =>
      obtain ⟨e1, e2⟩ := hr
      subst e1; subst e2
      have at1 : h1.get? s.heap.objs.size = some (eset w) := Heap.get?_push_size _ rfl
      have isSet : Shared.TypeIs { s with heap := h1 } (.ref s.heap.objs.size) "set" := ⟨_, at1, rfl⟩
      have look_ := F.called_set.init.lookup
      have bind_ := F.called_set.init.bind (.ref s.heap.objs.size)
      repeat (any_goals (first | assumption | wp_step))
      let Good : Heap → Nat → Prop := fun h' c => SetR w h' s.heap.objs.size (fun j => decide (j ∈ ns)) c ∧ c ≤ ns.length ∧ ∀ b o, s.heap.get? b = some o → h'.get? b = some o
      refine codeAny_mono (codeAny_call_builtin (R := wants (fun z u => z = .none ∧ ∃ h' tk c, u = { s with heap := h', toks := tk } ∧ Good h' c) E) F.called_set.init.plain F.entry_set_init (check_set_init_1 isSet ?inner)) ?outer
      case outer =>
        intro r2 t2 hr2
        cases r2 with
        | error x => exact hr2
        | ok fl2 =>
          cases fl2 with
          | ret z =>
            obtain ⟨ez, h', tk, c, et, g1, g2, g3⟩ := hr2
            subst ez; subst et
            repeat (any_goals (first | assumption | wp_step))
            exact fin h' tk c g1 g2 g3
          | _ => exact hr2.elim
      case inner =>
        have ltl : l < s.heap.objs.size := by
          obtain ⟨ol, hol, _⟩ := hl
          exact Heap.lt_size hol
        have isL1 : h1.IsList l items := hl.push _
        obtain ⟨ol, hol, hcl, nl, hdl⟩ := hl
        obtain ⟨oc, od, odt, osl⟩ := ol
        have hcl : oc = _ := hcl
        have hdl : odt = _ := hdl
        subst hcl; subst hdl
        have at2 : h1.get? l = some { cls := .type "list", dict := od, data := .seq items nl, slots := osl } := Heap.get?_push_of_some _ hol
        have sub1 := F.sub_list_set
        have sub2 := F.sub_list_frozenset
        have noD : (Value.type "list" == Value.type "dict") = false := by decide
        unfold Builtin.«set.__init__» noKeywords Builtin.Frozenset.updateFrom
        generalize gI : pyIter = PI
        wp_walk
        subst gI
        refine wpAny_pyIter_list isL1 (wpAny_bind (wpAny_runValue ?_))
        have calm3 : A.in1.in1.in1.handled = none := by simp [hh]
        have size1 : h1.objs.size = s.heap.objs.size + 1 := Heap.size_push ..
        have ltI : l ≠ h1.objs.size := by rw [size1]; exact Nat.ne_of_lt (Nat.lt_succ_of_lt ltl)
        have offS : s.heap.objs.size ∉ [h1.objs.size, l] := by
          rw [size1]
          intro hm
          rcases List.mem_cons.mp hm with e | hm
          · exact Nat.ne_of_lt (Nat.lt_succ_self _) e
          · exact Nat.ne_of_gt ltl (List.mem_singleton.mp hm)
        have each : ∀ (i : Nat) (v : Value), items[i]? = some v → ∃ k t, ns[i]? = some k ∧ v = .int k t := by
          intro i v hv
          have hi : i < ns.length := many ▸ (Array.getElem?_eq_some_iff.mp hv).1
          obtain ⟨t, ev⟩ := PyProof.Rows.IntsAre.int_at hit i v ((Array.getElem?_toList ..).trans hv)
          have e0 : ns[i]? = some ns[i] := List.getElem?_eq_getElem hi
          refine ⟨ns[i], t, e0, ev.trans ?_⟩
          rw [List.getD_eq_getElem?_getD, e0]; rfl
        refine set_update_ints ((Walks.list calm3 _ l ltI items).toS) s.heap.objs.size offS ns many hb each (items.size - 0) 0 _ (by omega) (Nat.zero_le _) ⟨⟨_, Heap.get?_push_size _ rfl, rfl, rfl⟩, (isL1.push _)⟩ ?first ?last
        case first => exact ⟨0, Nat.le_refl 0, setR_new_at (Heap.get?_push_of_some _ at1)⟩
        case last =>
          intro s3 c3 hm hc3 hS3
          obtain ⟨h', g2, d', tk', os'⟩ := s3
          have eg : g2 = s.gens := hm.gens
          have ed : d' = s.drawn := hm.drawn
          have eo : os' = s.os := hm.os
          subst eg; subst ed; subst eo
          rw [many] at hc3
          have kept : ∀ b o, s.heap.get? b = some o → h'.get? b = some o := by
            intro b o eb
            have hb0 : b < s.heap.objs.size := Heap.lt_size eb
            refine hm.heap b o ?_ (Heap.get?_push_of_some _ (Heap.get?_push_of_some _ eb))
            intro hm'
            rcases List.mem_cons.mp hm' with e | hm'
            · exact Nat.ne_of_lt hb0 e
            · have := List.mem_singleton.mp hm'
              exact Nat.ne_of_lt (Nat.lt_succ_of_lt hb0) (this.trans size1)
          show wpAny (model P w) _ _ _ _ _
          refine wpAny_pure ?_
          show wpAny (model P w) _ (ret Value.none) _ _ _
          exact wpAny_pure ⟨rfl, h', tk', c3, rfl, hS3, hc3, kept⟩
    | _ => exact hr.elim
end
section
variable {X : Cx} {W : Type} {wd : WD W} {cls : Nat → Addr} {e : Cur wd} {Wx : WX} {a b o : Expr} {f h : XF W}
def rSetL (K : PySem.W.Frag) (w : World) : List V → Hp → VK → Prop := fun xs H Q => ∃ (l : Addr) (ns : List Int), xs = [.ref l] ∧ SqL K H l (ns.map V.int) ∧ ns.length < 64 ∧ ∀ p c, H p = none → c ≤ ns.length → Q (.ref p) (upd H p (SetO w p (fun j => decide (j ∈ ns)) c))
theorem call_setL (hc : X.calm = true) : CallR X (.type "set") (rSetL X.K X.w) := by
  intro pins s σ H xs us Q I r hq
  obtain ⟨l, ns, rfl, hs, hn, q⟩ := hq
  rw [Vals.ref1 r]
  obtain ⟨its, rv, hl, hz⟩ := I.list hs
  refine call_set_lisI (P := X.prog) (w := X.w) ns (I.ok.hd hc) hl.isList (by simpa using rv.ints) (by unfold scanBound; omega) ?_
  intro h' tk c g1 g2 g3
  have hf : H s.heap.objs.size = none := I.hok.fresh (Nat.le_refl _)
  exact ⟨.ref _, _, I.laid (t' := tk) g3 (Nat.le_refl _) (setO_new g1), rfl, q _ c hf g2⟩
/-- the ints, each once, rising -/
def sortI (ns : List Int) : List Int := (sortP ((ddp ns).map PyData.int)).filterMap fun d => match d with
  | .int i => some i
  | _ => none
def gSortedSet : D → Option D
  | .p (.list xs) => (ints? xs).bind fun ns => if ns.length < 64 then some (.p (.list (sortP ((ddp ns).map PyData.int)))) else none
  | _ => none
theorem le0_int (i j : Int) : le0 (.int i) (.int j) = decide (i ≤ j) := by
  have h : PySem.W.dataLt (.int j) (.int i) = decide (j < i) := by
    unfold PySem.W.dataLt
    simp [PySem.W.keyToks, PyProof.Rows.lexLt, PyProof.Rows.itemOrd]
    rfl
  unfold le0
  rw [h]
  by_cases c : j < i
  · rw [decide_eq_true c, decide_eq_false (by omega)]; rfl
  · rw [decide_eq_false c, decide_eq_true (by omega)]; rfl
theorem s_sortedSet {p p2 q pos : Pos} (ke : Ok e) (hc : X.calm = true) (hm : X.mg "sorted" = none) (hm2 : X.mg "set" = none) (ha : PE X a (tS cls X.K e Wx f)) (hg : Gl X "sorted" := by rfl) (hg2 : Gl X "set" := by rfl)
    (na : starEach [a] X.env = (false, eval a X.env) :: starEach [] X.env := by rfl)
    (nb : starEach [.Call (.Name "set" p2) [a] [] q] X.env = (false, eval (.Call (.Name "set" p2) [a] [] q) X.env) :: starEach [] X.env := by rfl) :
    PE X (.Call (.Name "sorted" p) [.Call (.Name "set" p2) [a] [] q] [] pos) (tS cls X.K e Wx (x1 gSortedSet f)) :=
  pe_imp (pe_callB (cr_sortedSet hc) hg hm bt_sorted (pa_cons (pe_callTy (call_setL hc) hg2 hm2 (by decide +kernel) (pa_cons ha pa_nil na) (by decide) (by decide) na rfl) pa_nil nb) (by decide) (by decide) nb rfl) fun σ H Q ⟨c, δ, eH, r, q⟩ => by
    subst eH
    show tS cls X.K e Wx f σ c.H _
    refine tS_imp (after_one ke r q) fun u H1 ⟨x, c2, e2, b2, r2, q2, q3⟩ => ?_
    replace q3 := after_opt q3
    subst e2
    unfold gSortedSet at q3
    split at q3
    · rename_i xs
      cases z : ints? xs with
      | none => rw [z] at q3; exact gives_no q3
      | some ns =>
        rw [z] at q3
        dsimp only [Option.bind] at q3
        by_cases h64 : ns.length < 64
        · rw [if_pos h64] at q3
          obtain ⟨l, rfl, h1⟩ := ints_list r2.ok z q2
          refine ⟨l, ns, rfl, h1, h64, fun p0 c0 hp0 hc0 => ⟨p0, _, c0, rfl, upd_same, by omega, fun ms p1 hpw hmem hlen hp1 => ?_⟩⟩
          have ems : sortP ((ddp ns).map PyData.int) = ms.map PyData.int := by
            refine sortP_uniq ?_ ?_ ?_
            · simp [allAlike, PySem.W.alike]
            · refine List.Perm.map _ ((List.perm_ext_iff_of_nodup (hpw.imp fun h => Int.ne_of_lt h) (nodup_ddp ns)).mpr fun k => ?_)
              rw [mem_ddp, hmem k, decide_eq_true_eq]
            · refine List.pairwise_map.mpr (hpw.imp fun h => ?_)
              rw [le0_int]
              exact decide_eq_true (Int.le_of_lt h)
          rw [ems] at q3
          obtain ⟨d, ed, fin⟩ := q3
          cases ed
          have bs1 : Bs c2 (c2.lay p0 (SetO X.w p0 (fun j => decide (j ∈ ns)) c0)) := Bs.lay r2.ok _ hp0
          have bs2 := Bs.put bs1.ok (.lst (ms.map V.int)) hp1
          refine fin (.ref p1) ((c2.lay p0 (SetO X.w p0 (fun j => decide (j ∈ ns)) c0)).put p1 (.lst (ms.map V.int))) rfl (bs1.trans r2.ok bs2) ?_
          exact dv_lst.mpr ⟨p1, _, rfl, upd_same, DqL.of_ints ms⟩
        · rw [if_neg h64] at q3; exact gives_no q3
    · exact gives_no q3
end
end Z

set_option Elab.async false
set_option linter.all false
set_option maxRecDepth 100000
/-! # Z24: xs[k][m] += e, xs a list of lists of one's own -/
namespace Z
open PySem PySem.Spec PyProof.Rows L2
section
variable {X : Cx}
def rGetN : V → V → Hp → VK → Prop := fun x y H Q => ∃ (p : Addr) (xs : List V) (j : Nat) (v : V), x = .ref p ∧ y = .int (j : Nat) ∧ H p = some (.lst xs) ∧ xs[j]? = some v ∧ Q v H
theorem get_listN : PGet X rGetN := by
  intro pins s σ H x y v u Q I rx ry h
  obtain ⟨p, xs, j, z, rfl, rfl, hq, he, q⟩ := h
  cases rx
  obtain ⟨t, rfl⟩ := ry
  obtain ⟨its, r, pl, hz⟩ := I.list (SqL.of hq)
  obtain ⟨w, ew, rw'⟩ := r.get he
  have hl := r.length
  have hn := line63
  have hj : j < its.length := (List.getElem?_eq_some_iff.mp ew).1
  refine wpAny_getItem_list pl.isList (Int.natCast_nonneg j) (by omega) (by simpa using ew) ⟨z, H, I, rw', q⟩
end
section
variable {X : Cx} {W : Type} {wd : WD W} {cls : Nat → Addr} {e : Cur wd} {Wx : WX} {ex b d o : Expr} {pos : Pos} {f h k : XF W}
def intAt (xs : List PyData) (m : Nat) : Option Int := match xs[m]? with
  | some (.int i) => some i
  | _ => none
def sAugII (i : Nat) (k h f : XF W) : SF W := fun δ w => match δ[i]? with
  | some (.own2 xss) => match k δ w with
    | .ok y w1 => match (asI y).bind (ixN xss.length) with
      | some j => match h δ w1 with
        | .ok z w2 => match (asI z).bind (fun m => if 0 ≤ m then some m.toNat else none) with
          | some m => match intAt (xss.getD j []) m with
            | some old => match f δ w2 with
              | .ok x w3 => match asI x with
                | some n => .nx (δ.set i (.own2 (xss.set j ((xss.getD j []).set m (.int (old + n)))))) w3
                | none => .bad
              | _ => .bad
            | none => .bad
          | none => .bad
        | _ => .bad
      | none => .bad
    | _ => .bad
  | _ => .bad
theorem ss_augII {i : Nat} {spos : Pos} {p2 : Pos} (ke : Ok e) (ho : PE X o (tVar i)) (hk : PE X b (tS cls X.K e Wx k)) (hh : PE X d (tS cls X.K e Wx h)) (hv : PE X ex (tS cls X.K e Wx f)) (hpl : PlainIx b := by exact fun _ _ => rfl)
    (ha : ∀ ov iv new, augStore d ov iv new = (do holding [new, ov, iv] (setItem ov iv new); release [new, ov, iv] []; pure .next) := by intros; rfl) :
    PS X (.AugAssign (.Subscript (.Subscript o b p2) d spos) .Add ex pos) (tSS cls X.K e Wx (sAugII i k h f)) :=
  ps_imp (ps_augS (pe_ix ix_list ho hk hpl) hh get_listN hv ip_add set_list ha) fun D σ H ⟨c, δ, eH, r, q⟩ => by
    subst eH
    unfold sAugII at q
    split at q
    · rename_i xss hm
      obtain ⟨p, as, e1, g1, g2, g3, _⟩ := r.own2 hm
      refine ⟨.ref p, e1, c, δ, rfl, r, ?_⟩
      cases z2 : k δ c.w with
      | bad => rw [z2] at q; exact q.elim
      | exc n w => rw [z2] at q; exact q.elim
      | ok y w1 =>
        rw [z2] at q
        dsimp only at q
        intro v c2 hw2 b2 q2
        have r2 := r.step ke b2
        cases hy : asI y with
        | none => rw [hy] at q; exact q.elim
        | some m =>
          rw [hy] at q
          dsimp only [Option.bind] at q
          cases hj : ixN xss.length m with
          | none => rw [hj] at q; exact q.elim
          | some j =>
            rw [hj] at q
            dsimp only at q
            obtain ⟨p', as', e1', g1', g2', g3', kk⟩ := r2.own2 hm
            have ep : p' = p := by rw [e1] at e1'; cases e1'; rfl
            subst ep
            have hjl : j < as'.length := by rw [g3'.1]; exact ixN_lt hj
            have hb : as'[j]? = some as'[j] := List.getElem?_eq_getElem hjl
            have hat : atI (as'.map V.ref) m = some (.ref as'[j]) := by
              unfold atI
              rw [List.length_map, g3'.1, hj]
              simp [hjl]
            have hxs : xss[j]? = some (xss.getD j []) := by
              have := ixN_lt hj
              rw [List.getD_eq_getElem?_getD, List.getElem?_eq_getElem this]; rfl
            refine ⟨p', _, m, _, rfl, asI_eq hy q2, SqL.of g1', hat, c2, δ, rfl, r2, ?_⟩
            rw [hw2]
            cases z3 : h δ w1 with
            | bad => rw [z3] at q; exact q.elim
            | exc n w => rw [z3] at q; exact q.elim
            | ok zz w2 =>
              rw [z3] at q
              dsimp only at q
              intro v3 c3 hw3 b3 q3
              have r3 := r2.step ke b3
              cases hz : asI zz with
              | none => rw [hz] at q; exact q.elim
              | some mm =>
                rw [hz] at q
                dsimp only [Option.bind] at q
                by_cases h0 : 0 ≤ mm
                · rw [if_pos h0] at q
                  dsimp only at q
                  unfold intAt at q
                  split at q
                  · rename_i old hold
                    split at hold
                    · rename_i oldx hold'
                      cases hold
                      obtain ⟨p3, as3, e3, g31, g32, g33, kk3⟩ := r3.own2 hm
                      have ep3 : p3 = p' := by rw [e1'] at e3; cases e3; rfl
                      subst ep3
                      have eas : as3 = as' := by
                        have hx := b3.hh p3 _ (fun zfp => ?_) g1'
                        · rw [g31] at hx
                          exact (List.map_inj_right (fun x y h => V.ref.inj h)).mp (HO.lst.inj (Option.some.inj hx))
                        · obtain ⟨oo, w1', _, _, _, w5⟩ := r2.ex
                          obtain ⟨a9, as9, q91, q92, _⟩ := w1' i _ hm
                          have : a9 = p3 := by rw [e1'] at q92; cases q92; rfl
                          subst this
                          exact (w5 i a9 (by rw [q91]; exact List.mem_cons_self)).1.2.1 zfp
                      subst eas
                      obtain ⟨us, k1, k2⟩ := g33.2 j _ _ hb hxs
                      obtain ⟨vo, ko1, ko2⟩ := k2.get hold'
                      simp only [Dq] at ko2
                      subst ko2
                      have emm : V.int mm = .int (mm.toNat : Nat) := by rw [Int.toNat_of_nonneg h0]
                      refine ⟨as3[j], us, mm.toNat, .int old, rfl, by rw [asI_eq hz q3, emm], k1, ko1, c3, δ, rfl, r3, ?_⟩
                      rw [hw3]
                      cases z4 : f δ w2 with
                      | bad => rw [z4] at q; exact q.elim
                      | exc n w => rw [z4] at q; exact q.elim
                      | ok xx w3 =>
                        rw [z4] at q
                        dsimp only at q
                        intro v4 c4 hw4 b4 q4
                        cases hx : asI xx with
                        | none => rw [hx] at q; exact q.elim
                        | some nn =>
                          rw [hx] at q
                          have r4 := r3.step ke b4
                          obtain ⟨p4, as4, e4, g41, g42, g43, kk4⟩ := r4.own2 hm
                          have ep4 : p4 = p3 := by rw [e1'] at e4; cases e4; rfl
                          subst ep4
                          have eas4 : as4 = as3 := by
                            have hx := b4.hh p4 _ (fun zfp => ?_) g31
                            · rw [g41] at hx
                              exact (List.map_inj_right (fun x y h => V.ref.inj h)).mp (HO.lst.inj (Option.some.inj hx))
                            · obtain ⟨oo, w1', _, _, _, w5⟩ := r3.ex
                              obtain ⟨a9, as9, q91, q92, _⟩ := w1' i _ hm
                              have : a9 = p4 := by rw [e1'] at q92; cases q92; rfl
                              subst this
                              exact (w5 i a9 (by rw [q91]; exact List.mem_cons_self)).1.2.1 zfp
                          subst eas4
                          obtain ⟨us4, k41, k42⟩ := g43.2 j _ _ hb hxs
                          have hml : mm.toNat < (xss.getD j []).length := (List.getElem?_eq_some_iff.mp hold').1
                          have hix : ixN us4.length mm = some mm.toNat := by
                            unfold ixN
                            rw [if_pos h0, if_pos (by rw [k42.len]; omega)]
                          refine ⟨old, nn, rfl, asI_eq hx q4, as4[j], us4, mm, mm.toNat, rfl, asI_eq hz q3, k41, hix, ?_⟩
                          exact q σ { c4 with H := upd c4.H as4[j] (.lst (us4.set mm.toNat (.int (old + nn)))) } hw4 ((b2.ff.trans b3.ff).trans b4.ff) ((kk4 j _ hb).2 _ _ (k42.set (by simp [Dq]) mm.toNat))
                    · cases hold
                  · exact q.elim
                · rw [if_neg h0] at q; exact q.elim
    · exact q.elim
end
end Z

set_option Elab.async false
set_option linter.all false
set_option maxRecDepth 100000
/-! # Z25: lists of one's own: lent, copied, repeated, an item removed, returned as such -/
namespace Z
open PySem PySem.Spec PyProof.Rows L2
/-! ## lent -/
def flatP : PyData → Bool
  | .none => true
  | .bool _ => true
  | .int _ => true
  | .str _ => true
  | _ => false
theorem flat_dq {F F' : Hp} {d : PyData} {v : V} (h : flatP d = true) (q : Dq F d v) : Dq F' d v := by
  cases d <;> first | exact q | cases h
/-- the world does not lean on what is frozen -/
def WFree {W : Type} (wd : WD W) : Prop := ∀ k w F F' H, wd.rel k w F H → wd.rel k w F' H
theorem wfree0 : WFree W0 := fun _ _ _ _ _ _ => trivial
theorem wfreeW : WFree WW := fun _ _ _ _ _ h => h
section
variable {W : Type} {wd : WD W} {c c0 c2 : Cur wd}
/-- what was frozen meanwhile is not, any more -/
theorem bs_drop (hF : WFree wd) (k : Ok c) (hk : c0.k = c.k) (hH : c0.H = c.H) (s : Sub c.F c0.F) (b : Bs c0 c2) : Bs c (⟨c2.k, c.F, c2.w, c2.H⟩ : Cur wd) where
  ok := {
    fh := fun a o q => b.ok.fh a o (b.ff a o (s a o q))
    wr := hF _ _ _ _ _ b.ok.wr
    wf := fun a ha => by
      obtain ⟨h1, h2⟩ := b.ok.wf a ha
      refine ⟨?_, h2⟩
      rcases none_or (c.F a) with q | ⟨u, q⟩
      · exact q
      · rw [b.ff a u (s a u q)] at h1; cases h1 }
  ff := Sub.refl _
  hh := fun a o n q => b.hh a o (by rw [hk]; exact n) (by rw [hH]; exact q)
  fn := fun a h => .inl h
  kh := fun n a q => b.kh n a (by rw [hk]; exact q)
  kf := fun a q => by
    have := b.kf a q
    rwa [hk, hH] at this
  kg := fun a q => b.kg a (by rw [hk]; exact q)
end
section
variable {X : Cx} {W : Type} {wd : WD W} {cls : Nat → Addr} {e : Cur wd} {Wx : WX} {tg ex a b d o : Expr} {pos pos' : Pos} {f h : XF W} {i : Nat}
/-- a slot's list, as frozen data -/
def frzD : Option Sl → Option D
  | some (.own xs) => some (.p (.list xs))
  | some (.own2 xss) => some (.p (.list (xss.map .list)))
  | _ => none
def flatD : D → Bool
  | .p d => flatP d
  | _ => false
def xBor (i : Nat) (f : XF W) : XF W := fun δ w => match frzD δ[i]? with
  | some x => match f (δ.set i (.v x)) w with
    | .ok d w' => if flatD d = true then .ok d w' else .bad
    | .exc n w' => .exc n w'
    | .bad => .bad
  | none => .bad
theorem rz_lend {K : PySem.W.Frag} {c : Cur wd} {δ : Ev} {σ : L2.St} {x : D} (r : Rz cls K e c δ σ) (h : frzD δ[i]? = some x) : ∃ c' : Cur wd, c'.k = c.k ∧ c'.H = c.H ∧ c'.w = c.w ∧ Sub c.F c'.F ∧ Rz cls K e c' (δ.set i (.v x)) σ := by
  unfold frzD at h
  split at h
  · rename_i xs hs
    cases h
    obtain ⟨c', e1, e2, s1, ek, r1⟩ := r.frz hs
    exact ⟨c', ek, e1, e2, s1, r1⟩
  · rename_i xss hs
    cases h
    obtain ⟨c', e1, e2, s1, ek, r1⟩ := r.frz2 hs
    exact ⟨c', ek, e1, e2, s1, r1⟩
  · cases h
theorem s_bor (hF : WFree wd) (he : PE X ex (tS cls X.K e Wx f)) : PE X ex (tS cls X.K e Wx (xBor i f)) := pe_imp he fun σ H Q ⟨c, δ, eH, r, q⟩ => by
  unfold xBor at q
  cases z : frzD δ[i]? with
  | none => rw [z] at q; exact q.elim
  | some x =>
    rw [z] at q
    obtain ⟨c0, ek, e1, e2, s1, r1⟩ := rz_lend r z
    refine ⟨c0, δ.set i (.v x), e1.trans eH, r1, ?_⟩
    rw [e2]
    dsimp only at q
    cases z2 : f (δ.set i (.v x)) c.w with
    | bad => rw [z2] at q; exact q
    | exc n w' =>
      rw [z2] at q
      exact fun c2 hw b => q ⟨c2.k, c.F, c2.w, c2.H⟩ hw (bs_drop hF r.ok ek e1 s1 b)
    | ok d w' =>
      rw [z2] at q
      dsimp only at q
      by_cases hd : flatD d = true
      · rw [if_pos hd] at q
        intro u c2 hw b qd
        refine q u ⟨c2.k, c.F, c2.w, c2.H⟩ hw (bs_drop hF r.ok ek e1 s1 b) ?_
        cases d with
        | p d => exact flat_dq hd qd
        | _ => cases hd
      · rw [if_neg hd] at q; exact q.elim
/-! ## list(xs), xs one's own: a frozen copy -/
def xListF (i : Nat) : XF W := fun δ w => match δ[i]? with
  | some (.own xs) => .ok (.p (.list xs)) w
  | _ => .bad
theorem s_listF {p : Pos} (ke : Ok e) (hm : X.mg "list" = none) (ho : PE X o (tVar i)) (hg : Gl X "list" := by rfl)
    (he : starEach (o :: []) X.env = (false, eval o X.env) :: starEach [] X.env := by rfl) (hpl : (backTo pos (starEach [] X.env)).any (·.1) = false := by rfl) : PE X (.Call (.Name "list" p) [o] [] pos) (tS cls X.K e Wx (xListF (W := W) i)) :=
  pe_imp (pe_callTy call_list_of hg hm bt_list (pa_cons ho pa_nil he) (by decide) (by decide) he hpl) fun σ H Q ⟨c, δ, eH, r, q⟩ => by
    subst eH
    unfold xListF at q
    split at q
    · rename_i xs hm2
      show tVar i σ c.H _
      refine var_own r hm2 fun p vs e1 g1 g2 => ⟨p, vs, rfl, .inl (SqL.of g1), ?_⟩
      exact gives_lst (cls := cls) (K := X.K) ⟨_, rfl, fun u c' hw b qd => q u c' hw b qd⟩ r.ok g2
    · exact q.elim
/-! ## [..] * n, list(range(n)), one's own -/
def xRepO (f h : XF W) : XS W := fun δ w => (f δ w).bind fun x w1 => (h δ w1).bind fun y w2 => match gMul x y with
  | some (.p (.list xs)) => (match x with
    | .p (.list _) => .ok (.own xs) w2
    | _ => .bad)
  | _ => .bad
theorem afterX_of {K : PySem.W.Frag} {c : Cur wd} {σ : L2.St} {s : Sl} {w : W} {Q : VK} (h : afterX cls K c σ Wx (.ok s w) Q) {c2 : Cur wd} (b : Bs c c2) (kc : Ok c) : afterX cls K c2 σ Wx (.ok s w) Q :=
  fun u c3 A hw b3 hs hn hA => h u c3 A hw (b.trans kc b3) hs hn fun a ha => ⟨⟨(hA a ha).1.1, (hA a ha).1.2.1, fre_back (c' := c3) kc b (hA a ha).1.2.2⟩, (hA a ha).2⟩
theorem x_repO (ke : Ok e) (ha : PE X a (tS cls X.K e Wx f)) (hb : PE X b (tS cls X.K e Wx h)) : PE X (.BinOp a .Mult b pos) (tSX cls X.K e Wx (xRepO f h)) :=
  pe_imp (pe_op op_rep ha hb) fun σ H Q ⟨c, δ, eH, r, q⟩ => by
    subst eH
    refine tS_imp (after_oneX (K := X.K) ke r q) fun u H1 ⟨x, c2, e2, b2, r2, q2, q3⟩ => ?_
    subst e2
    refine tS_imp (after_oneX (K := X.K) ke r2 q3) fun v H2 ⟨y, c3, e3, b3, r3, q4, q5⟩ => ?_
    subst e3
    have fin : ∀ xs j, x = .p (.list xs) → y = .p (.int j) → (j < 1000000 ∧ -1000000 < j ∧ xs.length * j.toNat ≤ lim) → afterX cls X.K c3 σ Wx (.ok (.own (List.replicate j.toNat xs).flatten) c3.w) Q → rRep u v c3.H Q := by
      intro xs j ex ey hj qq
      subst ex; subst ey
      obtain ⟨p, vs, rfl, h1, r1⟩ := dv_lst.mp (q2.mono b3)
      obtain rfl := dv_int.mp q4
      exact ⟨p, j, vs, rfl, rfl, r3.ok.fh _ _ h1, by omega, by omega, by rw [r1.len, ← lim_eq]; exact hj.2.2, gives_own qq r3.ok (r1.rep _)⟩
    cases x with
    | p dx =>
      cases dx with
      | list xs =>
        cases y with
        | p dy =>
          cases dy with
          | int j =>
            by_cases hj : j < 1000000 ∧ -1000000 < j ∧ xs.length * j.toNat ≤ lim
            · have ez : gMul (.p (.list xs)) (.p (.int j)) = some (.p (.list (List.replicate j.toNat xs).flatten)) := if_pos hj
              rw [ez] at q5
              exact fin xs j rfl rfl hj q5
            · have ez : gMul (.p (.list xs)) (.p (.int j)) = none := if_neg hj
              rw [ez] at q5
              exact q5.elim
          | _ => exact q5.elim
        | _ => exact q5.elim
      | _ =>
        exfalso
        revert q5
        generalize gMul _ y = g
        intro q5
        match g, q5 with
        | some (.p (.list _)), q5 => exact q5.elim
    | _ =>
      exfalso
      revert q5
      generalize gMul _ y = g
      intro q5
      match g, q5 with
      | some (.p (.list _)), q5 => exact q5.elim
def xRgO (f : XF W) : XS W := fun δ w => (f δ w).bind fun x w1 => match (asI x).bind (gRg false 0) with
  | some (.p (.list xs)) => .ok (.own xs) w1
  | _ => .bad
theorem x_rgO {p pos p' pos' : Pos} (ke : Ok e) (hc : X.calm = true) (hm : X.mg "list" = none) (hm' : X.mg "range" = none) (ha : PE X a (tS cls X.K e Wx f)) (hg : Gl X "list" := by rfl) (hg' : Gl X "range" := by rfl)
    (na : starEach [.Call (.Name "range" p') [a] [] pos'] X.env = (false, eval (.Call (.Name "range" p') [a] [] pos') X.env) :: starEach [] X.env := by rfl) (na' : starEach [a] X.env = (false, eval a X.env) :: starEach [] X.env := by rfl) :
    PE X (.Call (.Name "list" p) [.Call (.Name "range" p') [a] [] pos'] [] pos) (tSX cls X.K e Wx (xRgO f)) :=
  pe_imp (pe_listRg hc hg hm (prg_1 hg' hm' ha na') na) fun σ H Q ⟨c, δ, eH, r, q⟩ => by
    subst eH
    refine tS_imp (after_oneX ke r q) fun u H1 ⟨x, c2, e2, b2, r2, q2, q3⟩ => ?_
    subst e2
    cases z : asI x with
    | none => rw [z] at q3; exact q3.elim
    | some n =>
      rw [z] at q3
      dsimp only [Option.bind] at q3
      unfold gRg at q3
      by_cases hn : 0 ≤ (0 : Int) ∧ (0 : Int) ≤ 16777216 ∧ 0 ≤ n ∧ n ≤ 16777216
      · rw [if_pos hn] at q3
        refine ⟨n, asI_eq z q2, RgOk.of_le hn.1 hn.2.2.2 hn.2.1 hn.2.2.1, ?_⟩
        exact gives_own q3 r2.ok (dq_rg 0 n)
      · rw [if_neg hn] at q3; exact q3.elim
/-! ## xs.remove(e), xs one's own -/
def rRemD (K : PySem.W.Frag) : V → List V → Hp → VK → Prop := fun x us H Q => ∃ (p : Addr) (vs : List V) (ds : List PyData) (y : V) (dy : PyData) (j : Nat), x = .ref p ∧ us = [y] ∧ H p = some (.lst vs) ∧ DpAll K H vs ds ∧ Dp K H y dy ∧
  PyData.plainAll ds = true ∧ dy.plain = true ∧ min (PyData.depthAll ds) dy.depth ≤ 60 ∧ SeqAt.dataPlace ds dy = some j ∧ Q .non (upd H p (.lst (vs.eraseIdx j)))
theorem mt_remD (hu : X.A.units + 64 < cLine) : MtR X "list.remove" (rRemD X.K) := by
  intro pins s σ H x us v ws Q I rx rxs hq
  obtain ⟨p, vs, ds, y, dy, j, rfl, rfl, hp, ha, hy, pl1, pl2, hdep, hj, q⟩ := hq
  cases rx
  obtain ⟨u, rfl, ru⟩ := rxs.one
  obtain ⟨z, its, n, rv, hl, e1⟩ := I.lstM hp
  obtain ⟨as, k1⟩ := Dp.readsAll I ds vs its ha rv
  obtain ⟨bs, k2⟩ := Dp.reads I dy y u hy ru
  refine SeqAt.remove_list_data (l := p) (vs := its.toArray) ⟨_, e1, rfl, n, rfl⟩ (by simpa using k1) k2 pl1 pl2 (by omega) hj (by rw [List.size_toArray, ← hl]; exact z) ?_
  refine ⟨.non, _, I.lset (its' := its.eraseIdx j) (t' := s.toks) hp e1 (by rw [List.eraseIdxIfInBounds_toArray]) (rv.eraseIdx j) ?_, rfl, q⟩
  exact Nat.le_trans (List.length_eraseIdx_le _ _) z
def sRem (i : Nat) (f : XF W) : SF W := fun δ w => match δ[i]? with
  | some (.own xs) => match f δ w with
    | .ok (.p d) w' => if PyData.plainAll xs = true ∧ d.plain = true ∧ min (PyData.depthAll xs) d.depth ≤ 60 then (match SeqAt.dataPlace xs d with
      | some j => .nx (δ.set i (.own (xs.eraseIdx j))) w'
      | none => .bad) else .bad
    | _ => .bad
  | _ => .bad
theorem ss_rem {apos cpos : Pos} (ke : Ok e) (hc : X.calm = true) (hu : X.A.units + 64 < cLine) (ho : PE X o (tVar i)) (ha : PE X a (tS cls X.K e Wx f))
    (hbase : attributeBase o "remove" X.env (eval o X.env) = eval o X.env := by rfl)
    (hfew : ((backTo cpos (starEach (a :: []) X.env)).all (fun x => !x.1) && (backToKw cpos (keywordEach [] X.env)).all (fun x => x.1.isSome) && decide ((a :: []).length + ([] : List Keyword).length + (if ([] : List Keyword).isEmpty then 0 else 1) < 30)) = true := by rfl)
    (hline : (apos.endLine == cpos.line) = true := by rfl) (hs : starEach (a :: []) X.env = (false, eval a X.env) :: starEach [] X.env := by rfl) (hplain : (backTo cpos (starEach [] X.env)).any (·.1) = false := by rfl)
    (hsw : swapsWith (.Call (.Attribute o "remove" apos) (a :: []) [] cpos) none pos.line X.env = pure false := by rfl) :
    PS X (.Expr (.Call (.Attribute o "remove" apos) (a :: []) [] cpos) pos) (tSS cls X.K e Wx (sRem i f)) :=
  ps_imp (ps_expr (pe_bm PySem.F.plainAttrs_list PySem.F.slot_list_remove PySem.F.type_list_remove (mt_remD hu) ho (pa_cons ha pa_nil hs) hbase hfew hline hs hplain) hsw) fun D σ H ⟨c, δ, eH, r, q⟩ => by
    subst eH
    unfold sRem at q
    split at q
    · rename_i xs0 hm
      unfold tDrop tBM
      refine var_own r hm fun p vs e1 g1 g2 => ⟨.inl ⟨rfl, vs, SqL.of g1⟩, ?_⟩
      refine ⟨c, δ, rfl, r, ?_⟩
      cases z : f δ c.w with
      | bad => rw [z] at q; exact q.elim
      | exc n w => rw [z] at q; exact q.elim
      | ok x w' =>
        rw [z] at q
        cases x with
        | p d =>
          dsimp only at q
          by_cases hh : PyData.plainAll xs0 = true ∧ d.plain = true ∧ min (PyData.depthAll xs0) d.depth ≤ 60
          · rw [if_pos hh] at q
            cases z2 : SeqAt.dataPlace xs0 d with
            | none => rw [z2] at q; exact q.elim
            | some j =>
              rw [z2] at q
              intro u c' hw b q'
              have r' := r.step ke b
              obtain ⟨a1, vs1, e1', g3, g4, g5, kk⟩ := r'.own hm
              have ea : a1 = p := by rw [e1] at e1'; cases e1'; rfl
              subst ea
              refine ⟨a1, vs1, xs0, u, d, j, rfl, rfl, g3, DqL.dp r'.ok.fh _ _ g4, Dq.dp r'.ok.fh _ _ q', hh.1, hh.2.1, hh.2.2, z2, ?_⟩
              exact q σ { c' with H := upd c'.H a1 (.lst (vs1.eraseIdx j)) } hw b.ff (kk (xs0.eraseIdx j) (vs1.eraseIdx j) (g4.eraseIdx j))
          · rw [if_neg hh] at q; exact q.elim
        | _ => exact q.elim
    · exact q.elim
end
/-! ## defs that return a list of their own -/
abbrev FO (W : Type) := List D → W → Res W Sl
abbrev SO (W : Type) := Ev → W → Res W Sl
section
variable {W : Type} {wd : WD W}
def afterO (cls : Nat → Addr) (K : PySem.W.Frag) (c : Cur wd) (r : Res W Sl) (Q : VK) (E : XK) : Prop := match r with
  | .ok s w' => ∀ u c' A, c'.w = w' → Bs c c' → SlI cls K c' A s (some (some u)) → A.Nodup → (∀ a ∈ A, Fre c c' a ∧ c'.H a ≠ none) → Q u c'.H
  | .exc n w' => ∀ c', c'.w = w' → Bs c c' → E (.ref (cls n)) none c'.H
  | .bad => False
def spO (cls : Nat → Addr) (K : PySem.W.Frag) (wd : WD W) (n : Nat) (f : FO W) : Sp := fun vs H Q E => ∃ (c : Cur wd) (ds : List D), c.H = H ∧ Ok c ∧ DvL cls K c ds vs ∧ ds.length = n ∧ afterO cls K c (f ds c.w) Q E
def tSO (cls : Nat → Addr) (K : PySem.W.Frag) (e : Cur wd) (Wx : WX) (f : SO W) : TS := fun D σ H => ∃ c δ, c.H = H ∧ Rz cls K e c δ σ ∧ match f δ c.w with
  | .ok s w' => ∀ u c' A, c'.w = w' → Bs e c' → SlI cls K c' A s (some (some u)) → A.Nodup → (∀ a ∈ A, Fre e c' a ∧ c'.H a ≠ none) → D.rt u c'.H
  | .exc n w' => ∀ σ' c', c'.w = w' → Bs e c' → Wx (.ref (cls n)) none σ' c'.H
  | .bad => False
def runO (n : Nat) (so : SO W) : FO W := fun ds w => so (ds.map .v ++ List.replicate (n - ds.length) .no) w
end
section
variable {X : Cx} {W : Type} {wd : WD W} {cls : Nat → Addr} {e : Cur wd} {Wx : WX} {o : Expr} {pos : Pos} {st : Stmt} {sts : List Stmt} {sf : SF W} {so : SO W} {g : XS W} {i : Nat}
def oSeq (sf : SF W) (so : SO W) : SO W := fun δ w => match sf δ w with
  | .nx δ' w' => so δ' w'
  | .rt d w' => .ok (.v d) w'
  | .exc n _ w' => .exc n w'
  | _ => .bad
theorem so_cons (h1 : PS X st (tSS cls X.K e Wx sf)) (h2 : PSs X sts (tSO cls X.K e Wx so)) : PSs X (st :: sts) (tSO cls X.K e Wx (oSeq sf so)) :=
  pss_imp (pss_cons h1 h2) fun D σ H ⟨c, δ, eH, r, q⟩ => by
    refine ⟨c, δ, eH, r, ?_⟩
    unfold oSeq at q
    cases z : sf δ c.w with
    | nx δ' w' =>
      rw [z] at q
      intro σ' c' hw s r'
      refine ⟨c', δ', rfl, r', ?_⟩
      rw [hw]
      exact q
    | rt d w' => rw [z] at q; exact fun u c' hw b qd => q u c' [] hw b ⟨rfl, u, rfl, qd⟩ List.nodup_nil fun _ h => by cases h
    | bk δ' w' => rw [z] at q; exact q.elim
    | ct δ' w' => rw [z] at q; exact q.elim
    | exc n δ' w' => rw [z] at q; exact fun σ' c' hw s r' => q σ' c' hw r'.bs
    | bad => rw [z] at q; exact q.elim
/-- return xs, xs one's own -/
def oRet (i : Nat) : SO W := fun δ w => match δ[i]? with
  | some (.own xs) => .ok (.own xs) w
  | some (.own2 xss) => .ok (.own2 xss) w
  | _ => .bad
theorem so_ret (ho : PE X o (tVar i)) : PSs X [.Return (some o) pos] (tSO cls X.K e Wx (oRet (W := W) i)) := pss_imp (pss_one (ps_ret ho)) fun D σ H ⟨c, δ, eH, r, q⟩ => by
  subst eH
  obtain ⟨ad, h1, h2, h3, h4, h5⟩ := id r.ex
  unfold oRet at q
  cases hm : δ[i]? with
  | none => rw [hm] at q; exact q.elim
  | some s =>
    rw [hm] at q
    cases s with
    | own xs =>
      obtain ⟨a, vs, q1, q2, q3, q4⟩ := h1 i _ hm
      exact ⟨.ref a, q2, q (.ref a) c (ad i) rfl r.bs ⟨a, vs, q1, rfl, q3, q4⟩ (h4 i) (h5 i)⟩
    | own2 xss =>
      obtain ⟨a, as, q1, q2, q3, q4⟩ := h1 i _ hm
      exact ⟨.ref a, q2, q (.ref a) c (ad i) rfl r.bs ⟨a, as, q1, rfl, q3, q4⟩ (h4 i) (h5 i)⟩
    | no => exact q.elim
    | v _ => exact q.elim
/-- return e, e a new list -/
def oRetX (g : XS W) : SO W := g
theorem so_retX (ke : Ok e) (he : PE X o (tSX cls X.K e Wx g)) : PSs X [.Return (some o) pos] (tSO cls X.K e Wx (oRetX g)) := pss_imp (pss_one (ps_ret he)) fun D σ H ⟨c, δ, eH, r, q⟩ => by
  refine ⟨c, δ, eH, r, ?_⟩
  unfold oRetX at q
  cases z : g δ c.w with
  | bad => rw [z] at q; exact q
  | exc n w' => rw [z] at q; exact fun c' hw b => q σ c' hw (r.bs.trans ke b)
  | ok s w' =>
    rw [z] at q
    exact fun u c' A hw b hs hn hA => q u c' A hw (r.bs.trans ke b) hs hn fun a ha => ⟨⟨(hA a ha).1.1, (hA a ha).1.2.1, fre_back (c' := c') ke r.bs (hA a ha).1.2.2⟩, (hA a ha).2⟩
end
/-- the def x keeps what fo says, and what it returns is the caller's own -/
def Ko (P : Program) (w : World) (K : PySem.W.Frag) (mg : Str → Option Value) (base : Heap) {W : Type} (cls : Nat → Addr) (wd : WD W) (x : Str) (k n : Nat) (fo : FO W) : Prop :=
  ∃ f fd ps, mg x = some (.ref f) ∧ PySem.W.keepIn K (.ref f) = true ∧ Binds K fd ps [] ∧ FnOk P w K mg base (L2.CX P w) k f fd ps (spO cls K wd n fo)
section
variable {P : Program} {w : World} {K : PySem.W.Frag} {mg : Str → Option Value} {base : Heap} {W : Type} {wd : WD W} {cls : Nat → Addr} {x : Str} {k n : Nat}
theorem koZ {st : Stmt} {N ps : List Str} {so : SO W} (D : Df K mg x st) (S : FnScope N ps (defScope st))
    (bs : ∀ (kV doc pm : Value) (an : Option Addr) (cdv ct : Value) (us : List Value), us.length = ps.length → bindArgs (PySem.W.fnOf x x (defArgs st) (defBody st) (defScope st) .none kV doc pm an cdv ct) ⟨us, []⟩ = pure (ps.zip us))
    (hb : ∀ (f : Addr) (cdv : Value) (A : Around) (outer : List Env) (s : Shared) (H : Hp) (E : XK) (e : Cur wd), Ok e → Room k (A.deeper (envOfC x (defScope st) s.heap.objs.size f cdv)) →
      PSs (cxOf (L2.CX P w) P w K mg base N x (defScope st) f cdv A outer s H E) (defBody st) (tSO cls K e (WxE E) so)) : Ko P w K mg base cls wd x (k + 1) ps.length (runO N.length so) := by
  obtain ⟨f, fd, h1, F⟩ := D
  refine ⟨f, fd, ps, h1, F.kp, F.binds bs, ?_⟩
  refine F.okX S (fun vs H Q E ⟨c, ds, _, _, h, hl, _⟩ => h.len.trans hl) (fun cdv A outer s H vs Q E hr ⟨c, ds, eH, kc, h, hl, q⟩ => ⟨_, hb f cdv A outer s H E c kc hr, ?_⟩)
  refine ⟨c, _, eH, rz_start (N := N) kc h, ?_⟩
  unfold runO at q
  cases z : so (ds.map Sl.v ++ List.replicate (N.length - ds.length) .no) c.w with
  | ok s w' => rw [z] at q; exact fun u c' A hw b hs hn hA => q u c' A hw b hs hn hA
  | exc n w' => rw [z] at q; exact fun σ' c' hw b => q c' hw b
  | bad => rw [z] at q; exact q
end
/-! a def without a world, called in one -/
def noObjS : Sl → Bool
  | .v d => noObj d
  | _ => true
def liftO {W : Type} (fo : FO Unit) : FO W := fun ds w => if ds.all noObj = true then match fo ds () with
    | .ok s _ => if noObjS s = true then .ok s w else .bad
    | .exc n _ => .exc n w
    | .bad => .bad
  else .bad
section
variable {W : Type} {wd : WD W} {cls : Nat → Addr} {n : Nat}
theorem sl_cu {K : PySem.W.Frag} {c : Cur wd} {c' : Cur W0} {A : List Addr} {s : Sl} {o : Option (Option V)} (hn : noObjS s = true) (h : SlI cls K c' A s o) : SlI cls K (⟨c.k, c'.F, c.w, c'.H⟩ : Cur wd) A s o := by
  cases s with
  | no => exact h
  | v d =>
    obtain ⟨h1, u, h2, h3⟩ := h
    exact ⟨h1, u, h2, dv_cu h3⟩
  | own xs => exact h
  | own2 xss => exact h
theorem so_lift {K : PySem.W.Frag} {f0 : FO Unit} (vs : List V) (H : Hp) (Q : VK) (E : XK) (h : spO cls K wd n (liftO f0) vs H Q E) : spO cls K W0 n f0 vs H Q E := by
  obtain ⟨c, ds, eH, k, q, hl, h⟩ := h
  unfold liftO at h
  by_cases hn : ds.all noObj = true
  · rw [if_pos hn] at h
    refine ⟨cu c, ds, eH, cu_ok k, cu_dvl hn q, hl, ?_⟩
    cases z : f0 ds () with
    | bad =>
      rw [z] at h
      exact h
    | exc m w =>
      rw [z] at h
      exact fun c' _ b => h ⟨c.k, c'.F, c.w, c'.H⟩ rfl (cu_bs k b)
    | ok s w =>
      rw [z] at h
      dsimp only at h
      by_cases hs : noObjS s = true
      · rw [if_pos hs] at h
        intro u c' A _ b hS hnd hA
        refine h u ⟨c.k, c'.F, c.w, c'.H⟩ A rfl (cu_bs k b) (sl_cu hs hS) hnd fun a ha => ?_
        obtain ⟨⟨f1, f2, f3⟩, f4⟩ := hA a ha
        exact ⟨⟨f1, fun z => (k.wf a z).2 f3, f3⟩, f4⟩
      · rw [if_neg hs] at h; exact h.elim
  · rw [if_neg hn] at h; exact h.elim
theorem Ko.lift {P : Program} {w : World} {K : PySem.W.Frag} {mg : Str → Option Value} {base : Heap} {x : Str} {k : Nat} {f0 : FO Unit} (h : Ko P w K mg base cls W0 x k n f0) : Ko P w K mg base cls wd x k n (liftO f0) := by
  obtain ⟨f, fd, ps, h1, h2, h3, h4⟩ := h
  exact ⟨f, fd, ps, h1, h2, h3, h4.imp fun vs H Q E h => so_lift vs H Q E h⟩
end
section
variable {X : Cx} {W : Type} {wd : WD W} {cls : Nat → Addr} {e : Cur wd} {Wx : WX} {a : Expr} {pos p : Pos} {fl : XL W} {es : List Expr} {k n : Nat} {fo : FO W} {x : Str}
def xCallO (fo : FO W) (fl : XL W) : XS W := fun δ w => (fl δ w).bind fo
theorem x_callO (ke : Ok e) (F : Ko X.prog X.w X.K X.mg X.base cls wd x k n fo) (hr : Room k X.A) (tk : Takes X Wx) (ha : PA X (a :: es) (tSL cls X.K e Wx fl)) (hn : LenIs fl n) (hg : Gl X x := by rfl) (hdb : (x == ("__debug__" : Str)) = false := by decide)
    (he : starEach (a :: es) X.env = (false, eval a X.env) :: starEach es X.env := by rfl) (hpl : (backTo pos (starEach es X.env)).any (·.1) = false := by rfl) : PE X (.Call (.Name x p) (a :: es) [] pos) (tSX cls X.K e Wx (xCallO fo fl)) := by
  obtain ⟨f, fd, ps, h1, h2, h3, h4⟩ := F
  refine pe_imp (pe_callS h4 hr hg h1 h2 h3 (fun σ => passAt tk σ) ha hdb he hpl) fun σ H Q q => ?_
  obtain ⟨c, δ, eH, r, q⟩ := q
  subst eH
  refine ⟨c, δ, rfl, r, ?_⟩
  unfold xCallO at q
  cases z : fl δ c.w with
  | bad => rw [z] at q; exact q
  | exc n w => rw [z] at q; exact q
  | ok ds w1 =>
    rw [z] at q
    dsimp only [Res.bind] at q
    intro us c1 hw b1 q1
    refine ⟨c1, ds, rfl, b1.ok, q1, hn _ _ _ _ z, ?_⟩
    rw [hw]
    cases z2 : fo ds w1 with
    | bad => rw [z2] at q; exact q
    | exc m w2 => rw [z2] at q; exact fun c' hw' b' => q c' hw' (b1.trans r.ok b')
    | ok s w2 =>
      rw [z2] at q
      exact fun u c' A hw' b' hs hnd hA => q u c' A hw' (b1.trans r.ok b') hs hnd fun a ha => ⟨⟨(hA a ha).1.1, (hA a ha).1.2.1, fre_back (c' := c') r.ok b1 (hA a ha).1.2.2⟩, (hA a ha).2⟩
end
end Z

set_option Elab.async false
set_option linter.all false
set_option maxRecDepth 100000
/-! # Z26: slices and sums, one's own; range(a, b) walked -/
namespace Z
open PySem PySem.Spec PyProof.Rows L2
section
variable {X : Cx} {W : Type} {wd : WD W} {cls : Nat → Addr} {e : Cur wd} {Wx : WX} {tg ex a b d o : Expr} {pos pos' : Pos} {f h : XF W} {i : Nat}
theorem after_partX {K : PySem.W.Frag} (ke : Ok e) {c : Cur wd} {δ : Ev} {σ : L2.St} {po : Option (XF W)} {k : Option Int → W → Res W Sl} {Q : VK} (r : Rz cls K e c δ σ) (q : afterX cls K c σ Wx ((oEv po δ c.w).bind k) Q) :
    tPo cls K e Wx po σ c.H fun l H1 => ∃ c2, c2.H = H1 ∧ Bs c c2 ∧ Rz cls K e c2 δ σ ∧ afterX cls K c2 σ Wx (k l c2.w) Q := by
  cases po with
  | none => exact ⟨c, rfl, Bs.refl r.ok, r, q⟩
  | some f =>
    have q' : afterX cls K c σ Wx ((f δ c.w).bind fun x w1 => match oInt x with
        | some i => k i w1
        | none => .bad) Q := by
      have q : afterX cls K c σ Wx (((f δ c.w).bind fun x w1 => match oInt x with
        | some i => .ok i w1
        | none => .bad).bind k) Q := q
      cases z : f δ c.w with
      | bad => rw [z] at q; exact q
      | exc _ _ => rw [z] at q; exact q
      | ok x w1 =>
        rw [z] at q
        dsimp only [Res.bind] at q ⊢
        cases z2 : oInt x with
        | none => rw [z2] at q; exact q
        | some i => rw [z2] at q; exact q
    show tS cls K e Wx f σ c.H _
    refine tS_imp (after_oneX (K := K) ke r q') fun u H1 ⟨x, c2, e2, b2, r2, q2, q3⟩ => ?_
    cases hx : oInt x with
    | none => rw [hx] at q3; exact q3.elim
    | some l =>
      rw [hx] at q3
      cases x with
      | p dx =>
        cases dx with
        | int n =>
          cases hx
          obtain rfl := dv_int.mp q2
          exact ⟨_, rfl, c2, e2, b2, r2, q3⟩
        | _ => cases hx
      | _ => cases hx
theorem tPo_mono {K : PySem.W.Frag} {po : Option (XF W)} {σ : L2.St} {H : Hp} {Q Q' : Option Int → Hp → Prop} (h : tPo cls K e Wx po σ H Q) (i : ∀ l H', Q l H' → Q' l H') : tPo cls K e Wx po σ H Q' := by
  cases po with
  | none => exact i _ _ h
  | some f => exact tS_imp h fun u H' ⟨j, e1, q⟩ => ⟨j, e1, i _ _ q⟩
theorem x_slO {lo hi : Option (XF W)} {el eh : Option Expr} {p2 : Pos} (ke : Ok e) (ho : PE X o (tVar i)) (hl : PoZ X cls e Wx el lo) (hh : PoZ X cls e Wx eh hi) : PE X (.Subscript o (.Slice el eh none p2) pos) (tSX cls X.K e Wx (xSlO i lo hi)) :=
  pe_imp (pe_slice sl_list ho (po_of hl) (po_of hh)) fun σ H Q ⟨c, δ, eH, r, q⟩ => by
    subst eH
    unfold xSlO at q
    cases hm : δ[i]? with
    | none => rw [hm] at q; exact q.elim
    | some s =>
      rw [hm] at q
      cases s with
      | own xs =>
        dsimp only at q
        show tVar i σ c.H _
        refine var_own r hm fun p vs e1 g1 g2 => ?_
        refine tPo_mono (after_partX (K := X.K) ke r q) fun l H2 ⟨c3, e3, b3, r3, q4⟩ => ?_
        subst e3
        refine tPo_mono (after_partX (K := X.K) ke r3 q4) fun u' H3 ⟨c4, e4, b4, r4, q5⟩ => ?_
        subst e4
        obtain ⟨a1, vs1, e1', g3, g4, g5, kk⟩ := r4.own hm
        have ea : a1 = p := by rw [e1] at e1'; cases e1'; rfl
        subst ea
        exact ⟨a1, vs1, rfl, SqL.of g3, gives_own q5 r4.ok (cut_dq g4)⟩
      | _ => exact q.elim
def xCatO (f h : XF W) : XS W := fun δ w => (f δ w).bind fun x w1 => (h δ w1).bind fun y w2 => match x, y with
  | .p (.list xs), .p (.list ys) => if xs.length + ys.length ≤ lim then .ok (.own (xs ++ ys)) w2 else .bad
  | _, _ => .bad
theorem x_catO (ke : Ok e) (ha : PE X a (tS cls X.K e Wx f)) (hb : PE X b (tS cls X.K e Wx h)) : PE X (.BinOp a .Add b pos) (tSX cls X.K e Wx (xCatO f h)) :=
  pe_imp (pe_op op_cat ha hb) fun σ H Q ⟨c, δ, eH, r, q⟩ => by
    subst eH
    refine tS_imp (after_oneX (K := X.K) ke r q) fun u H1 ⟨x, c2, e2, b2, r2, q2, q3⟩ => ?_
    subst e2
    refine tS_imp (after_oneX (K := X.K) ke r2 q3) fun v H2 ⟨y, c3, e3, b3, r3, q4, q5⟩ => ?_
    subst e3
    have q2' := q2.mono b3
    cases x with
    | p dx =>
      cases dx with
      | list xs =>
        cases y with
        | p dy =>
          cases dy with
          | list ys =>
            dsimp only at q5
            by_cases hz : xs.length + ys.length ≤ lim
            · rw [if_pos hz] at q5
              obtain ⟨p, vs, rfl, h1, r1⟩ := dv_lst.mp q2'
              obtain ⟨p', vs', rfl, h1', r1'⟩ := dv_lst.mp q4
              exact ⟨p, p', vs, vs', rfl, rfl, r3.ok.fh _ _ h1, r3.ok.fh _ _ h1', by rw [r1.len, r1'.len, ← lim_eq]; exact hz, gives_own q5 r3.ok (r1.append r1')⟩
            · rw [if_neg hz] at q5; exact q5.elim
          | _ => exact q5.elim
        | _ => exact q5.elim
      | _ => exact q5.elim
    | _ => exact q5.elim
def rgOf2 (x y : D) : Option (List PyData) := (asI x).bind fun m => (asI y).bind fun n => if -1000000000 ≤ m ∧ m ≤ 1000000000 ∧ -1000000000 ≤ n ∧ n ≤ 1000000000 then some (rgL m n) else none
theorem si_range2 {p pos : Pos} (ke : Ok e) (hm : X.mg "range" = none) (ha : PE X a (tS cls X.K e Wx f)) (hb : PE X b (tS cls X.K e Wx h)) (hg : Gl X "range" := by rfl) (hs : starEach [a, b] X.env = (false, eval a X.env) :: starEach [b] X.env := by rfl)
    (hs2 : starEach [b] X.env = (false, eval b X.env) :: starEach [] X.env := by rfl) (hpl : (backTo pos (starEach [b] X.env)).any (·.1) = false := by rfl) :
    PI X tg (.Call (.Name "range" p) [a, b] [] pos) (tSI cls X.K e Wx keepF (iOf2 rgOf2 f h)) := pi_imp (pi_range2 hg hm (pa_cons ha (pa_cons hb pa_nil hs2) hs) (by rw [hs, hs2]; rfl) (by rw [hs2]; rfl)) fun σ H R ⟨c, δ, eH, r, q⟩ => by
  subst eH
  show tS cls X.K e Wx f σ c.H _
  refine tS_mk r ?_
  unfold iOf2 at q
  cases z : f δ c.w with
  | bad => rw [z] at q; exact q
  | exc n w' => rw [z] at q; exact q
  | ok x w' =>
    rw [z] at q
    dsimp only [Res.bind] at q
    intro u c1 hw b1 q1
    show tS cls X.K e Wx h σ c1.H _
    have r1 := r.step ke b1
    refine tS_mk r1 ?_
    rw [hw]
    cases z2 : h δ w' with
    | bad => rw [z2] at q; exact q
    | exc n w2 => rw [z2] at q; exact fun c2 hw2 b2 => q c2 hw2 (b1.trans r.ok b2)
    | ok y w2 =>
      rw [z2] at q
      dsimp only at q
      intro v c2 hw2 b2 q2
      have q1' := q1.mono b2
      cases hx : asI x with
      | none => unfold rgOf2 at q; rw [hx] at q; exact q.elim
      | some m =>
        cases hy : asI y with
        | none => unfold rgOf2 at q; rw [hx, hy] at q; exact q.elim
        | some n =>
          unfold rgOf2 at q
          rw [hx, hy] at q
          dsimp only [Option.bind] at q
          by_cases hz : -1000000000 ≤ m ∧ m ≤ 1000000000 ∧ -1000000000 ≤ n ∧ n ≤ 1000000000
          · rw [if_pos hz] at q
            exact ⟨m, n, by rw [asI_eq hx q1', asI_eq hy q2], ⟨by omega, by omega, by omega, by omega⟩, q _ c2 hw2 (b1.trans r.ok b2) jok_rg⟩
          · rw [if_neg hz] at q; exact q.elim
end
end Z

set_option Elab.async false
set_option linter.all false
set_option maxRecDepth 100000
/-! # Z27: texts: join -/
namespace Z
open PySem PySem.Spec PyProof.Rows L2
def strs? : List PyData → Option (List Str)
  | [] => some []
  | .str i :: r => (strs? r).map (i :: ·)
  | _ => none
theorem strs?_eq : ∀ {ds : List PyData} {ns : List Str}, strs? ds = some ns → ds = ns.map PyData.str
  | [], ns, h => by simp [strs?] at h; subst h; rfl
  | .str i :: r, ns, h => by
    simp only [strs?, Option.map_eq_some_iff] at h
    obtain ⟨ms, e, rfl⟩ := h
    rw [strs?_eq e]; rfl
  | .none :: _, _, h => by simp [strs?] at h
  | .bool _ :: _, _, h => by simp [strs?] at h
  | .int _ :: _, _, h => by simp [strs?] at h
  | .list _ :: _, _, h => by simp [strs?] at h
  | .tuple _ :: _, _, h => by simp [strs?] at h
  | .dict _ :: _, _, h => by simp [strs?] at h
theorem strs?_map : ∀ ns : List Str, strs? (ns.map PyData.str) = some ns
  | [] => rfl
  | n :: ns => by
    show (strs? (ns.map PyData.str)).map (n :: ·) = _
    rw [strs?_map ns]; rfl
def gJoin : D → D → Option D
  | .p (.str a), .p (.list xs) => (strs? xs).bind fun ys => if (ys.map (·.length)).sum + ys.length * a.length ≤ 16777216 then some (.p (.str (Txt.join a ys))) else none
  | _, _ => none
section
variable {X : Cx} {W : Type} {wd : WD W} {cls : Nat → Addr} {e : Cur wd} {Wx : WX} {a b o : Expr} {f h : XF W}
theorem mg_join : MtR X "str.join" (rMt cls X.K wd gJoin) := mtR_imp mt_join fun u us H Q ⟨c, x, y, v, eH, k, eu, q1, q2, q⟩ => by
  subst eH
  unfold gJoin at q
  split at q
  · rename_i sa xs
    cases z : strs? xs with
    | none => rw [z] at q; exact gives_no q
    | some ys =>
      rw [z] at q
      dsimp only [Option.bind] at q
      by_cases hz : (ys.map (·.length)).sum + ys.length * sa.length ≤ 16777216
      · rw [if_pos hz] at q
        obtain rfl := dv_str.mp q1
        obtain ⟨p, vs, rfl, h1, r1⟩ := dv_lst.mp q2
        rw [strs?_eq z] at r1
        rw [r1.strs] at h1
        exact ⟨sa, p, ys, rfl, eu, .inl (SqL.of (k.fh _ _ h1)), hz, gives_v q k (dv_str.mpr rfl)⟩
      · rw [if_neg hz] at q; exact gives_no q
  · exact gives_no q
end
end Z

set_option Elab.async false
set_option linter.all false
set_option maxRecDepth 100000
/-! # Z28: ledgers, a world -/
namespace Z
open PySem PySem.Spec PyProof.Rows L2
/-- where a ledger stands: itself, its dict, its list of rows, the rows, its list of the past -/
structure LK where
  p : Addr
  dx : Addr
  a : Addr
  as : List Addr
  b : Addr
/-- what it holds -/
structure LS where
  rows : List (List PyData)
  past : List PyData
def LK.all (k : LK) : List Addr := k.p :: k.dx :: k.a :: k.b :: k.as
def lFs (k : LK) : List (Str × V) := [("rows", .ref k.a), ("past", .ref k.b)]
structure LAt (C : Addr) (F H : Hp) (k : LK) (l : LS) : Prop where
  ins : H k.p = some (.ins C k.dx (lFs k))
  own : H k.dx = some (.own k.p)
  rs : H k.a = some (.lst (k.as.map V.ref))
  len : k.as.length = l.rows.length
  row : ∀ (j : Nat) x xs, k.as[j]? = some x → l.rows[j]? = some xs → ∃ vs, H x = some (.lst vs) ∧ DqL F xs vs
  pst : ∃ vs, H k.b = some (.lst vs) ∧ DqL F l.past vs
theorem LAt.mono {C : Addr} {F F' H H' : Hp} {k : LK} {l : LS} (h : LAt C F H k l) (s : Sub F F') (q : ∀ a ∈ k.all, H' a = H a) : LAt C F' H' k l where
  ins := (q _ (by simp [LK.all])).trans h.ins
  own := (q _ (by simp [LK.all])).trans h.own
  rs := (q _ (by simp [LK.all])).trans h.rs
  len := h.len
  row := fun j x xs h1 h2 => by
    obtain ⟨vs, g1, g2⟩ := h.row j x xs h1 h2
    have hx : x ∈ k.all := by simp [LK.all, List.mem_of_getElem? h1]
    exact ⟨vs, (q x hx).trans g1, DqL.mono s _ _ g2⟩
  pst := by
    obtain ⟨vs, g1, g2⟩ := h.pst
    exact ⟨vs, (q _ (by simp [LK.all])).trans g1, DqL.mono s _ _ g2⟩
abbrev LW := Wd × List LS
/-- what must stay where it is: a ledger, its list of the past -/
def lHd (ks : List LK) (n : Nat) : Option Addr := (ks[n / 2]?).map fun k => if n % 2 = 0 then k.p else k.b
def lAll (ks : List LK) : List Addr := ks.flatMap LK.all
theorem mem_lAll {ks : List LK} {i : Nat} {k : LK} (h : ks[i]? = some k) {a : Addr} (ha : a ∈ k.all) : a ∈ lAll ks := List.mem_flatMap.mpr ⟨k, List.mem_of_getElem? h, ha⟩
structure LRel (C : Addr) (k : Option (Addr × Addr) × List LK) (w : LW) (F H : Hp) : Prop where
  dr : wRel k.1 w.1 H
  nd : (lAll k.2).Nodup
  dis : ∀ a ∈ lAll k.2, ¬ wFp k.1 a
  len : k.2.length = w.2.length
  at_ : ∀ (i : Nat) kk l, k.2[i]? = some kk → w.2[i]? = some l → LAt C F H kk l
def WL (C : Addr) : WD LW where
  Key := Option (Addr × Addr) × List LK
  rel := fun k w F H => LRel C k w F H
  fp := fun k a => wFp k.1 a ∨ a ∈ lAll k.2
  hd := fun k n => if n < 2 then wHd k.1 n else lHd k.2 (n - 2)
  stab := fun k w F F' H H' h s q => {
    dr := WW.stab k.1 w.1 F F' H H' h.dr s fun a ha => q a (.inl ha)
    nd := h.nd
    dis := h.dis
    len := h.len
    at_ := fun i kk l h1 h2 => (h.at_ i kk l h1 h2).mono s fun a ha => q a (.inr (mem_lAll h1 ha)) }
/-! ## a def that knows the draws alone, called where ledgers are -/
def noLed : D → Bool
  | .obj n => decide (n < 2)
  | _ => true
def liftL (fz : FZ Wd) : FZ LW := fun ds w => if ds.all noLed = true then match fz ds w.1 with
    | .ok d w1 => if noLed d = true then .ok d (w1, w.2) else .bad
    | .exc n w1 => .exc n (w1, w.2)
    | .bad => .bad
  else .bad
section
variable {C : Addr} {cls : Nat → Addr} {n : Nat}
def cuW (c : Cur (WL C)) : Cur WW := ⟨c.k.1, c.F, c.w.1, c.H⟩
theorem cuW_ok {c : Cur (WL C)} (k : Ok c) : Ok (cuW c) := ⟨k.fh, k.wr.dr, fun a h => k.wf a (.inl h)⟩
def backW (c : Cur (WL C)) (c' : Cur WW) : Cur (WL C) := ⟨(c'.k, c.k.2), c'.F, (c'.w, c.w.2), c'.H⟩
theorem cuW_bs {c : Cur (WL C)} {c' : Cur WW} (k : Ok c) (b : Bs (cuW c) c') : Bs c (backW c c') := by
  have same : ∀ a ∈ lAll c.k.2, c'.H a = c.H a := fun a ha => by
    obtain ⟨u, hu⟩ := (none_or (c.H a)).resolve_left (k.wf a (.inr ha)).2
    rw [hu]
    exact b.hh a u (k.wr.dis a ha) hu
  have off : ∀ a ∈ lAll c.k.2, ¬ wFp c'.k a := fun a ha z => by
    rcases b.kf a z with z | z
    · exact k.wr.dis a ha z
    · exact (k.wf a (.inr ha)).2 z
  exact {
    ok := {
      fh := b.ok.fh
      wr := {
        dr := b.ok.wr
        nd := k.wr.nd
        dis := off
        len := k.wr.len
        at_ := fun i kk l h1 h2 => (k.wr.at_ i kk l h1 h2).mono b.ff fun a ha => same a (mem_lAll h1 ha) }
      wf := fun a ha => by
        rcases ha with ha | ha
        · exact b.ok.wf a ha
        · obtain ⟨g1, g2⟩ := k.wf a (.inr ha)
          refine ⟨?_, fun z => g2 ((same a ha).symm.trans z)⟩
          rcases none_or (c'.F a) with q | ⟨u, q⟩
          · exact q
          · rcases b.fn a (by rw [q]; exact fun z => by cases z) with z | z
            · exact absurd g1 z
            · exact absurd z g2 }
    ff := b.ff
    hh := fun a o h q => b.hh a o (fun z => h (.inl z)) q
    fn := b.fn
    kh := fun m a h => by
      by_cases hm : m < 2
      · have h : (if m < 2 then wHd c.k.1 m else lHd c.k.2 (m - 2)) = some a := h
        rw [if_pos hm] at h
        show (if m < 2 then wHd c'.k m else lHd c.k.2 (m - 2)) = some a
        rw [if_pos hm]
        exact b.kh m a h
      · have h : (if m < 2 then wHd c.k.1 m else lHd c.k.2 (m - 2)) = some a := h
        rw [if_neg hm] at h
        show (if m < 2 then wHd c'.k m else lHd c.k.2 (m - 2)) = some a
        rw [if_neg hm]
        exact h
    kf := fun a h => by
      rcases h with h | h
      · rcases b.kf a h with z | z
        · exact .inl (.inl z)
        · exact .inr z
      · exact .inl (.inr h)
    kg := fun a h => by
      rcases h with h | h
      · exact .inl (b.kg a h)
      · exact .inr h }
theorem cuW_dv {K : PySem.W.Frag} {c : Cur (WL C)} {d : D} {v : V} (hn : noLed d = true) (h : Dv cls K c d v) : Dv cls K (cuW c) d v := by
  cases d with
  | p d => exact h
  | exc n => exact h
  | obj m =>
    obtain ⟨a, e1, h⟩ := h
    have hm : m < 2 := of_decide_eq_true hn
    have h : (if m < 2 then wHd c.k.1 m else lHd c.k.2 (m - 2)) = some a := h
    rw [if_pos hm] at h
    exact ⟨a, e1, h⟩
  | scr ns => exact h
  | opq => trivial
theorem dv_cuW {K : PySem.W.Frag} {c : Cur (WL C)} {c' : Cur WW} {d : D} {v : V} (hn : noLed d = true) (h : Dv cls K c' d v) : Dv cls K (backW c c') d v := by
  cases d with
  | p d => exact h
  | exc n => exact h
  | obj m =>
    obtain ⟨a, e1, h⟩ := h
    have hm : m < 2 := of_decide_eq_true hn
    refine ⟨a, e1, ?_⟩
    show (if m < 2 then wHd c'.k m else lHd c.k.2 (m - 2)) = some a
    rw [if_pos hm]
    exact h
  | scr ns => exact h
  | opq => trivial
theorem cuW_dvl {K : PySem.W.Frag} {c : Cur (WL C)} : ∀ {ds : List D} {vs : List V}, ds.all noLed = true → DvL cls K c ds vs → DvL cls K (cuW c) ds vs
  | [], _, _, h => h
  | d :: ds, vs, hn, ⟨u, us, e1, q, t⟩ => by
    rw [List.all_cons, Bool.and_eq_true] at hn
    exact ⟨u, us, e1, cuW_dv hn.1 q, cuW_dvl hn.2 t⟩
theorem sp_liftL {K : PySem.W.Frag} {f0 : FZ Wd} (vs : List V) (H : Hp) (Q : VK) (E : XK) (h : spZ cls K (WL C) n (liftL f0) vs H Q E) : spZ cls K WW n f0 vs H Q E := by
  obtain ⟨c, ds, eH, k, q, hl, h⟩ := h
  unfold liftL at h
  by_cases hn : ds.all noLed = true
  · rw [if_pos hn] at h
    refine ⟨cuW c, ds, eH, cuW_ok k, cuW_dvl hn q, hl, ?_⟩
    show afterF cls K (cuW c) (f0 ds c.w.1) Q E
    cases z : f0 ds c.w.1 with
    | bad => rw [z] at h; exact h
    | exc m w =>
      rw [z] at h
      exact fun c' hw b => h (backW c c') (by show (c'.w, c.w.2) = _; rw [hw]) (cuW_bs k b)
    | ok d w =>
      rw [z] at h
      dsimp only at h
      by_cases hd : noLed d = true
      · rw [if_pos hd] at h
        exact fun u c' hw b q' => h u (backW c c') (by show (c'.w, c.w.2) = _; rw [hw]) (cuW_bs k b) (dv_cuW hd q')
      · rw [if_neg hd] at h; exact h.elim
  · rw [if_neg hn] at h; exact h.elim
theorem Kp.liftL {P : Program} {w : World} {K : PySem.W.Frag} {mg : Str → Option Value} {base : Heap} {x : Str} {k : Nat} {f0 : FZ Wd} (h : Kp P w K mg base cls WW x k n f0) : Kp P w K mg base cls (WL C) x k n (liftL f0) := by
  obtain ⟨f, fd, ps, h1, h2, h3, h4⟩ := h
  exact ⟨f, fd, ps, h1, h2, h3, h4.imp fun vs H Q E h => sp_liftL vs H Q E h⟩
end
/-! ## a ledger's own expressions: all of it stands frozen meanwhile -/
def WS (C : Addr) : WD LS where
  Key := Addr × Addr × Addr × Addr
  rel := fun k l F _ => F k.1 = some (.ins C k.2.1 [("rows", .ref k.2.2.1), ("past", .ref k.2.2.2)]) ∧ Dq F (.list (l.rows.map .list)) (.ref k.2.2.1) ∧ Dq F (.list l.past) (.ref k.2.2.2)
  fp := fun _ _ => False
  hd := fun k n => if n = 0 then some k.1 else none
  stab := fun k l F F' H H' h s _ => ⟨s _ _ h.1, Dq.mono s _ _ h.2.1, Dq.mono s _ _ h.2.2⟩
def toS : Sl → Sl
  | .v (.p d) => .v (.p d)
  | _ => .no
/-- the slots as the ledger's own expressions see them -/
def evS (δ : Ev) : Ev := (δ.map toS).set 0 (.v (.obj 0))
/-- the ledger that the first slot holds -/
def ledOf (δ : Ev) (w : LW) : Option (Nat × LS) := match δ[0]? with
  | some (Sl.v (D.obj n)) => if 2 ≤ n ∧ n % 2 = 0 then (w.2[(n - 2) / 2]?).map fun l => ((n - 2) / 2, l) else none
  | _ => none
section
variable {C : Addr} {cls : Nat → Addr} {K : PySem.W.Frag} {e c : Cur (WL C)} {δ : Ev} {σ : L2.St}
theorem ledOf_is {w : LW} {i : Nat} {l : LS} (h : ledOf δ w = some (i, l)) : δ[0]? = some (.v (.obj (2 * i + 2))) ∧ w.2[i]? = some l := by
  unfold ledOf at h
  split at h
  · rename_i n hn
    split at h
    · rename_i h2
      obtain ⟨l', g1, g2⟩ := Option.map_eq_some_iff.mp h
      cases g2
      exact ⟨by rw [hn, show 2 * ((n - 2) / 2) + 2 = n by omega], g1⟩
    · cases h
  · cases h
theorem led_at {i : Nat} {l : LS} (r : Rz cls K e c δ σ) (h : ledOf δ c.w = some (i, l)) : ∃ kk, c.k.2[i]? = some kk ∧ σ[0]? = some (some (.ref kk.p)) ∧ LAt C c.F c.H kk l := by
  obtain ⟨h1, h2⟩ := ledOf_is h
  obtain ⟨o, w1, _⟩ := r.ex
  obtain ⟨_, u, e1, a, eu, hd⟩ := w1 0 _ h1
  have hd : (if 2 * i + 2 < 2 then wHd c.k.1 (2 * i + 2) else lHd c.k.2 (2 * i + 2 - 2)) = some a := hd
  rw [if_neg (by omega), Nat.add_sub_cancel] at hd
  unfold lHd at hd
  obtain ⟨kk, g1, g2⟩ := Option.map_eq_some_iff.mp hd
  rw [show 2 * i / 2 = i by omega] at g1
  rw [if_pos (by omega)] at g2
  exact ⟨kk, g1, by rw [e1, eu, g2], r.ok.wr.at_ i kk l g1 h2⟩
/-- a ledger stays where it is, and its past -/
theorem led_stay {c c' : Cur (WL C)} {i : Nat} {kk : LK} (b : Bs c c') (hk : c.k.2[i]? = some kk) : ∃ k', c'.k.2[i]? = some k' ∧ k'.p = kk.p ∧ k'.b = kk.b := by
  have e1 : (WL C).hd c.k (2 * i + 2) = some kk.p := by
    show (if 2 * i + 2 < 2 then wHd c.k.1 (2 * i + 2) else lHd c.k.2 (2 * i + 2 - 2)) = some kk.p
    rw [if_neg (by omega), Nat.add_sub_cancel]
    unfold lHd
    rw [show 2 * i / 2 = i by omega, hk, Option.map_some, if_pos (by omega)]
  have e2 : (WL C).hd c.k (2 * i + 3) = some kk.b := by
    show (if 2 * i + 3 < 2 then wHd c.k.1 (2 * i + 3) else lHd c.k.2 (2 * i + 3 - 2)) = some kk.b
    rw [if_neg (by omega), show 2 * i + 3 - 2 = 2 * i + 1 by omega]
    unfold lHd
    rw [show (2 * i + 1) / 2 = i by omega, hk, Option.map_some, if_neg (by omega)]
  have f1 := b.kh _ _ e1
  have f2 := b.kh _ _ e2
  have f1 : (if 2 * i + 2 < 2 then wHd c'.k.1 (2 * i + 2) else lHd c'.k.2 (2 * i + 2 - 2)) = some kk.p := f1
  have f2 : (if 2 * i + 3 < 2 then wHd c'.k.1 (2 * i + 3) else lHd c'.k.2 (2 * i + 3 - 2)) = some kk.b := f2
  rw [if_neg (by omega), Nat.add_sub_cancel] at f1
  rw [if_neg (by omega), show 2 * i + 3 - 2 = 2 * i + 1 by omega] at f2
  unfold lHd at f1 f2
  rw [show 2 * i / 2 = i by omega] at f1
  rw [show (2 * i + 1) / 2 = i by omega] at f2
  obtain ⟨k', g1, g2⟩ := Option.map_eq_some_iff.mp f1
  obtain ⟨k2, g3, g4⟩ := Option.map_eq_some_iff.mp f2
  rw [g1] at g3
  cases g3
  rw [if_pos (by omega)] at g2
  rw [if_neg (by omega)] at g4
  exact ⟨k', g1, g2, g4⟩
/-- the heap with a ledger frozen -/
def frzF (c : Cur (WL C)) (kk : LK) : Hp := fun x => if x ∈ kk.p :: kk.a :: kk.b :: kk.as then c.H x else c.F x
def lendC (c : Cur (WL C)) (kk : LK) (l : LS) : Cur (WS C) := ⟨(kk.p, kk.dx, kk.a, kk.b), frzF c kk, l, c.H⟩
theorem frzF_sub {kk : LK} {i : Nat} (k : Ok c) (hk : c.k.2[i]? = some kk) : Sub c.F (frzF c kk) := fun x o q => by
  unfold frzF
  by_cases hx : x ∈ kk.p :: kk.a :: kk.b :: kk.as
  · rw [if_pos hx]; exact k.fh x o q
  · rw [if_neg hx]; exact q
theorem rowsS_dq {F H : Hp} {as : List Addr} : ∀ {xss : List (List PyData)}, as.length = xss.length → (∀ (j : Nat) x xs, as[j]? = some x → xss[j]? = some xs → ∃ vs, F x = some (.lst vs) ∧ DqL F xs vs) → DqL F (xss.map .list) (as.map .ref) := by
  induction as with
  | nil =>
    intro xss hl _
    cases xss with
    | nil => exact .nil
    | cons _ _ => cases hl
  | cons a as ih =>
    intro xss hl h
    cases xss with
    | nil => cases hl
    | cons xs xss =>
      obtain ⟨vs, g1, g2⟩ := h 0 a xs rfl rfl
      refine .cons ?_ (ih (by simpa using hl) fun j x ys h1 h2 => h (j + 1) x ys (by simpa using h1) (by simpa using h2))
      simp only [Dq]
      exact ⟨a, vs, rfl, g1, g2⟩
theorem lendC_ok {kk : LK} {i : Nat} {l : LS} (k : Ok c) (hk : c.k.2[i]? = some kk) (hl : LAt C c.F c.H kk l) : Ok (lendC c kk l) := by
  have sb := frzF_sub k hk
  have fin : ∀ x, x ∈ kk.p :: kk.a :: kk.b :: kk.as → frzF c kk x = c.H x := fun x hx => if_pos hx
  refine ⟨fun x o q => ?_, ⟨?_, ?_, ?_⟩, fun _ h => h.elim⟩
  · have q : frzF c kk x = some o := q
    unfold frzF at q
    by_cases hx : x ∈ kk.p :: kk.a :: kk.b :: kk.as
    · rw [if_pos hx] at q; exact q
    · rw [if_neg hx] at q; exact k.fh x o q
  · show frzF c kk kk.p = _
    rw [fin _ (by simp)]; exact hl.ins
  · show Dq (frzF c kk) _ (.ref kk.a)
    simp only [Dq]
    refine ⟨kk.a, _, rfl, (fin _ (by simp)).trans hl.rs, rowsS_dq (H := c.H) hl.len fun j x xs h1 h2 => ?_⟩
    obtain ⟨vs, g1, g2⟩ := hl.row j x xs h1 h2
    have hx : x ∈ kk.p :: kk.a :: kk.b :: kk.as := by simp [List.mem_of_getElem? h1]
    exact ⟨vs, (fin x hx).trans g1, DqL.mono sb _ _ g2⟩
  · show Dq (frzF c kk) _ (.ref kk.b)
    obtain ⟨vs, g1, g2⟩ := hl.pst
    simp only [Dq]
    exact ⟨kk.b, vs, rfl, (fin _ (by simp)).trans g1, DqL.mono sb _ _ g2⟩
theorem lend_rz {kk : LK} {i : Nat} {l : LS} (r : Rz cls K e c δ σ) (h : ledOf δ c.w = some (i, l)) (hk : c.k.2[i]? = some kk) (hp : σ[0]? = some (some (.ref kk.p))) (hl : LAt C c.F c.H kk l) :
    Rz cls K (lendC c kk l) (lendC c kk l) (evS δ) σ := by
  have k0 := lendC_ok r.ok hk hl
  have sb := frzF_sub r.ok hk
  have h0 : 0 < δ.length := (List.getElem?_eq_some_iff.mp (ledOf_is h).1).1
  obtain ⟨o, w1, _⟩ := r.ex
  refine Rz.of_vals k0 (by simp [evS, r.len]) fun j s hs => ?_
  unfold evS at hs
  by_cases hj : j = 0
  · subst hj
    rw [List.getElem?_set_self (by simpa using h0)] at hs
    exact .inr ⟨.obj 0, .ref kk.p, (Option.some.inj hs).symm, hp, kk.p, rfl, rfl⟩
  · rw [List.getElem?_set_ne (Ne.symm hj), List.getElem?_map] at hs
    obtain ⟨s0, g1, g2⟩ := Option.map_eq_some_iff.mp hs
    cases s0 with
    | no => exact .inl g2.symm
    | own _ => exact .inl g2.symm
    | own2 _ => exact .inl g2.symm
    | v d =>
      cases d with
      | p d =>
        obtain ⟨_, u, e1, q⟩ := w1 j _ g1
        exact .inr ⟨.p d, u, g2.symm, e1, Dq.mono sb _ _ q⟩
      | _ => exact .inl g2.symm
/-- behind: what was frozen is the ledger's again -/
theorem lend_bs {kk : LK} {i : Nat} {l : LS} {c2 : Cur (WS C)} (k : Ok c) (hk : c.k.2[i]? = some kk) (b : Bs (lendC c kk l) c2) : Bs c (⟨c.k, c.F, c.w, c2.H⟩ : Cur (WL C)) := by
  have keep : ∀ a o, c.H a = some o → c2.H a = some o := fun a o q => b.hh a o (fun z => z) q
  have same : ∀ a, (WL C).fp c.k a → c2.H a = c.H a := fun a ha => by
    obtain ⟨u, hu⟩ := (none_or (c.H a)).resolve_left (k.wf a ha).2
    rw [hu]; exact keep a u hu
  exact {
    ok := ⟨fun a o q => keep a o (k.fh a o q), (WL C).stab _ _ _ _ _ _ k.wr (Sub.refl _) same, fun a ha => ⟨(k.wf a ha).1, by
      show c2.H a ≠ none
      rw [same a ha]; exact (k.wf a ha).2⟩⟩
    ff := Sub.refl _
    hh := fun a o _ q => keep a o q
    fn := fun _ h => .inl h
    kh := fun _ _ h => h
    kf := fun _ h => .inl h
    kg := fun _ h => h }
end
section
variable {C : Addr} {X : Cx} {cls : Nat → Addr} {e : Cur (WL C)} {Wx : WX} {ex o : Expr} {pos : Pos}
def xSelf (f : XF LS) : XF LW := fun δ w => match ledOf δ w with
  | some (_, l) => match f (evS δ) l with
    | .ok d _ => if flatD d = true then .ok d w else .bad
    | .exc m _ => .exc m w
    | .bad => .bad
  | none => .bad
theorem s_self {f : XF LS} (he : ∀ (e0 : Cur (WS C)), Ok e0 → PE X ex (tS cls X.K e0 Wx f)) : PE X ex (tS cls X.K e Wx (xSelf f)) := ⟨fun pins s σ H Q I ⟨c, δ, eH, r, q⟩ => by
  subst eH
  unfold xSelf at q
  cases z : ledOf δ c.w with
  | none => rw [z] at q; exact q.elim
  | some il =>
    obtain ⟨i, l⟩ := il
    rw [z] at q
    obtain ⟨kk, hk, hp, hl⟩ := led_at r z
    have k0 := lendC_ok r.ok hk hl
    refine (he (lendC c kk l) k0).run pins s σ c.H Q I ⟨lendC c kk l, evS δ, rfl, lend_rz r z hk hp hl, ?_⟩
    dsimp only at q
    show after cls X.K (lendC c kk l) σ Wx (f (evS δ) l) Q
    cases z2 : f (evS δ) l with
    | bad => rw [z2] at q; exact q
    | exc m w' => rw [z2] at q; exact fun c2 _ b => q ⟨c.k, c.F, c.w, c2.H⟩ rfl (lend_bs r.ok hk b)
    | ok d w' =>
      rw [z2] at q
      dsimp only at q
      by_cases hd : flatD d = true
      · rw [if_pos hd] at q
        intro u c2 _ b qd
        refine q u ⟨c.k, c.F, c.w, c2.H⟩ rfl (lend_bs r.ok hk b) ?_
        cases d with
        | p d => exact flat_dq hd qd
        | _ => cases hd
      · rw [if_neg hd] at q; exact q.elim⟩
def tSelf (t : XB LS) : XB LW := fun δ w => match ledOf δ w with
  | some (_, l) => match t (evS δ) l with
    | .ok b _ => .ok b w
    | .exc m _ => .exc m w
    | .bad => .bad
  | none => .bad
theorem st_self {t : XB LS} (he : ∀ (e0 : Cur (WS C)), Ok e0 → PT X ex (tSB cls X.K e0 Wx t)) : PT X ex (tSB cls X.K e Wx (tSelf t)) := ⟨fun pins s σ H Q I ⟨c, δ, eH, r, q⟩ => by
  subst eH
  unfold tSelf at q
  cases z : ledOf δ c.w with
  | none => rw [z] at q; exact q.elim
  | some il =>
    obtain ⟨i, l⟩ := il
    rw [z] at q
    obtain ⟨kk, hk, hp, hl⟩ := led_at r z
    have k0 := lendC_ok r.ok hk hl
    refine (he (lendC c kk l) k0).run pins s σ c.H Q I ⟨lendC c kk l, evS δ, rfl, lend_rz r z hk hp hl, ?_⟩
    dsimp only at q
    show afterB cls (lendC c kk l) σ Wx (t (evS δ) l) Q
    cases z2 : t (evS δ) l with
    | bad => rw [z2] at q; exact q
    | exc m w' => rw [z2] at q; exact fun c2 _ b => q ⟨c.k, c.F, c.w, c2.H⟩ rfl (lend_bs r.ok hk b)
    | ok d w' => rw [z2] at q; exact fun c2 _ b => q ⟨c.k, c.F, c.w, c2.H⟩ rfl (lend_bs r.ok hk b)⟩
/-- new lists of flat things -/
def flatS : Sl → Bool
  | .own xs => xs.all flatP
  | .own2 xss => xss.all fun xs => xs.all flatP
  | _ => false
theorem flat_dql {F F' : Hp} : ∀ {xs : List PyData} {vs : List V}, xs.all flatP = true → DqL F xs vs → DqL F' xs vs
  | [], vs, _, h => by rw [h.unnil]; exact .nil
  | x :: xs, vs, hf, h => by
    rw [List.all_cons, Bool.and_eq_true] at hf
    obtain ⟨u, us, rfl, q1, q2⟩ := h.uncons
    exact .cons (flat_dq hf.1 q1) (flat_dql hf.2 q2)
def xSelfX (g : XS LS) : XS LW := fun δ w => match ledOf δ w with
  | some (_, l) => match g (evS δ) l with
    | .ok s _ => if flatS s = true then .ok s w else .bad
    | .exc m _ => .exc m w
    | .bad => .bad
  | none => .bad
theorem x_self {g : XS LS} (he : ∀ (e0 : Cur (WS C)), Ok e0 → PE X ex (tSX cls X.K e0 Wx g)) : PE X ex (tSX cls X.K e Wx (xSelfX g)) := ⟨fun pins s σ H Q I ⟨c, δ, eH, r, q⟩ => by
  subst eH
  unfold xSelfX at q
  cases z : ledOf δ c.w with
  | none => rw [z] at q; exact q.elim
  | some il =>
    obtain ⟨i, l⟩ := il
    rw [z] at q
    obtain ⟨kk, hk, hp, hl⟩ := led_at r z
    have k0 := lendC_ok r.ok hk hl
    refine (he (lendC c kk l) k0).run pins s σ c.H Q I ⟨lendC c kk l, evS δ, rfl, lend_rz r z hk hp hl, ?_⟩
    dsimp only at q
    show afterX cls X.K (lendC c kk l) σ Wx (g (evS δ) l) Q
    cases z2 : g (evS δ) l with
    | bad => rw [z2] at q; exact q
    | exc m w' => rw [z2] at q; exact fun c2 _ b => q ⟨c.k, c.F, c.w, c2.H⟩ rfl (lend_bs r.ok hk b)
    | ok s w' =>
      rw [z2] at q
      dsimp only at q
      by_cases hd : flatS s = true
      · rw [if_pos hd] at q
        intro u c2 A _ b hs hn hA
        have bb := lend_bs r.ok hk b
        refine q u ⟨c.k, c.F, c.w, c2.H⟩ A rfl bb ?_ hn fun a ha => ?_
        · cases s with
          | own xs =>
            obtain ⟨a, vs, h1, h2, h3, h4⟩ := hs
            exact ⟨a, vs, h1, h2, h3, flat_dql hd h4⟩
          | own2 xss =>
            obtain ⟨a, as, h1, h2, h3, h4, h5⟩ := hs
            refine ⟨a, as, h1, h2, h3, h4, fun j x xs g1 g2 => ?_⟩
            obtain ⟨vs, g3, g4⟩ := h5 j x xs g1 g2
            exact ⟨vs, g3, flat_dql (List.all_eq_true.mp hd xs (List.mem_of_getElem? g2)) g4⟩
          | _ => cases hd
        · obtain ⟨⟨f1, f2, f3⟩, f4⟩ := hA a ha
          have f3 : c.H a = none := f3
          refine ⟨⟨?_, fun z => (r.ok.wf a z).2 f3, f3⟩, f4⟩
          rcases none_or (c.F a) with q | ⟨u, q⟩
          · exact q
          · rw [r.ok.fh _ _ q] at f3; cases f3
      · rw [if_neg hd] at q; exact q.elim⟩
end
/-! ## a new list, frozen at once -/
section
variable {X : Cx} {W : Type} {wd : WD W} {cls : Nat → Addr} {e : Cur wd} {Wx : WX} {ex : Expr}
def xFrzX (g : XS W) : XF W := fun δ w => match g δ w with
  | .ok (.own xs) w' => .ok (.p (.list xs)) w'
  | .ok (.own2 xss) w' => .ok (.p (.list (xss.map .list))) w'
  | .exc m w' => .exc m w'
  | _ => .bad
/-- new things of one's own are frozen -/
theorem frz_new {c c1 : Cur wd} {A : List Addr} (k : Ok c) (b : Bs c c1) (hA : ∀ a ∈ A, Fre c c1 a ∧ c1.H a ≠ none) :
    ∃ c2 : Cur wd, c2.H = c1.H ∧ c2.w = c1.w ∧ Bs c c2 ∧ Sub c1.F c2.F ∧ ∀ a ∈ A, c2.F a = c1.H a := by
  let F' : Hp := fun x => if x ∈ A then c1.H x else c1.F x
  have fin : ∀ x, x ∈ A → F' x = c1.H x := fun x hx => if_pos hx
  have fout : ∀ x, x ∉ A → F' x = c1.F x := fun x hx => if_neg hx
  have s1 : Sub c1.F F' := fun x o q => by
    by_cases hx : x ∈ A
    · rw [(hA x hx).1.1] at q; cases q
    · rw [fout x hx]; exact q
  refine ⟨⟨c1.k, F', c1.w, c1.H⟩, rfl, rfl, ⟨⟨fun x o q => ?_, wd.stab _ _ _ _ _ _ b.ok.wr s1 fun _ _ => rfl, fun x hx => ⟨?_, (b.ok.wf x hx).2⟩⟩, b.ff.trans s1, b.hh, fun x hx => ?_, b.kh, b.kf, b.kg⟩, s1, fin⟩
  · have q : F' x = some o := q
    by_cases hx : x ∈ A
    · rw [fin x hx] at q; exact q
    · rw [fout x hx] at q; exact b.ok.fh x o q
  · show F' x = none
    by_cases hxA : x ∈ A
    · exact absurd hx (hA x hxA).1.2.1
    · rw [fout x hxA]; exact (b.ok.wf x hx).1
  · have hx : F' x ≠ none := hx
    by_cases hxA : x ∈ A
    · exact .inr (hA x hxA).1.2.2
    · rw [fout x hxA] at hx; exact b.fn x hx
theorem s_frzX {g : XS W} (ke : Ok e) (he : PE X ex (tSX cls X.K e Wx g)) : PE X ex (tS cls X.K e Wx (xFrzX g)) := pe_imp he fun σ H Q ⟨c, δ, eH, r, q⟩ => by
  refine ⟨c, δ, eH, r, ?_⟩
  unfold xFrzX at q
  cases z : g δ c.w with
  | bad => rw [z] at q; exact q
  | exc m w' => rw [z] at q; exact q
  | ok s w' =>
    rw [z] at q
    intro u c1 A hw b hs hn hA
    obtain ⟨c2, e1, e2, b2, s2, f2⟩ := frz_new r.ok b hA
    cases s with
    | no => exact q.elim
    | v d => exact q.elim
    | own xs =>
      obtain ⟨a, vs, h1, h2, h3, h4⟩ := hs
      cases h2
      rw [← e1]
      refine q (.ref a) c2 (e2.trans hw) b2 (dv_lst.mpr ⟨a, vs, rfl, ?_, DqL.mono s2 _ _ h4⟩)
      rw [f2 a (by rw [h1]; exact List.mem_cons_self)]; exact h3
    | own2 xss =>
      obtain ⟨a, as, h1, h2, h3, h4⟩ := hs
      cases h2
      rw [← e1]
      refine q (.ref a) c2 (e2.trans hw) b2 (dv_lst.mpr ⟨a, _, rfl, ?_, rows_dq s2 h4 fun x hx => f2 x (by rw [h1]; exact List.mem_cons_of_mem _ hx)⟩)
      rw [f2 a (by rw [h1]; exact List.mem_cons_self)]; exact h3
end
end Z

set_option Elab.async false
set_option linter.all false
set_option maxRecDepth 100000
/-! # Z29: what a ledger's methods do -/
namespace Z
open PySem PySem.Spec PyProof.Rows L2
/-- what the text says of the class of ledgers -/
structure LedC (K : PySem.W.Frag) (C : Addr) : Prop where
  cl : Cls K C
  nr : NoAttr K C "rows"
  np : NoAttr K C "past"
section
variable {C : Addr} {X : Cx} {cls : Nat → Addr} {Wx : WX} {o b d ex : Expr} {pos : Pos}
/-! ## its two fields, its own expressions -/
def xRows : XF LS := fun δ l => match δ[0]? with
  | some (Sl.v (D.obj n)) => if n = 0 then .ok (.p (.list (l.rows.map .list))) l else .bad
  | _ => .bad
def xPast : XF LS := fun δ l => match δ[0]? with
  | some (Sl.v (D.obj n)) => if n = 0 then .ok (.p (.list l.past)) l else .bad
  | _ => .bad
theorem self_at {K : PySem.W.Frag} {e c : Cur (WS C)} {δ : Ev} {σ : L2.St} (r : Rz cls K e c δ σ) (h : δ[0]? = some (.v (.obj 0))) : σ[0]? = some (some (.ref c.k.1)) := by
  obtain ⟨oo, w1, _⟩ := r.ex
  obtain ⟨_, u, e1, a, eu, hd⟩ := w1 0 _ h
  have hd : (if (0 : Nat) = 0 then some c.k.1 else none) = some a := hd
  rw [if_pos rfl] at hd
  cases hd
  rw [e1, eu]
theorem s_rows {e : Cur (WS C)} (T : LedC X.K C) (ho : PE X o (tVar 0)) (hb : attributeBase o "rows" X.env (eval o X.env) = eval o X.env := by rfl) : PE X (.Attribute o "rows" pos) (tS cls X.K e Wx (xRows)) :=
  pe_imp (pe_fld ho hb) fun σ H Q ⟨c, δ, eH, r, q⟩ => by
    rw [← eH]
    unfold xRows at q
    split at q
    · rename_i n hn
      split at q
      · rename_i h0
        subst h0
        obtain ⟨f1, f2, f3⟩ := r.ok.wr
        exact ⟨_, self_at r hn, _, C, _, _, _, rfl, r.ok.fh _ _ f1, T.cl, T.nr, rfl, q _ c rfl (Bs.refl r.ok) f2⟩
      · exact q.elim
    · exact q.elim
theorem s_past {e : Cur (WS C)} (T : LedC X.K C) (ho : PE X o (tVar 0)) (hb : attributeBase o "past" X.env (eval o X.env) = eval o X.env := by rfl) : PE X (.Attribute o "past" pos) (tS cls X.K e Wx (xPast)) :=
  pe_imp (pe_fld ho hb) fun σ H Q ⟨c, δ, eH, r, q⟩ => by
    rw [← eH]
    unfold xPast at q
    split at q
    · rename_i n hn
      split at q
      · rename_i h0
        subst h0
        obtain ⟨f1, f2, f3⟩ := r.ok.wr
        exact ⟨_, self_at r hn, _, C, _, _, _, rfl, r.ok.fh _ _ f1, T.cl, T.np, rfl, q _ c rfl (Bs.refl r.ok) f3⟩
      · exact q.elim
    · exact q.elim
end
/-! ## a ledger changes -/
section
variable {C : Addr} {X : Cx} {cls : Nat → Addr} {e c : Cur (WL C)} {Wx : WX} {o b d ex : Expr} {pos : Pos} {i : Nat} {kk : LK} {l l' : LS} {a : Addr} {ob : HO}
theorem all_apart {ks : List LK} (nd : (lAll ks).Nodup) {i j : Nat} {ki kj : LK} (hi : ks[i]? = some ki) (hj : ks[j]? = some kj) (hij : i ≠ j) {x : Addr} (h1 : x ∈ ki.all) (h2 : x ∈ kj.all) : False := by
  obtain ⟨li, rfl⟩ := List.getElem?_eq_some_iff.mp hi
  obtain ⟨lj, rfl⟩ := List.getElem?_eq_some_iff.mp hj
  have h := (List.pairwise_flatMap.mp nd).2
  rcases Nat.lt_or_gt_of_ne hij with h3 | h3
  · exact (List.pairwise_iff_getElem.mp h i j li lj h3) x h1 x h2 rfl
  · exact (List.pairwise_iff_getElem.mp h j i lj li h3) x h2 x h1 rfl
theorem all_nodup {ks : List LK} (nd : (lAll ks).Nodup) (hi : ks[i]? = some kk) : kk.all.Nodup := (List.pairwise_flatMap.mp nd).1 _ (List.mem_of_getElem? hi)
theorem led_wr (k : Ok c) (hk : c.k.2[i]? = some kk) (hl : c.w.2[i]? = some l) (ha : a ∈ kk.all) (h' : LAt C c.F (upd c.H a ob) kk l') : Bs c (⟨c.k, c.F, (c.w.1, c.w.2.set i l'), upd c.H a ob⟩ : Cur (WL C)) := by
  have hfp : (WL C).fp c.k a := .inr (mem_lAll hk ha)
  have ho := (k.wf a hfp).1
  have hi := (List.getElem?_eq_some_iff.mp hl).1
  exact {
    ok := {
      fh := fun x u q => by
        show upd c.H a ob x = some u
        rw [upd_ne fun z => by rw [z, ho] at q; cases q]
        exact k.fh x u q
      wr := {
        dr := WW.stab _ _ c.F c.F _ _ k.wr.dr (Sub.refl _) fun x hx => upd_ne fun z => k.wr.dis a (mem_lAll hk ha) (z ▸ hx)
        nd := k.wr.nd
        dis := k.wr.dis
        len := by rw [List.length_set]; exact k.wr.len
        at_ := fun j k2 l2 h1 h2 => by
          by_cases e1 : j = i
          · subst e1
            rw [List.getElem?_set_self hi] at h2
            cases h2
            have : k2 = kk := by rw [hk] at h1; cases h1; rfl
            subst this
            exact h'
          · rw [List.getElem?_set_ne (Ne.symm e1)] at h2
            exact (k.wr.at_ j k2 l2 h1 h2).mono (Sub.refl _) fun x hx => upd_ne fun z => all_apart k.wr.nd h1 hk e1 (z ▸ hx) ha }
      wf := fun x hx => ⟨(k.wf x hx).1, by
        show upd c.H a ob x ≠ none
        by_cases e1 : x = a
        · rw [e1, upd_same]; exact fun z => by cases z
        · rw [upd_ne e1]; exact (k.wf x hx).2⟩ }
    ff := Sub.refl _
    hh := fun x u n q => by
      have hne : x ≠ a := fun z => n (by rw [z]; exact hfp)
      show upd c.H a ob x = some u
      rw [upd_ne hne]
      exact q
    fn := fun _ h => .inl h
    kh := fun _ _ h => h
    kf := fun _ h => .inl h
    kg := fun _ h => h }
theorem ne_mem {y x : Addr} {as : List Addr} (h : ¬ y ∈ as) (hm : x ∈ as) : y ≠ x := fun z => h (z.symm ▸ hm)
theorem at_past (nd : kk.all.Nodup) (h : LAt C c.F c.H kk l) {ps : List PyData} {us : List V} (q : DqL c.F ps us) : LAt C c.F (upd c.H kk.b (.lst us)) kk { l with past := ps } := by
  simp only [LK.all, List.nodup_cons, List.mem_cons, not_or] at nd
  exact {
    ins := by rw [upd_ne nd.1.2.2.1]; exact h.ins
    own := by rw [upd_ne nd.2.1.2.1]; exact h.own
    rs := by rw [upd_ne nd.2.2.1.1]; exact h.rs
    len := h.len
    row := fun j x xs h1 h2 => by
      obtain ⟨vs, g1, g2⟩ := h.row j x xs h1 h2
      refine ⟨vs, ?_, g2⟩
      rw [upd_ne (ne_mem nd.2.2.2.1 (List.mem_of_getElem? h1)).symm]; exact g1
    pst := ⟨us, upd_same, q⟩ }
theorem at_row (nd : kk.all.Nodup) (h : LAt C c.F c.H kk l) {j : Nat} {x : Addr} (hx : kk.as[j]? = some x) {ps : List PyData} {us : List V} (q : DqL c.F ps us) : LAt C c.F (upd c.H x (.lst us)) kk { l with rows := l.rows.set j ps } := by
  simp only [LK.all, List.nodup_cons, List.mem_cons, not_or] at nd
  have hm := List.mem_of_getElem? hx
  exact {
    ins := by rw [upd_ne (ne_mem nd.1.2.2.2 hm)]; exact h.ins
    own := by rw [upd_ne (ne_mem nd.2.1.2.2 hm)]; exact h.own
    rs := by rw [upd_ne (ne_mem nd.2.2.1.2 hm)]; exact h.rs
    len := by rw [List.length_set]; exact h.len
    row := fun m y xs h1 h2 => by
      by_cases e1 : m = j
      · subst e1
        rw [hx] at h1
        cases h1
        rw [List.getElem?_set_self (by rw [← h.len]; exact (List.getElem?_eq_some_iff.mp hx).1)] at h2
        cases h2
        exact ⟨us, upd_same, q⟩
      · rw [List.getElem?_set_ne (Ne.symm e1)] at h2
        obtain ⟨vs, g1, g2⟩ := h.row m y xs h1 h2
        refine ⟨vs, ?_, g2⟩
        rw [upd_ne]
        · exact g1
        · intro z
          subst z
          obtain ⟨l1, v1⟩ := List.getElem?_eq_some_iff.mp h1
          obtain ⟨l2, v2⟩ := List.getElem?_eq_some_iff.mp hx
          exact e1 ((List.getElem_inj nd.2.2.2.2).mp (v1.trans v2.symm))
    pst := by
      obtain ⟨vs, g1, g2⟩ := h.pst
      exact ⟨vs, by rw [upd_ne (ne_mem nd.2.2.2.1 hm)]; exact g1, g2⟩ }
end
/-! ## statements of a method -/
section
variable {C : Addr} {X : Cx} {cls : Nat → Addr} {e : Cur (WL C)} {Wx : WX} {o b d ex : Expr} {pos : Pos}
/-- an expression of the ledger's own, it lent -/
def tL (C : Addr) (cls : Nat → Addr) (K : PySem.W.Frag) (Wx : WX) (f : XF LS) : TE := fun σ H Q => ∃ e0 : Cur (WS C), Ok e0 ∧ tS cls K e0 Wx f σ H Q
theorem pe_L {f : XF LS} (he : ∀ (e0 : Cur (WS C)), Ok e0 → PE X ex (tS cls X.K e0 Wx f)) : PE X ex (tL C cls X.K Wx f) := ⟨fun pins s σ H Q I ⟨e0, k0, h⟩ => (he e0 k0).run pins s σ H Q I h⟩
theorem lend_one {K : PySem.W.Frag} {f : XF LS} {c : Cur (WL C)} {δ : Ev} {σ : L2.St} {i : Nat} {l : LS} (r : Rz cls K e c δ σ) (z : ledOf δ c.w = some (i, l)) {p : PyData} {l0 : LS} (hf : f (evS δ) l = .ok (.p p) l0) (hp : flatP p = true)
    {Q : VK} (hQ : ∀ u H2, Bs c (⟨c.k, c.F, c.w, H2⟩ : Cur (WL C)) → Dq c.F p u → Q u H2) : tL C cls K Wx f σ c.H Q := by
  obtain ⟨kk, hk, hs, hl⟩ := led_at r z
  refine ⟨lendC c kk l, lendC_ok r.ok hk hl, lendC c kk l, evS δ, rfl, lend_rz r z hk hs hl, ?_⟩
  show after cls K (lendC c kk l) σ Wx (f (evS δ) l) Q
  rw [hf]
  exact fun u c2 _ b q => hQ u c2.H (lend_bs r.ok hk b) (flat_dq hp q)
theorem lend_keeps {c : Cur (WL C)} {H2 : Hp} {i : Nat} {l : LS} {kk : LK} (b : Bs c (⟨c.k, c.F, c.w, H2⟩ : Cur (WL C))) (hk : c.k.2[i]? = some kk) (hl : c.w.2[i]? = some l) : LAt C c.F H2 kk l := b.ok.wr.at_ i kk l hk hl
/-- self.past.append(e) -/
def sPast (f : XF LW) : SF LW := fun δ w => match ledOf δ w with
  | some _ => match f δ w with
    | .ok (.p p) w' => match ledOf δ w' with
      | some (i, l) => if l.past.length < lim then .nx δ (w'.1, w'.2.set i { l with past := l.past ++ [p] }) else .bad
      | none => .bad
    | .exc m w' => .exc m δ w'
    | _ => .bad
  | none => .bad
theorem past_at {c : Cur (WL C)} {kk : LK} {l : LS} {σ : L2.St} {Q : VK} (T : LedC X.K C) (hs : σ[0]? = some (some (.ref kk.p))) (hl : LAt C c.F c.H kk l) (q : Q (.ref kk.b) c.H) : tFld X.K (tVar 0) "past" σ c.H Q :=
  ⟨_, hs, _, C, _, _, _, rfl, hl.ins, T.cl, T.np, rfl, q⟩
theorem rows_at {c : Cur (WL C)} {kk : LK} {l : LS} {σ : L2.St} {Q : VK} (T : LedC X.K C) (hs : σ[0]? = some (some (.ref kk.p))) (hl : LAt C c.F c.H kk l) (q : Q (.ref kk.a) c.H) : tFld X.K (tVar 0) "rows" σ c.H Q :=
  ⟨_, hs, _, C, _, _, _, rfl, hl.ins, T.cl, T.nr, rfl, q⟩
theorem ss_past {f : XF LW} {apos p2 cpos : Pos} (ke : Ok e) (T : LedC X.K C) (ho : PE X o (tVar 0)) (ha : PE X d (tS cls X.K e Wx f))
    (hb0 : attributeBase o "past" X.env (eval o X.env) = eval o X.env := by rfl)
    (hbase : attributeBase (.Attribute o "past" p2) "append" X.env (eval (.Attribute o "past" p2) X.env) = eval (.Attribute o "past" p2) X.env := by rfl)
    (hfew : ((backTo cpos (starEach (d :: []) X.env)).all (fun x => !x.1) && (backToKw cpos (keywordEach [] X.env)).all (fun x => x.1.isSome)
      && decide ((d :: []).length + ([] : List Keyword).length + (if ([] : List Keyword).isEmpty then 0 else 1) < 30)) = true := by rfl)
    (hline : (apos.endLine == cpos.line) = true := by rfl) (hs : starEach (d :: []) X.env = (false, eval d X.env) :: starEach [] X.env := by rfl) (hplain : (backTo cpos (starEach [] X.env)).any (·.1) = false := by rfl)
    (hsw : swapsWith (.Call (.Attribute (.Attribute o "past" p2) "append" apos) (d :: []) [] cpos) none pos.line X.env = pure false := by rfl) :
    PS X (.Expr (.Call (.Attribute (.Attribute o "past" p2) "append" apos) (d :: []) [] cpos) pos) (tSS cls X.K e Wx (sPast f)) := ⟨fun pins s σ H Dn I ⟨c, δ, eH, r, q⟩ => by
  subst eH
  unfold sPast at q
  cases z : ledOf δ c.w with
  | none => rw [z] at q; exact q.elim
  | some il =>
    obtain ⟨i, l⟩ := il
    rw [z] at q
    dsimp only at q
    obtain ⟨kk, hk, hsl, hl⟩ := led_at r z
    refine (ps_expr (pe_bm PySem.F.plainAttrs_list PySem.F.slot_list_append PySem.F.type_list_append mt_append (pe_fld ho hb0) (pa_cons ha pa_nil hs) hbase hfew hline hs hplain) hsw).run pins s σ c.H Dn I ?_
    unfold tDrop tBM
    refine past_at T hsl hl ?_
    obtain ⟨vs, g1, g2⟩ := hl.pst
    refine ⟨.inl ⟨rfl, vs, SqL.of g1⟩, ?_⟩
    show tS cls X.K e Wx f σ c.H _
    refine ⟨c, δ, rfl, r, ?_⟩
    cases z2 : f δ c.w with
    | bad => rw [z2] at q; exact q.elim
    | exc m w' => rw [z2] at q; exact fun c' hw b => q σ c' hw b.ff (r.step ke b)
    | ok dd w' =>
      rw [z2] at q
      cases dd with
      | p p =>
        dsimp only at q
        intro u c1 hw1 b1 qu
        cases z3 : ledOf δ w' with
        | none => rw [z3] at q; exact q.elim
        | some jl =>
          obtain ⟨j, l1⟩ := jl
          rw [z3] at q
          dsimp only at q
          by_cases hp : l1.past.length < lim
          · rw [if_pos hp] at q
            rw [← hw1] at z3 q
            have r1 := r.step ke b1
            obtain ⟨k1, hk1, hs1, hl1⟩ := led_at r1 z3
            have eij : j = i := by
              have h1 := (ledOf_is z).1
              have h2 := (ledOf_is z3).1
              rw [h1] at h2
              injection h2 with h2
              injection h2 with h2
              injection h2 with h2
              omega
            subst eij
            obtain ⟨k2, hk2, _, eb⟩ := led_stay b1 hk
            have ek : k2 = k1 := by rw [hk1] at hk2; cases hk2; rfl
            subst ek
            obtain ⟨vs2, g3, g4⟩ := hl1.pst
            rw [eb] at g3
            have nd := all_nodup r1.ok.wr.nd hk1
            have hA := at_past nd hl1 (g4.append (.cons qu .nil))
            rw [eb] at hA
            have B2 := led_wr (l' := { l1 with past := l1.past ++ [p] }) r1.ok hk1 (ledOf_is z3).2 (a := kk.b) (ob := .lst (vs2 ++ [u])) (by rw [← eb]; simp [LK.all]) hA
            refine ⟨kk.b, vs2, u, rfl, rfl, g3, by rw [g4.len, ← lim_eq]; exact hp, ?_⟩
            exact q σ (⟨c1.k, c1.F, (c1.w.1, c1.w.2.set j { l1 with past := l1.past ++ [p] }), upd c1.H kk.b (.lst (vs2 ++ [u]))⟩ : Cur (WL C)) rfl b1.ff (r1.step ke B2)
          · rw [if_neg hp] at q; exact q.elim
      | _ => exact q.elim⟩
/-- self.rows[k][h] = f -/
def sRowSet (k h f : XF LS) : SF LW := fun δ w => match ledOf δ w with
  | some (i, l) => match f (evS δ) l, k (evS δ) l, h (evS δ) l with
    | .ok (.p p) _, .ok (.p (.int y)) _, .ok (.p (.int z)) _ => match ixN l.rows.length y with
      | some j => match ixN (l.rows.getD j []).length z with
        | some m => if flatP p = true then .nx δ (w.1, w.2.set i { l with rows := l.rows.set j ((l.rows.getD j []).set m p) }) else .bad
        | none => .bad
      | none => .bad
    | _, _, _ => .bad
  | none => .bad
theorem ss_rowSet {k h f : XF LS} {spos p2 p3 : Pos} (ke : Ok e) (T : LedC X.K C) (ho : PE X o (tVar 0)) (hk : ∀ (e0 : Cur (WS C)), Ok e0 → PE X b (tS cls X.K e0 Wx k)) (hh : ∀ (e0 : Cur (WS C)), Ok e0 → PE X d (tS cls X.K e0 Wx h)) (hv : ∀ (e0 : Cur (WS C)), Ok e0 → PE X ex (tS cls X.K e0 Wx f))
    (hpl : PlainIx b := by exact fun _ _ => rfl) (hb0 : attributeBase o "rows" X.env (eval o X.env) = eval o X.env := by rfl)
    (ha : ∀ v, assign (.Subscript (.Subscript (.Attribute o "rows" p3) b p2) d spos) X.env v = (do
      let ov ← holding [v] (eval (.Subscript (.Attribute o "rows" p3) b p2) X.env)
      let iv ← holding [v, ov] (eval d X.env)
      standAt spos
      holding [v, ov, iv] (setItem ov iv v)
      release [v, ov, iv] []) := by intro _; rfl)
    (hs : swapsWithSole [.Subscript (.Subscript (.Attribute o "rows" p3) b p2) d spos] ex pos.line X.env = pure false := by rfl) (hw : swappedStores [.Subscript (.Subscript (.Attribute o "rows" p3) b p2) d spos] ex X.env = pure none := by rfl)
    (h1 : (assignEach [.Subscript (.Subscript (.Attribute o "rows" p3) b p2) d spos] X.env).map (·.2) = [assign (.Subscript (.Subscript (.Attribute o "rows" p3) b p2) d spos) X.env] := by rfl) :
    PS X (.Assign [.Subscript (.Subscript (.Attribute o "rows" p3) b p2) d spos] ex pos) (tSS cls X.K e Wx (sRowSet k h f)) := ⟨fun pins s σ H Dn I ⟨c, δ, eH, r, q⟩ => by
  subst eH
  unfold sRowSet at q
  cases z : ledOf δ c.w with
  | none => rw [z] at q; exact q.elim
  | some il =>
    obtain ⟨i, l⟩ := il
    rw [z] at q
    dsimp only at q
    obtain ⟨kk, hkk, hsl, hl⟩ := led_at r z
    have hli := (ledOf_is z).2
    split at q
    · rename_i p w1 y w2 zz w3 hf hkf hhf
      split at q
      · rename_i j hj
        split at q
        · rename_i m hm
          by_cases hp : flatP p = true
          · rw [if_pos hp] at q
            have nd := all_nodup r.ok.wr.nd hkk
            have hjl : j < kk.as.length := by rw [hl.len]; exact ixN_lt hj
            have hb : kk.as[j]? = some kk.as[j] := List.getElem?_eq_getElem hjl
            have hxs : l.rows[j]? = some (l.rows.getD j []) := by
              have := ixN_lt hj
              rw [List.getD_eq_getElem?_getD, List.getElem?_eq_getElem this]; rfl
            have hat : atI (kk.as.map V.ref) y = some (.ref kk.as[j]) := by
              unfold atI
              rw [List.length_map, hl.len, hj]
              simp [hjl]
            refine (ps_asg (pe_L hv) (pg_sub (pe_ix ix_list (pe_fld ho hb0) (pe_L hk) hpl) (pe_L hh) set_list ha) hs hw h1).run pins s σ c.H Dn I ?_
            show tL C cls X.K Wx f σ c.H _
            refine lend_one r z hf hp fun u H1 b1 q1 => ?_
            have r1 := r.step ke b1
            have hl1 := lend_keeps b1 hkk hli
            unfold L2.gSub tOp
            refine rows_at (c := (⟨c.k, c.F, c.w, H1⟩ : Cur (WL C))) T hsl hl1 ?_
            refine lend_one (c := (⟨c.k, c.F, c.w, H1⟩ : Cur (WL C))) r1 z hkf rfl fun v H2 b2 q2 => ?_
            have r2 := r1.step ke b2
            have hl2 := lend_keeps b2 hkk hli
            cases dv_int.mp (show Dv cls X.K (⟨c.k, c.F, c.w, H2⟩ : Cur (WL C)) (.p (.int y)) v from q2)
            refine ⟨kk.a, _, y, _, rfl, rfl, SqL.of hl2.rs, hat, ?_⟩
            refine lend_one (c := (⟨c.k, c.F, c.w, H2⟩ : Cur (WL C))) r2 z hhf rfl fun v3 H3 b3 q3 => ?_
            have r3 := r2.step ke b3
            have hl3 := lend_keeps b3 hkk hli
            cases dv_int.mp (show Dv cls X.K (⟨c.k, c.F, c.w, H3⟩ : Cur (WL C)) (.p (.int zz)) v3 from q3)
            obtain ⟨us, k1, k2⟩ := hl3.row j _ _ hb hxs
            have B2 := led_wr (c := (⟨c.k, c.F, c.w, H3⟩ : Cur (WL C))) (l' := { l with rows := l.rows.set j ((l.rows.getD j []).set m p) }) b3.ok hkk hli (a := kk.as[j]) (ob := .lst (us.set m u)) (by simp [LK.all]) (at_row (c := (⟨c.k, c.F, c.w, H3⟩ : Cur (WL C))) nd hl3 hb (k2.set q1 m))
            refine ⟨kk.as[j], us, zz, m, rfl, rfl, k1, by rw [k2.len]; exact hm, ?_⟩
            exact q σ (⟨c.k, c.F, (c.w.1, c.w.2.set i { l with rows := l.rows.set j ((l.rows.getD j []).set m p) }), upd H3 kk.as[j] (.lst (us.set m u))⟩ : Cur (WL C)) rfl (Sub.refl _) (r3.step ke B2)
          · rw [if_neg hp] at q; exact q.elim
        · exact q.elim
      · exact q.elim
    · exact q.elim⟩
end
end Z

set_option Elab.async false
set_option linter.all false
set_option maxRecDepth 100000
/-! # Z30: ledgers: taken back, made, asked -/
namespace Z
open PySem PySem.Spec PyProof.Rows L2
section
variable {C : Addr} {X : Cx} {cls : Nat → Addr} {e : Cur (WL C)} {Wx : WX} {o b d ex : Expr} {pos : Pos}
/-- self.past.pop() -/
def xPop : XF LW := fun δ w => match ledOf δ w with
  | some (i, l) => match l.past[l.past.length - 1]? with
    | some p => .ok (.p p) (w.1, w.2.set i { l with past := l.past.dropLast })
    | none => .bad
  | none => .bad
theorem s_pop {apos p2 cpos : Pos} (ke : Ok e) (T : LedC X.K C) (ho : PE X o (tVar 0)) (hb0 : attributeBase o "past" X.env (eval o X.env) = eval o X.env := by rfl)
    (hbase : attributeBase (.Attribute o "past" p2) "pop" X.env (eval (.Attribute o "past" p2) X.env) = eval (.Attribute o "past" p2) X.env := by rfl) (hline : (apos.endLine == cpos.line) = true := by rfl) :
    PE X (.Call (.Attribute (.Attribute o "past" p2) "pop" apos) [] [] cpos) (tS cls X.K e Wx xPop) :=
  pe_imp (pe_bm0 PySem.F.plainAttrs_list PySem.F.slot_list_pop PySem.F.type_list_pop mt_pop (pe_fld ho hb0) hbase hline) fun σ H Q ⟨c, δ, eH, r, q⟩ => by
    subst eH
    unfold xPop at q
    cases z : ledOf δ c.w with
    | none => rw [z] at q; exact q.elim
    | some il =>
      obtain ⟨i, l⟩ := il
      rw [z] at q
      dsimp only at q
      obtain ⟨kk, hk, hsl, hl⟩ := led_at r z
      cases z2 : l.past[l.past.length - 1]? with
      | none => rw [z2] at q; exact q.elim
      | some p =>
        rw [z2] at q
        unfold tBM0
        refine past_at T hsl hl ?_
        obtain ⟨vs, g1, g2⟩ := hl.pst
        obtain ⟨v, g3, g4⟩ := g2.get z2
        refine ⟨.inl ⟨rfl, vs, SqL.of g1⟩, kk.b, vs, v, rfl, rfl, g1, by rw [g2.len]; exact g3, ?_⟩
        have nd := all_nodup r.ok.wr.nd hk
        have g5 : DqL c.F l.past.dropLast vs.dropLast := by
          rw [List.dropLast_eq_take, List.dropLast_eq_take, g2.len]
          exact g2.take _
        have B2 := led_wr (l' := { l with past := l.past.dropLast }) r.ok hk (ledOf_is z).2 (a := kk.b) (ob := .lst vs.dropLast) (by simp [LK.all]) (at_past nd hl g5)
        exact q v (⟨c.k, c.F, (c.w.1, c.w.2.set i { l with past := l.past.dropLast }), upd c.H kk.b (.lst vs.dropLast)⟩ : Cur (WL C)) rfl B2 g4
end
/-! ## a method of a ledger, called -/
/-- the method m of the class at C keeps what fz says -/
def KpM (P : Program) (w : World) (K : PySem.W.Frag) (mg : Str → Option Value) (base : Heap) (C : Addr) (cls : Nat → Addr) (m : Str) (k n : Nat) (fz : FZ LW) : Prop :=
  ∃ f fd ps, Meth K C m f ∧ Binds K fd ps [] ∧ FnOk P w K mg base (L2.CX P w) k f fd ps (spZ cls K (WL C) n fz)
section
variable {P : Program} {w : World} {K : PySem.W.Frag} {mg : Str → Option Value} {base : Heap} {C : Addr} {cls : Nat → Addr} {m : Str} {k n : Nat}
/-- where the method m stands, its text -/
def DfM (K : PySem.W.Frag) (C : Addr) (m : Str) (qual : Str) (st : Stmt) : Prop := ∃ f fd, Meth K C m f ∧ Fun K m qual st f fd
theorem kpM {qual : Str} {st : Stmt} {N ps : List Str} {sf : SF LW} (D : DfM K C m qual st) (S : FnScope N ps (defScope st))
    (bs : ∀ (kV doc pm : Value) (an : Option Addr) (cdv ct : Value) (us : List Value), us.length = ps.length → bindArgs (PySem.W.fnOf m qual (defArgs st) (defBody st) (defScope st) .none kV doc pm an cdv ct) ⟨us, []⟩ = pure (ps.zip us))
    (hb : ∀ (f : Addr) (cdv : Value) (A : Around) (outer : List Env) (s : Shared) (H : Hp) (E : XK) (e : Cur (WL C)), Ok e → Room k (A.deeper (envOfC qual (defScope st) s.heap.objs.size f cdv)) →
      PSs (cxOf (L2.CX P w) P w K mg base N qual (defScope st) f cdv A outer s H E) (defBody st) (tSS cls K e (WxE E) sf)) : KpM P w K mg base C cls m (k + 1) ps.length (runZ N.length sf) := by
  obtain ⟨f, fd, h1, F⟩ := D
  exact ⟨f, fd, ps, h1, F.binds bs, okZ F S (hb f)⟩
end
section
variable {C : Addr} {X : Cx} {cls : Nat → Addr} {e : Cur (WL C)} {Wx : WX} {o a : Expr} {es : List Expr} {pos apos : Pos} {m : Str} {k n : Nat} {fz : FZ LW} {fo : XF LW} {fl : XL LW}
/-- is it a ledger -/
def isLed (d : D) (w : LW) : Bool := match d with
  | .obj n => decide (2 ≤ n ∧ n % 2 = 0) && decide ((n - 2) / 2 < w.2.length)
  | _ => false
theorem led_of {K : PySem.W.Frag} {c : Cur (WL C)} {d : D} {v : V} (k : Ok c) (h : isLed d c.w = true) (q : Dv cls K c d v) : ∃ kk, v = .ref kk.p ∧ c.H kk.p = some (.ins C kk.dx (lFs kk)) := by
  cases d with
  | obj n =>
    unfold isLed at h
    simp only [Bool.and_eq_true, decide_eq_true_eq] at h
    obtain ⟨a, rfl, hd⟩ := q
    have hd : (if n < 2 then wHd c.k.1 n else lHd c.k.2 (n - 2)) = some a := hd
    rw [if_neg (by omega)] at hd
    unfold lHd at hd
    obtain ⟨kk, h1, h2⟩ := Option.map_eq_some_iff.mp hd
    rw [if_pos (by omega)] at h2
    have hl : c.w.2[(n - 2) / 2]? = some c.w.2[(n - 2) / 2] := List.getElem?_eq_getElem h.2
    exact ⟨kk, by rw [h2], (k.wr.at_ _ _ _ h1 hl).ins⟩
  | _ => cases h
def xMeth (fz : FZ LW) (fo : XF LW) (fl : XL LW) : XF LW := fun δ w => (fo δ w).bind fun d w1 => if isLed d w1 = true then (fl δ w1).bind fun ds w2 => fz (d :: ds) w2 else .bad
theorem mlook {kk : LK} (h1 : (m == ("rows" : Str)) = false) (h2 : (m == ("past" : Str)) = false) : (lFs kk).lookup m = none := by
  simp only [lFs, List.lookup, h1, h2]
theorem s_meth {pl : Sem Bool} (ke : Ok e) (T : LedC X.K C) (F : KpM X.prog X.w X.K X.mg X.base C cls m k (n + 1) fz) (hr : Room k X.A) (tk : Takes X Wx) (ho : PE X o (tS cls X.K e Wx fo)) (ha : PA X (a :: es) (tSL cls X.K e Wx fl)) (hn : LenIs fl n)
    (h1 : (m == ("rows" : Str)) = false := by decide) (h2 : (m == ("past" : Str)) = false := by decide)
    (hst : starEach (a :: es) X.env = (false, eval a X.env) :: starEach es X.env := by rfl) (hpl : (backTo pos (starEach es X.env)).any (·.1) = false := by rfl)
    (ht : eval (.Call (.Attribute o m apos) (a :: es) [] pos) X.env = (do
      let ov ← eval o X.env
      standAt apos.atName
      let (f, first) ← holding [ov] (getMethod ov m pl)
      callWith pos f first (backTo pos (starEach (a :: es) X.env)) (backToKw pos (keywordEach [] X.env))) := by rfl) :
    PE X (.Call (.Attribute o m apos) (a :: es) [] pos) (tS cls X.K e Wx (xMeth fz fo fl)) := ⟨fun pins s σ H Q I ⟨c, δ, eH, r, q⟩ => by
  subst eH
  obtain ⟨f, fd, ps, hm, hb, hF⟩ := F
  unfold xMeth at q
  refine PySem.W.methodCall_KW (pl := pl) (thn (ho.run pins s σ c.H _ I (after_one (K := X.K) ke r q)) fun u s1 ⟨x, H1, I1, rx, y, c1, e1, b1, r1, qy, q1⟩ => ?_) ht
  subst e1
  by_cases hy : isLed y c1.w = true
  · rw [if_pos hy] at q1
    obtain ⟨kk, hx, hins⟩ := led_of r1.ok hy qy
    subst hx
    cases (rx : u = Value.ref kk.p)
    refine getmeth_ok I1 hins T.cl hm (mlook h1 h2) ?_
    refine PySem.W.callWith_K (first := [.ref kk.p]) (h₀ := X.base) I.ok.mod.kin hm.kp (thn (ha.run pos pins s1 σ c1.H (fun vs H2 => spZ cls X.K (WL C) (n + 1) fz (V.ref kk.p :: vs) H2 Q (WE Wx σ)) I1 ⟨c1, δ, rfl, r1, ?_⟩) fun us s2 ⟨vs, H2, I2, rv, q2⟩ => ⟨I2.kIn, ?_⟩) hst hpl
    · cases z : fl δ c1.w with
      | bad => rw [z] at q1; exact q1
      | exc n' w => rw [z] at q1; exact q1
      | ok ds w1 =>
        rw [z] at q1
        dsimp only [Res.bind] at q1
        intro us c2 hw b2 qd
        refine ⟨c2, y :: ds, rfl, b2.ok, ⟨_, us, rfl, qy.mono b2, qd⟩, by rw [List.length_cons, hn _ _ _ _ z], ?_⟩
        rw [hw]
        cases z2 : fz (y :: ds) w1 with
        | bad => rw [z2] at q1; exact q1
        | exc m' w2 => rw [z2] at q1; exact fun c' hw' b' => q1 c' hw' (b2.trans r1.ok b')
        | ok dd w2 => rw [z2] at q1; exact fun u c' hw' b' q' => q1 u c' hw' (b2.trans r1.ok b') q'
    · exact run_fnS (us := .ref kk.p :: us) (vs := .ref kk.p :: vs) hF hr hb (passAt tk σ) I2 (.cons rfl rv) q2
  · rw [if_neg hy] at q1; exact q1.elim⟩
def xMeth0 (fz : FZ LW) (fo : XF LW) : XF LW := fun δ w => (fo δ w).bind fun d w1 => if isLed d w1 = true then fz [d] w1 else .bad
theorem s_meth0 {pl : Sem Bool} (ke : Ok e) (T : LedC X.K C) (F : KpM X.prog X.w X.K X.mg X.base C cls m k 1 fz) (hr : Room k X.A) (tk : Takes X Wx) (ho : PE X o (tS cls X.K e Wx fo))
    (h1 : (m == ("rows" : Str)) = false := by decide) (h2 : (m == ("past" : Str)) = false := by decide)
    (ht : eval (.Call (.Attribute o m apos) [] [] pos) X.env = (do
      let ov ← eval o X.env
      standAt apos.atName
      let (f, first) ← holding [ov] (getMethod ov m pl)
      callWith pos f first (backTo pos (starEach [] X.env)) (backToKw pos (keywordEach [] X.env))) := by rfl) :
    PE X (.Call (.Attribute o m apos) [] [] pos) (tS cls X.K e Wx (xMeth0 fz fo)) := ⟨fun pins s σ H Q I ⟨c, δ, eH, r, q⟩ => by
  subst eH
  obtain ⟨f, fd, ps, hm, hb, hF⟩ := F
  unfold xMeth0 at q
  refine PySem.W.methodCall_KW (pl := pl) (thn (ho.run pins s σ c.H _ I (after_one (K := X.K) ke r q)) fun u s1 ⟨x, H1, I1, rx, y, c1, e1, b1, r1, qy, q1⟩ => ?_) ht
  subst e1
  by_cases hy : isLed y c1.w = true
  · rw [if_pos hy] at q1
    obtain ⟨kk, hx, hins⟩ := led_of r1.ok hy qy
    subst hx
    cases (rx : u = Value.ref kk.p)
    refine getmeth_ok I1 hins T.cl hm (mlook h1 h2) ?_
    refine PySem.W.callWith_K0 (first := [.ref kk.p]) I1.kIn hm.kp ?_
    refine run_fnS (us := [.ref kk.p]) (vs := [.ref kk.p]) hF hr hb (passAt tk σ) I1 (.cons rfl .nil) ⟨c1, [y], rfl, r1.ok, ⟨_, [], rfl, qy, rfl⟩, rfl, ?_⟩
    cases z2 : fz [y] c1.w with
    | bad => rw [z2] at q1; exact q1
    | exc m' w2 => rw [z2] at q1; exact q1
    | ok dd w2 => rw [z2] at q1; exact q1
  · rw [if_neg hy] at q1; exact q1.elim⟩
end
end Z

set_option Elab.async false
set_option linter.all false
set_option maxRecDepth 100000
/-! # Z31: a ledger is made; its length -/
namespace Z
open PySem PySem.Spec PyProof.Rows L2
section
variable {C : Addr} {cls : Nat → Addr}
/-- what __init__ makes of its argument: f is asked first, g are the rows -/
def fInit (n : Nat) (f : XF LW) (g : XS LW) : D → LW → Res LW D := fun d w =>
  let δ := [Sl.v .opq, Sl.v d] ++ List.replicate n .no
  match f δ w with
  | .ok _ w1 => match g δ w1 with
    | .ok (.own2 xss) w2 => .ok (.obj (2 * w2.2.length + 2)) (w2.1, w2.2 ++ [⟨xss, []⟩])
    | .exc m w2 => .exc m w2
    | _ => .bad
  | .exc m w' => .exc m w'
  | .bad => .bad
def afterMk (cls : Nat → Addr) (K : PySem.W.Frag) (c : Cur (WL C)) (x : Addr) (r : Res LW D) (Q : VK) (E : XK) : Prop := match r with
  | .ok d w' => ∀ c' : Cur (WL C), c'.w = w' → Bs c c' → Dv cls K c' d (.ref x) → Q .non c'.H
  | .exc m w' => ∀ c' : Cur (WL C), c'.w = w' → Bs c c' → E (.ref (cls m)) none c'.H
  | .bad => False
def spI (C : Addr) (cls : Nat → Addr) (K : PySem.W.Frag) (fi : D → LW → Res LW D) : Sp := fun vs H Q E => ∃ (c : Cur (WL C)) (x dx : Addr) (d : D) (v : V), vs = [.ref x, v] ∧ c.H x = none ∧ c.H dx = none ∧ dx ≠ x ∧ H = upd (upd c.H dx (.own x)) x (.ins C dx []) ∧ Ok c ∧ Dv cls K c d v ∧
  afterMk cls K c x (fi d c.w) Q E
theorem none_back {W : Type} {wd : WD W} {c c1 : Cur wd} {a : Addr} (k1 : Ok c1) (b : Bs c c1) (h : c1.H a = none) : c.H a = none := by
  rcases none_or (c.H a) with q | ⟨u, q⟩
  · exact q
  · by_cases hx : wd.fp c.k a
    · exact absurd h (k1.wf a (b.kg a hx)).2
    · rw [b.hh a u hx q] at h; cases h
/-- a new ledger -/
theorem led_new {c c2 : Cur (WL C)} {x dx a p : Addr} {as : List Addr} {xss : List (List PyData)} (k : Ok c) (b : Bs c c2) (hx : c.H x = none) (hdx : c.H dx = none) (hne : dx ≠ x) (fx : ¬ (WL C).fp c2.k x) (fdx : ¬ (WL C).fp c2.k dx)
    (gx : c2.F x = none) (gdx : c2.F dx = none) (ox : c2.H x = some (.ins C dx [])) (odx : c2.H dx = some (.own x)) (oa : c2.H a = some (.lst (as.map V.ref))) (hr : RowsAt c2 xss as) (hn : (a :: as).Nodup)
    (hA : ∀ y ∈ a :: as, c2.F y = none ∧ ¬ (WL C).fp c2.k y ∧ c.H y = none ∧ y ≠ x ∧ y ≠ dx ∧ c2.H y ≠ none) (hp : c2.H p = none) :
    ∃ c' : Cur (WL C), c'.H = upd (upd (upd c2.H x (.ins C dx [("rows", .ref a)])) p (.lst [])) x (.ins C dx [("rows", .ref a), ("past", .ref p)]) ∧ c'.w = (c2.w.1, c2.w.2 ++ [⟨xss, []⟩]) ∧ Bs c c' ∧ (WL C).hd c'.k (2 * c2.w.2.length + 2) = some x := by
  have hpx : p ≠ x := fun z => by rw [z, ox] at hp; cases hp
  have hpdx : p ≠ dx := fun z => by rw [z, odx] at hp; cases hp
  have hpA : ∀ y ∈ a :: as, y ≠ p := fun y hy z => (hA y hy).2.2.2.2.2 (z ▸ hp)
  have fp_ : ¬ (WL C).fp c2.k p := fun z => (b.ok.wf p z).2 hp
  generalize hH : upd (upd (upd c2.H x (.ins C dx [("rows", .ref a)])) p (.lst [])) x (.ins C dx [("rows", .ref a), ("past", .ref p)]) = H'
  have e1 : H' x = some (.ins C dx [("rows", .ref a), ("past", .ref p)]) := by rw [← hH, upd_same]
  have e2 : H' p = some (.lst []) := by rw [← hH, upd_ne hpx, upd_same]
  have e3 : ∀ y, y ≠ x → y ≠ p → H' y = c2.H y := fun y h1 h2 => by rw [← hH, upd_ne h1, upd_ne h2, upd_ne h1]
  have same : ∀ y, (WL C).fp c2.k y → H' y = c2.H y := fun y hy => e3 y (fun z => fx (z ▸ hy)) (fun z => fp_ (z ▸ hy))
  have cp : c.H p = none := none_back b.ok b hp
  let kk : LK := ⟨x, dx, a, as, p⟩
  have nofp : ∀ y ∈ kk.all, ¬ (WL C).fp c2.k y := fun y hy => by
    simp only [kk, LK.all, List.mem_cons] at hy
    rcases hy with rfl | rfl | rfl | rfl | hy
    · exact fx
    · exact fdx
    · exact (hA _ List.mem_cons_self).2.1
    · exact fp_
    · exact (hA _ (List.mem_cons_of_mem _ hy)).2.1
  have all_none : ∀ y ∈ kk.all, c.H y = none := fun y hy => by
    simp only [kk, LK.all, List.mem_cons] at hy
    rcases hy with rfl | rfl | rfl | rfl | hy
    · exact hx
    · exact hdx
    · exact (hA _ List.mem_cons_self).2.2.1
    · exact cp
    · exact (hA _ (List.mem_cons_of_mem _ hy)).2.2.1
  have all_F : ∀ y ∈ kk.all, c2.F y = none := fun y hy => by
    simp only [kk, LK.all, List.mem_cons] at hy
    rcases hy with rfl | rfl | rfl | rfl | hy
    · exact gx
    · exact gdx
    · exact (hA _ List.mem_cons_self).1
    · exact b.ok.fnone hp
    · exact (hA _ (List.mem_cons_of_mem _ hy)).1
  have all_H : ∀ y ∈ kk.all, H' y ≠ none := fun y hy => by
    simp only [kk, LK.all, List.mem_cons] at hy
    have low : ∀ z ∈ a :: as, H' z ≠ none := fun z hz => by
      obtain ⟨_, _, _, h4, h5, h6⟩ := hA z hz
      rw [e3 z h4 (hpA z hz)]; exact h6
    rcases hy with rfl | rfl | rfl | rfl | hy
    · rw [e1]; exact fun z => by cases z
    · rw [e3 _ hne hpdx.symm, odx]; exact fun z => by cases z
    · exact low _ List.mem_cons_self
    · rw [e2]; exact fun z => by cases z
    · exact low _ (List.mem_cons_of_mem _ hy)
  have lall : lAll (c2.k.2 ++ [kk]) = lAll c2.k.2 ++ kk.all := by simp [lAll]
  have lmem : ∀ y, y ∈ lAll (c2.k.2 ++ [kk]) → y ∈ lAll c2.k.2 ∨ y ∈ kk.all := fun y hy => by rw [lall] at hy; exact List.mem_append.mp hy
  obtain ⟨hna, hnas⟩ := List.nodup_cons.mp hn
  have kknd : kk.all.Nodup := by
    simp only [kk, LK.all, List.nodup_cons, List.mem_cons, not_or]
    have ha := hA a List.mem_cons_self
    exact ⟨⟨hne.symm, ha.2.2.2.1.symm, hpx.symm, fun z => (hA x (List.mem_cons_of_mem _ z)).2.2.2.1 rfl⟩, ⟨ha.2.2.2.2.1.symm, hpdx.symm, fun z => (hA dx (List.mem_cons_of_mem _ z)).2.2.2.2.1 rfl⟩,
      ⟨hpA a List.mem_cons_self, hna⟩, fun z => hpA p (List.mem_cons_of_mem _ z) rfl, hnas⟩
  refine ⟨⟨(c2.k.1, c2.k.2 ++ [kk]), c2.F, (c2.w.1, c2.w.2 ++ [⟨xss, []⟩]), H'⟩, rfl, rfl, ?_, ?_⟩
  · exact {
      ok := {
        fh := fun y u q => by
          show H' y = some u
          have hy1 : y ≠ x := fun z => by rw [z, gx] at q; cases q
          have hy2 : y ≠ p := fun z => by rw [z, b.ok.fnone hp] at q; cases q
          rw [e3 y hy1 hy2]; exact b.ok.fh y u q
        wr := {
          dr := WW.stab _ _ c2.F c2.F _ _ b.ok.wr.dr (Sub.refl _) fun y hy => same y (.inl hy)
          nd := by
            show (lAll (c2.k.2 ++ [kk])).Nodup
            rw [lall]
            exact List.nodup_append.mpr ⟨b.ok.wr.nd, kknd, fun y hy z hz e => nofp z hz (.inr (e ▸ hy))⟩
          dis := fun y hy z => by
            rcases lmem y hy with h | h
            · exact b.ok.wr.dis y h z
            · exact nofp y h (.inl z)
          len := by
            show (c2.k.2 ++ [kk]).length = (c2.w.2 ++ [(⟨xss, []⟩ : LS)]).length
            rw [List.length_append, List.length_append, b.ok.wr.len]; rfl
          at_ := fun i k' l' h1 h2 => by
            have h1 : (c2.k.2 ++ [kk])[i]? = some k' := h1
            have h2 : (c2.w.2 ++ [(⟨xss, []⟩ : LS)])[i]? = some l' := h2
            by_cases hi : i < c2.k.2.length
            · rw [List.getElem?_append_left hi] at h1
              rw [List.getElem?_append_left (by rw [← b.ok.wr.len]; exact hi)] at h2
              exact (b.ok.wr.at_ i k' l' h1 h2).mono (Sub.refl _) fun y hy => same y (.inr (mem_lAll h1 hy))
            · rw [List.getElem?_append_right (Nat.le_of_not_lt hi)] at h1
              rw [List.getElem?_append_right (by rw [← b.ok.wr.len]; exact Nat.le_of_not_lt hi), ← b.ok.wr.len] at h2
              have hi0 : i - c2.k.2.length = 0 := by
                have := (List.getElem?_eq_some_iff.mp h1).1
                simpa using this
              rw [hi0] at h1 h2
              cases h1
              cases h2
              refine ⟨e1, ?_, ?_, hr.1, fun j y xs g1 g2 => ?_, [], e2, .nil⟩
              · show H' dx = _
                rw [e3 _ hne hpdx.symm]; exact odx
              · have ha := hA a List.mem_cons_self
                show H' a = _
                rw [e3 a ha.2.2.2.1 (hpA a List.mem_cons_self)]; exact oa
              · obtain ⟨vs, g3, g4⟩ := hr.2 j y xs g1 g2
                have hm : y ∈ a :: as := List.mem_cons_of_mem _ (List.mem_of_getElem? g1)
                refine ⟨vs, ?_, g4⟩
                show H' y = _
                rw [e3 y (hA y hm).2.2.2.1 (hpA y hm)]; exact g3 }
        wf := fun y hy => by
          show c2.F y = none ∧ H' y ≠ none
          have old : (WL C).fp c2.k y → c2.F y = none ∧ H' y ≠ none := fun h => ⟨(b.ok.wf y h).1, by rw [same y h]; exact (b.ok.wf y h).2⟩
          rcases hy with h | h
          · exact old (.inl h)
          · rcases lmem y h with h | h
            · exact old (.inr h)
            · exact ⟨all_F y h, all_H y h⟩ }
      ff := b.ff
      hh := fun y u n q => by
        show H' y = some u
        have hy1 : y ≠ x := fun z => by rw [z, hx] at q; cases q
        have hy2 : y ≠ p := fun z => by rw [z, cp] at q; cases q
        rw [e3 y hy1 hy2]; exact b.hh y u n q
      fn := b.fn
      kh := fun n y h => by
        have h := b.kh n y h
        have h : (if n < 2 then wHd c2.k.1 n else lHd c2.k.2 (n - 2)) = some y := h
        show (if n < 2 then wHd c2.k.1 n else lHd (c2.k.2 ++ [kk]) (n - 2)) = some y
        by_cases hn2 : n < 2
        · rw [if_pos hn2] at h ⊢; exact h
        · rw [if_neg hn2] at h ⊢
          unfold lHd at h ⊢
          obtain ⟨k0, g1, g2⟩ := Option.map_eq_some_iff.mp h
          rw [List.getElem?_append_left (List.getElem?_eq_some_iff.mp g1).1, g1]
          exact congrArg some g2
      kf := fun y h => by
        rcases h with h | h
        · exact b.kf y (.inl h)
        · rcases lmem y h with h | h
          · exact b.kf y (.inr h)
          · exact .inr (all_none y h)
      kg := fun y h => by
        rcases b.kg y h with h | h
        · exact .inl h
        · refine .inr ?_
          show y ∈ lAll (c2.k.2 ++ [kk])
          rw [lall]; exact List.mem_append_left _ h }
  · show (if 2 * c2.w.2.length + 2 < 2 then wHd c2.k.1 (2 * c2.w.2.length + 2) else lHd (c2.k.2 ++ [kk]) (2 * c2.w.2.length + 2 - 2)) = some x
    rw [if_neg (by omega), Nat.add_sub_cancel]
    unfold lHd
    rw [show 2 * c2.w.2.length / 2 = c2.w.2.length by omega, ← b.ok.wr.len, List.getElem?_concat_length, Option.map_some, if_pos (by omega)]
end
section
variable {C : Addr} {X : Cx} {cls : Nat → Addr} {e : Cur (WL C)} {Wx : WX} {o a b ex : Expr} {es : List Expr} {pos : Pos} {k n : Nat}
theorem put_two (u v : V) : putF ("past" : Str) v [(("rows" : Str), u)] = [(("rows" : Str), u), (("past" : Str), v)] := by
  unfold putF
  rw [if_neg (by decide)]
  rfl
/-- self.rows = .., self.past = [], behind a first expression: what is left of it all -/
theorem init_sp {x qual : Str} {P : Program} {w : World} {K : PySem.W.Frag} {mg : Str → Option Value} {base : Heap} {st : Stmt} {fa : Addr} {fd : FuncData} {N ps : List Str} {f : XF LW} {g : XS LW}
    (F : Fun K x qual st fa fd) (S : FnScope N ps (defScope st)) (hps : ps.length = 2) (hN : N.length = n + 2) (T : LedC K C)
    (hb : ∀ (cdv : Value) (A : Around) (outer : List Env) (s : Shared) (H : Hp) (E : XK) (e : Cur (WL C)), Ok e → Room k (A.deeper (envOfC qual (defScope st) s.heap.objs.size fa cdv)) →
      PSs (cxOf (L2.CX P w) P w K mg base N qual (defScope st) fa cdv A outer s H E) (defBody st) (tSeq (tDrop (tS cls K e (WxE E) f)) (tSeq (sFld K (tVar 0) (tSX cls K e (WxE E) g) "rows") (sFld K (tVar 0) (tLst tNil) "past")))) :
    FnOk P w K mg base (L2.CX P w) (k + 1) fa fd ps (spI C cls K (fInit n f g)) := by
  refine F.okX S (fun vs H Q E ⟨c, x, dx, d, v, hv, _⟩ => by rw [hv, hps]; rfl) (fun cdv A outer s H vs Q E hr ⟨c, x, dx, d, v, hv, hx, hdx, hne, hH, kc, hd, q⟩ => ?_)
  subst hv
  -- the new thing is laid
  have b1 := Bs.lay kc (.own x) hdx
  have hx1 : (c.lay dx (.own x)).H x = none := by
    show upd c.H dx (.own x) x = none
    rw [upd_ne hne.symm]; exact hx
  have b2 := Bs.lay b1.ok (.ins C dx []) hx1
  generalize he0 : (c.lay dx (.own x)).lay x (.ins C dx []) = e0 at b2
  have bb : Bs c e0 := b1.trans kc b2
  have eH0 : e0.H = H := by rw [← he0, hH]; rfl
  have ek : e0.k = c.k := by rw [← he0]; rfl
  have eF : e0.F = c.F := by rw [← he0]; rfl
  have ew : e0.w = c.w := by rw [← he0]; rfl
  refine ⟨_, hb cdv A outer s H E e0 bb.ok hr, ?_⟩
  have hst : Rz cls K e0 e0 ([Sl.v .opq, Sl.v d] ++ List.replicate n .no) (L2.start N [.ref x, v]) := by
    have h2 := rz_start (cls := cls) (K := K) (N := N) (ds := [.opq, d]) (vs := [.ref x, v]) bb.ok ⟨_, _, rfl, trivial, _, _, rfl, hd.mono bb, rfl⟩
    rw [hN] at h2
    exact h2
  have hs0 : ∀ {Q : VK} {H1 : Hp}, Q (.ref x) H1 → tVar 0 (L2.start N [.ref x, v]) H1 Q := fun {Q H1} h => ⟨.ref x, by
    unfold L2.start
    rfl, h⟩
  have ox0 : e0.H x = some (.ins C dx []) := by rw [eH0, hH, upd_same]
  have odx0 : e0.H dx = some (.own x) := by rw [eH0, hH, upd_ne hne, upd_same]
  have nfx : ¬ (WL C).fp e0.k x := fun z => by rw [ek] at z; exact (kc.wf x z).2 hx
  have nfdx : ¬ (WL C).fp e0.k dx := fun z => by rw [ek] at z; exact (kc.wf dx z).2 hdx
  show tDrop (tS cls K e0 (WxE E) f) _ _ H
  refine ⟨e0, _, eH0, hst, ?_⟩
  unfold fInit at q
  dsimp only at q
  rw [ew]
  cases z : f ([Sl.v .opq, Sl.v d] ++ List.replicate n .no) c.w with
  | bad => rw [z] at q; exact q.elim
  | exc m w1 => rw [z] at q; exact fun c' hw b => q c' hw (bb.trans kc b)
  | ok y w1 =>
    rw [z] at q
    dsimp only at q
    intro u c1 hw1 b3 _
    refine ⟨c1, _, rfl, hst.step bb.ok b3, ?_⟩
    rw [hw1]
    have bc1 := bb.trans kc b3
    cases z2 : g ([Sl.v .opq, Sl.v d] ++ List.replicate n .no) w1 with
    | bad => rw [z2] at q; exact q.elim
    | exc m w2 => rw [z2] at q; exact fun c' hw b => q c' hw (bc1.trans kc b)
    | ok sl w2 =>
      rw [z2] at q
      cases sl with
      | own2 xss =>
        dsimp only at q
        intro u c2 A hw2 b4 hsl hnd hA
        obtain ⟨ad, as, h1, h2, h3, h4⟩ := hsl
        cases h2
        subst h1
        have b34 := b3.trans bb.ok b4
        have bc2 := bb.trans kc b34
        have ox2 := b34.hh x _ nfx ox0
        have odx2 := b34.hh dx _ nfdx odx0
        have fx : ¬ (WL C).fp c2.k x := fun zz => by
          rcases b34.kf x zz with z | z
          · exact nfx z
          · rw [ox0] at z; cases z
        have fdx : ¬ (WL C).fp c2.k dx := fun zz => by
          rcases b34.kf dx zz with z | z
          · exact nfdx z
          · rw [odx0] at z; cases z
        have gF : ∀ y, e0.F y = none → e0.H y ≠ none → c2.F y = none := fun y g1 g2 => by
          rcases none_or (c2.F y) with q | ⟨u, q⟩
          · exact q
          · rcases b34.fn y (by rw [q]; exact fun z => by cases z) with z | z
            · exact absurd g1 z
            · exact absurd z g2
        have gx := gF x (by rw [eF]; exact kc.fnone hx) (by rw [ox0]; exact fun z => by cases z)
        have gdx := gF dx (by rw [eF]; exact kc.fnone hdx) (by rw [odx0]; exact fun z => by cases z)
        refine hs0 ⟨x, C, dx, [], rfl, ox2, T.cl, T.nr, by decide, ?_⟩
        show sFld K (tVar 0) (tLst tNil) "past" _ _ _
        refine ⟨by simp, fun p hp => ?_⟩
        have hpx : p ≠ x := fun z => by
          subst z
          rw [upd_same] at hp
          cases hp
        refine hs0 ⟨x, C, dx, [("rows", .ref ad)], rfl, ?_, T.cl, T.np, (by show (1 : Nat) < 1000; omega), ?_⟩
        · rw [upd_ne hpx.symm, upd_same]; rfl
        · have hp2 : c2.H p = none := by
            rw [upd_ne hpx] at hp
            exact hp
          have hA2 : ∀ y ∈ ad :: as, c2.F y = none ∧ ¬ (WL C).fp c2.k y ∧ c.H y = none ∧ y ≠ x ∧ y ≠ dx ∧ c2.H y ≠ none := fun y hy => by
            obtain ⟨⟨f1, f2, f3⟩, f4⟩ := hA y hy
            have f5 : e0.H y = none := none_back b3.ok b3 f3
            refine ⟨f1, f2, none_back bb.ok bb f5, fun z => ?_, fun z => ?_, f4⟩
            · rw [z, ox0] at f5; cases f5
            · rw [z, odx0] at f5; cases f5
          obtain ⟨c', g1, g2, g3, g4⟩ := led_new kc bc2 hx hdx hne fx fdx gx gdx ox2 odx2 h3 h4 hnd hA2 hp2
          have h9 := q c' (by rw [g2, hw2]) g3 ⟨x, rfl, by rw [← hw2]; exact g4⟩
          rw [g1] at h9
          rw [put_two]
          exact h9
      | _ => exact q.elim
/-! ## a ledger is made -/
theorem run_makeS {K0 : XK} {f : Addr} {fd : FuncData} {ps : List Str} {sp : Sp} {pins : List (Addr × Obj)} {σ : L2.St} {H : Hp} {s : Shared} {Q : VK} {us : List Value} {vs : List V} (M : Mk X.K C f) (F : FnOk X.prog X.w X.K X.mg X.base (L2.CX X.prog X.w) k f fd ps sp) (hr : Room (k + 1) X.A) (hb : Binds X.K fd ps [])
    (hx : PassesAt (L2.CX X.prog X.w) X σ K0) (I : L2.Inv X pins σ H s) (r : Vals vs us)
    (h : ∀ x dx, H x = none → H dx = none → dx ≠ x → sp (.ref x :: vs) (upd (upd H dx (.own x)) x (.ins C dx [])) (fun v H2 => v = .non ∧ Q (.ref x) H2) K0) :
    wpAny (model X.prog X.w) X.A (call (.ref C) us) (EP X pins σ Q) X.xe s := by
  have nx := s.heap.objs.size
  have hq := h (s.heap.objs.size + 1) s.heap.objs.size (I.hok.fresh (Nat.le_succ _)) (I.hok.fresh (Nat.le_refl _)) (Nat.ne_of_lt (Nat.lt_succ_self _))
  have J := L2.Inv.made (C := C) I
  have rr : Vals (V.ref (s.heap.objs.size + 1) :: vs) (Value.ref (s.heap.objs.size + 1) :: us) := .cons rfl r
  have len : (Value.ref (s.heap.objs.size + 1) :: us).length = ps.length := by rw [← rr.length]; exact F.len _ _ _ _ hq
  have bd := hb _ (Value.ref (s.heap.objs.size + 1) :: us) J.kIn (by rw [List.append_nil]; exact len)
  rw [List.append_nil] at bd
  have run := F.run _ X.stack _ _ ⟨Value.ref (s.heap.objs.size + 1) :: us, []⟩ (Value.ref (s.heap.objs.size + 1) :: us) _ _ K0 (hr.make C us []) (J.env0.make C us []) bd rr hq
  refine wpAny_call (make_map (f := f) I.kIn M.makes M.init (beq_iff_eq.mp M.fn) (codeAny_mono run fun t s' back => ?_))
  match t, back with
  | .error z, back => exact hx pins _ _ z s' J back
  | .ok (.ret u), back =>
    obtain ⟨v, H', J', rv, ev, fin⟩ := J.after back
    subst ev
    exact ⟨rv, ⟨V.ref (s.heap.objs.size + 1), H', J', rfl, fin⟩⟩
/-- Ledger(e) -/
def KpI (P : Program) (w : World) (K : PySem.W.Frag) (mg : Str → Option Value) (base : Heap) (C : Addr) (cls : Nat → Addr) (x : Str) (k : Nat) (fi : D → LW → Res LW D) : Prop :=
  ∃ f fd ps, mg x = some (.ref C) ∧ Mk K C f ∧ Binds K fd ps [] ∧ FnOk P w K mg base (L2.CX P w) k f fd ps (spI C cls K fi)
def xMake (fi : D → LW → Res LW D) (f : XF LW) : XF LW := fun δ w => (f δ w).bind fi
theorem s_make {fi : D → LW → Res LW D} {f : XF LW} {x : Str} {p : Pos} (ke : Ok e) (F : KpI X.prog X.w X.K X.mg X.base C cls x k fi) (hr : Room (k + 1) X.A) (tk : Takes X Wx) (ha : PE X a (tS cls X.K e Wx f)) (hg : Gl X x := by rfl) (hdb : (x == ("__debug__" : Str)) = false := by decide)
    (he : starEach (a :: []) X.env = (false, eval a X.env) :: starEach [] X.env := by rfl) (hpl : (backTo pos (starEach [] X.env)).any (·.1) = false := by rfl) : PE X (.Call (.Name x p) [a] [] pos) (tS cls X.K e Wx (xMake fi f)) := ⟨fun pins s σ H Q I ⟨c, δ, eH, r, q⟩ => by
  subst eH
  obtain ⟨g, fd, ps, hm, hM, hb, hF⟩ := F
  unfold xMake at q
  refine wpAny_Call_Name_kw (ld_glob I hg hm ?_ hdb)
  refine PySem.W.callWith_K (h₀ := X.base) I.ok.mod.kin hM.kp (thn ((pa_cons ha pa_nil he).run pos pins s σ c.H (fun vs H1 => ∃ v, vs = [v] ∧ ∃ (y : D) (c1 : Cur (WL C)), c1.H = H1 ∧ Bs c c1 ∧ Rz cls X.K e c1 δ σ ∧ Dv cls X.K c1 y v ∧ after cls X.K c1 σ Wx (fi y c1.w) Q) I ?_) fun us s1 ⟨vs, H1, I1, rv, v, hv, y, c1, e1, b1, r1, qy, q1⟩ => ⟨I1.kIn, ?_⟩) he hpl
  · show tS cls X.K e Wx f σ c.H _
    refine tS_imp (after_one (K := X.K) ke r q) fun v H1 ⟨y, c1, e1, b1, r1, qy, q1⟩ => ?_
    exact ⟨v, rfl, y, c1, e1, b1, r1, qy, q1⟩
  · subst e1 hv
    refine run_makeS hM hF hr hb (passAt tk σ) I1 rv fun x dx hx hdx hne => ⟨c1, x, dx, y, v, rfl, hx, hdx, hne, rfl, r1.ok, qy, ?_⟩
    cases z2 : fi y c1.w with
    | bad => rw [z2] at q1; exact q1
    | exc m w2 => rw [z2] at q1; exact q1
    | ok dd w2 => rw [z2] at q1; exact fun c' hw' b' q' => ⟨rfl, q1 _ c' hw' b' q'⟩⟩
end
end Z

set_option Elab.async false
set_option linter.all false
set_option maxRecDepth 100000
/-! # Z32: a ledger's length; the law's end with ledgers -/
namespace PySem.W
open PySem PySem.Calls PyProof.Rows Builtin
def LenEnd (Q : Value → Shared → Prop) (v : Value) (s' : Shared) : Prop := ∃ (n : Int) (t : Tok), v = .int n t ∧ 0 ≤ n ∧ n < 2 ^ 63 ∧ Q (.int n s'.toks) { s' with toks := s'.toks + 1 }
theorem len_self {prog : Program} {w : World} {A : Around} {E : Value → Shared → Prop} {s : Shared} {K : Frag} {x C f : Addr} {ox : Obj} {od : Option Obj} {Q : Value → Shared → Prop} (X : K.In s.heap) (I : InstAt s.heap x ox C od)
    (hs : findIn K (.ref C) "__len__" = some (some (.ref f))) (hf : isFn K (.ref f) = true) (h : wpAny (model prog w) A.in1 (call (.ref f) [.ref x]) (LenEnd Q) E s) : wpAny (model prog w) A (call (.builtin "len") [.ref x]) Q E s :=
  Calls.call_function_entry kind_len plain_len entry_len (args_len1 _) <| by
    unfold Builtin.«len»
    refine wpAny_bind (m := oneArg "len" _) (wpAny_pure (wpAny_bind (m := callSpecial? (.ref x) (Str.ofString "__len__")) (special_fn X I hs (beq_iff_eq.mp hf) (wpAny_mono h ?_ fun _ _ y => y))))
    rintro r s' ⟨n, t, rfl, h0, h1, hq⟩
    refine wpAny_bind (wpAny_holding (wpAny_pure (wpAny_bind (wpAny_letGo ?_))))
    show wpAny _ _ (if n < 0 then _ else _) _ _ _
    rw [if_neg (Int.not_lt.mpr h0)]
    show wpAny _ _ (if n ≥ 2 ^ 63 then _ else _) _ _ _
    rw [if_neg (Int.not_le.mpr h1)]
    exact wpAny_bind (wpAny_mkInt (wpAny_pure ⟨_, rfl, hq⟩))
end PySem.W
namespace Z
open PySem PySem.Spec PyProof.Rows L2
section
variable {C : Addr} {X : Cx} {cls : Nat → Addr} {e : Cur (WL C)} {Wx : WX} {o a b ex : Expr} {es : List Expr} {pos : Pos} {k n : Nat}
theorem call_lenLed {f : Addr} {fd : FuncData} {ps : List Str} {sp : Sp} (hm : Meth X.K C "__len__" f) (hb : Binds X.K fd ps []) (hF : FnOk X.prog X.w X.K X.mg X.base (L2.CX X.prog X.w) k f fd ps sp) (hr : Room (k + 1) X.A) :
    CallR X (.builtin "len") (fun xs H Q => ∃ (p dx : Addr) (fs : List (Str × V)), xs = [.ref p] ∧ H p = some (.ins C dx fs) ∧ sp [.ref p] H (fun v H2 => ∃ m : Int, v = .int m ∧ 0 ≤ m ∧ m < 2 ^ 63 ∧ Q (.int m) H2) E0) := by
  rintro pins s σ H xs us Q I rs ⟨p, dx, fs, rfl, hp, h⟩
  obtain ⟨u, rfl, ru⟩ := vals1 rs
  cases (ru : u = Value.ref p)
  obtain ⟨mA, O, _⟩ := ins_get I.hok hp
  obtain ⟨od, J, _⟩ := O.look
  refine PySem.W.len_self I.kIn J hm.at_ hm.fn ?_
  have rr : Vals [V.ref p] [Value.ref p] := .cons rfl .nil
  have len : [Value.ref p].length = ps.length := by rw [← rr.length]; exact hF.len _ _ _ _ h
  have bd := hb s [Value.ref p] I.kIn (by rw [List.append_nil]; exact len)
  rw [List.append_nil] at bd
  have run := hF.run X.A.in1 X.stack s H ⟨[Value.ref p], []⟩ [Value.ref p] [V.ref p] _ E0 hr.in1 I.env0.in1 bd rr h
  refine wpAny_call (codeAny_mono run fun t s' back => ?_)
  match t, back with
  | .error z, back => exact (passL pins σ H s z s' I back : X.xe z s')
  | .ok (.ret u), back =>
    obtain ⟨v, H', J', rv, m, ev, h0, h1, fin⟩ := I.after back
    subst ev
    obtain ⟨t, rfl⟩ := (show ∃ t, u = Value.int m t from rv)
    exact ⟨m, t, rfl, h0, h1, ⟨.int m, H', J'.tok _, ⟨_, rfl⟩, fin⟩⟩
def xLenL (fz : FZ LW) (f : XF LW) : XF LW := fun δ w => (f δ w).bind fun d w1 => if isLed d w1 = true then match fz [d] w1 with
    | .ok (.p (.int m)) w2 => if 0 ≤ m ∧ m < 2 ^ 63 then .ok (.p (.int m)) w2 else .bad
    | _ => .bad
  else .bad
theorem s_lenL {p : Pos} {fz : FZ LW} {f : XF LW} (ke : Ok e) (F : KpM X.prog X.w X.K X.mg X.base C cls "__len__" k 1 fz) (hr : Room (k + 1) X.A) (hm : X.mg "len" = none) (ho : PE X o (tS cls X.K e Wx f)) (hg : Gl X "len" := by rfl)
    (he : starEach (o :: []) X.env = (false, eval o X.env) :: starEach [] X.env := by rfl) (hpl : (backTo pos (starEach [] X.env)).any (·.1) = false := by rfl) : PE X (.Call (.Name "len" p) [o] [] pos) (tS cls X.K e Wx (xLenL fz f)) := by
  obtain ⟨g, fd, ps, hM, hb, hF⟩ := F
  refine pe_imp (pe_callB (call_lenLed hM hb hF hr) hg hm PySem.boot_len (pa_cons ho pa_nil he) (by decide) (by decide) he hpl) fun σ H Q ⟨c, δ, eH, r, q⟩ => ?_
  subst eH
  unfold xLenL at q
  show tS cls X.K e Wx f σ c.H _
  refine tS_imp (after_one (K := X.K) ke r q) fun v H1 ⟨y, c1, e1, b1, r1, qy, q1⟩ => ?_
  subst e1
  by_cases hy : isLed y c1.w = true
  · rw [if_pos hy] at q1
    obtain ⟨kk, hx, hins⟩ := led_of r1.ok hy qy
    subst hx
    refine ⟨kk.p, kk.dx, lFs kk, rfl, hins, c1, [y], rfl, r1.ok, ⟨_, [], rfl, qy, rfl⟩, rfl, ?_⟩
    split at q1
    · rename_i m w2 hz
      rw [hz]
      by_cases h01 : 0 ≤ m ∧ m < 2 ^ 63
      · rw [if_pos h01] at q1
        intro u c' hw b q'
        cases dv_int.mp q'
        exact ⟨m, rfl, h01.1, h01.2, q1 _ c' hw b (dv_int.mpr rfl)⟩
      · rw [if_neg h01] at q1; exact q1.elim
    · exact q1.elim
  · rw [if_neg hy] at q1; exact q1.elim
end
/-- the law's end, with ledgers -/
theorem walk_ZL {l : PySem.W.OpenLaw} {k : Nat} {q : Program} {loose : List Str} {XP : (Str → Option Value) → Heap → Prop} {YP : World → Heap → Prop} {d : DefRec} {fz : FZ LW}
    (hn : l.most = some 63) (hdf : d.params.defaults = []) (hr : Room k callerA)
    (F : ∀ (w : World) (mg : Str → Option Value) (fa : Addr) (h : Heap), YP w h → h.Ns mainGlobals mg → mg d.name = some (.ref fa) → ∃ (K : PySem.W.Frag) (C : Addr) (cls : Nat → Addr) (fd : FuncData), K.In h ∧ (∀ (s : Shared) (u : Value), BindsTo s fd ⟨[u], []⟩ [("_law_script", u)]) ∧
      ∀ base : Heap, K.In base → base.Ns mainGlobals mg → FnOk l.prog w K mg base (L2.CX l.prog w) k fa fd ["_law_script"] (spZ cls K (WL C) 1 fz))
    (hm : ∀ ns : List Int, ns.length ≤ 63 → ∃ w', fz [.scr ns] (none, []) = .ok (.p (.bool true)) w') :
    PySem.W.WalkO q loose XP YP l.row.toRowW d [] (fun f vs => PySem.call f vs) :=
  Att.attach_call hn hdf fun w s₀ s₁ mg mb fa o pm cd doc a vs ns G Y ho hd hcd hmg hobj hints hlen hg => by
    obtain ⟨K, C, cls, fd, KX, hb, hF⟩ := F w mg fa _ Y G.T.g hmg
    refine law_call KX G.T.g G.T.b G.T.builtins G.T.nolimit hg hobj hints (Nat.le_trans hlen (by decide)) hr hF hb (fun H hO hS => ?_) fun H e s' => ?_
    · obtain ⟨w', e⟩ := hm ns hlen
      let c : Cur (WL C) := ⟨(none, []), H, (none, []), H⟩
      have kc : Ok c := ⟨Sub.refl _, ⟨trivial, List.nodup_nil, (fun _ h => nomatch h), rfl, (fun i kk l h => nomatch h)⟩, fun _ h => by
        rcases h with h | h
        · exact h.elim
        · cases h⟩
      refine ⟨c, [.scr ns], rfl, kc, ⟨_, [], rfl, ⟨a, rfl, hS⟩, rfl⟩, rfl, ?_⟩
      show afterF cls K c (fz [.scr ns] (none, [])) _ _
      rw [e]
      exact fun u c' _ _ q => dv_bl.mp q
    · rintro ⟨_, _, _, _, _, _, _, _, _, _, _, _, z⟩
      exact z
theorem dfM_of {K : PySem.W.Frag} {cl m qual : Str} {st : Stmt} (hm : (He.Fa.meth cl m).ok K = true)
    (hd : ∃ oc od osl kV doc pm an cdv ct, K.lookup (He.fAd K (cl, some m)) = some ⟨oc, od, .func (PySem.W.fnOf m qual (defArgs st) (defBody st) (defScope st) .none kV doc pm an cdv ct), osl⟩ ∧ PySem.W.codeIn K cdv qual = true) : DfM K (He.ga K cl) m qual st := by
  obtain ⟨_, _, _, _, _, _, _, _, _, l1, l2⟩ := hd
  exact ⟨_, _, He.meth_ok hm, fun_mk l1 l2 (He.meth_ok hm).kp⟩
end Z

set_option Elab.async false
set_option linter.all false
set_option maxRecDepth 100000
/-! # Z33: a def without arguments, called -/
namespace Z
open PySem PySem.Spec PyProof.Rows L2
theorem s_callK0 {X : Cx} {W : Type} {wd : WD W} {cls : Nat → Addr} {e : Cur wd} {Wx : WX} {pos p : Pos} {k : Nat} {fz : FZ W} {x : Str} (ke : Ok e) (F : Kp X.prog X.w X.K X.mg X.base cls wd x k 0 fz) (hr : Room k X.A) (tk : Takes X Wx) (hg : Gl X x := by rfl)
    (hdb : (x == ("__debug__" : Str)) = false := by decide) : PE X (.Call (.Name x p) [] [] pos) (tS cls X.K e Wx (xCall fz lNil)) := ⟨fun pins s σ H Q I h => by
  obtain ⟨f, fd, ps, h1, h2, h3, h4⟩ := F
  have q := callS_imp (n := 0) ke ln_nil h
  refine wpAny_Call_Name_kw (ld_glob I hg h1 ?_ hdb)
  refine PySem.W.callWith_K0 I.kIn h2 ?_
  obtain ⟨c, δ, eH, r, q2⟩ := q
  subst eH
  exact run_fnS (us := []) (vs := []) h4 hr h3 (passAt tk σ) I .nil (q2 [] c rfl (Bs.refl r.ok) rfl)⟩
end Z

set_option Elab.async false
set_option linter.all false
set_option maxRecDepth 100000
/-! # Z34: a tuple sorted -/
namespace PySem.W
open PySem PySem.Calls PyProof.Rows Builtin
section
variable {prog : Program} {w : World} {A : Around} {E : Value → Shared → Prop} {s : Shared} {l : Addr} {vs : List Value}
theorem gather_tup {Q : List Value → Shared → Prop} (hl : IsTup s.heap l vs.toArray) (hL : vs.length ≤ sizeLine)
    (h : Q vs { s with heap := (s.heap.push (seqObj "list" #[] 0)).update s.heap.objs.size (Obj.mapSeq (· ++ vs.toArray)) }) : wpAny (model prog w) A (collect (.ref l)) Q E s := by
  obtain ⟨o, ho, hc, n, hd⟩ := id hl; unfold collect; refine wpAny_bind (wpAny_runValue (codeAny_builtin entry_proto_collect' ?_))
  show wpAny _ _ (newList [] >>= fun v => again (.builtin "list.__iadd__" ⟨[v, .ref l], []⟩)) _ _ s
  refine wpAny_bind (wpAny_newList (wpAny_pure ⟨Code.quiet_builtin _ (by decide +kernel), codeAny_builtin entry_list_iadd' ?step⟩))
  case step =>
    have hold : (s.heap.push (seqObj "list" #[] 0)).get? l = some o := Heap.get?_push_of_some _ ho
    have hnew : (s.heap.push (seqObj "list" #[] 0)).get? s.heap.objs.size = some (seqObj "list" #[] 0) := Heap.get?_push_size _ rfl
    have hb : (Value.type "tuple" == Value.type "tuple") = true := by rfl
    show wpAny _ _ (Builtin.List.listExtendWith (.ref s.heap.objs.size) (.ref l) (.ref s.heap.objs.size)) _ _ ({ s with heap := s.heap.push (seqObj "list" #[] 0) } : Shared)
    unfold Builtin.List.listExtendWith; refine wpAny_bind (wpAny_typeOf (T := "tuple") ⟨o, hold, hc⟩ ?_); rw [if_pos (by rw [hb]; simp)]
    refine wpAny_bind (listItems_at hold hd (wpAny_bind (listItems_at hnew rfl ?_))); rw [if_neg (by simp)]
    refine wpAny_bind (listUpdate_at hnew rfl (wpAny_pure ?_) (Nat.zero_le _) (by show (#[] ++ vs.toArray).size ≤ sizeLine + 1; simp only [Array.size_append, List.size_toArray, List.length_nil]; omega))
    show wpAny (model prog w) A (load s.heap.objs.size >>= fun o => match o.data with
      | .seq xs _ => pure xs.toList
      | _ => unsupported "internal:collect") Q E ({ s with heap := (s.heap.push (seqObj "list" #[] 0)).update s.heap.objs.size (Obj.mapSeq (· ++ vs.toArray)) } : Shared)
    refine wpAny_bind (wpAny_load (get?_update_seq hnew _) ?_); have e0 : ((#[] : Array Value) ++ vs.toArray).toList = vs := by simp
    show wpAny _ _ (pure ((#[] : Array Value) ++ vs.toArray).toList) Q E ({ s with heap := (s.heap.push (seqObj "list" #[] 0)).update s.heap.objs.size (Obj.mapSeq (· ++ vs.toArray)) } : Shared)
    rw [e0]; exact wpAny_pure h
theorem sorted_tupOf {Q : Value → Shared → Prop} (hl : IsTup s.heap l vs.toArray) (hL : vs.length ≤ sizeLine)
    (body : ∀ E' : Value → Shared → Prop, wpAny (model prog w) A.in1.in1 (Builtin.«list.sort» ⟨[.ref (s.heap.objs.size + 1)], []⟩) (fun f s' => f = .done (.ret .none) ∧ Q (.ref (s.heap.objs.size + 1)) s') E' { s with heap := copyHeap s.heap vs }) :
    wpAny (model prog w) A (call (.builtin "sorted") [.ref l]) Q E s :=
  call_function_entry_kw kind_sorted plain_sorted entry_sorted (args_sorted1 _) <| by
    have hsz : ((s.heap.push (seqObj "list" #[] 0)).update s.heap.objs.size (Obj.mapSeq (· ++ vs.toArray))).objs.size = s.heap.objs.size + 1 := by rw [Heap.size_update, size_push']
    unfold Builtin.«sorted»; refine wpAny_bind (m := checkCount "sorted" 1 1 _) (wpAny_pure (wpAny_bind (gather_tup hl hL (wpAny_bind (wpAny_newList ?_ hL)))))
    show wpAny _ _ _ _ _ ({ s with heap := copyHeap s.heap vs } : Shared)
    rw [hsz]; refine wpAny_bind (wpAny_holding (wpAny_call_entry_kw slot_list_sort ⟨_, copyHeap_at s.heap vs, rfl⟩ entry_list_sort (wpAny_mono (body _) ?_ fun _ _ e => e) (args_list_sort _)))
    rintro f s' ⟨rfl, hq⟩
    exact ⟨_, rfl, wpAny_pure ⟨_, rfl, hq⟩⟩
variable {β : Type} {bs : List β} {enc : β → PyData} {R : Value → β → Prop}
theorem sorted_tupData {Q : Value → Shared → Prop} (hl : IsTup s.heap l vs.toArray) (e : EachIs R vs bs) (er : EachIs (fun v b => ∃ as, Reads s.heap v (enc b) as) vs bs) (hal : AllAlike (bs.map enc)) (hk : Sortable (bs.map enc)) (hL : bs.length ≤ sizeLine)
    (hu : ∀ b, b ∈ bs → A.units + 2 + (enc b).depth < cLine) (h : ∀ out, out.length = bs.length → EachIs R out (bs.mergeSort (dataLe false enc)) → Q (.ref (s.heap.objs.size + 1)) { s with heap := sortedAll s.heap vs (List.toArray out) }) :
    wpAny (model prog w) A (call (.builtin "sorted") [.ref l]) Q E s := by
  have hv : vs.length ≤ sizeLine := by rw [e.length]; exact hL
  have later : EachIs (fun v b => ∃ as, Reads (sortingHeap (copyHeap s.heap vs) (s.heap.objs.size + 1) vs) v (enc b) as) vs bs := er.mono fun _ _ ⟨as, r⟩ => ⟨as, PyProof.Rows.Reads.keeps (fun _ _ => sorting_copy_old) r⟩
  have S := SortsAt.data (prog := prog) (w := w) (A := A.in1.in1) (s := { s with heap := sortingHeap (copyHeap s.heap vs) (s.heap.objs.size + 1) vs }) (each_map (R := fun v d => ∃ as, Reads (sortingHeap (copyHeap s.heap vs) (s.heap.objs.size + 1) vs) v d as) enc later) hal hk (bound_map hu)
  exact sorted_tupOf hl hv fun _ => list_sort_vals (s := { s with heap := copyHeap s.heap vs }) (copyHeap_at s.heap vs) S hv ⟨rfl, h _ (by rw [sortVals_length false rfl]; exact e.length) (sortVals_data false e later hal)⟩
end
end PySem.W
namespace Z
open PySem PySem.Spec PyProof.Rows L2
/-- sorted(t), t a tuple -/
def gSortedT : List D → Option D
  | [.p (.tuple xs)] => if sortOk xs = true then some (.p (.list (sortP xs))) else none
  | _ => none
section
variable {X : Cx} {W : Type} {wd : WD W} {cls : Nat → Addr}
theorem cg_sortedT (hu : X.A.units + 64 < cLine) (hc : X.calm = true) : CallG X cls wd (.builtin "sorted") gSortedT := by
  intro pins s σ H vs us Q I r ⟨c, ds, eH, k, qs, q⟩
  unfold gSortedT at q
  split at q
  · rename_i xs
    obtain ⟨u, rfl, q1⟩ := qs.one
    obtain ⟨p, ws, rfl, h1, r1⟩ := dv_tup.mp q1
    by_cases z : sortOk xs = true
    · rw [if_pos z] at q
      simp only [sortOk, Bool.and_eq_true, decide_eq_true_eq] at z
      obtain ⟨⟨⟨z1, z2⟩, z3⟩, z4⟩ := z
      rw [Vals.ref1 r]
      have hq : SqT X.K H p ws := by rw [← eH]; exact SqT.of (k.fh _ _ h1)
      obtain ⟨its, rv, hl, hz⟩ := I.tuple hq
      obtain ⟨e1, e2⟩ := each_of (K := X.K) I (by rw [← eH]; exact k.fh) r1 rv
      have hal : PySem.W.AllAlike (xs.map id) := by
        rw [List.map_id]
        simp only [allAlike, List.all_eq_true] at z1
        exact fun d hd d' hd' => z1 d hd d' hd'
      have hk : PySem.W.Sortable (xs.map id) := by
        rw [List.map_id]
        simp only [Bool.or_eq_true, List.all_eq_true] at z2
        rcases z2 with z2 | z2
        · refine .inl fun d hd => ?_
          have := z2 d hd
          unfold isTup1 at this
          split at this
          · exact ⟨_, _, rfl⟩
          · cases this
        · refine .inr fun d hd => ?_
          have := z2 d hd
          unfold isOther at this
          split at this
          · cases this
          · cases this
          · rename_i h1 h2
            exact ⟨h1, h2⟩
      refine PySem.W.sorted_tupData hl e1 e2 hal hk (by rw [← lim_eq]; exact z3) (fun b hb => ?_) fun out hlen eo => ?_
      · simp only [List.all_eq_true, decide_eq_true_eq] at z4
        have := z4 b hb
        show X.A.units + 2 + b.depth < cLine
        omega
      · rw [le0_eq, sortP_merge z1] at eo
        obtain ⟨vs', g1, g2⟩ := each_back eo
        obtain ⟨ep, he'⟩ := PyProof.Rows.sortedAll_at s.heap its (List.toArray out)
        have hlv : vs'.length ≤ sizeLine := by rw [g2.len, (sortP_perm xs).length_eq, ← lim_eq]; exact z3
        refine ⟨.ref _, upd H (s.heap.objs.size + 1) (.lst vs'), I.laid (t' := s.toks) (fun _ _ => PyProof.Rows.sortedAll_old) (Nat.le_succ _) ⟨hlv, out, ep, g1, he'⟩, rfl, ?_⟩
        have hf : c.H (s.heap.objs.size + 1) = none := by rw [eH]; exact I.hok.fresh (Nat.le_succ _)
        rw [← eH]
        exact gives_lst q k g2 _ hf
    · rw [if_neg z] at q; exact gives_no q
  · exact gives_no q
end
end Z

set_option Elab.async false
set_option linter.all false
set_option maxRecDepth 100000
/-! # Z35: the sum of a tuple -/
namespace Z
open PySem PySem.Spec PyProof.Rows L2
theorem preSum_getD (ns : List Int) : ∀ n, n ≤ ns.length → PySem.preSum (fun i => ns.getD i 0) n = (ns.take n).sum
  | 0, _ => by simp [PySem.preSum]
  | n + 1, h => by
    rw [PySem.preSum, preSum_getD ns n (by omega), List.take_add_one, List.sum_append]
    simp [List.getD_eq_getElem?_getD, List.getElem?_eq_getElem (show n < ns.length by omega)]
section
variable {X : Cx} {W : Type} {wd : WD W} {cls : Nat → Addr}
theorem cr_sumT (hc : X.calm = true) : CallR X (.builtin "sum") (fun vs H Q => ∃ (p : Addr) (ns : List Int), vs = [V.ref p] ∧ SqT X.K H p (ns.map V.int) ∧ Q (.int ns.sum) H) := by
  rintro pins s σ H vs us Q I r ⟨p, ns, rfl, hs, q⟩
  obtain ⟨its, rv, hl, _⟩ := I.tuple hs
  rw [Vals.ref1 r]
  have hlen : its.length = ns.length := by rw [← rv.length]; simp
  have ht : s.heap.IsTuple p its.toArray := hl
  have hlt : p < s.heap.objs.size := by obtain ⟨_, e, _⟩ := ht; exact Heap.lt_size e
  refine PySem.call_sum_walkAnyS (wpAny_pyIter_tuple ht ?_)
  refine ⟨s.heap.objs.size, _, _, _, _, _, _, fun i => ns.getD i 0, rfl, (Walks.tuple (A := X.A.in1) (I.ok.hd hc) s.heap.objs.size p (Nat.ne_of_lt hlt) its.toArray).toS, ⟨⟨_, Heap.get?_push_size _ rfl, rfl, rfl⟩, ht.push _⟩, fun b hb => ?_, fun i v hv => ?_, fun s' t' hm => ?_⟩
  · have e1 : (s.heap.push ⟨.type "tuple_iterator", none, .fields #[.ref p, .int 0 0], #[]⟩).objs.size = s.heap.objs.size + 1 := Heap.size_push _ _
    show b < Array.size (Heap.objs (s.heap.push _))
    rw [Heap.size_push]
    rcases List.mem_cons.mp hb with rfl | hb
    · exact Nat.lt_succ_self _
    · rw [List.mem_singleton.mp hb]; exact Nat.lt_succ_of_lt hlt
  · have hi : i < its.length := by
      have := (Array.getElem?_eq_some_iff.mp hv).1
      simpa using this
    have hv' : its[i]? = some v := by rw [← hv]; simp
    have hn : (ns.map V.int)[i]? = some (V.int ns[i]) := by
      rw [List.getElem?_map, List.getElem?_eq_getElem (show i < ns.length by omega)]; rfl
    obtain ⟨u, hu, ru⟩ := rv.get hn
    rw [hv'] at hu
    cases hu
    obtain ⟨t, rfl⟩ := ru
    exact ⟨t, by simp [List.getD_eq_getElem?_getD, List.getElem?_eq_getElem (show i < ns.length by omega)]⟩
  · rw [List.size_toArray, hlen, preSum_getD ns ns.length (Nat.le_refl _), List.take_length]
    rw [Moved.eq_with hm]
    refine ⟨.int _, H, I.kept fun b o e => hm.heap b o (fun hmem => ?_) (Heap.get?_push_of_some _ e), ⟨_, rfl⟩, q⟩
    exact Nat.ne_of_lt (Heap.lt_size e) (List.mem_singleton.mp hmem)
/-- sum(xs), a list or a tuple of ints -/
def gSumT : List D → Option D
  | [.p (.tuple xs)] => (ints? xs).map fun ns => .p (.int ns.sum)
  | _ => none
theorem cg_sumT (hc : X.calm = true) : CallG X cls wd (.builtin "sum") gSumT := callR_imp (cr_sumT hc) fun vs H Q ⟨c, ds, eH, k, qs, q⟩ => by
  unfold gSumT at q
  split at q
  · rename_i xs
    obtain ⟨u, rfl, q1⟩ := qs.one
    cases z : ints? xs with
    | none => rw [z] at q; exact gives_no q
    | some ns =>
      rw [z] at q
      obtain ⟨p, vs, rfl, h1, r1⟩ := dv_tup.mp q1
      rw [ints?_eq z] at r1
      rw [r1.ints] at h1
      exact ⟨p, ns, rfl, by rw [← eH]; exact SqT.of (k.fh _ _ h1), by rw [← eH]; exact gives_v q k (dv_int.mpr rfl)⟩
  · exact gives_no q
end
end Z

set_option Elab.async false
set_option linter.all false
/-! # Z36: ends of laws with ledgers -/
namespace Z
open PySem
theorem liftL_ok {fz : FZ Wd} {ds : List D} {w : LW} {d : D} {w1 : Wd} (e : fz ds w.1 = .ok d w1) (h : ds.all noLed = true) (hd : noLed d = true) : liftL fz ds w = .ok d (w1, w.2) := by
  unfold liftL
  rw [if_pos h, e]
  dsimp only
  rw [if_pos hd]
def isTrue {W : Type} (r : SRes W) : Bool := match r with
  | .rt (.p (.bool true)) _ => true
  | _ => false
theorem of_isTrue {W : Type} {r : SRes W} (h : isTrue r = true) : ∃ w', r = .rt (.p (.bool true)) w' := by
  unfold isTrue at h
  split at h
  · exact ⟨_, rfl⟩
  · cases h
theorem runZ_rt {W : Type} {n : Nat} {sf : SF W} {ds : List D} {w : W} {d : D} {w' : W} (h : sf (ds.map Sl.v ++ List.replicate (n - ds.length) .no) w = .rt d w') : runZ n sf ds w = .ok d w' := by
  unfold runZ
  rw [h]
end Z

set_option Elab.async false
set_option linter.all false
set_option maxRecDepth 100000
set_option maxHeartbeats 1000000
/-! # Z37: zip of a tuple and a list -/
namespace ZM
open PySem RZ
open PySem.Sem (wp)
section
variable {prog : Program} {w : World} {A : Around} {E : Value → Shared → Prop} {s : Shared}
theorem zipM_next_item {z tA tB j1 j2 u1 u2 : Addr} {m1 m2 : Nat} {xs ys : Array Value} {x y a b : Value} {Q : Value → Shared → Prop} (D : ZipApart z tA tB j1 j2 u1 u2)
    (zz : IsZip s.heap z tA tB .none) (gA : IsPair s.heap tA (.ref j1) (.ref j2)) (gB : IsPair s.heap tB a b)
    (h1 : s.heap.IsTupleIter j1 u1 m1) (h2 : s.heap.IsListIter j2 u2 m2) (hl1 : s.heap.IsTuple u1 xs) (hl2 : s.heap.IsList u2 ys) (ex : xs[m1]? = some x) (ey : ys[m2]? = some y)
    (fin : ∀ h', IsZip h' z tA tB (rawInt s.heap.objs.size) → IsPair h' tB x y → h'.IsTupleIter j1 u1 (m1 + 1) → h'.IsListIter j2 u2 (m2 + 1) → IsPair h' s.heap.objs.size x y → h'.objs.size = s.heap.objs.size + 1 →
      (∀ c o, c ≠ z → c ≠ tB → c ≠ j1 → c ≠ j2 → s.heap.get? c = some o → h'.get? c = some o) → Q (.ref s.heap.objs.size) { s with heap := h' }) :
    wpAny (model prog w) A (Builtin.«zip.__next__» ⟨[.ref z], []⟩) (fun fin s' => ∃ v, fin = .done (.ret v) ∧ Q v s') E s := by
  show wpAny _ _ (field (.ref z) 2 >>= _) _ _ _
  refine wpAny_bind (wpAny_field zz rfl (x := .bool false) rfl ?_)
  show wpAny _ _ (field (.ref z) 3 >>= _) _ _ _
  refine wpAny_bind (wpAny_field zz rfl (x := .ref tA) rfl ?_)
  refine wpAny_bind (wpAny_seqItems gA rfl ?_)
  show wpAny _ _ (Builtin.SmallTypes.ownedTupleIsFree (.ref z) >>= _) _ _ _
  refine wpAny_bind ?_
  unfold Builtin.SmallTypes.ownedTupleIsFree
  refine wpAny_bind (wpAny_field zz rfl (x := .none) rfl (wpAny_pure ?_))
  simp only [if_true]
  refine wpAny_bind (wpAny_rule ?_)
  refine wpAny_bind (wpAny_field zz rfl (x := .ref tB) rfl ?_)
  refine wpAny_bind (wpAny_setField_rec zz (by simp) fun g1 zz₁ ks1 => ?_)
  replace zz₁ : IsZip g1 z tA tB .ellipsis := zz₁
  refine wpAny_bind ?_
  simp only [List.zipIdx_cons, List.zipIdx_nil, List.forIn_cons, List.forIn_nil]

  refine wpAny_bind (wpAny_bind (wpAny_onRaise ?_))
  show wpAny _ _ (Builtin.SmallTypes.nextOf (.ref j1) >>= _) _ _ _
  refine wpAny_bind (RZ.nextOf_tuple_item (h1.extBut ks1.extBut D.i1z) (hl1.extBut ks1.extBut D.l1z) ex fun g2 h1₂ ks2 => wpAny_pure ?_)
  have gB₂ : IsPair g2 tB a b := ks2.extBut _ _ D.TOi1 (ks1.extBut _ _ D.TOz gB)
  refine wpAny_bind (wpAny_seqItems gB₂ rfl ?_)
  refine wpAny_bind (wpAny_updateSeq_pair gB₂ fun g3 gB₃ ks3 => ?_)
  replace gB₃ : IsPair g3 tB x b := gB₃
  refine wpAny_bind (wpAny_letGo (wpAny_pure ?_))

  refine wpAny_bind (wpAny_bind (wpAny_onRaise ?_))
  show wpAny _ _ (Builtin.SmallTypes.nextOf (.ref j2) >>= _) _ _ _
  refine wpAny_bind (wpAny_nextOf_list_item (((h2.extBut ks1.extBut D.i2z).extBut ks2.extBut D.i12.symm).extBut ks3.extBut D.TOi2.symm)
    (((hl2.extBut ks1.extBut D.l2z).extBut ks2.extBut D.l2i1).extBut ks3.extBut D.l2TO) ey fun g4 h2₄ ks4 => wpAny_pure ?_)
  have gB₄ : IsPair g4 tB x b := ks4.extBut _ _ D.TOi2 gB₃
  refine wpAny_bind (wpAny_seqItems gB₄ rfl ?_)
  refine wpAny_bind (wpAny_updateSeq_pair gB₄ fun g5 gB₅ ks5 => ?_)
  replace gB₅ : IsPair g5 tB x y := gB₅
  refine wpAny_bind (wpAny_letGo (wpAny_pure (wpAny_pure ?_)))

  refine wpAny_bind (wpAny_seqItems gB₅ rfl ?_)
  refine wpAny_bind (wpAny_newTuple ?_)
  have hsz : g5.objs.size = s.heap.objs.size := by rw [ks5.1, ks4.1, ks3.1, ks2.1, ks1.1]
  have zz₅ : IsZip g5 z tA tB .ellipsis := ks5.extBut _ _ D.TOz.symm (ks4.extBut _ _ D.i2z.symm (ks3.extBut _ _ D.TOz.symm (ks2.extBut _ _ D.i1z.symm zz₁)))
  have hk₅ : ∀ c o, c ≠ z → c ≠ tB → c ≠ j1 → c ≠ j2 → s.heap.get? c = some o → g5.get? c = some o := fun c o c1 c2 c3 c4 e =>
    ks5.extBut _ _ c2 (ks4.extBut _ _ c4 (ks3.extBut _ _ c2 (ks2.extBut _ _ c3 (ks1.extBut _ _ c1 e))))
  have h1₅ : g5.IsTupleIter j1 u1 (m1 + 1) := ((h1₂.extBut ks3.extBut D.TOi1.symm).extBut ks4.extBut D.i12).extBut ks5.extBut D.TOi1.symm
  have h2₅ : g5.IsListIter j2 u2 (m2 + 1) := h2₄.extBut ks5.extBut D.TOi2.symm
  have hzlt : z < g5.objs.size := Heap.lt_size zz₅
  have hTOlt : tB < g5.objs.size := Heap.lt_size gB₅
  have hi1lt : j1 < g5.objs.size := by obtain ⟨_, e, _⟩ := h1₅; exact Heap.lt_size e
  have hi2lt : j2 < g5.objs.size := by obtain ⟨_, e, _⟩ := h2₅; exact Heap.lt_size e
  show wpAny _ _ (Builtin.SmallTypes.ownedTupleHandOut (.ref z) (.ref g5.objs.size) >>= _) _ _ _
  refine wpAny_bind ?_
  unfold Builtin.SmallTypes.ownedTupleHandOut
  have zz₆ : IsZip (g5.push { cls := .type "tuple", data := .seq #[x, y] }) z tA tB .ellipsis := Heap.get?_push_of_some _ zz₅
  refine wpAny_bind (wpAny_setField_rec zz₆ (by simp) fun g7 zz₇ ks7 => ?_)
  replace zz₇ : IsZip g7 z tA tB (rawInt g5.objs.size) := zz₇
  refine wpAny_setField_rec zz₇ (by simp) fun g8 zz₈ ks8 => ?_
  replace zz₈ : IsZip g8 z tA tB (rawInt g5.objs.size) := zz₈
  have up : ∀ c o, c ≠ z → g5.get? c = some o → g8.get? c = some o := fun c o c1 e => ks8.extBut _ _ c1 (ks7.extBut _ _ c1 (Heap.get?_push_of_some _ e))
  have hT₈ : IsPair g8 g5.objs.size x y := ks8.extBut _ _ (Nat.ne_of_gt hzlt) (ks7.extBut _ _ (Nat.ne_of_gt hzlt) (Heap.get?_push_size _ rfl))
  have hz8 : g8.objs.size = g5.objs.size + 1 := by rw [ks8.1, ks7.1, Heap.size_push]
  rw [hsz] at zz₈ hT₈ hz8
  refine wpAny_pure ⟨_, rfl, ?_⟩
  show Q (.ref g5.objs.size) _
  rw [hsz]
  exact fin g8 zz₈ (up _ _ D.TOz gB₅) (h1₅.at fun o e => up _ o D.i1z e) (h2₅.at fun o e => up _ o D.i2z e) hT₈ hz8 fun c o c1 c2 c3 c4 e => up c o c1 (hk₅ c o c1 c2 c3 c4 e)

theorem zipM_next_end {z tA tB j1 j2 u1 u2 : Addr} {m1 m2 : Nat} {xs ys : Array Value} {a b : Value} {Q : Fin → Shared → Prop} (hh : A.handled = none) (D : ZipApart z tA tB j1 j2 u1 u2)
    (zz : IsZip s.heap z tA tB .none) (gA : IsPair s.heap tA (.ref j1) (.ref j2)) (gB : IsPair s.heap tB a b)
    (h1 : s.heap.IsTupleIter j1 u1 m1) (h2 : s.heap.IsListIter j2 u2 m2) (hl1 : s.heap.IsTuple u1 xs) (hl2 : s.heap.IsList u2 ys) (hend : xs[m1]? = none ∨ ys[m2]? = none)
    (hE : ∀ h' e, (∀ c o, c ≠ z → c ≠ tB → c ≠ j1 → c ≠ j2 → s.heap.get? c = some o → h'.get? c = some o) → (∃ o, h'.get? e = some o ∧ o.cls = .type "StopIteration") → E (.ref e) { s with heap := h' }) :
    wpAny (model prog w) A (Builtin.«zip.__next__» ⟨[.ref z], []⟩) Q E s := by
  show wpAny _ _ (field (.ref z) 2 >>= _) _ _ _
  refine wpAny_bind (wpAny_field zz rfl (x := .bool false) rfl ?_)
  show wpAny _ _ (field (.ref z) 3 >>= _) _ _ _
  refine wpAny_bind (wpAny_field zz rfl (x := .ref tA) rfl ?_)
  refine wpAny_bind (wpAny_seqItems gA rfl ?_)
  show wpAny _ _ (Builtin.SmallTypes.ownedTupleIsFree (.ref z) >>= _) _ _ _
  refine wpAny_bind ?_
  unfold Builtin.SmallTypes.ownedTupleIsFree
  refine wpAny_bind (wpAny_field zz rfl (x := .none) rfl (wpAny_pure ?_))
  simp only [if_true]
  refine wpAny_bind (wpAny_rule ?_)
  refine wpAny_bind (wpAny_field zz rfl (x := .ref tB) rfl ?_)
  refine wpAny_bind (wpAny_setField_rec zz (by simp) fun g1 zz₁ ks1 => ?_)
  replace zz₁ : IsZip g1 z tA tB .ellipsis := zz₁
  refine wpAny_bind ?_
  simp only [List.zipIdx_cons, List.zipIdx_nil, List.forIn_cons, List.forIn_nil]
  refine wpAny_bind (wpAny_bind (wpAny_onRaise ?_))
  show wpAny _ _ (Builtin.SmallTypes.nextOf (.ref j1) >>= _) _ _ _
  cases ex : xs[m1]? with
  | none =>
    refine wpAny_bind (RZ.nextOf_tuple_end hh (h1.extBut ks1.extBut D.i1z) (hl1.extBut ks1.extBut D.l1z) ex fun g2 e ks2 he => ?_)
    obtain ⟨oe, hoe, hce⟩ := he
    have zz₂ : IsZip g2 z tA tB .ellipsis := ks2 _ _ D.i1z.symm zz₁
    have hez : e ≠ z := fun x => by subst x; rw [zz₂] at hoe; cases hoe; simp at hce
    refine wpAny_setField_rec zz₂ (by simp) fun g3 _ ks3 => hE g3 e (fun c o c1 _ c3 _ x => ks3.extBut _ _ c1 (ks2 _ _ c3 (ks1.extBut _ _ c1 x))) ⟨oe, ks3.extBut _ _ hez hoe, hce⟩
  | some x =>
    have ey : ys[m2]? = none := by rcases hend with h | h; rw [ex] at h; cases h; exact h
    refine wpAny_bind (RZ.nextOf_tuple_item (h1.extBut ks1.extBut D.i1z) (hl1.extBut ks1.extBut D.l1z) ex fun g2 h1₂ ks2 => wpAny_pure ?_)
    have gB₂ : IsPair g2 tB a b := ks2.extBut _ _ D.TOi1 (ks1.extBut _ _ D.TOz gB)
    refine wpAny_bind (wpAny_seqItems gB₂ rfl ?_)
    refine wpAny_bind (wpAny_updateSeq_pair gB₂ fun g3 gB₃ ks3 => ?_)
    refine wpAny_bind (wpAny_letGo (wpAny_pure ?_))
    refine wpAny_bind (wpAny_bind (wpAny_onRaise ?_))
    show wpAny _ _ (Builtin.SmallTypes.nextOf (.ref j2) >>= _) _ _ _
    refine wpAny_bind (wpAny_nextOf_list_end hh (((h2.extBut ks1.extBut D.i2z).extBut ks2.extBut D.i12.symm).extBut ks3.extBut D.TOi2.symm)
      (((hl2.extBut ks1.extBut D.l2z).extBut ks2.extBut D.l2i1).extBut ks3.extBut D.l2TO) ey fun g4 e ks4 he => ?_)
    obtain ⟨oe, hoe, hce⟩ := he
    have zz₄ : IsZip g4 z tA tB .ellipsis := ks4 _ _ D.i2z.symm (ks3.extBut _ _ D.TOz.symm (ks2.extBut _ _ D.i1z.symm zz₁))
    have hez : e ≠ z := fun x => by subst x; rw [zz₄] at hoe; cases hoe; simp at hce
    refine wpAny_setField_rec zz₄ (by simp) fun g5 _ ks5 => hE g5 e (fun c o c1 c2 c3 c4 x => ks5.extBut _ _ c1 (ks4 _ _ c4 (ks3.extBut _ _ c2 (ks2.extBut _ _ c3 (ks1.extBut _ _ c1 x))))) ⟨oe, ks5.extBut _ _ hez hoe, hce⟩

theorem pyNext_zipM_item {z tA tB j1 j2 u1 u2 : Addr} {m1 m2 : Nat} {xs ys : Array Value} {x y a b : Value} {Q : Option Value → Shared → Prop} (D : ZipApart z tA tB j1 j2 u1 u2)
    (zz : IsZip s.heap z tA tB .none) (gA : IsPair s.heap tA (.ref j1) (.ref j2)) (gB : IsPair s.heap tB a b)
    (h1 : s.heap.IsTupleIter j1 u1 m1) (h2 : s.heap.IsListIter j2 u2 m2) (hl1 : s.heap.IsTuple u1 xs) (hl2 : s.heap.IsList u2 ys) (ex : xs[m1]? = some x) (ey : ys[m2]? = some y)
    (fin : ∀ h', IsZip h' z tA tB (rawInt s.heap.objs.size) → IsPair h' tB x y → h'.IsTupleIter j1 u1 (m1 + 1) → h'.IsListIter j2 u2 (m2 + 1) → IsPair h' s.heap.objs.size x y → h'.objs.size = s.heap.objs.size + 1 →
      (∀ c o, c ≠ z → c ≠ tB → c ≠ j1 → c ≠ j2 → s.heap.get? c = some o → h'.get? c = some o) → Q (some (.ref s.heap.objs.size)) { s with heap := h' }) :
    wpAny (model prog w) A (pyNext (.ref z)) Q E s := by
  have hT : s.TypeIs (.ref z) "zip" := ⟨_, zz, rfl⟩
  unfold pyNext
  exact wpAny_bind (wpAny_attempt (wpAny_callSpecial?_slot (name := Str.ofString "__next__") hT F.slot_zip_next
    (wpAny_call_entry F.slot_zip_next hT F.entry_zip_next
      (zipM_next_item D zz gA gB h1 h2 hl1 hl2 ex ey fun h' a1 a2 a3 a4 a5 a6 a7 => wpAny_pure (fin h' a1 a2 a3 a4 a5 a6 a7)) (F.args_zip_next_1 _))))

theorem pyNext_zipM_end {z tA tB j1 j2 u1 u2 : Addr} {m1 m2 : Nat} {xs ys : Array Value} {a b : Value} {Q : Option Value → Shared → Prop} (hh : A.handled = none) (D : ZipApart z tA tB j1 j2 u1 u2)
    (zz : IsZip s.heap z tA tB .none) (gA : IsPair s.heap tA (.ref j1) (.ref j2)) (gB : IsPair s.heap tB a b)
    (h1 : s.heap.IsTupleIter j1 u1 m1) (h2 : s.heap.IsListIter j2 u2 m2) (hl1 : s.heap.IsTuple u1 xs) (hl2 : s.heap.IsList u2 ys) (hend : xs[m1]? = none ∨ ys[m2]? = none)
    (fin : ∀ h', (∀ c o, c ≠ z → c ≠ tB → c ≠ j1 → c ≠ j2 → s.heap.get? c = some o → h'.get? c = some o) → Q none { s with heap := h' }) : wpAny (model prog w) A (pyNext (.ref z)) Q E s := by
  have hT : s.TypeIs (.ref z) "zip" := ⟨_, zz, rfl⟩
  unfold pyNext
  refine wpAny_bind (wpAny_attempt (wpAny_callSpecial?_slot (name := Str.ofString "__next__") hT F.slot_zip_next
    (wpAny_call_entry F.slot_zip_next hT F.entry_zip_next (zipM_next_end hh D zz gA gB h1 h2 hl1 hl2 hend fun h' e hk he => ?_) (F.args_zip_next_1 _))))
  obtain ⟨o, ho, hc⟩ := he
  refine wpAny_bind (wpAny_isInstance (T := "StopIteration") (b := true) ⟨o, ho, hc⟩ isSubtype_stop ?_)
  exact wpAny_pure (fin _ hk)
end

abbrev zmH1 (h : Heap) (u1 : Addr) : Heap := h.push { cls := .type "tuple_iterator", data := .fields #[.ref u1, .int 0 0] }
abbrev zmH2 (h : Heap) (u1 u2 : Addr) : Heap := (zmH1 h u1).push { cls := .type "list_iterator", data := .fields #[.ref u2, .int 0 0] }
abbrev zmH3 (h : Heap) (u1 u2 : Addr) : Heap := (zmH2 h u1 u2).push { cls := .type "tuple", data := .seq #[.ref h.objs.size, .ref (zmH1 h u1).objs.size] }
abbrev zmH4 (h : Heap) (u1 u2 : Addr) : Heap := (zmH3 h u1 u2).push { cls := .type "tuple", data := .seq #[.none, .none] }
abbrev zmH5 (h : Heap) (u1 u2 : Addr) : Heap := (zmH4 h u1 u2).push { cls := .type "zip", data := .fields #[.none, .bool false, .bool false, .ref (zmH2 h u1 u2).objs.size, .ref (zmH3 h u1 u2).objs.size] }

theorem meets_zipM_new (u1 u2 : Addr) (xs ys : Array Value) :
    Meets (Builtin.«zip.__new__» ⟨[.type "zip", .ref u1, .ref u2], []⟩) (fun _ R s => s.heap.IsTuple u1 xs ∧ s.heap.IsList u2 ys ∧
      R (.ok (.ret (.ref (zmH4 s.heap u1 u2).objs.size))) { s with heap := zmH5 s.heap u1 u2 }) :=
  .of_wp fun prog w A R s h => by
    obtain ⟨hp, g, d, tk, os⟩ := s; obtain ⟨hl1, hl2, h⟩ := h
    have hsub := sub_zip
    have hL1 : Heap.IsTuple (Shared.heap ⟨hp, g, d, tk, os⟩) u1 xs := hl1
    have hL2 : Heap.IsList (Shared.heap ⟨hp.push { cls := .type "tuple_iterator", data := .fields #[.ref u1, .int 0 0] }, g, d, tk, os⟩) u2 ys := Heap.IsList.push hl2 _
    wp_walk using wpAny_pyIter_tuple hL1, wpAny_pyIter_list hL2
    exact ⟨_, rfl, h⟩

section
variable {prog : Program} {w : World} {A : Around} {E : Value → Shared → Prop} {s : Shared}

theorem call_zipM {u1 u2 : Addr} {xs ys : Array Value} {Q : Value → Shared → Prop} (hl1 : s.heap.IsTuple u1 xs) (hl2 : s.heap.IsList u2 ys)
    (h : ∀ h', IsZip h' (s.heap.objs.size + 4) (s.heap.objs.size + 2) (s.heap.objs.size + 3) .none → IsPair h' (s.heap.objs.size + 2) (.ref s.heap.objs.size) (.ref (s.heap.objs.size + 1)) →
      IsPair h' (s.heap.objs.size + 3) .none .none → h'.IsTupleIter s.heap.objs.size u1 0 → h'.IsListIter (s.heap.objs.size + 1) u2 0 → h'.objs.size = s.heap.objs.size + 5 →
      (∀ c o, s.heap.get? c = some o → h'.get? c = some o) → Q (.ref (s.heap.objs.size + 4)) { s with heap := h' }) :
    wpAny (model prog w) A (call (.type "zip") [.ref u1, .ref u2]) Q E s := by
  refine callType_new F.called_zip (by decide) (F.typeCall_zip_2 _ _) (F.newCall_zip_2 _ _) (fun obj => F.args_object_init_3 obj _ _) F.entry_zip_new
    (meets_zipM_new u1 u2 xs ys) ⟨hl1, hl2, ?_⟩
  have z1 : (zmH1 s.heap u1).objs.size = s.heap.objs.size + 1 := Heap.size_push ..
  have z2 : (zmH2 s.heap u1 u2).objs.size = s.heap.objs.size + 2 := by rw [Heap.size_push, z1]
  have z3 : (zmH3 s.heap u1 u2).objs.size = s.heap.objs.size + 3 := by rw [Heap.size_push, z2]
  have z4 : (zmH4 s.heap u1 u2).objs.size = s.heap.objs.size + 4 := by rw [Heap.size_push, z3]
  have z5 : (zmH5 s.heap u1 u2).objs.size = s.heap.objs.size + 5 := by rw [Heap.size_push, z4]
  have g5 : (zmH5 s.heap u1 u2).get? (zmH4 s.heap u1 u2).objs.size = some _ := Heap.get?_push_size _ rfl
  have g4 : (zmH5 s.heap u1 u2).get? (zmH3 s.heap u1 u2).objs.size = some _ := Heap.get?_push_of_some _ (Heap.get?_push_size _ rfl)
  have g3 : (zmH5 s.heap u1 u2).get? (zmH2 s.heap u1 u2).objs.size = some _ := Heap.get?_push_of_some _ (Heap.get?_push_of_some _ (Heap.get?_push_size _ rfl))
  have g2 : (zmH5 s.heap u1 u2).get? (zmH1 s.heap u1).objs.size = some _ := Heap.get?_push_of_some _ (Heap.get?_push_of_some _ (Heap.get?_push_of_some _ (Heap.get?_push_size _ rfl)))
  have g1 : (zmH5 s.heap u1 u2).get? s.heap.objs.size = some _ := Heap.get?_push_of_some _ (Heap.get?_push_of_some _ (Heap.get?_push_of_some _ (Heap.get?_push_of_some _ (Heap.get?_push_size _ rfl))))
  show _ ∧ _
  rw [z2, z3, z4] at g5
  rw [z1, z2] at g3
  rw [z3] at g4
  rw [z1] at g2
  rw [z4]
  exact ⟨⟨_, g5, rfl⟩, h _ g5 g3 g4 ⟨_, g1, rfl, rfl⟩ ⟨_, g2, rfl, rfl⟩ z5 fun c o x =>
    Heap.get?_push_of_some _ (Heap.get?_push_of_some _ (Heap.get?_push_of_some _ (Heap.get?_push_of_some _ (Heap.get?_push_of_some _ x))))⟩
end
open PySem.Spec PyProof.Rows L2
/-- the tuples at a and b as they stand at each turn, the items in new pairs -/
def ItzM (K : PySem.W.Frag) (a b : Addr) : It :=
  ⟨fun i H => ∃ (xs ys : List V) (x y : V), SqT K H a xs ∧ SqL K H b ys ∧ xs[i]? = some x ∧ ys[i]? = some y,
    fun i H v H' => ∃ T x y, v = .ref T ∧ H T = none ∧ H' = upd H T (.tup [x, y]) ∧ (∀ xs, SqT K H a xs → xs[i]? = some x) ∧ ∀ ys, SqL K H b ys → ys[i]? = some y,
    fun i H => ∃ xs ys : List V, SqT K H a xs ∧ SqL K H b ys ∧ (xs.length ≤ i ∨ ys.length ≤ i)⟩
theorem turn_zipM {P : Program} {w : World} {K : PySem.W.Frag} {elts : List Expr} {kk : Nat} {tpos : Pos} {a b z tA tB j1 j2 : Addr} (D : ZipApart z tA tB j1 j2 a b) :
    Turn P w K (.Tuple elts kk tpos) (ItzM K a b) [z, tA, tB, j1, j2] z (fun i h => IsZip h z tA tB .none ∧ IsPair h tA (.ref j1) (.ref j2) ∧ (∃ x y, IsPair h tB x y) ∧ h.IsTupleIter j1 a i ∧ h.IsListIter j2 b i) where
  mem := by simp
  obj := fun i h st c hc => by
    obtain ⟨zz, gA, ⟨x, y, gB⟩, ⟨o1, e1, _, d1⟩, ⟨o2, e2, _, d2⟩⟩ := st
    have e' : c = z ∨ c = tA ∨ c = tB ∨ c = j1 ∨ c = j2 := by simpa using hc
    rcases e' with q | q | q | q | q
    · rw [q]; exact ⟨_, zz, fun v q => nomatch q⟩
    · rw [q]; exact ⟨_, gA, fun v q => nomatch q⟩
    · rw [q]; exact ⟨_, gB, fun v q => nomatch q⟩
    · rw [q]; exact ⟨o1, e1, fun v q => by rw [d1] at q; cases q⟩
    · rw [q]; exact ⟨o2, e2, fun v q => by rw [d2] at q; cases q⟩
  keep := fun i h h' st k => by
    obtain ⟨zz, gA, ⟨x, y, gB⟩, h1, h2⟩ := st
    exact ⟨k z (by simp) _ zz, k tA (by simp) _ gA, ⟨x, y, k tB (by simp) _ gB⟩, h1.at fun o q => k j1 (by simp) o q, h2.at fun o q => k j2 (by simp) o q⟩
  item := by
    intro X hP hw hK hc i pins s σ H E I hf st hg
    subst hP hw hK
    obtain ⟨zz, gA, ⟨x0, y0, gB⟩, h1, h2⟩ := st
    obtain ⟨xs, ys, x, y, hqx, hqy, ex, ey⟩ := hg
    obtain ⟨its, rv, p, _⟩ := I.tuple hqx
    obtain ⟨its2, rv2, p2', _⟩ := I.list hqy
    have p2 := p2'.isList
    obtain ⟨u, hu, ru⟩ := rv.get ex
    obtain ⟨u2, hu2, ru2⟩ := rv2.get ey
    have hzl : z < s.heap.objs.size := Heap.lt_size zz
    refine pyNext_zipM_item D zz gA gB h1 h2 p p2 (x := u) (y := u2) (by simpa using hu) (by simpa using hu2) fun h' z' tB' h1' h2' hT hsz hk => ?_
    refine ⟨_, rfl, wpAny_letOwnedTupleGo_zip (s := { s with heap := h' }) z' fun h'' z'' sb => ?_⟩
    have hT2 : h''.get? s.heap.objs.size = some { cls := .type "tuple", data := .seq #[u, u2] } := (sb.2 _ (Nat.ne_of_gt hzl)).trans hT
    have new : ObjOk X.prog X.w (upd H s.heap.objs.size (.tup [x, y])) h'' s.heap.objs.size (.tup [x, y]) :=
      ⟨by show 2 ≤ sizeLine; decide, [u, u2], .cons ru (.cons ru2 .nil), ⟨_, hT2, rfl, _, rfl⟩⟩
    have I1 : Inv X pins σ (upd H s.heap.objs.size (.tup [x, y])) { s with heap := h'' } :=
      I.turnedNew (t' := s.toks) (ch := [z, tA, tB, j1, j2]) (fun c o hb q => (sb.2 c (fun q' => hb (by simp [q']))).trans (hk c o (fun q' => hb (by simp [q'])) (fun q' => hb (by simp [q'])) (fun q' => hb (by simp [q'])) (fun q' => hb (by simp [q'])) q)) hf (Nat.le_refl _) new
    refine ⟨.ref s.heap.objs.size, _, I1, rfl, ⟨_, x, y, rfl, I.hok.fresh (Nat.le_refl _), rfl, fun l hl => by rw [I.tuple_inj hl hqx]; exact ex, fun l hl => by rw [I.list_inj hl hqy]; exact ey⟩, ⟨z'', ?_, ⟨u, u2, ?_⟩, ?_, ?_⟩, fun c hcm => ?_⟩
    · exact (sb.2 _ D.TIz).trans (hk _ _ D.TIz D.TITO D.TIi1 D.TIi2 gA)
    · exact (sb.2 _ D.TOz).trans tB'
    · exact h1'.at fun o q => (sb.2 _ D.i1z).trans q
    · exact h2'.at fun o q => (sb.2 _ D.i2z).trans q
    · have hlt : c < s.heap.objs.size := by
        have e' : c = z ∨ c = tA ∨ c = tB ∨ c = j1 ∨ c = j2 := by simpa using hcm
        rcases e' with q | q | q | q | q
        · rw [q]; exact hzl
        · rw [q]; exact Heap.lt_size gA
        · rw [q]; exact Heap.lt_size gB
        · rw [q]; obtain ⟨_, e1, _⟩ := h1; exact Heap.lt_size e1
        · rw [q]; obtain ⟨_, e2, _⟩ := h2; exact Heap.lt_size e2
      rw [upd_ne (Nat.ne_of_lt hlt)]
      exact (hf c hcm).1
  done := by
    intro X hP hw hK hc i pins s σ H E I hf st hg
    subst hP hw hK
    obtain ⟨zz, gA, ⟨x0, y0, gB⟩, h1, h2⟩ := st
    obtain ⟨xs, ys, hqx, hqy, hend⟩ := hg
    obtain ⟨its, rv, p, _⟩ := I.tuple hqx
    obtain ⟨its2, rv2, p2', _⟩ := I.list hqy
    have p2 := p2'.isList
    have u1 := rv.length
    have u2 := rv2.length
    have he : its.toArray[i]? = none ∨ its2.toArray[i]? = none := by
      rcases hend with q | q
      · exact .inl (by simp; omega)
      · exact .inr (by simp; omega)
    exact pyNext_zipM_end (I.ok.hd hc) D zz gA gB h1 h2 p p2 he fun h' hk => ⟨rfl, I.turnedL (t' := s.toks) (ch := [z, tA, tB, j1, j2]) (fun c o hb q =>
      hk c o (fun q' => hb (by simp [q'])) (fun q' => hb (by simp [q'])) (fun q' => hb (by simp [q'])) (fun q' => hb (by simp [q'])) q) hf⟩
  self := fun A i s Q E st h => wpAny_pyIter_zip st.1 h

def iZipM (K : PySem.W.Frag) (ta : TA) : TI := fun σ H R => ta σ H fun vs H1 => ∃ a b xs ys, vs = [.ref a, .ref b] ∧ SqT K H1 a xs ∧ SqL K H1 b ys ∧ R (ItzM K a b) H1
theorem pi_zipM {X : Cx} {e e2 : Expr} {ta : TA} {p pos tpos : Pos} {elts : List Expr} {kk : Nat} (hg : Gl X "zip") (hm : X.mg "zip" = none) (ha : PA X [e, e2] ta)
    (hs : starEach [e, e2] X.env = (false, eval e X.env) :: starEach [e2] X.env := by rfl) (hpl : (backTo pos (starEach [e2] X.env)).any (·.1) = false := by rfl) :
    PI X (.Tuple elts kk tpos) (.Call (.Name "zip" p) [e, e2] [] pos) (iZipM X.K ta) := by
  refine ⟨fun pins s σ H R I h => ?_⟩
  refine Call_ (ld_blt I hg hm PyProof.Rows.boot_zip (PyProof.Rows.callWith_type1 (thn (ha.run pos pins s σ H _ I h) fun us s1 ⟨vs, H1, I1, r1, q1⟩ => ?_) hs hpl))
  obtain ⟨a, b, xs, ys, ex, q1⟩ := q1
  subst ex
  cases r1 with
  | cons r rr =>
    cases rr with
    | cons r' rr =>
      cases rr
      cases r
      cases r'
      have fresh5 : ∀ c, c ∈ [s1.heap.objs.size + 4, s1.heap.objs.size + 2, s1.heap.objs.size + 3, s1.heap.objs.size, s1.heap.objs.size + 1] → FpOk X pins H1 c := fun c hcm => by
        have e' : c = s1.heap.objs.size + 4 ∨ c = s1.heap.objs.size + 2 ∨ c = s1.heap.objs.size + 3 ∨ c = s1.heap.objs.size ∨ c = s1.heap.objs.size + 1 := by simpa using hcm
        have hle : s1.heap.objs.size ≤ c := by
          rcases e' with z | z | z | z | z
          · rw [z]; exact Nat.le_add_right _ _
          · rw [z]; exact Nat.le_add_right _ _
          · rw [z]; exact Nat.le_add_right _ _
          · rw [z]; exact Nat.le_refl _
          · rw [z]; exact Nat.le_add_right _ _
        exact I1.fpOk hle (I1.hok.fresh hle)
      obtain ⟨hqx, hqy, q⟩ := q1
      obtain ⟨its, rv, p1, _⟩ := I1.tuple hqx
      obtain ⟨its2, rv2, p2, _⟩ := I1.list hqy
      obtain ⟨o1, ho1, _⟩ := id p1
      refine call_zipM (show s1.heap.IsTuple a its.toArray from p1) p2.isList fun h' zz gA gB h1 h2 hsz hk => wpAny_pyIter_zip zz ?_
      have I2 : Inv X pins σ H1 { s1 with heap := h' } := I1.kept (t' := s1.toks) hk
      exact ⟨s1.heap.objs.size + 4, [s1.heap.objs.size + 4, s1.heap.objs.size + 2, s1.heap.objs.size + 3, s1.heap.objs.size, s1.heap.objs.size + 1], _, _, H1, rfl, I2, turn_zipM (PySem.W.ktu_apart s1.heap.objs.size a b (Heap.lt_size ho1) p2.lt), ⟨zz, gA, ⟨_, _, gB⟩, h1, h2⟩, fresh5, q⟩

end ZM
namespace Z
open PySem PySem.Spec PyProof.Rows L2
section
variable {X : Cx} {W : Type} {wd : WD W} {cls : Nat → Addr} {e : Cur wd} {Wx : WX} {a b : Expr} {f h : XF W}
def zpOfM (x y : D) : Option (List PyData) := match x, y with
  | .p (.tuple xs), .p (.list ys) => some (zipL xs ys)
  | _, _ => none
theorem si_zipM {p pos tpos : Pos} {elts : List Expr} {kk : Nat} (ke : Ok e) (hm : X.mg "zip" = none) (ha : PE X a (tS cls X.K e Wx f)) (hb : PE X b (tS cls X.K e Wx h)) (hg : Gl X "zip" := by rfl)
    (hs : starEach [a, b] X.env = (false, eval a X.env) :: starEach [b] X.env := by rfl) (hs2 : starEach [b] X.env = (false, eval b X.env) :: starEach [] X.env := by rfl) (hpl : (backTo pos (starEach [b] X.env)).any (·.1) = false := by rfl) :
    PI X (.Tuple elts kk tpos) (.Call (.Name "zip" p) [a, b] [] pos) (tSI cls X.K e Wx keepF (iOf2 zpOfM f h)) := pi_imp (ZM.pi_zipM hg hm (pa_cons ha (pa_cons hb pa_nil hs2) hs) hs hpl) fun σ H R ⟨c, δ, eH, r, q⟩ => by
  rw [← eH]
  show tS cls X.K e Wx f σ c.H _
  refine tS_mk r ?_
  unfold iOf2 at q
  cases z : f δ c.w with
  | bad => rw [z] at q; exact q
  | exc n w' => rw [z] at q; exact q
  | ok x w' =>
    rw [z] at q
    dsimp only [Res.bind] at q
    intro u c1 hw b1 q1
    show tS cls X.K e Wx h σ c1.H _
    have r1 := r.step ke b1
    refine tS_mk r1 ?_
    rw [hw]
    cases z2 : h δ w' with
    | bad => rw [z2] at q; exact q
    | exc n w2 => rw [z2] at q; exact fun c2 hw2 b2 => q c2 hw2 (b1.trans r.ok b2)
    | ok y w2 =>
      rw [z2] at q
      dsimp only at q
      intro v c2 hw2 b2 q2
      have q1' := q1.mono b2
      have k2 := b2.ok
      unfold zpOfM at q
      split at q
      · rename_i l hl
        split at hl
        · rename_i xs ys
          cases hl
          obtain ⟨p, vs, rfl, h1, r1⟩ := dv_tup.mp q1'
          obtain ⟨p', vs', rfl, h1', r1'⟩ := dv_lst.mp q2
          refine ⟨p, p', vs, vs', rfl, SqT.of (k2.fh _ _ h1), SqL.of (k2.fh _ _ h1'), q _ c2 hw2 (b1.trans r.ok b2) ?_⟩
          refine ⟨fun i c ⟨k, s⟩ hi => ?_, fun i c ⟨k, s⟩ hi => ⟨vs, vs', SqT.of (k.fh _ _ (s _ _ h1)), SqL.of (k.fh _ _ (s _ _ h1')), ?_⟩, fun i c x H' d ⟨k, s⟩ hy hd => ?_⟩
          · rw [zipL_len] at hi
            obtain ⟨v, e1, _⟩ := r1.get (List.getElem?_eq_getElem (show i < xs.length by omega))
            obtain ⟨v', e1', _⟩ := r1'.get (List.getElem?_eq_getElem (show i < ys.length by omega))
            exact ⟨vs, vs', v, v', SqT.of (k.fh _ _ (s _ _ h1)), SqL.of (k.fh _ _ (s _ _ h1')), e1, e1'⟩
          · rw [zipL_len] at hi; rw [r1.len, r1'.len]; omega
          · obtain ⟨T, x1, x2, rfl, hT, rfl, hx1, hx2⟩ := hy
            obtain ⟨y1, y2, g1, g2, rfl⟩ := zipL_get xs ys i d hd
            obtain ⟨v, e1, qv⟩ := r1.get g1
            obtain ⟨v', e1', qv'⟩ := r1'.get g2
            have e2 := hx1 vs (SqT.of (k.fh _ _ (s _ _ h1)))
            rw [e1] at e2
            cases e2
            have e3 := hx2 vs' (SqL.of (k.fh _ _ (s _ _ h1')))
            rw [e1'] at e3
            cases e3
            have b := Bs.put k (.tup [x1, x2]) hT
            refine ⟨c.put T (.tup [x1, x2]), rfl, rfl, b, ?_⟩
            simp only [Dq]
            exact ⟨T, _, rfl, upd_same, .cons (Dq.mono (s.trans b.ff) _ _ qv) (.cons (Dq.mono (s.trans b.ff) _ _ qv') .nil)⟩
        · cases hl
      · exact q.elim
end
end Z

set_option Elab.async false
set_option linter.all false
set_option maxRecDepth 100000
set_option maxHeartbeats 2000000
namespace Z
open PySem PySem.Spec PyProof.Rows L2
def topS (i : Nat) : Stmt := PySem.Challenge.pw_crosssums_k09_whole_ledgers.main.body.getD i (.Pass ⟨0, 0, 0, 0⟩)
section
variable {P : Program} {w : World} {K : PySem.W.Frag} {mg : Str → Option Value} {base : Heap} {cls : Nat → Addr} {C : Addr}
def clsS (s : Stmt) (j : Nat) : Stmt := match s with
  | .ClassDef _ _ _ b _ _ _ _ _ _ _ => b.getD j (.Pass ⟨0, 0, 0, 0⟩)
  | _ => s
/-! ## is_int -/
abbrev s_is_int : Stmt := topS 10
theorem sc_is_int : FnScope ["value", "low", "high"] ["value", "low", "high"] (defScope s_is_int) := ⟨rfl, rfl, rfl, by decide +kernel, rfl, by decide +kernel, by decide +kernel⟩
def b_is_int : SF Unit :=
  (sRet (xAnd (x1 (gIsi "int") (xVar 0)) (xAnd (x1 gNot (x1 (gIsi "bool") (xVar 0))) (xChain gLe gLe (xVar 1) (xVar 0) (xVar 2)))))
def f_is_int : FZ Unit := runZ 3 b_is_int
theorem k_is_int (D : Df K mg "is_int" s_is_int) (B : Bt mg) : Kp P w K mg base cls W0 "is_int" 1 3 f_is_int :=
  kpZ (k := 0) (N := ["value", "low", "high"]) (ps := ["value", "low", "high"]) D sc_is_int (fun _ _ _ _ _ _ us hl => match us, hl with | [_, _, _], _ => rfl) fun f cdv A outer s H E e ke hr =>
    (ss_one (ss_ret ke (s_and ke (s_isi ke (by simp) B.isi B.int bt_int (sv 0)) (s_and ke (s_not ke (s_isi ke (by simp) B.isi B.bool bt_bool (sv 0))) (s_one (s_chain ke og_le og_le (sv 1) (sv 0) (sv 2)))))))
/-! ## is_block -/
abbrev s_is_block : Stmt := topS 11
theorem sc_is_block : FnScope ["value", "low", "high", "least", "most", "row", "entry"] ["value", "low", "high", "least", "most"] (defScope s_is_block) := ⟨rfl, rfl, rfl, by decide +kernel, rfl, by decide +kernel, by decide +kernel⟩
def b_is_block : SF Unit :=
  (sSeq (sIf (bOr (bNot (xB truth (x1 (gIsi "list") (xVar 0)))) (bNot (xB asB (xChain gLe gLe (xVar 1) (xN gLen (lCons (xVar 0) lNil)) (xVar 2))))) (sRet (xBl false)) sNil)
    (sSeq (sIf (bNot (xB truth (xN gAll (lCons (xLc (iOf seqOf (xVar 0)) (zN 5) bYes (xAnd (x1 (gIsi "list") (xVar 5)) (xChain gLe gLe (xVar 1) (xN gLen (lCons (xVar 5) lNil)) (xVar 2))) [5]) lNil)))) (sRet (xBl false)) sNil)
    (sSeq (sIf (bNot (xB truth (xN gAll (lCons (xLc (iOf seqOf (xVar 0)) (zN 5) bYes (x2 gEq (xN gLen (lCons (xVar 5) lNil)) (xN gLen (lCons (x2 gIx (xVar 0) (xInt 0)) lNil))) [5]) lNil)))) (sRet (xBl false)) sNil)
    (sRet (xN gAll (lCons (xLc (iOf seqOf (xVar 0)) (zN 5) bYes (xN gAll (lCons (xLc (iOf seqOf (xVar 5)) (zN 6) bYes (xCall f_is_int (lCons (xVar 6) (lCons (xVar 3) (lCons (xVar 4) lNil)))) [6]) lNil)) [5]) lNil))))))
def f_is_block : FZ Unit := runZ 7 b_is_block
theorem k_is_block (D : Df K mg "is_block" s_is_block) (B : Bt mg) (h_is_int : Kp P w K mg base cls W0 "is_int" 1 3 f_is_int) : Kp P w K mg base cls W0 "is_block" 2 5 f_is_block :=
  kpZ (k := 1) (N := ["value", "low", "high", "least", "most", "row", "entry"]) (ps := ["value", "low", "high", "least", "most"]) D sc_is_block (fun _ _ _ _ _ _ us hl => match us, hl with | [_, _, _, _, _], _ => rfl) fun f cdv A outer s H E e ke hr =>
    (ss_cons (ss_if ke (sw_or ke (st_not ke (st_val ke (s_isi ke (by simp) B.isi B.list bt_list (sv 0)))) (pw_or1 (st_not ke (st_chain ke og_le og_le (sv 1) (s_callB ke cg_len B.len bt_len (sa_cons ke (sv 0) sa_nil)) (sv 2))))).pt (ss_one (ss_ret ke s_bl)) ss_nil)
    (ss_cons (ss_if ke (st_not ke (st_val ke (s_callB ke (cg_all rfl) B.all bt_all (sa_cons ke (s_lc ke rfl sc_is_block.nd (pi_strong (si_seq ke (sv 0))) (blkOk_by (own := [("row", 5)]) rfl) (fun _ _ _ _ _ => (pg_name (i := 5) sc_is_block.nd rfl (Or.inl rfl))) t3_name (fun _ _ _ _ _ => sts_nil) (fun _ _ _ _ _ => (s_and ke (s_isi ke (by simp) B.isi B.list bt_list (sv 5)) (s_one (s_chain ke og_le og_le (sv 1) (s_callB ke cg_len B.len bt_len (sa_cons ke (sv 5) sa_nil)) (sv 2)))))) sa_nil)))) (ss_one (ss_ret ke s_bl)) ss_nil)
    (ss_cons (ss_if ke (st_not ke (st_val ke (s_callB ke (cg_all rfl) B.all bt_all (sa_cons ke (s_lc ke rfl sc_is_block.nd (pi_strong (si_seq ke (sv 0))) (blkOk_by (own := [("row", 5)]) rfl) (fun _ _ _ _ _ => (pg_name (i := 5) sc_is_block.nd rfl (Or.inl rfl))) t3_name (fun _ _ _ _ _ => sts_nil) (fun _ _ _ _ _ => (s_cmp ke (og_eq hr.units) (s_callB ke cg_len B.len bt_len (sa_cons ke (sv 5) sa_nil)) (s_callB ke cg_len B.len bt_len (sa_cons ke (s_ix ke (sv 0) s_int) sa_nil)) (nomark _)))) sa_nil)))) (ss_one (ss_ret ke s_bl)) ss_nil)
    (ss_one (ss_ret ke (s_callB ke (cg_all rfl) B.all bt_all (sa_cons ke (s_lc ke rfl sc_is_block.nd (pi_strong (si_seq ke (sv 0))) (blkOk_by (own := [("row", 5)]) rfl) (fun _ _ _ _ _ => (pg_name (i := 5) sc_is_block.nd rfl (Or.inl rfl))) t3_name (fun _ _ _ _ _ => sts_nil) (fun _ _ _ _ _ => (s_callB ke (cg_all rfl) B.all bt_all (sa_cons ke (s_lc ke rfl sc_is_block.nd (pi_strong (si_seq ke (sv 5))) (blkOk_by (own := [("entry", 6)]) rfl) (fun _ _ _ _ _ => (pg_name (i := 6) sc_is_block.nd rfl (Or.inl rfl))) t3_name (fun _ _ _ _ _ => sts_nil) (fun _ _ _ _ _ => (s_callK ke h_is_int (hr.mono (by decide)) takes0 (sa_cons ke (sv 6) (sa_cons ke (sv 3) (sa_cons ke (sv 4) sa_nil))) (ln_cons (ln_cons (ln_cons ln_nil)))))) sa_nil)))) sa_nil)))))))
/-! ## is_sheet -/
abbrev s_is_sheet : Stmt := topS 12
theorem sc_is_sheet : FnScope ["value"] ["value"] (defScope s_is_sheet) := ⟨rfl, rfl, rfl, by decide +kernel, rfl, by decide +kernel, by decide +kernel⟩
def b_is_sheet : SF Unit :=
  (sRet (xCall f_is_block (lCons (xVar 0) (lCons (xInt 2) (lCons (xInt 4) (lCons (x1 gNeg (xInt 999)) (lCons (xInt 999) lNil)))))))
def f_is_sheet : FZ Unit := runZ 1 b_is_sheet
theorem k_is_sheet (D : Df K mg "is_sheet" s_is_sheet) (B : Bt mg) (h_is_block : Kp P w K mg base cls W0 "is_block" 2 5 f_is_block) {t_MOST_ENTRY : Tok} (c_MOST_ENTRY : mg "MOST_ENTRY" = some (.int 999 t_MOST_ENTRY)) : Kp P w K mg base cls W0 "is_sheet" 3 1 f_is_sheet :=
  kpZ (k := 2) (N := ["value"]) (ps := ["value"]) D sc_is_sheet (fun _ _ _ _ _ _ us hl => match us, hl with | [_], _ => rfl) fun f cdv A outer s H E e ke hr =>
    (ss_one (ss_ret ke (s_callK ke h_is_block (hr.mono (by decide)) (takes_of rfl rfl rfl rfl) (sa_cons ke (sv 0) (sa_cons ke s_int (sa_cons ke s_int (sa_cons ke (s_neg ke (s_globInt c_MOST_ENTRY)) (sa_cons ke (s_globInt c_MOST_ENTRY) sa_nil))))) (ln_cons (ln_cons (ln_cons (ln_cons (ln_cons ln_nil))))))))
/-! ## check_sheet -/
abbrev s_check_sheet : Stmt := topS 13
theorem sc_check_sheet : FnScope ["value"] ["value"] (defScope s_check_sheet) := ⟨rfl, rfl, rfl, by decide +kernel, rfl, by decide +kernel, by decide +kernel⟩
def b_check_sheet : SF Unit :=
  (sIf (bNot (xB truth (xCall f_is_sheet (lCons (xVar 0) lNil)))) (sRaise 0) sNil)
def f_check_sheet : FZ Unit := runZ 1 b_check_sheet
theorem k_check_sheet (D : Df K mg "check_sheet" s_check_sheet) (B : Bt mg) (h_is_sheet : Kp P w K mg base cls W0 "is_sheet" 3 1 f_is_sheet) (E_BadSheet : ExC K mg "BadSheet" (cls 0)) : Kp P w K mg base cls W0 "check_sheet" 4 1 f_check_sheet :=
  kpZ (k := 3) (N := ["value"]) (ps := ["value"]) D sc_check_sheet (fun _ _ _ _ _ _ us hl => match us, hl with | [_], _ => rfl) fun f cdv A outer s H E e ke hr =>
    (ss_one (ss_if ke (st_not ke (st_val ke (s_callK ke h_is_sheet (hr.mono (by decide)) (takes_of rfl rfl rfl rfl) (sa_cons ke (sv 0) sa_nil) (ln_cons ln_nil)))) (ss_one (ss_raise rfl (takes_of rfl rfl rfl rfl) E_BadSheet)) ss_nil))
/-! ## Ledger.__init__ -/
abbrev s_Ledger___init__ : Stmt := clsS (topS 21) 0
theorem sc_Ledger___init__ : FnScope ["self", "sheet", "row"] ["self", "sheet"] (defScope s_Ledger___init__) := ⟨rfl, rfl, rfl, by decide +kernel, rfl, by decide +kernel, by decide +kernel⟩
def f_Ledger___init__ : D → LW → Res LW D := fInit 1 (xCall (liftZ f_check_sheet) (lCons (xVar 1) lNil)) (xLcOO (iOf seqOf (xVar 1)) (zN 2) (xListO (xVar 2)) [2])
theorem k_Ledger___init__ {fa : Addr} {fd : FuncData} (F : Fun K "__init__" "Ledger.__init__" s_Ledger___init__ fa fd) (hm : mg "Ledger" = some (.ref C)) (hM : Mk K C fa) (B : Bt mg) (h_check_sheet : Kp P w K mg base cls W0 "check_sheet" 4 1 f_check_sheet) (TL : LedC K C) : KpI P w K mg base C cls "Ledger" 5 f_Ledger___init__ :=
  ⟨fa, fd, ["self", "sheet"], hm, hM, F.binds (fun _ _ _ _ _ _ us hl => match us, hl with | [_, _], _ => rfl), init_sp (k := 4) (N := ["self", "sheet", "row"]) (ps := ["self", "sheet"]) F sc_Ledger___init__ rfl rfl TL fun cdv A outer s H E e ke hr =>
    pss_cons (ps_expr (s_callK ke h_check_sheet.lift (hr.mono (by decide)) (takes_of rfl rfl rfl rfl) (sa_cons ke (sv 1) sa_nil) (ln_cons ln_nil))) (pss_cons (ps_fld (L2.pv 0) (x_lcOO ke rfl sc_Ledger___init__.nd (pi_strong (si_seq ke (sv 1))) (blkOk_by (own := [("row", 2)]) rfl) (fun _ _ _ _ _ => (pg_name (i := 2) sc_Ledger___init__.nd rfl (Or.inl rfl))) t3_name (fun _ _ _ _ _ => (x_listO ke B.list (sv 2)))) rfl) (pss_one (ps_fld (L2.pv 0) (pe_lst pa_nil) rfl)))⟩
/-! ## Ledger.__len__ -/
abbrev s_Ledger___len__ : Stmt := clsS (topS 21) 5
theorem sc_Ledger___len__ : FnScope ["self"] ["self"] (defScope s_Ledger___len__) := ⟨rfl, rfl, rfl, by decide +kernel, rfl, by decide +kernel, by decide +kernel⟩
def b_Ledger___len__ : SF LW :=
  (sRet (xSelf (xN gLen (lCons xPast lNil))))
def f_Ledger___len__ : FZ LW := runZ 1 b_Ledger___len__
theorem k_Ledger___len__ (D : DfM K C "__len__" "Ledger.__len__" s_Ledger___len__) (B : Bt mg) (TL : LedC K C) : KpM P w K mg base C cls "__len__" 1 1 f_Ledger___len__ :=
  kpM (k := 0) (N := ["self"]) (ps := ["self"]) D sc_Ledger___len__ (fun _ _ _ _ _ _ us hl => match us, hl with | [_], _ => rfl) fun f cdv A outer s H E e ke hr =>
    (ss_one (ss_ret ke (s_self fun e0 ke => (s_callB ke cg_len B.len bt_len (sa_cons ke (s_past TL (L2.pv 0)) sa_nil)))))
/-! ## row_gap -/
abbrev s_row_gap : Stmt := topS 16
theorem sc_row_gap : FnScope ["row"] ["row"] (defScope s_row_gap) := ⟨rfl, rfl, rfl, by decide +kernel, rfl, by decide +kernel, by decide +kernel⟩
def b_row_gap : SF Unit :=
  (sRet (x2 gSub (xN gSum (lCons (xSl none (some (x1 gNeg (xInt 1))) (xVar 0)) lNil)) (x2 gIx (xVar 0) (x1 gNeg (xInt 1)))))
def f_row_gap : FZ Unit := runZ 1 b_row_gap
theorem k_row_gap (D : Df K mg "row_gap" s_row_gap) (B : Bt mg) : Kp P w K mg base cls W0 "row_gap" 1 1 f_row_gap :=
  kpZ (k := 0) (N := ["row"]) (ps := ["row"]) D sc_row_gap (fun _ _ _ _ _ _ us hl => match us, hl with | [_], _ => rfl) fun f cdv A outer s H E e ke hr =>
    (ss_one (ss_ret ke (s_bin ke og_sub (s_callB ke (cg_sum rfl) B.sum bt_sum (sa_cons ke (s_slice (lo := none) (hi := (some (x1 gNeg (xInt 1)))) ke (sv 0) poN (poS (s_neg ke s_int))) sa_nil)) (s_ix ke (sv 0) (s_neg ke s_int)))))
/-! ## rows_of -/
abbrev s_rows_of : Stmt := topS 17
theorem sc_rows_of : FnScope ["sheet", "row"] ["sheet"] (defScope s_rows_of) := ⟨rfl, rfl, rfl, by decide +kernel, rfl, by decide +kernel, by decide +kernel⟩
def b_rows_of : SF Unit :=
  (sRet (xLc (iOf seqOf (xVar 0)) (zN 1) bYes (xCall f_row_gap (lCons (xVar 1) lNil)) [1]))
def f_rows_of : FZ Unit := runZ 2 b_rows_of
theorem k_rows_of (D : Df K mg "rows_of" s_rows_of) (B : Bt mg) (h_row_gap : Kp P w K mg base cls W0 "row_gap" 1 1 f_row_gap) : Kp P w K mg base cls W0 "rows_of" 2 1 f_rows_of :=
  kpZ (k := 1) (N := ["sheet", "row"]) (ps := ["sheet"]) D sc_rows_of (fun _ _ _ _ _ _ us hl => match us, hl with | [_], _ => rfl) fun f cdv A outer s H E e ke hr =>
    (ss_one (ss_ret ke (s_lc ke rfl sc_rows_of.nd (pi_strong (si_seq ke (sv 0))) (blkOk_by (own := [("row", 1)]) rfl) (fun _ _ _ _ _ => (pg_name (i := 1) sc_rows_of.nd rfl (Or.inl rfl))) t3_name (fun _ _ _ _ _ => sts_nil) (fun _ _ _ _ _ => (s_callK ke h_row_gap (hr.mono (by decide)) takes0 (sa_cons ke (sv 1) sa_nil) (ln_cons ln_nil))))))
def fo_rows_of : FO Unit := runO 2 (oRetX (xLcO (iOf seqOf (xVar 0)) (zN 1) bYes (xCall f_row_gap (lCons (xVar 1) lNil)) [1]))
theorem ko_rows_of (D : Df K mg "rows_of" s_rows_of) (B : Bt mg) (h_row_gap : Kp P w K mg base cls W0 "row_gap" 1 1 f_row_gap) : Ko P w K mg base cls W0 "rows_of" 2 1 fo_rows_of :=
  koZ (k := 1) (N := ["sheet", "row"]) (ps := ["sheet"]) D sc_rows_of (fun _ _ _ _ _ _ us hl => match us, hl with | [_], _ => rfl) fun f cdv A outer s H E e ke hr =>
    (so_retX ke (x_lcO ke rfl sc_rows_of.nd (pi_strong (si_seq ke (sv 0))) (blkOk_by (own := [("row", 1)]) rfl) (fun _ _ _ _ _ => (pg_name (i := 1) sc_rows_of.nd rfl (Or.inl rfl))) t3_name (fun _ _ _ _ _ => sts_nil) (fun _ _ _ _ _ => (s_callK ke h_row_gap (hr.mono (by decide)) takes0 (sa_cons ke (sv 1) sa_nil) (ln_cons ln_nil)))))
/-! ## columns_of -/
abbrev s_columns_of : Stmt := topS 18
theorem sc_columns_of : FnScope ["sheet", "k", "row"] ["sheet"] (defScope s_columns_of) := ⟨rfl, rfl, rfl, by decide +kernel, rfl, by decide +kernel, by decide +kernel⟩
def b_columns_of : SF Unit :=
  (sRet (xLc (iOf rgOf1 (xN gLen (lCons (x2 gIx (xVar 0) (xInt 0)) lNil))) (zN 1) bYes (xCall f_row_gap (lCons (xLc (iOf seqOf (xVar 0)) (zN 2) bYes (x2 gIx (xVar 2) (xVar 1)) [2]) lNil)) [1]))
def f_columns_of : FZ Unit := runZ 3 b_columns_of
theorem k_columns_of (D : Df K mg "columns_of" s_columns_of) (B : Bt mg) (h_row_gap : Kp P w K mg base cls W0 "row_gap" 1 1 f_row_gap) : Kp P w K mg base cls W0 "columns_of" 2 1 f_columns_of :=
  kpZ (k := 1) (N := ["sheet", "k", "row"]) (ps := ["sheet"]) D sc_columns_of (fun _ _ _ _ _ _ us hl => match us, hl with | [_], _ => rfl) fun f cdv A outer s H E e ke hr =>
    (ss_one (ss_ret ke (s_lc ke rfl sc_columns_of.nd (pi_strong (si_range1 ke B.range (s_callB ke cg_len B.len bt_len (sa_cons ke (s_ix ke (sv 0) s_int) sa_nil)))) (blkOk_by (own := [("k", 1)]) rfl) (fun _ _ _ _ _ => (pg_name (i := 1) sc_columns_of.nd rfl (Or.inr rfl))) t3_name (fun _ _ _ _ _ => sts_nil) (fun _ _ _ _ _ => (s_callK ke h_row_gap (hr.mono (by decide)) takes0 (sa_cons ke (s_lc ke rfl sc_columns_of.nd (pi_strong (si_seq ke (sv 0))) (blkOk_by (own := [("row", 2)]) rfl) (fun _ _ _ _ _ => (pg_name (i := 2) sc_columns_of.nd rfl (Or.inl rfl))) t3_name (fun _ _ _ _ _ => sts_nil) (fun _ _ _ _ _ => (s_ix ke (sv 2) (sv 1)))) sa_nil) (ln_cons ln_nil))))))
def fo_columns_of : FO Unit := runO 3 (oRetX (xLcO (iOf rgOf1 (xN gLen (lCons (x2 gIx (xVar 0) (xInt 0)) lNil))) (zN 1) bYes (xCall f_row_gap (lCons (xLc (iOf seqOf (xVar 0)) (zN 2) bYes (x2 gIx (xVar 2) (xVar 1)) [2]) lNil)) [1]))
theorem ko_columns_of (D : Df K mg "columns_of" s_columns_of) (B : Bt mg) (h_row_gap : Kp P w K mg base cls W0 "row_gap" 1 1 f_row_gap) : Ko P w K mg base cls W0 "columns_of" 2 1 fo_columns_of :=
  koZ (k := 1) (N := ["sheet", "k", "row"]) (ps := ["sheet"]) D sc_columns_of (fun _ _ _ _ _ _ us hl => match us, hl with | [_], _ => rfl) fun f cdv A outer s H E e ke hr =>
    (so_retX ke (x_lcO ke rfl sc_columns_of.nd (pi_strong (si_range1 ke B.range (s_callB ke cg_len B.len bt_len (sa_cons ke (s_ix ke (sv 0) s_int) sa_nil)))) (blkOk_by (own := [("k", 1)]) rfl) (fun _ _ _ _ _ => (pg_name (i := 1) sc_columns_of.nd rfl (Or.inr rfl))) t3_name (fun _ _ _ _ _ => sts_nil) (fun _ _ _ _ _ => (s_callK ke h_row_gap (hr.mono (by decide)) takes0 (sa_cons ke (s_lc ke rfl sc_columns_of.nd (pi_strong (si_seq ke (sv 0))) (blkOk_by (own := [("row", 2)]) rfl) (fun _ _ _ _ _ => (pg_name (i := 2) sc_columns_of.nd rfl (Or.inl rfl))) t3_name (fun _ _ _ _ _ => sts_nil) (fun _ _ _ _ _ => (s_ix ke (sv 2) (sv 1)))) sa_nil) (ln_cons ln_nil)))))
/-! ## Ledger.gaps -/
abbrev s_Ledger_gaps : Stmt := clsS (topS 21) 3
theorem sc_Ledger_gaps : FnScope ["self"] ["self"] (defScope s_Ledger_gaps) := ⟨rfl, rfl, rfl, by decide +kernel, rfl, by decide +kernel, by decide +kernel⟩
def b_Ledger_gaps : SF LW :=
  (sRet (xN gTupD (lCons (xFrzX (xSelfX (xCallO (liftO fo_rows_of) (lCons xRows lNil)))) (lCons (xFrzX (xSelfX (xCallO (liftO fo_columns_of) (lCons xRows lNil)))) lNil))))
def f_Ledger_gaps : FZ LW := runZ 1 b_Ledger_gaps
theorem k_Ledger_gaps (D : DfM K C "gaps" "Ledger.gaps" s_Ledger_gaps) (B : Bt mg) (ho_columns_of : Ko P w K mg base cls W0 "columns_of" 2 1 fo_columns_of) (ho_rows_of : Ko P w K mg base cls W0 "rows_of" 2 1 fo_rows_of) (TL : LedC K C) : KpM P w K mg base C cls "gaps" 3 1 f_Ledger_gaps :=
  kpM (k := 2) (N := ["self"]) (ps := ["self"]) D sc_Ledger_gaps (fun _ _ _ _ _ _ us hl => match us, hl with | [_], _ => rfl) fun f cdv A outer s H E e ke hr =>
    (ss_one (ss_ret ke (s_tup ke (sa_cons ke (s_frzX ke (x_self fun e0 ke => (x_callO ke ho_rows_of.lift (hr.mono (by decide)) (takes_of rfl rfl rfl rfl) (sa_cons ke (s_rows TL (L2.pv 0)) sa_nil) (ln_cons ln_nil)))) (sa_cons ke (s_frzX ke (x_self fun e0 ke => (x_callO ke ho_columns_of.lift (hr.mono (by decide)) (takes_of rfl rfl rfl rfl) (sa_cons ke (s_rows TL (L2.pv 0)) sa_nil) (ln_cons ln_nil)))) sa_nil)))))
/-! ## Ledger.sheet -/
abbrev s_Ledger_sheet : Stmt := clsS (topS 21) 2
theorem sc_Ledger_sheet : FnScope ["self", "row"] ["self"] (defScope s_Ledger_sheet) := ⟨rfl, rfl, rfl, by decide +kernel, rfl, by decide +kernel, by decide +kernel⟩
def b_Ledger_sheet : SF LW :=
  (sRet (xFrzX (xSelfX (xLcOO (iOf seqOf xRows) (zN 1) (xListO (xVar 1)) [1]))))
def f_Ledger_sheet : FZ LW := runZ 2 b_Ledger_sheet
theorem k_Ledger_sheet (D : DfM K C "sheet" "Ledger.sheet" s_Ledger_sheet) (B : Bt mg) (TL : LedC K C) : KpM P w K mg base C cls "sheet" 1 1 f_Ledger_sheet :=
  kpM (k := 0) (N := ["self", "row"]) (ps := ["self"]) D sc_Ledger_sheet (fun _ _ _ _ _ _ us hl => match us, hl with | [_], _ => rfl) fun f cdv A outer s H E e ke hr =>
    (ss_one (ss_ret ke (s_frzX ke (x_self fun e0 ke => (x_lcOO ke rfl sc_Ledger_sheet.nd (pi_strong (si_seq ke (s_rows TL (L2.pv 0)))) (blkOk_by (own := [("row", 1)]) rfl) (fun _ _ _ _ _ => (pg_name (i := 1) sc_Ledger_sheet.nd rfl (Or.inl rfl))) t3_name (fun _ _ _ _ _ => (x_listO ke B.list (sv 1))))))))
/-! ## _law_start -/
abbrev s_Lstart : Stmt := topS 23
theorem sc_Lstart : FnScope ["_law_script"] ["_law_script"] (defScope s_Lstart) := ⟨rfl, rfl, rfl, by decide +kernel, rfl, by decide +kernel, by decide +kernel⟩
def b_Lstart : SF Wd :=
  (sStart (xIfX (xB asB (x2 gNeS (xVar 0) (xN gList lNil))) (xListS (xVar 0)) (xOwn (lCons (xInt 0) lNil))))
def f_Lstart : FZ Wd := runZ 1 b_Lstart
theorem k_Lstart (D : Df K mg "_law_start" s_Lstart) (B : Bt mg) : Kp P w K mg base cls WW "_law_start" 1 1 f_Lstart :=
  kpZ (k := 0) (N := ["_law_script"]) (ps := ["_law_script"]) D sc_Lstart (fun _ _ _ _ _ _ us hl => match us, hl with | [_], _ => rfl) fun f cdv A outer s H E e ke hr =>
    (ss_one (ss_start ke (x_if ke (st_cmp ke (og_neS hr.units) (sv 0) (s_list ke sa_nil) (nomark _)) (x_listS ke B.list (sv 0)) (x_own ke (sa_cons ke s_int sa_nil)))))
/-! ## _law_draw -/
abbrev s_Ldraw : Stmt := topS 24
theorem sc_Ldraw : FnScope ["_law_draws", "_law_limit", "_law_numbers", "_law_at", "_law_cell", "_law_mixed"] ["_law_draws", "_law_limit"] (defScope s_Ldraw) := ⟨rfl, rfl, rfl, by decide +kernel, rfl, by decide +kernel, by decide +kernel⟩
def b_Ldraw : SF Wd :=
  (sSeq (sSet 2 (xV (xIxW (xVar 0) (xInt 0))))
    (sSeq (sSetW (xVar 0) (xInt 1) (x2 gAdd (xIxW (xVar 0) (xInt 1)) (xInt 1)))
    (sSeq (sSet 3 (xV (x2 gMod (xIxW (xVar 0) (xInt 1)) (xLenW (xVar 2)))))
    (sSeq (sSet 4 (xV (xIxW (xVar 2) (xVar 3))))
    (sSeq (sIf (xB asB (x2 gGe (xVar 4) (xInt 1000000000000000000))) (sSeq (sSetW (xVar 2) (xVar 3) (x2 gDiv (xVar 4) (xVar 1)))
    (sRet (x2 gMod (xVar 4) (xVar 1)))) sNil)
    (sSeq (sSet 5 (xV (x2 gMod (x2 gAdd (xVar 4) (x2 gMul (xInt 104729) (xIxW (xVar 0) (xInt 1)))) (xInt 4294967291))))
    (sSeq (sSet 5 (xV (x2 gMod (x2 gPow (xVar 5) (xInt 5)) (xInt 4294967279))))
    (sRet (x2 gMod (x2 gDiv (x2 gMod (x2 gAdd (x2 gMul (x2 gDiv (xVar 5) (xInt 64)) (xInt 69621)) (xVar 5)) (xInt 4294967231)) (xInt 8)) (xVar 1))))))))))
def f_Ldraw : FZ Wd := runZ 6 b_Ldraw
theorem k_Ldraw (D : Df K mg "_law_draw" s_Ldraw) (B : Bt mg) : Kp P w K mg base cls WW "_law_draw" 1 2 f_Ldraw :=
  kpZ (k := 0) (N := ["_law_draws", "_law_limit", "_law_numbers", "_law_at", "_law_cell", "_law_mixed"]) (ps := ["_law_draws", "_law_limit"]) D sc_Ldraw (fun _ _ _ _ _ _ us hl => match us, hl with | [_, _], _ => rfl) fun f cdv A outer s H E e ke hr =>
    (ss_cons (ss_set (i := 2) ke sc_Ldraw.nd rfl (Or.inl rfl) (x_v (s_ixW ke (sv 0) s_int)))
    (ss_cons (ss_setW ke (sv 0) s_int (s_bin ke og_add (s_ixW ke (sv 0) s_int) s_int))
    (ss_cons (ss_set (i := 3) ke sc_Ldraw.nd rfl (Or.inl rfl) (x_v (s_bin ke og_mod (s_ixW ke (sv 0) s_int) (s_lenW ke B.len (sv 2)))))
    (ss_cons (ss_set (i := 4) ke sc_Ldraw.nd rfl (Or.inl rfl) (x_v (s_ixW ke (sv 2) (sv 3))))
    (ss_cons (ss_if ke (st_cmp ke og_ge (sv 4) s_int (nomark _)) (ss_cons (ss_setW ke (sv 2) (sv 3) (s_bin ke og_div (sv 4) (sv 1)))
    (ss_one (ss_ret ke (s_bin ke og_mod (sv 4) (sv 1))))) ss_nil)
    (ss_cons (ss_set (i := 5) ke sc_Ldraw.nd rfl (Or.inl rfl) (x_v (s_bin ke og_mod (s_bin ke og_add (sv 4) (s_bin ke og_mul s_int (s_ixW ke (sv 0) s_int))) s_int)))
    (ss_cons (ss_set (i := 5) ke sc_Ldraw.nd rfl (Or.inl rfl) (x_v (s_bin ke og_mod (s_bin ke og_pow (sv 5) s_int) s_int)))
    (ss_one (ss_ret ke (s_bin ke og_mod (s_bin ke og_div (s_bin ke og_mod (s_bin ke og_add (s_bin ke og_mul (s_bin ke og_div (sv 5) s_int) s_int) (sv 5)) s_int) s_int) (sv 1)))))))))))
/-! ## _law_pick -/
abbrev s_Lpick : Stmt := topS 25
theorem sc_Lpick : FnScope ["_law_draws", "_law_choices"] ["_law_draws", "_law_choices"] (defScope s_Lpick) := ⟨rfl, rfl, rfl, by decide +kernel, rfl, by decide +kernel, by decide +kernel⟩
def b_Lpick : SF Wd :=
  (sRet (x2 gIx (xVar 1) (xCall f_Ldraw (lCons (xVar 0) (lCons (xN gLen (lCons (xVar 1) lNil)) lNil)))))
def f_Lpick : FZ Wd := runZ 2 b_Lpick
theorem k_Lpick (D : Df K mg "_law_pick" s_Lpick) (B : Bt mg) (h_Ldraw : Kp P w K mg base cls WW "_law_draw" 1 2 f_Ldraw) : Kp P w K mg base cls WW "_law_pick" 2 2 f_Lpick :=
  kpZ (k := 1) (N := ["_law_draws", "_law_choices"]) (ps := ["_law_draws", "_law_choices"]) D sc_Lpick (fun _ _ _ _ _ _ us hl => match us, hl with | [_, _], _ => rfl) fun f cdv A outer s H E e ke hr =>
    (ss_one (ss_ret ke (s_ix ke (sv 1) (s_callK ke h_Ldraw (hr.mono (by decide)) (takes_of rfl rfl rfl rfl) (sa_cons ke (sv 0) (sa_cons ke (s_callB ke cg_len B.len bt_len (sa_cons ke (sv 1) sa_nil)) sa_nil)) (ln_cons (ln_cons ln_nil))))))
/-! ## _law_true -/
abbrev s_Ltrue : Stmt := topS 27
theorem sc_Ltrue : FnScope ["_law_value", "_law_expected"] ["_law_value", "_law_expected"] (defScope s_Ltrue) := ⟨rfl, rfl, rfl, by decide +kernel, rfl, by decide +kernel, by decide +kernel⟩
def b_Ltrue : SF Unit :=
  (sRet (xAnd (x1 (gIsi "bool") (xVar 0)) (x2 gEq (xVar 0) (xVar 1))))
def f_Ltrue : FZ Unit := runZ 2 b_Ltrue
theorem k_Ltrue (D : Df K mg "_law_true" s_Ltrue) (B : Bt mg) : Kp P w K mg base cls W0 "_law_true" 1 2 f_Ltrue :=
  kpZ (k := 0) (N := ["_law_value", "_law_expected"]) (ps := ["_law_value", "_law_expected"]) D sc_Ltrue (fun _ _ _ _ _ _ us hl => match us, hl with | [_, _], _ => rfl) fun f cdv A outer s H E e ke hr =>
    (ss_one (ss_ret ke (s_and ke (s_isi ke (by simp) B.isi B.bool bt_bool (sv 0)) (s_one (s_cmp ke (og_eq hr.units) (sv 0) (sv 1) (nomark _))))))
/-! ## _law_gaps -/
abbrev s_Lgaps : Stmt := topS 30
theorem sc_Lgaps : FnScope ["_law_sheet_here", "_law_rows", "_law_turned_rows", "_law_row", "_law_j"] ["_law_sheet_here"] (defScope s_Lgaps) := ⟨rfl, rfl, rfl, by decide +kernel, rfl, by decide +kernel, by decide +kernel⟩
def b_Lgaps : SF Unit :=
  (sSeq (sSet 1 (xV (xLc (iOf seqOf (xVar 0)) (zN 3) bYes (x2 gSub (xN gSum (lCons (xSl none (some (x1 gNeg (xInt 1))) (xVar 3)) lNil)) (x2 gIx (xVar 3) (x1 gNeg (xInt 1)))) [3])))
    (sSeq (sSet 2 (xV (xLc (iOf rgOf1 (xN gLen (lCons (x2 gIx (xVar 0) (xInt 0)) lNil))) (zN 4) bYes (xLc (iOf seqOf (xVar 0)) (zN 3) bYes (x2 gIx (xVar 3) (xVar 4)) [3]) [4])))
    (sRet (xN gTupD (lCons (xVar 1) (lCons (xLc (iOf seqOf (xVar 2)) (zN 3) bYes (x2 gSub (xN gSum (lCons (xSl none (some (x1 gNeg (xInt 1))) (xVar 3)) lNil)) (x2 gIx (xVar 3) (x1 gNeg (xInt 1)))) [3]) lNil))))))
def f_Lgaps : FZ Unit := runZ 5 b_Lgaps
theorem k_Lgaps (D : Df K mg "_law_gaps" s_Lgaps) (B : Bt mg) : Kp P w K mg base cls W0 "_law_gaps" 1 1 f_Lgaps :=
  kpZ (k := 0) (N := ["_law_sheet_here", "_law_rows", "_law_turned_rows", "_law_row", "_law_j"]) (ps := ["_law_sheet_here"]) D sc_Lgaps (fun _ _ _ _ _ _ us hl => match us, hl with | [_], _ => rfl) fun f cdv A outer s H E e ke hr =>
    (ss_cons (ss_setLc (i := 1) ke rfl sc_Lgaps.nd rfl rfl (sw_true rfl rfl rfl (by decide +kernel)) (pi_strong (si_seq ke (sv 0))) (blkOk_by (own := [("_law_row", 3)]) rfl) (fun _ _ _ _ _ => (pg_name (i := 3) sc_Lgaps.nd rfl (Or.inl rfl))) t3_name (fun _ _ _ _ _ => sts_nil) (fun _ _ _ _ _ => (s_bin ke og_sub (s_callB ke (cg_sum rfl) B.sum bt_sum (sa_cons ke (s_slice (lo := none) (hi := (some (x1 gNeg (xInt 1)))) ke (sv 3) poN (poS (s_neg ke s_int))) sa_nil)) (s_ix ke (sv 3) (s_neg ke s_int)))))
    (ss_cons (ss_setLc (i := 2) ke rfl sc_Lgaps.nd rfl rfl (sw_true rfl rfl rfl (by decide +kernel)) (pi_strong (si_range1 ke B.range (s_callB ke cg_len B.len bt_len (sa_cons ke (s_ix ke (sv 0) s_int) sa_nil)))) (blkOk_by (own := [("_law_j", 4)]) rfl) (fun _ _ _ _ _ => (pg_name (i := 4) sc_Lgaps.nd rfl (Or.inr rfl))) t3_name (fun _ _ _ _ _ => sts_nil) (fun _ _ _ _ _ => (s_lc ke rfl sc_Lgaps.nd (pi_strong (si_seq ke (sv 0))) (blkOk_by (own := [("_law_row", 3)]) rfl) (fun _ _ _ _ _ => (pg_name (i := 3) sc_Lgaps.nd rfl (Or.inl rfl))) t3_name (fun _ _ _ _ _ => sts_nil) (fun _ _ _ _ _ => (s_ix ke (sv 3) (sv 4))))))
    (ss_one (ss_ret ke (s_tup ke (sa_cons ke (sv 1) (sa_cons ke (s_lc ke rfl sc_Lgaps.nd (pi_strong (si_seq ke (sv 2))) (blkOk_by (own := [("_law_row", 3)]) rfl) (fun _ _ _ _ _ => (pg_name (i := 3) sc_Lgaps.nd rfl (Or.inl rfl))) t3_name (fun _ _ _ _ _ => sts_nil) (fun _ _ _ _ _ => (s_bin ke og_sub (s_callB ke (cg_sum rfl) B.sum bt_sum (sa_cons ke (s_slice (lo := none) (hi := (some (x1 gNeg (xInt 1)))) ke (sv 3) poN (poS (s_neg ke s_int))) sa_nil)) (s_ix ke (sv 3) (s_neg ke s_int))))) sa_nil)))))))
/-! ## _law_is_right -/
abbrev s_Lis_right : Stmt := topS 31
theorem sc_Lis_right : FnScope ["_law_sheet_here", "_law_rows", "_law_columns", "_law_gap"] ["_law_sheet_here"] (defScope s_Lis_right) := ⟨rfl, rfl, rfl, by decide +kernel, rfl, by decide +kernel, by decide +kernel⟩
def b_Lis_right : SF Unit :=
  (sSeq (sAsg (zT 2 (zCons (zN 1) (zCons (zN 2) zNil))) (xCall f_Lgaps (lCons (xVar 0) lNil)))
    (sRet (x2 gEq (xLc (iOf seqOf (x2 gAdd (xVar 1) (xVar 2))) (zN 3) (xB asB (x2 gNe (xVar 3) (xInt 0))) (xVar 3) [3]) (xN gList lNil))))
def f_Lis_right : FZ Unit := runZ 4 b_Lis_right
theorem k_Lis_right (D : Df K mg "_law_is_right" s_Lis_right) (B : Bt mg) (h_Lgaps : Kp P w K mg base cls W0 "_law_gaps" 1 1 f_Lgaps) : Kp P w K mg base cls W0 "_law_is_right" 2 1 f_Lis_right :=
  kpZ (k := 1) (N := ["_law_sheet_here", "_law_rows", "_law_columns", "_law_gap"]) (ps := ["_law_sheet_here"]) D sc_Lis_right (fun _ _ _ _ _ _ us hl => match us, hl with | [_], _ => rfl) fun f cdv A outer s H E e ke hr =>
    (ss_cons (ss_asg (vs := [1, 2]) ke (s_callK ke h_Lgaps (hr.mono (by decide)) (takes_of rfl rfl rfl rfl) (sa_cons ke (sv 0) sa_nil) (ln_cons ln_nil)) (pg_tup rfl (pgs_cons (pg_name (i := 1) sc_Lis_right.nd rfl (Or.inl rfl)) (pgs_cons (pg_name (i := 2) sc_Lis_right.nd rfl (Or.inl rfl)) pgs_nil))) (t3_tup (t3_cons t3_name (t3_cons t3_name t3_nil))))
    (ss_one (ss_ret ke (s_cmp ke (og_eq hr.units) (s_lc ke rfl sc_Lis_right.nd (pi_strong (si_seq ke (s_bin ke og_add (sv 1) (sv 2)))) (blkOk_by (own := [("_law_gap", 3)]) rfl) (fun _ _ _ _ _ => (pg_name (i := 3) sc_Lis_right.nd rfl (Or.inl rfl))) t3_name (fun _ _ _ _ _ => (pts_one (st_cmp ke (og_ne hr.units) (sv 3) s_int (nomark _)))) (fun _ _ _ _ _ => (sv 3))) (s_list ke sa_nil) (nomark _)))))
/-! ## _law_all -/
abbrev s_Lall : Stmt := topS 32
theorem sc_Lall : FnScope ["_law_sheet_here", "_law_found", "_law_k", "_law_j"] ["_law_sheet_here"] (defScope s_Lall) := ⟨rfl, rfl, rfl, by decide +kernel, rfl, by decide +kernel, by decide +kernel⟩
def b_Lall : SF Unit :=
  (sSeq (sSet 1 (xV (xN gList lNil)))
    (sSeq (sFor (iOf rgOf1 (xN gLen (lCons (xVar 0) lNil))) (zN 2) (sSet 1 (xV (x2 gAdd (xVar 1) (xLc (iOf rgOf1 (xN gLen (lCons (x2 gIx (xVar 0) (xInt 0)) lNil))) (zN 3) bYes (xN gTupD (lCons (xVar 2) (lCons (xVar 3) lNil))) [3])))))
    (sRet (xVar 1))))
def f_Lall : FZ Unit := runZ 4 b_Lall
theorem k_Lall (D : Df K mg "_law_all" s_Lall) (B : Bt mg) : Kp P w K mg base cls W0 "_law_all" 1 1 f_Lall :=
  kpZ (k := 0) (N := ["_law_sheet_here", "_law_found", "_law_k", "_law_j"]) (ps := ["_law_sheet_here"]) D sc_Lall (fun _ _ _ _ _ _ us hl => match us, hl with | [_], _ => rfl) fun f cdv A outer s H E e ke hr =>
    (ss_cons (ss_set (i := 1) ke sc_Lall.nd rfl (Or.inl rfl) (x_v (s_list ke sa_nil)))
    (ss_cons (ss_for (vs := [2]) ke PassesOwn.leaving rfl (si_range1 ke B.range (s_callB ke cg_len B.len bt_len (sa_cons ke (sv 0) sa_nil))) (pg_name (i := 2) sc_Lall.nd rfl (Or.inr rfl)) t3_name (ss_one (ss_set (i := 1) ke sc_Lall.nd rfl (Or.inl rfl) (x_v (s_bin ke og_add (sv 1) (s_lc ke rfl sc_Lall.nd (pi_strong (si_range1 ke B.range (s_callB ke cg_len B.len bt_len (sa_cons ke (s_ix ke (sv 0) s_int) sa_nil)))) (blkOk_by (own := [("_law_j", 3)]) rfl) (fun _ _ _ _ _ => (pg_name (i := 3) sc_Lall.nd rfl (Or.inl rfl))) t3_name (fun _ _ _ _ _ => sts_nil) (fun _ _ _ _ _ => (s_tup ke (sa_cons ke (sv 2) (sa_cons ke (sv 3) sa_nil))))))))))
    (ss_one (ss_ret ke (sv 1)))))
/-! ## _law_put -/
abbrev s_Lput : Stmt := topS 33
theorem sc_Lput : FnScope ["_law_sheet_here", "_law_changes", "_law_found", "_law_k", "_law_j", "_law_entry", "_law_row"] ["_law_sheet_here", "_law_changes"] (defScope s_Lput) := ⟨rfl, rfl, rfl, by decide +kernel, rfl, by decide +kernel, by decide +kernel⟩
def b_Lput : SF Unit :=
  (sSeq (sSet 2 (xLcOO (iOf seqOf (xVar 0)) (zN 6) (xListO (xVar 6)) [6]))
    (sSeq (sFor (iOf seqOf (xVar 1)) (zT 2 (zCons (zT 2 (zCons (zN 3) (zCons (zN 4) zNil))) (zCons (zN 5) zNil))) (sSetII 2 (xVar 3) (xVar 4) (xVar 5)))
    (sFrz 2 (sRet (xVar 2)))))
def f_Lput : FZ Unit := runZ 7 b_Lput
theorem k_Lput (D : Df K mg "_law_put" s_Lput) (B : Bt mg) : Kp P w K mg base cls W0 "_law_put" 1 2 f_Lput :=
  kpZ (k := 0) (N := ["_law_sheet_here", "_law_changes", "_law_found", "_law_k", "_law_j", "_law_entry", "_law_row"]) (ps := ["_law_sheet_here", "_law_changes"]) D sc_Lput (fun _ _ _ _ _ _ us hl => match us, hl with | [_, _], _ => rfl) fun f cdv A outer s H E e ke hr =>
    (ss_cons (ss_setLcOO (i := 2) ke rfl sc_Lput.nd rfl rfl (sw_true rfl rfl rfl (by decide +kernel)) (pi_strong (si_seq ke (sv 0))) (blkOk_by (own := [("_law_row", 6)]) rfl) (fun _ _ _ _ _ => (pg_name (i := 6) sc_Lput.nd rfl (Or.inl rfl))) t3_name (fun _ _ _ _ _ => (x_listO ke B.list (sv 6))))
    (ss_cons (ss_for (vs := [3, 4, 5]) ke PassesOwn.leaving rfl (si_seq ke (sv 1)) (pg_tup rfl (pgs_cons (pg_tup rfl (pgs_cons (pg_name (i := 3) sc_Lput.nd rfl (Or.inl rfl)) (pgs_cons (pg_name (i := 4) sc_Lput.nd rfl (Or.inl rfl)) pgs_nil))) (pgs_cons (pg_name (i := 5) sc_Lput.nd rfl (Or.inl rfl)) pgs_nil))) (t3_tup (t3_cons (t3_tup (t3_cons t3_name (t3_cons t3_name t3_nil))) (t3_cons t3_name t3_nil))) (ss_one (ss_setII (i := 2) ke (L2.pv 2) (sv 3) (sv 4) (sv 5))))
    (ss_frz (i := 2) (ss_one (ss_ret ke (sv 2))))))
/-! ## _law_table -/
abbrev s_Ltable : Stmt := topS 28
theorem sc_Ltable : FnScope ["_law_draws", "_law_high", "_law_wide", "_law_most", "_law_k", "_law_j"] ["_law_draws"] (defScope s_Ltable) := ⟨rfl, rfl, rfl, by decide +kernel, rfl, by decide +kernel, by decide +kernel⟩
def b_Ltable : SF Wd :=
  (sSeq (sAsg (zT 3 (zCons (zN 1) (zCons (zN 2) (zCons (zN 3) zNil)))) (xN gTupD (lCons (x2 gAdd (xInt 1) (xCall f_Ldraw (lCons (xVar 0) (lCons (xInt 3) lNil)))) (lCons (x2 gAdd (xInt 1) (xCall f_Ldraw (lCons (xVar 0) (lCons (xInt 3) lNil)))) (lCons (xCall f_Lpick (lCons (xVar 0) (lCons (xN gList (lCons (xInt 2) (lCons (xInt 4) (lCons (xInt 10) lNil)))) lNil))) lNil)))))
    (sRet (xLc (iOf rgOf1 (xVar 1)) (zN 4) bYes (xLc (iOf rgOf1 (xVar 2)) (zN 5) bYes (xCall f_Ldraw (lCons (xVar 0) (lCons (xVar 3) lNil))) [5]) [4])))
def f_Ltable : FZ Wd := runZ 6 b_Ltable
theorem k_Ltable (D : Df K mg "_law_table" s_Ltable) (B : Bt mg) (h_Lpick : Kp P w K mg base cls WW "_law_pick" 2 2 f_Lpick) (h_Ldraw : Kp P w K mg base cls WW "_law_draw" 1 2 f_Ldraw) : Kp P w K mg base cls WW "_law_table" 3 1 f_Ltable :=
  kpZ (k := 2) (N := ["_law_draws", "_law_high", "_law_wide", "_law_most", "_law_k", "_law_j"]) (ps := ["_law_draws"]) D sc_Ltable (fun _ _ _ _ _ _ us hl => match us, hl with | [_], _ => rfl) fun f cdv A outer s H E e ke hr =>
    (ss_cons (ss_asg (vs := [1, 2, 3]) ke (s_tup ke (sa_cons ke (s_bin ke og_add s_int (s_callK ke h_Ldraw (hr.mono (by decide)) (takes_of rfl rfl rfl rfl) (sa_cons ke (sv 0) (sa_cons ke s_int sa_nil)) (ln_cons (ln_cons ln_nil)))) (sa_cons ke (s_bin ke og_add s_int (s_callK ke h_Ldraw (hr.mono (by decide)) (takes_of rfl rfl rfl rfl) (sa_cons ke (sv 0) (sa_cons ke s_int sa_nil)) (ln_cons (ln_cons ln_nil)))) (sa_cons ke (s_callK ke h_Lpick (hr.mono (by decide)) (takes_of rfl rfl rfl rfl) (sa_cons ke (sv 0) (sa_cons ke (s_list ke (sa_cons ke s_int (sa_cons ke s_int (sa_cons ke s_int sa_nil)))) sa_nil)) (ln_cons (ln_cons ln_nil))) sa_nil)))) (pg_tup rfl (pgs_cons (pg_name (i := 1) sc_Ltable.nd rfl (Or.inl rfl)) (pgs_cons (pg_name (i := 2) sc_Ltable.nd rfl (Or.inr rfl)) (pgs_cons (pg_name (i := 3) sc_Ltable.nd rfl (Or.inr rfl)) pgs_nil)))) (t3_tup (t3_cons t3_name (t3_cons t3_name (t3_cons t3_name t3_nil)))))
    (ss_one (ss_ret ke (s_lc ke rfl sc_Ltable.nd (pi_strong (si_range1 ke B.range (sv 1))) (blkOk_by (own := [("_law_k", 4)]) rfl) (fun _ _ _ _ _ => (pg_name (i := 4) sc_Ltable.nd rfl (Or.inl rfl))) t3_name (fun _ _ _ _ _ => sts_nil) (fun _ _ _ _ _ => (s_lc ke rfl sc_Ltable.nd (pi_strong (si_range1 ke B.range (sv 2))) (blkOk_by (own := [("_law_j", 5)]) rfl) (fun _ _ _ _ _ => (pg_name (i := 5) sc_Ltable.nd rfl (Or.inl rfl))) t3_name (fun _ _ _ _ _ => sts_nil) (fun _ _ _ _ _ => (s_callK ke h_Ldraw (hr.mono (by decide)) takes0 (sa_cons ke (sv 0) (sa_cons ke (sv 3) sa_nil)) (ln_cons (ln_cons ln_nil))))))))))
/-! ## _law_full -/
abbrev s_Lfull : Stmt := topS 29
theorem sc_Lfull : FnScope ["_law_table_here", "_law_rows", "_law_row", "_law_j"] ["_law_table_here"] (defScope s_Lfull) := ⟨rfl, rfl, rfl, by decide +kernel, rfl, by decide +kernel, by decide +kernel⟩
def b_Lfull : SF Unit :=
  (sSeq (sSet 1 (xV (xLc (iOf seqOf (xVar 0)) (zN 2) bYes (x2 gAdd (xVar 2) (xN gList (lCons (xN gSum (lCons (xVar 2) lNil)) lNil))) [2])))
    (sRet (x2 gAdd (xVar 1) (xN gList (lCons (xLc (iOf rgOf1 (xN gLen (lCons (x2 gIx (xVar 1) (xInt 0)) lNil))) (zN 3) bYes (xN gSum (lCons (xLc (iOf seqOf (xVar 1)) (zN 2) bYes (x2 gIx (xVar 2) (xVar 3)) [2]) lNil)) [3]) lNil)))))
def f_Lfull : FZ Unit := runZ 4 b_Lfull
theorem k_Lfull (D : Df K mg "_law_full" s_Lfull) (B : Bt mg) : Kp P w K mg base cls W0 "_law_full" 1 1 f_Lfull :=
  kpZ (k := 0) (N := ["_law_table_here", "_law_rows", "_law_row", "_law_j"]) (ps := ["_law_table_here"]) D sc_Lfull (fun _ _ _ _ _ _ us hl => match us, hl with | [_], _ => rfl) fun f cdv A outer s H E e ke hr =>
    (ss_cons (ss_set (i := 1) ke sc_Lfull.nd rfl (Or.inr rfl) (x_v (s_lc ke rfl sc_Lfull.nd (pi_strong (si_seq ke (sv 0))) (blkOk_by (own := [("_law_row", 2)]) rfl) (fun _ _ _ _ _ => (pg_name (i := 2) sc_Lfull.nd rfl (Or.inl rfl))) t3_name (fun _ _ _ _ _ => sts_nil) (fun _ _ _ _ _ => (s_bin ke og_add (sv 2) (s_list ke (sa_cons ke (s_callB ke (cg_sum rfl) B.sum bt_sum (sa_cons ke (sv 2) sa_nil)) sa_nil)))))))
    (ss_one (ss_ret ke (s_bin ke og_add (sv 1) (s_list ke (sa_cons ke (s_lc ke rfl sc_Lfull.nd (pi_strong (si_range1 ke B.range (s_callB ke cg_len B.len bt_len (sa_cons ke (s_ix ke (sv 1) s_int) sa_nil)))) (blkOk_by (own := [("_law_j", 3)]) rfl) (fun _ _ _ _ _ => (pg_name (i := 3) sc_Lfull.nd rfl (Or.inr rfl))) t3_name (fun _ _ _ _ _ => sts_nil) (fun _ _ _ _ _ => (s_callB ke (cg_sum rfl) B.sum bt_sum (sa_cons ke (s_lc ke rfl sc_Lfull.nd (pi_strong (si_seq ke (sv 1))) (blkOk_by (own := [("_law_row", 2)]) rfl) (fun _ _ _ _ _ => (pg_name (i := 2) sc_Lfull.nd rfl (Or.inl rfl))) t3_name (fun _ _ _ _ _ => sts_nil) (fun _ _ _ _ _ => (s_ix ke (sv 2) (sv 3)))) sa_nil)))) sa_nil))))))
/-! ## _law_sheet -/
abbrev s_Lsheet : Stmt := topS 34
theorem sc_Lsheet : FnScope ["_law_draws", "_law_most", "_law_sheet_here", "_law_changes", "_law_turn", "_law_place", "_law_by", "_law_far", "_law_entry"] ["_law_draws", "_law_most"] (defScope s_Lsheet) := ⟨rfl, rfl, rfl, by decide +kernel, rfl, by decide +kernel, by decide +kernel⟩
def b_Lsheet : SF Wd :=
  (sSeq (sSet 2 (xV (xCall (liftZ f_Lfull) (lCons (xCall f_Ltable (lCons (xVar 0) lNil)) lNil))))
    (sSeq (sSet 3 (xOwn lNil))
    (sSeq (sFor (iOf rgOf1 (xCall f_Ldraw (lCons (xVar 0) (lCons (x2 gAdd (xVar 1) (xInt 1)) lNil)))) (zN 4) (sSeq (sSet 5 (xV (xCall f_Lpick (lCons (xVar 0) (lCons (xCall (liftZ f_Lall) (lCons (xVar 2) lNil)) lNil)))))
    (sIf (xB asB (x2 (gIn true) (xVar 5) (xLc (iOwn 3) (zT 2 (zCons (zN 7) (zCons (zN 8) zNil))) bYes (xVar 7) [7, 8]))) (sSeq (sSet 6 (xV (x2 gSub (xCall f_Ldraw (lCons (xVar 0) (lCons (xInt 9) lNil))) (xInt 4))))
    (sApp 3 (xN gTupD (lCons (xVar 5) (lCons (x2 gAdd (x2 gIx (x2 gIx (xVar 2) (x2 gIx (xVar 5) (xInt 0))) (x2 gIx (xVar 5) (xInt 1))) (xIf (xB asB (x2 gNe (xVar 6) (xInt 0))) (xVar 6) (xInt 5))) lNil))))) sNil)))
    (sFrz 3 (sRet (xN gTupD (lCons (xVar 2) (lCons (xN gSorted (lCons (xVar 3) lNil)) (lCons (xCall (liftZ f_Lput) (lCons (xVar 2) (lCons (xVar 3) lNil))) lNil)))))))))
def f_Lsheet : FZ Wd := runZ 9 b_Lsheet
theorem k_Lsheet (D : Df K mg "_law_sheet" s_Lsheet) (B : Bt mg) (h_Lfull : Kp P w K mg base cls W0 "_law_full" 1 1 f_Lfull) (h_Ltable : Kp P w K mg base cls WW "_law_table" 3 1 f_Ltable) (h_Ldraw : Kp P w K mg base cls WW "_law_draw" 1 2 f_Ldraw) (h_Lpick : Kp P w K mg base cls WW "_law_pick" 2 2 f_Lpick) (h_Lall : Kp P w K mg base cls W0 "_law_all" 1 1 f_Lall) (h_Lput : Kp P w K mg base cls W0 "_law_put" 1 2 f_Lput) : Kp P w K mg base cls WW "_law_sheet" 4 2 f_Lsheet :=
  kpZ (k := 3) (N := ["_law_draws", "_law_most", "_law_sheet_here", "_law_changes", "_law_turn", "_law_place", "_law_by", "_law_far", "_law_entry"]) (ps := ["_law_draws", "_law_most"]) D sc_Lsheet (fun _ _ _ _ _ _ us hl => match us, hl with | [_, _], _ => rfl) fun f cdv A outer s H E e ke hr =>
    (ss_cons (ss_set (i := 2) ke sc_Lsheet.nd rfl (Or.inl rfl) (x_v (s_callK ke h_Lfull.lift (hr.mono (by decide)) (takes_of rfl rfl rfl rfl) (sa_cons ke (s_callK ke h_Ltable (hr.mono (by decide)) (takes_of rfl rfl rfl rfl) (sa_cons ke (sv 0) sa_nil) (ln_cons ln_nil)) sa_nil) (ln_cons ln_nil))))
    (ss_cons (ss_set (i := 3) ke sc_Lsheet.nd rfl (Or.inl rfl) (x_own ke sa_nil))
    (ss_cons (ss_for (vs := [4]) ke PassesOwn.leaving rfl (si_range1 ke B.range (s_callK ke h_Ldraw (hr.mono (by decide)) (takes_of rfl rfl rfl rfl) (sa_cons ke (sv 0) (sa_cons ke (s_bin ke og_add (sv 1) s_int) sa_nil)) (ln_cons (ln_cons ln_nil)))) (pg_name (i := 4) sc_Lsheet.nd rfl (Or.inl rfl)) t3_name (ss_cons (ss_set (i := 5) ke sc_Lsheet.nd rfl (Or.inl rfl) (x_v (s_callK ke h_Lpick (hr.mono (by decide)) (takes_of rfl rfl rfl rfl) (sa_cons ke (sv 0) (sa_cons ke (s_callK ke h_Lall.lift (hr.mono (by decide)) (takes_of rfl rfl rfl rfl) (sa_cons ke (sv 2) sa_nil) (ln_cons ln_nil)) sa_nil)) (ln_cons (ln_cons ln_nil)))))
    (ss_one (ss_if ke (st_cmp ke (og_notIn hr.units) (sv 5) (s_lc ke rfl sc_Lsheet.nd (si_own ke (L2.pv 3)) (blkOk_by (own := [("_law_far", 7), ("_law_entry", 8)]) rfl) (fun _ _ _ _ _ => (pg_tup rfl (pgs_cons (pg_name (i := 7) sc_Lsheet.nd rfl (Or.inl rfl)) (pgs_cons (pg_name (i := 8) sc_Lsheet.nd rfl (Or.inl rfl)) pgs_nil)))) (t3_tup (t3_cons t3_name (t3_cons t3_name t3_nil))) (fun _ _ _ _ _ => sts_nil) (fun _ _ _ _ _ => (sv 7))) (by rfl)) (ss_cons (ss_set (i := 6) ke sc_Lsheet.nd rfl (Or.inl rfl) (x_v (s_bin ke og_sub (s_callK ke h_Ldraw (hr.mono (by decide)) (takes_of rfl rfl rfl rfl) (sa_cons ke (sv 0) (sa_cons ke s_int sa_nil)) (ln_cons (ln_cons ln_nil))) s_int)))
    (ss_one (ss_app (to := tVar 3) ke (L2.pv 3) (s_tup ke (sa_cons ke (sv 5) (sa_cons ke (s_bin ke og_add (s_ix ke (s_ix ke (sv 2) (s_ix ke (sv 5) s_int)) (s_ix ke (sv 5) s_int)) (s_if ke (st_cmp ke (og_ne hr.units) (sv 6) s_int (nomark _)) (sv 6) s_int)) sa_nil)))))) ss_nil))))
    (ss_frz (i := 3) (ss_one (ss_ret ke (s_tup ke (sa_cons ke (sv 2) (sa_cons ke (s_callB ke (cg_sorted hr.units rfl) B.sorted bt_sorted (sa_cons ke (sv 3) sa_nil)) (sa_cons ke (s_callK ke h_Lput.lift (hr.mono (by decide)) (takes_of rfl rfl rfl rfl) (sa_cons ke (sv 2) (sa_cons ke (sv 3) sa_nil)) (ln_cons (ln_cons ln_nil))) sa_nil))))))))))
/-! ## check_place -/
abbrev s_check_place : Stmt := topS 14
theorem sc_check_place : FnScope ["sheet", "value"] ["sheet", "value"] (defScope s_check_place) := ⟨rfl, rfl, rfl, by decide +kernel, rfl, by decide +kernel, by decide +kernel⟩
def b_check_place : SF Unit :=
  (sSeq (sIf (bOr (bNot (xB truth (x1 (gIsi "tuple") (xVar 1)))) (xB asB (x2 gNe (xN gLen (lCons (xVar 1) lNil)) (xInt 2)))) (sRaise 3) sNil)
    (sIf (bOr (bNot (xB truth (xCall f_is_int (lCons (x2 gIx (xVar 1) (xInt 0)) (lCons (xInt 0) (lCons (x2 gSub (xN gLen (lCons (xVar 0) lNil)) (xInt 1)) lNil)))))) (bNot (xB truth (xCall f_is_int (lCons (x2 gIx (xVar 1) (xInt 1)) (lCons (xInt 0) (lCons (x2 gSub (xN gLen (lCons (x2 gIx (xVar 0) (xInt 0)) lNil)) (xInt 1)) lNil))))))) (sRaise 3) sNil))
def f_check_place : FZ Unit := runZ 2 b_check_place
theorem k_check_place (D : Df K mg "check_place" s_check_place) (B : Bt mg) (h_is_int : Kp P w K mg base cls W0 "is_int" 1 3 f_is_int) (E_BadNumber : ExC K mg "BadNumber" (cls 3)) : Kp P w K mg base cls W0 "check_place" 2 2 f_check_place :=
  kpZ (k := 1) (N := ["sheet", "value"]) (ps := ["sheet", "value"]) D sc_check_place (fun _ _ _ _ _ _ us hl => match us, hl with | [_, _], _ => rfl) fun f cdv A outer s H E e ke hr =>
    (ss_cons (ss_if ke (sw_or ke (st_not ke (st_val ke (s_isi ke (by simp) B.isi B.tuple bt_tuple (sv 1)))) (pw_or1 (st_cmp ke (og_ne hr.units) (s_callB ke cg_len B.len bt_len (sa_cons ke (sv 1) sa_nil)) s_int (nomark _)))).pt (ss_one (ss_raise rfl (takes_of rfl rfl rfl rfl) E_BadNumber)) ss_nil)
    (ss_one (ss_if ke (sw_or ke (st_not ke (st_val ke (s_callK ke h_is_int (hr.mono (by decide)) (takes_of rfl rfl rfl rfl) (sa_cons ke (s_ix ke (sv 1) s_int) (sa_cons ke s_int (sa_cons ke (s_bin ke og_sub (s_callB ke cg_len B.len bt_len (sa_cons ke (sv 0) sa_nil)) s_int) sa_nil))) (ln_cons (ln_cons (ln_cons ln_nil)))))) (pw_or1 (st_not ke (st_val ke (s_callK ke h_is_int (hr.mono (by decide)) (takes_of rfl rfl rfl rfl) (sa_cons ke (s_ix ke (sv 1) s_int) (sa_cons ke s_int (sa_cons ke (s_bin ke og_sub (s_callB ke cg_len B.len bt_len (sa_cons ke (s_ix ke (sv 0) s_int) sa_nil)) s_int) sa_nil))) (ln_cons (ln_cons (ln_cons ln_nil)))))))).pt (ss_one (ss_raise rfl (takes_of rfl rfl rfl rfl) E_BadNumber)) ss_nil)))
/-! ## right -/
abbrev s_right : Stmt := topS 19
theorem sc_right : FnScope ["sheet"] ["sheet"] (defScope s_right) := ⟨rfl, rfl, rfl, by decide +kernel, rfl, by decide +kernel, by decide +kernel⟩
def b_right : SF Unit :=
  (sRet (xAnd (x1 gNot (xN gAny (lCons (xCall f_rows_of (lCons (xVar 0) lNil)) lNil))) (x1 gNot (xN gAny (lCons (xCall f_columns_of (lCons (xVar 0) lNil)) lNil)))))
def f_right : FZ Unit := runZ 1 b_right
theorem k_right (D : Df K mg "right" s_right) (B : Bt mg) (h_rows_of : Kp P w K mg base cls W0 "rows_of" 2 1 f_rows_of) (h_columns_of : Kp P w K mg base cls W0 "columns_of" 2 1 f_columns_of) : Kp P w K mg base cls W0 "right" 3 1 f_right :=
  kpZ (k := 2) (N := ["sheet"]) (ps := ["sheet"]) D sc_right (fun _ _ _ _ _ _ us hl => match us, hl with | [_], _ => rfl) fun f cdv A outer s H E e ke hr =>
    (ss_one (ss_ret ke (s_and ke (s_not ke (s_callB ke (cg_any rfl) B.any bt_any (sa_cons ke (s_callK ke h_rows_of (hr.mono (by decide)) (takes_of rfl rfl rfl rfl) (sa_cons ke (sv 0) sa_nil) (ln_cons ln_nil)) sa_nil))) (s_one (s_not ke (s_callB ke (cg_any rfl) B.any bt_any (sa_cons ke (s_callK ke h_columns_of (hr.mono (by decide)) (takes_of rfl rfl rfl rfl) (sa_cons ke (sv 0) sa_nil) (ln_cons ln_nil)) sa_nil)))))))
/-! ## Ledger.enter -/
abbrev s_Ledger_enter : Stmt := clsS (topS 21) 1
theorem sc_Ledger_enter : FnScope ["self", "place", "entry"] ["self", "place", "entry"] (defScope s_Ledger_enter) := ⟨rfl, rfl, rfl, by decide +kernel, rfl, by decide +kernel, by decide +kernel⟩
def b_Ledger_enter : SF LW :=
  (sSeq (sDrop (xSelf (xCall (liftZ f_check_place) (lCons xRows (lCons (xVar 1) lNil)))))
    (sSeq (sIf (bNot (xB truth (xCall (liftZ f_is_int) (lCons (xVar 2) (lCons (x1 gNeg (xInt 999)) (lCons (xInt 999) lNil)))))) (sRaise 3) sNil)
    (sSeq (sPast (xN gTupD (lCons (xVar 1) (lCons (xSelf (x2 gIx (x2 gIx xRows (x2 gIx (xVar 1) (xInt 0))) (x2 gIx (xVar 1) (xInt 1)))) lNil))))
    (sSeq (sRowSet (x2 gIx (xVar 1) (xInt 0)) (x2 gIx (xVar 1) (xInt 1)) (xVar 2))
    (sRet (xSelf (xCall (liftZ f_right) (lCons xRows lNil))))))))
def f_Ledger_enter : FZ LW := runZ 3 b_Ledger_enter
theorem k_Ledger_enter (D : DfM K C "enter" "Ledger.enter" s_Ledger_enter) (B : Bt mg) (h_check_place : Kp P w K mg base cls W0 "check_place" 2 2 f_check_place) (h_is_int : Kp P w K mg base cls W0 "is_int" 1 3 f_is_int) (h_right : Kp P w K mg base cls W0 "right" 3 1 f_right) (TL : LedC K C) (E_BadNumber : ExC K mg "BadNumber" (cls 3)) : KpM P w K mg base C cls "enter" 4 3 f_Ledger_enter :=
  kpM (k := 3) (N := ["self", "place", "entry"]) (ps := ["self", "place", "entry"]) D sc_Ledger_enter (fun _ _ _ _ _ _ us hl => match us, hl with | [_, _, _], _ => rfl) fun f cdv A outer s H E e ke hr =>
    (ss_cons (ss_expr ke (s_self fun e0 ke => (s_callK ke h_check_place.lift (hr.mono (by decide)) (takes_of rfl rfl rfl rfl) (sa_cons ke (s_rows TL (L2.pv 0)) (sa_cons ke (sv 1) sa_nil)) (ln_cons (ln_cons ln_nil)))))
    (ss_cons (ss_if ke (st_not ke (st_val ke (s_callK ke h_is_int.lift (hr.mono (by decide)) (takes_of rfl rfl rfl rfl) (sa_cons ke (sv 2) (sa_cons ke (s_neg ke s_int) (sa_cons ke s_int sa_nil))) (ln_cons (ln_cons (ln_cons ln_nil)))))) (ss_one (ss_raise rfl (takes_of rfl rfl rfl rfl) E_BadNumber)) ss_nil)
    (ss_cons (ss_past ke TL (L2.pv 0) (s_tup ke (sa_cons ke (sv 1) (sa_cons ke (s_self fun e0 ke => (s_ix ke (s_ix ke (s_rows TL (L2.pv 0)) (s_ix ke (sv 1) s_int)) (s_ix ke (sv 1) s_int))) sa_nil))))
    (ss_cons (ss_rowSet ke TL (L2.pv 0) (fun e0 ke => (s_ix ke (sv 1) s_int)) (fun e0 ke => (s_ix ke (sv 1) s_int)) (fun e0 ke => (sv 2)))
    (ss_one (ss_ret ke (s_self fun e0 ke => (s_callK ke h_right.lift (hr.mono (by decide)) (takes_of rfl rfl rfl rfl) (sa_cons ke (s_rows TL (L2.pv 0)) sa_nil) (ln_cons ln_nil)))))))))
/-! ## Ledger.undo -/
abbrev s_Ledger_undo : Stmt := clsS (topS 21) 4
theorem sc_Ledger_undo : FnScope ["self", "place", "entry"] ["self"] (defScope s_Ledger_undo) := ⟨rfl, rfl, rfl, by decide +kernel, rfl, by decide +kernel, by decide +kernel⟩
def b_Ledger_undo : SF LW :=
  (sSeq (sIf (tSelf (xB asB (x2 gEq xPast (xN gList lNil)))) (sRaise 6) sNil)
    (sSeq (sAsg (zT 2 (zCons (zN 1) (zCons (zN 2) zNil))) xPop)
    (sSeq (sRowSet (x2 gIx (xVar 1) (xInt 0)) (x2 gIx (xVar 1) (xInt 1)) (xVar 2))
    (sRet (xVar 1)))))
def f_Ledger_undo : FZ LW := runZ 3 b_Ledger_undo
theorem k_Ledger_undo (D : DfM K C "undo" "Ledger.undo" s_Ledger_undo) (B : Bt mg) (TL : LedC K C) (E_NotFound : ExC K mg "NotFound" (cls 6)) : KpM P w K mg base C cls "undo" 1 1 f_Ledger_undo :=
  kpM (k := 0) (N := ["self", "place", "entry"]) (ps := ["self"]) D sc_Ledger_undo (fun _ _ _ _ _ _ us hl => match us, hl with | [_], _ => rfl) fun f cdv A outer s H E e ke hr =>
    (ss_cons (ss_if ke (st_self fun e0 ke => (st_cmp ke (og_eq hr.units) (s_past TL (L2.pv 0)) (s_list ke sa_nil) (nomark _))) (ss_one (ss_raise rfl (takes_of rfl rfl rfl rfl) E_NotFound)) ss_nil)
    (ss_cons (ss_asg (vs := [1, 2]) ke (s_pop ke TL (L2.pv 0)) (pg_tup rfl (pgs_cons (pg_name (i := 1) sc_Ledger_undo.nd rfl (Or.inl rfl)) (pgs_cons (pg_name (i := 2) sc_Ledger_undo.nd rfl (Or.inl rfl)) pgs_nil))) (t3_tup (t3_cons t3_name (t3_cons t3_name t3_nil))))
    (ss_cons (ss_rowSet ke TL (L2.pv 0) (fun e0 ke => (s_ix ke (sv 1) s_int)) (fun e0 ke => (s_ix ke (sv 1) s_int)) (fun e0 ke => (sv 2)))
    (ss_one (ss_ret ke (sv 1))))))
/-! ## _law_error -/
abbrev s_Lerror : Stmt := topS 26
theorem sc_Lerror : FnScope ["_law_caught", "_law_kinds"] ["_law_caught"] (defScope s_Lerror) := ⟨rfl, rfl, rfl, by decide +kernel, rfl, by decide +kernel, by decide +kernel⟩
def b_Lerror : SF Unit :=
  (sSeq (sSet 1 (xV (xN gList (lCons (x1 (gIsX 0) (xVar 0)) (lCons (x1 (gIsX 1) (xVar 0)) (lCons (x1 (gIsX 2) (xVar 0)) lNil))))))
    (sSeq (sSet 1 (xV (x2 gAdd (xVar 1) (xN gList (lCons (x1 (gIsX 3) (xVar 0)) (lCons (x1 (gIsX 4) (xVar 0)) lNil))))))
    (sSeq (sSet 1 (xV (x2 gAdd (xVar 1) (xN gList (lCons (x1 (gIsX 5) (xVar 0)) (lCons (x1 (gIsX 6) (xVar 0)) lNil))))))
    (sSeq (sIf (bOr (xB asB (x2 gNe (xMt isL gCnt (xVar 1) (xBl true)) (xInt 1))) (bOr (bNot (xB truth (x1 (gIsX 7) (xVar 0)))) (bNot (xB truth (x1 gIsV (xVar 0)))))) (sRet (xStr "odd")) sNil)
    (sRet (x2 gIx (xN gList (lCons (xStr "sheet") (lCons (xStr "table") (lCons (xStr "sums") (lCons (xStr "number") (lCons (xStr "changes") (lCons (xStr "text") (lCons (xStr "none") lNil)))))))) (xMt isL gIdx (xVar 1) (xBl true))))))))
def f_Lerror : FZ Unit := runZ 2 b_Lerror
theorem k_Lerror (D : Df K mg "_law_error" s_Lerror) (B : Bt mg) (F_x : ExF K cls) (E_BadSums : ExC K mg "BadSums" (cls 2)) (E_BadTable : ExC K mg "BadTable" (cls 1)) (E_BadSheet : ExC K mg "BadSheet" (cls 0)) (E_BadChanges : ExC K mg "BadChanges" (cls 4)) (E_BadNumber : ExC K mg "BadNumber" (cls 3)) (E_NotFound : ExC K mg "NotFound" (cls 6)) (E_BadText : ExC K mg "BadText" (cls 5)) (E_SheetError : ExC K mg "SheetError" (cls 7)) : Kp P w K mg base cls W0 "_law_error" 1 1 f_Lerror :=
  kpZ (k := 0) (N := ["_law_caught", "_law_kinds"]) (ps := ["_law_caught"]) D sc_Lerror (fun _ _ _ _ _ _ us hl => match us, hl with | [_], _ => rfl) fun f cdv A outer s H E e ke hr =>
    (ss_cons (ss_set (i := 1) ke sc_Lerror.nd rfl (Or.inl rfl) (x_v (s_list ke (sa_cons ke (s_isX ke F_x (by decide) B.isi E_BadSheet.gC (sv 0)) (sa_cons ke (s_isX ke F_x (by decide) B.isi E_BadTable.gC (sv 0)) (sa_cons ke (s_isX ke F_x (by decide) B.isi E_BadSums.gC (sv 0)) sa_nil))))))
    (ss_cons (ss_set (i := 1) ke sc_Lerror.nd rfl (Or.inl rfl) (x_v (s_bin ke og_add (sv 1) (s_list ke (sa_cons ke (s_isX ke F_x (by decide) B.isi E_BadNumber.gC (sv 0)) (sa_cons ke (s_isX ke F_x (by decide) B.isi E_BadChanges.gC (sv 0)) sa_nil))))))
    (ss_cons (ss_set (i := 1) ke sc_Lerror.nd rfl (Or.inl rfl) (x_v (s_bin ke og_add (sv 1) (s_list ke (sa_cons ke (s_isX ke F_x (by decide) B.isi E_BadText.gC (sv 0)) (sa_cons ke (s_isX ke F_x (by decide) B.isi E_NotFound.gC (sv 0)) sa_nil))))))
    (ss_cons (ss_if ke (sw_or ke (st_cmp ke (og_ne hr.units) (s_mt ke (fun _ _ _ k h q => isL_ty k h q) PySem.F.plainAttrs_list PySem.F.slot_list_count PySem.F.type_list_count mg_cnt (sv 1) s_bl) s_int (nomark _)) (sw_or ke (st_not ke (st_val ke (s_isX ke F_x (by decide) B.isi E_SheetError.gC (sv 0)))) (pw_or1 (st_not ke (st_val ke (s_isV ke F_x B.isi B.verr (sv 0))))))).pt (ss_one (ss_ret ke s_str)) ss_nil)
    (ss_one (ss_ret ke (s_ix ke (s_list ke (sa_cons ke s_str (sa_cons ke s_str (sa_cons ke s_str (sa_cons ke s_str (sa_cons ke s_str (sa_cons ke s_str (sa_cons ke s_str sa_nil)))))))) (s_mt ke (fun _ _ _ k h q => isL_ty k h q) PySem.F.plainAttrs_list PySem.F.slot_list_index PySem.F.type_list_index mg_idx (sv 1) s_bl))))))))
/-! ## _law_call -/
abbrev s_Lcall : Stmt := topS 35
theorem sc_Lcall : FnScope ["_law_shown", "_law_kind", "_law_place", "_law_entry", "_law_found", "_law_caught", "e"] ["_law_shown", "_law_kind", "_law_place", "_law_entry"] (defScope s_Lcall) := ⟨rfl, rfl, rfl, by decide +kernel, rfl, by decide +kernel, by decide +kernel⟩
def b_Lcall : SF LW :=
  (sSeq (sSet 4 (xV xNon))
    (sSeq (sSet 5 (xV xNon))
    (sSeq (sHold 6 5 (sSet 4 (xV (xIf (xB asB (x2 gEq (xVar 1) (xInt 0))) (xMeth f_Ledger_enter (xVar 0) (lCons (xVar 2) (lCons (xVar 3) lNil))) (xMeth0 f_Ledger_undo (xVar 0))))))
    (sRet (xIf (xB asB (x2 (gIs false) (xVar 5) xNon)) (xVar 4) (xCall (liftZ f_Lerror) (lCons (xVar 5) lNil)))))))
def f_Lcall : FZ LW := runZ 7 b_Lcall
theorem k_Lcall (D : Df K mg "_law_call" s_Lcall) (B : Bt mg) (h_Lerror : Kp P w K mg base cls W0 "_law_error" 1 1 f_Lerror) (hm_enter : KpM P w K mg base C cls "enter" 4 3 f_Ledger_enter) (hm_undo : KpM P w K mg base C cls "undo" 1 1 f_Ledger_undo) (TL : LedC K C) (F_x : ExF K cls) (E_SheetError : ExC K mg "SheetError" (cls 7)) : Kp P w K mg base cls (WL C) "_law_call" 6 4 f_Lcall :=
  kpZ (k := 5) (N := ["_law_shown", "_law_kind", "_law_place", "_law_entry", "_law_found", "_law_caught", "e"]) (ps := ["_law_shown", "_law_kind", "_law_place", "_law_entry"]) D sc_Lcall (fun _ _ _ _ _ _ us hl => match us, hl with | [_, _, _, _], _ => rfl) fun f cdv A outer s H E e ke hr =>
    (ss_cons (ss_set (i := 4) ke sc_Lcall.nd rfl (Or.inl rfl) (x_v s_non))
    (ss_cons (ss_set (i := 5) ke sc_Lcall.nd rfl (Or.inl rfl) (x_v s_non))
    (ss_cons (ss_hold (i := 6) (j := 5) ke rfl rfl rfl F_x sc_Lcall.nd rfl rfl rfl rfl (by decide) E_SheetError.gC fun Wx pn xe tkB _ => (ss_one (ss_set (i := 4) ke sc_Lcall.nd rfl (Or.inl rfl) (x_v (s_if ke (st_cmp ke (og_eq hr.units) (sv 1) s_int (nomark _)) (s_meth ke TL hm_enter (hr.mono (by decide)) tkB (sv 0) (sa_cons ke (sv 2) (sa_cons ke (sv 3) sa_nil)) (ln_cons (ln_cons ln_nil))) (s_meth0 ke TL hm_undo (hr.mono (by decide)) tkB (sv 0)))))))
    (ss_one (ss_ret ke (s_if ke (st_cmp ke og_is (sv 5) s_non (nomark _)) (sv 4) (s_callK ke h_Lerror.lift (hr.mono (by decide)) (takes_of rfl rfl rfl rfl) (sa_cons ke (sv 5) sa_nil) (ln_cons ln_nil))))))))
/-! ## law -/
abbrev s_law : Stmt := topS 36
theorem sc_law : FnScope ["_law_script", "_law_draws", "_law_good", "_law_changes", "_law_sheet_here", "_law_shown", "_law_row", "_law_past", "_law_place", "_law_entry", "_law_turn", "_law_one"] ["_law_script"] (defScope s_law) := ⟨rfl, rfl, rfl, by decide +kernel, rfl, by decide +kernel, by decide +kernel⟩
def b_law_6 : SF LW :=
  (sIf (bNot (xB truth (xCall (liftZ f_Ltrue) (lCons (xCall f_Lcall (lCons (xVar 5) (lCons (xInt 0) (lCons (xVar 8) (lCons (x2 gIx (x2 gIx (xVar 2) (x2 gIx (xVar 8) (xInt 0))) (x2 gIx (xVar 8) (xInt 1))) lNil))))) (lCons (xCall (liftZ f_Lis_right) (lCons (xVar 6) lNil)) lNil))))) (sRet (xBl false)) sNil)
def b_law_5 : SF LW :=
  (sSeq (sSet 6 (xV (xCall (liftZ f_Lput) (lCons (xVar 6) (lCons (xN gList (lCons (xN gTupD (lCons (xVar 8) (lCons (x2 gIx (x2 gIx (xVar 2) (x2 gIx (xVar 8) (xInt 0))) (x2 gIx (xVar 8) (xInt 1))) lNil))) lNil)) lNil)))))
    b_law_6)
def b_law_4 : SF LW :=
  (sSeq (sSet 7 (xV (x2 gAdd (xVar 7) (xN gList (lCons (xN gTupD (lCons (xVar 8) (lCons (x2 gIx (x2 gIx (xVar 6) (x2 gIx (xVar 8) (xInt 0))) (x2 gIx (xVar 8) (xInt 1))) lNil))) lNil)))))
    b_law_5)
def b_law_12 : SF LW :=
  (sIf (bOr (xB asB (x2 gNe (xCall f_Lcall (lCons (xVar 5) (lCons (xInt 0) (lCons (xN gTupD (lCons (xInt 4) (lCons (xInt 0) lNil))) (lCons (xInt 0) lNil))))) (xStr "number"))) (xB asB (x2 gNe (xCall f_Lcall (lCons (xVar 5) (lCons (xInt 0) (lCons (xN gTupD (lCons (xInt 0) (lCons (xInt 0) lNil))) (lCons (xInt 1000) lNil))))) (xStr "number")))) (sRet (xBl false)) sNil)
def b_law_11 : SF LW :=
  (sSeq (sIf (bOr (xB asB (x2 gNe (xMeth0 f_Ledger_sheet (xVar 5)) (xVar 6))) (bOr (xB asB (x2 gNe (xMeth0 f_Ledger_gaps (xVar 5)) (xCall (liftZ f_Lgaps) (lCons (xVar 6) lNil)))) (xB asB (x2 gNe (xLenL f_Ledger___len__ (xVar 5)) (xN gLen (lCons (xVar 7) lNil)))))) (sRet (xBl false)) sNil)
    b_law_12)
def b_law_10 : SF LW :=
  (sSeq (sIf (xB asB (x2 gGt (xCall (liftL f_Ldraw) (lCons (xVar 1) (lCons (xInt 3) lNil))) (xInt 0))) (sSeq (sSet 7 (xV (x2 gAdd (xVar 7) (xN gList (lCons (xN gTupD (lCons (xVar 8) (lCons (x2 gIx (x2 gIx (xVar 6) (x2 gIx (xVar 8) (xInt 0))) (x2 gIx (xVar 8) (xInt 1))) lNil))) lNil)))))
    (sSeq (sSet 6 (xV (xCall (liftZ f_Lput) (lCons (xVar 6) (lCons (xN gList (lCons (xN gTupD (lCons (xVar 8) (lCons (xVar 9) lNil))) lNil)) lNil)))))
    (sIf (bNot (xB truth (xCall (liftZ f_Ltrue) (lCons (xCall f_Lcall (lCons (xVar 5) (lCons (xInt 0) (lCons (xVar 8) (lCons (xVar 9) lNil))))) (lCons (xCall (liftZ f_Lis_right) (lCons (xVar 6) lNil)) lNil))))) (sRet (xBl false)) sNil))) (sIf (xB asB (x2 gEq (xVar 7) (xN gList lNil))) (sIf (xB asB (x2 gNe (xCall f_Lcall (lCons (xVar 5) (lCons (xInt 1) (lCons (xInt 0) (lCons (xInt 0) lNil))))) (xStr "none"))) (sRet (xBl false)) sNil) (sSeq (sIf (xB asB (x2 gNe (xCall f_Lcall (lCons (xVar 5) (lCons (xInt 1) (lCons (xInt 0) (lCons (xInt 0) lNil))))) (x2 gIx (x2 gIx (xVar 7) (x1 gNeg (xInt 1))) (xInt 0)))) (sRet (xBl false)) sNil)
    (sSeq (sSet 6 (xV (xCall (liftZ f_Lput) (lCons (xVar 6) (lCons (xN gList (lCons (x2 gIx (xVar 7) (x1 gNeg (xInt 1))) lNil)) lNil)))))
    (sSet 7 (xV (xSl none (some (x1 gNeg (xInt 1))) (xVar 7))))))))
    b_law_11)
def b_law_9 : SF LW :=
  (sSeq (sPar2 8 9 (xV (xCall (liftL f_Lpick) (lCons (xVar 1) (lCons (xCall (liftZ f_Lall) (lCons (xVar 4) lNil)) lNil)))) (xV (x2 gSub (xCall (liftL f_Ldraw) (lCons (xVar 1) (lCons (xInt 40) lNil))) (xInt 20))))
    b_law_10)
def b_law_13 : SF LW :=
  (sRet (x2 (gIs false) (xCall (liftZ f_is_sheet) (lCons (xMeth0 f_Ledger_sheet (xVar 5)) lNil)) (xBl true)))
def b_law_8 : SF LW :=
  (sSeq (sFor (iOf rgOf1 (xInt 10)) (zN 10) b_law_9)
    b_law_13)
def b_law_7 : SF LW :=
  (sSeq (sIf (bOr (xB asB (x2 gNe (xMeth0 f_Ledger_sheet (xVar 5)) (xVar 2))) (xB asB (x2 gNe (xCall (liftZ f_Lgaps) (lCons (xMeth0 f_Ledger_sheet (xVar 5)) lNil)) (xMeth0 f_Ledger_gaps (xVar 5))))) (sRet (xBl false)) sNil)
    b_law_8)
def b_law_3 : SF LW :=
  (sSeq (sFor (iOf seqOf (xVar 3)) (zT 2 (zCons (zN 8) (zCons (zN 9) zNil))) b_law_4)
    b_law_7)
def b_law_2 : SF LW :=
  (sSeq (sPar3 5 6 7 (xV (xMake f_Ledger___init__ (xVar 4))) (xV (xLc (iOf seqOf (xVar 4)) (zN 11) bYes (xN gListOf (lCons (xVar 11) lNil)) [11])) (xV (xN gList lNil)))
    b_law_3)
def b_law_1 : SF LW :=
  (sSeq (sAsg (zT 3 (zCons (zN 2) (zCons (zN 3) (zCons (zN 4) zNil)))) (xCall (liftL f_Lsheet) (lCons (xVar 1) (lCons (xInt 3) lNil))))
    b_law_2)
def b_law_0 : SF LW :=
  (sSeq (sSet 1 (xV (xCall (liftL f_Lstart) (lCons (xVar 0) lNil))))
    b_law_1)
def b_law : SF LW :=
  b_law_0
def f_law : FZ LW := runZ 12 b_law
theorem fn_law {f : Addr} {fd : FuncData} (F : Fun K "law" "law" s_law f fd) (B : Bt mg) (h_Lstart : Kp P w K mg base cls WW "_law_start" 1 1 f_Lstart) (h_Lsheet : Kp P w K mg base cls WW "_law_sheet" 4 2 f_Lsheet) (h_Lput : Kp P w K mg base cls W0 "_law_put" 1 2 f_Lput) (h_Ltrue : Kp P w K mg base cls W0 "_law_true" 1 2 f_Ltrue) (h_Lis_right : Kp P w K mg base cls W0 "_law_is_right" 2 1 f_Lis_right) (h_Lcall : Kp P w K mg base cls (WL C) "_law_call" 6 4 f_Lcall) (h_Lgaps : Kp P w K mg base cls W0 "_law_gaps" 1 1 f_Lgaps) (h_Lpick : Kp P w K mg base cls WW "_law_pick" 2 2 f_Lpick) (h_Lall : Kp P w K mg base cls W0 "_law_all" 1 1 f_Lall) (h_Ldraw : Kp P w K mg base cls WW "_law_draw" 1 2 f_Ldraw) (h_is_sheet : Kp P w K mg base cls W0 "is_sheet" 3 1 f_is_sheet) (hi_Ledger : KpI P w K mg base C cls "Ledger" 5 f_Ledger___init__) (hm_sheet : KpM P w K mg base C cls "sheet" 1 1 f_Ledger_sheet) (hm_gaps : KpM P w K mg base C cls "gaps" 3 1 f_Ledger_gaps) (hm___len__ : KpM P w K mg base C cls "__len__" 1 1 f_Ledger___len__) (TL : LedC K C) : FnOk P w K mg base (L2.CX P w) 8 f fd ["_law_script"] (spZ cls K (WL C) 1 f_law) :=
  okZ (k := 7) (N := ["_law_script", "_law_draws", "_law_good", "_law_changes", "_law_sheet_here", "_law_shown", "_law_row", "_law_past", "_law_place", "_law_entry", "_law_turn", "_law_one"]) (ps := ["_law_script"]) F sc_law fun cdv A outer s H E e ke hr =>
    (ss_cons (ss_set (i := 1) ke sc_law.nd rfl (Or.inl rfl) (x_v (s_callK ke h_Lstart.liftL (hr.mono (by decide)) (takes_of rfl rfl rfl rfl) (sa_cons ke (sv 0) sa_nil) (ln_cons ln_nil))))
    (ss_cons (ss_asg (vs := [2, 3, 4]) ke (s_callK ke h_Lsheet.liftL (hr.mono (by decide)) (takes_of rfl rfl rfl rfl) (sa_cons ke (sv 1) (sa_cons ke s_int sa_nil)) (ln_cons (ln_cons ln_nil))) (pg_tup rfl (pgs_cons (pg_name (i := 2) sc_law.nd rfl (Or.inl rfl)) (pgs_cons (pg_name (i := 3) sc_law.nd rfl (Or.inl rfl)) (pgs_cons (pg_name (i := 4) sc_law.nd rfl (Or.inl rfl)) pgs_nil)))) (t3_tup (t3_cons t3_name (t3_cons t3_name (t3_cons t3_name t3_nil)))))
    (ss_cons (ss_par3 (i := 5) (j := 6) (l := 7) ke rfl sc_law.nd rfl rfl rfl (by decide) (by decide) (by decide) rfl rfl rfl (x_v (s_make ke hi_Ledger (hr.mono (by decide)) (takes_of rfl rfl rfl rfl) (sv 4))) (x_v (s_lc ke rfl sc_law.nd (pi_strong (si_seq ke (sv 4))) (blkOk_by (own := [("_law_one", 11)]) rfl) (fun _ _ _ _ _ => (pg_name (i := 11) sc_law.nd rfl (Or.inl rfl))) t3_name (fun _ _ _ _ _ => sts_nil) (fun _ _ _ _ _ => (s_callTy ke cg_list B.list bt_list (sa_cons ke (sv 11) sa_nil))))) (x_v (s_list ke sa_nil)))
    (ss_cons (ss_for (vs := [8, 9]) ke PassesOwn.leaving rfl (si_seq ke (sv 3)) (pg_tup rfl (pgs_cons (pg_name (i := 8) sc_law.nd rfl (Or.inl rfl)) (pgs_cons (pg_name (i := 9) sc_law.nd rfl (Or.inl rfl)) pgs_nil))) (t3_tup (t3_cons t3_name (t3_cons t3_name t3_nil))) (ss_cons (ss_set (i := 7) ke sc_law.nd rfl (Or.inl rfl) (x_v (s_bin ke og_add (sv 7) (s_list ke (sa_cons ke (s_tup ke (sa_cons ke (sv 8) (sa_cons ke (s_ix ke (s_ix ke (sv 6) (s_ix ke (sv 8) s_int)) (s_ix ke (sv 8) s_int)) sa_nil))) sa_nil)))))
    (ss_cons (ss_set (i := 6) ke sc_law.nd rfl (Or.inl rfl) (x_v (s_callK ke h_Lput.lift (hr.mono (by decide)) (takes_of rfl rfl rfl rfl) (sa_cons ke (sv 6) (sa_cons ke (s_list ke (sa_cons ke (s_tup ke (sa_cons ke (sv 8) (sa_cons ke (s_ix ke (s_ix ke (sv 2) (s_ix ke (sv 8) s_int)) (s_ix ke (sv 8) s_int)) sa_nil))) sa_nil)) sa_nil)) (ln_cons (ln_cons ln_nil)))))
    (ss_one (ss_if ke (st_not ke (st_val ke (s_callK ke h_Ltrue.lift (hr.mono (by decide)) (takes_of rfl rfl rfl rfl) (sa_cons ke (s_callK ke h_Lcall (hr.mono (by decide)) (takes_of rfl rfl rfl rfl) (sa_cons ke (sv 5) (sa_cons ke s_int (sa_cons ke (sv 8) (sa_cons ke (s_ix ke (s_ix ke (sv 2) (s_ix ke (sv 8) s_int)) (s_ix ke (sv 8) s_int)) sa_nil)))) (ln_cons (ln_cons (ln_cons (ln_cons ln_nil))))) (sa_cons ke (s_callK ke h_Lis_right.lift (hr.mono (by decide)) (takes_of rfl rfl rfl rfl) (sa_cons ke (sv 6) sa_nil) (ln_cons ln_nil)) sa_nil)) (ln_cons (ln_cons ln_nil))))) (ss_one (ss_ret ke s_bl)) ss_nil)))))
    (ss_cons (ss_if ke (sw_or ke (st_cmp ke (og_ne hr.units) (s_meth0 ke TL hm_sheet (hr.mono (by decide)) (takes_of rfl rfl rfl rfl) (sv 5)) (sv 2) (nomark _)) (pw_or1 (st_cmp ke (og_ne hr.units) (s_callK ke h_Lgaps.lift (hr.mono (by decide)) (takes_of rfl rfl rfl rfl) (sa_cons ke (s_meth0 ke TL hm_sheet (hr.mono (by decide)) (takes_of rfl rfl rfl rfl) (sv 5)) sa_nil) (ln_cons ln_nil)) (s_meth0 ke TL hm_gaps (hr.mono (by decide)) (takes_of rfl rfl rfl rfl) (sv 5)) (nomark _)))).pt (ss_one (ss_ret ke s_bl)) ss_nil)
    (ss_cons (ss_for (vs := [10]) ke PassesOwn.leaving rfl (si_range1 ke B.range s_int) (pg_name (i := 10) sc_law.nd rfl (Or.inl rfl)) t3_name (ss_cons (ss_par2 (i := 8) (j := 9) ke rfl sc_law.nd rfl rfl (by decide) rfl rfl (x_v (s_callK ke h_Lpick.liftL (hr.mono (by decide)) (takes_of rfl rfl rfl rfl) (sa_cons ke (sv 1) (sa_cons ke (s_callK ke h_Lall.lift (hr.mono (by decide)) (takes_of rfl rfl rfl rfl) (sa_cons ke (sv 4) sa_nil) (ln_cons ln_nil)) sa_nil)) (ln_cons (ln_cons ln_nil)))) (x_v (s_bin ke og_sub (s_callK ke h_Ldraw.liftL (hr.mono (by decide)) (takes_of rfl rfl rfl rfl) (sa_cons ke (sv 1) (sa_cons ke s_int sa_nil)) (ln_cons (ln_cons ln_nil))) s_int)))
    (ss_cons (ss_if ke (st_cmp ke og_gt (s_callK ke h_Ldraw.liftL (hr.mono (by decide)) (takes_of rfl rfl rfl rfl) (sa_cons ke (sv 1) (sa_cons ke s_int sa_nil)) (ln_cons (ln_cons ln_nil))) s_int (nomark _)) (ss_cons (ss_set (i := 7) ke sc_law.nd rfl (Or.inl rfl) (x_v (s_bin ke og_add (sv 7) (s_list ke (sa_cons ke (s_tup ke (sa_cons ke (sv 8) (sa_cons ke (s_ix ke (s_ix ke (sv 6) (s_ix ke (sv 8) s_int)) (s_ix ke (sv 8) s_int)) sa_nil))) sa_nil)))))
    (ss_cons (ss_set (i := 6) ke sc_law.nd rfl (Or.inl rfl) (x_v (s_callK ke h_Lput.lift (hr.mono (by decide)) (takes_of rfl rfl rfl rfl) (sa_cons ke (sv 6) (sa_cons ke (s_list ke (sa_cons ke (s_tup ke (sa_cons ke (sv 8) (sa_cons ke (sv 9) sa_nil))) sa_nil)) sa_nil)) (ln_cons (ln_cons ln_nil)))))
    (ss_one (ss_if ke (st_not ke (st_val ke (s_callK ke h_Ltrue.lift (hr.mono (by decide)) (takes_of rfl rfl rfl rfl) (sa_cons ke (s_callK ke h_Lcall (hr.mono (by decide)) (takes_of rfl rfl rfl rfl) (sa_cons ke (sv 5) (sa_cons ke s_int (sa_cons ke (sv 8) (sa_cons ke (sv 9) sa_nil)))) (ln_cons (ln_cons (ln_cons (ln_cons ln_nil))))) (sa_cons ke (s_callK ke h_Lis_right.lift (hr.mono (by decide)) (takes_of rfl rfl rfl rfl) (sa_cons ke (sv 6) sa_nil) (ln_cons ln_nil)) sa_nil)) (ln_cons (ln_cons ln_nil))))) (ss_one (ss_ret ke s_bl)) ss_nil)))) (ss_one (ss_if ke (st_cmp ke (og_eq hr.units) (sv 7) (s_list ke sa_nil) (nomark _)) (ss_one (ss_if ke (st_cmp ke (og_ne hr.units) (s_callK ke h_Lcall (hr.mono (by decide)) (takes_of rfl rfl rfl rfl) (sa_cons ke (sv 5) (sa_cons ke s_int (sa_cons ke s_int (sa_cons ke s_int sa_nil)))) (ln_cons (ln_cons (ln_cons (ln_cons ln_nil))))) s_str (nomark _)) (ss_one (ss_ret ke s_bl)) ss_nil)) (ss_cons (ss_if ke (st_cmp ke (og_ne hr.units) (s_callK ke h_Lcall (hr.mono (by decide)) (takes_of rfl rfl rfl rfl) (sa_cons ke (sv 5) (sa_cons ke s_int (sa_cons ke s_int (sa_cons ke s_int sa_nil)))) (ln_cons (ln_cons (ln_cons (ln_cons ln_nil))))) (s_ix ke (s_ix ke (sv 7) (s_neg ke s_int)) s_int) (nomark _)) (ss_one (ss_ret ke s_bl)) ss_nil)
    (ss_cons (ss_set (i := 6) ke sc_law.nd rfl (Or.inl rfl) (x_v (s_callK ke h_Lput.lift (hr.mono (by decide)) (takes_of rfl rfl rfl rfl) (sa_cons ke (sv 6) (sa_cons ke (s_list ke (sa_cons ke (s_ix ke (sv 7) (s_neg ke s_int)) sa_nil)) sa_nil)) (ln_cons (ln_cons ln_nil)))))
    (ss_one (ss_set (i := 7) ke sc_law.nd rfl (Or.inl rfl) (x_v (s_slice (lo := none) (hi := (some (x1 gNeg (xInt 1)))) ke (sv 7) poN (poS (s_neg ke s_int)))))))))))
    (ss_cons (ss_if ke (sw_or ke (st_cmp ke (og_ne hr.units) (s_meth0 ke TL hm_sheet (hr.mono (by decide)) (takes_of rfl rfl rfl rfl) (sv 5)) (sv 6) (nomark _)) (sw_or ke (st_cmp ke (og_ne hr.units) (s_meth0 ke TL hm_gaps (hr.mono (by decide)) (takes_of rfl rfl rfl rfl) (sv 5)) (s_callK ke h_Lgaps.lift (hr.mono (by decide)) (takes_of rfl rfl rfl rfl) (sa_cons ke (sv 6) sa_nil) (ln_cons ln_nil)) (nomark _)) (pw_or1 (st_cmp ke (og_ne hr.units) (s_lenL ke hm___len__ (hr.mono (by decide)) B.len (sv 5)) (s_callB ke cg_len B.len bt_len (sa_cons ke (sv 7) sa_nil)) (nomark _))))).pt (ss_one (ss_ret ke s_bl)) ss_nil)
    (ss_one (ss_if ke (sw_or ke (st_cmp ke (og_ne hr.units) (s_callK ke h_Lcall (hr.mono (by decide)) (takes_of rfl rfl rfl rfl) (sa_cons ke (sv 5) (sa_cons ke s_int (sa_cons ke (s_tup ke (sa_cons ke s_int (sa_cons ke s_int sa_nil))) (sa_cons ke s_int sa_nil)))) (ln_cons (ln_cons (ln_cons (ln_cons ln_nil))))) s_str (nomark _)) (pw_or1 (st_cmp ke (og_ne hr.units) (s_callK ke h_Lcall (hr.mono (by decide)) (takes_of rfl rfl rfl rfl) (sa_cons ke (sv 5) (sa_cons ke s_int (sa_cons ke (s_tup ke (sa_cons ke s_int (sa_cons ke s_int sa_nil))) (sa_cons ke s_int sa_nil)))) (ln_cons (ln_cons (ln_cons (ln_cons ln_nil))))) s_str (nomark _)))).pt (ss_one (ss_ret ke s_bl)) ss_nil))))))
    (ss_one (ss_ret ke (s_cmp ke og_is (s_callK ke h_is_sheet.lift (hr.mono (by decide)) (takes_of rfl rfl rfl rfl) (sa_cons ke (s_meth0 ke TL hm_sheet (hr.mono (by decide)) (takes_of rfl rfl rfl rfl) (sv 5)) sa_nil) (ln_cons ln_nil)) s_bl (nomark _))))))))))
end
end Z

set_option Elab.async false
set_option linter.all false
set_option maxRecDepth 100000
set_option maxHeartbeats 2000000
namespace Z
open PySem
theorem p_is_int (v lo hi : Int) (w : Unit) : f_is_int [pv v, pv lo, pv hi] w = .ok (pv (decide (lo ≤ v) && decide (v ≤ hi))) w := by
  unfold f_is_int b_is_int
  simp (disch := (first | assumption | decide | omega | (simp only [List.length_map, List.length_append, List.length_cons, List.length_nil, List.length_range, len_rg, len_enum, len_cut1]; first | assumption | omega) | (simp only [List.length_map, List.length_append, List.length_cons, List.length_nil, List.length_range, len_rg, len_enum, len_cut1, lim] at *; omega))) only [run_ev, runD_nx, runD_rt, runD_exc, runD_ite, sSeq_ev, seqD_nx, seqD_rt, seqD_exc, seqD_ite, sIf_ev, ifD_ev, xAnd_ev, xOr_ev, xChain_ev, andD_ev, orD_ev, i_and, i_or, i_ff, lim_if, lim_if2, lim_ifL, xOwn_nil, Nat.reduceAdd, Nat.reduceSub, Int.reduceEq, Int.reduceLT, Int.reduceLE, Nat.reduceLT, Nat.reduceLeDiff, Nat.zero_add, Bool.false_eq_true, decide_false, decide_true, reduceCtorEq,  i_andP, i_orP, i_ok, i_pv, t_ii, t_ib, t_il, t_it, t_bi, t_bb, t_bl, t_bt, t_li, t_lb, t_ll, t_lt, t_ti, t_tb, t_tl, t_tt, sRet, sNil, sDrop, sAsg, sRaise, xIf, x2, x1, xN, xCall, xSl, oEv, xLc, wipeZ, iOf, iOf2, xB, bAnd, bOr, bNot, bYes, lNil, lCons, sSet, xV, sFrz, sPar2, sPar3, r_bind, r_bindX, r_bindB, r_calm, r_opt, r_optB, r_int, r_bl, r_non, xVar, e_eq, e_ne, e_add, e_sub, e_cat, e_mul, e_div, e_mod, e_neg, e_not, e_lt, e_le, e_gt, e_ge, e_isB, e_asB, e_truB, e_truI, e_asI, e_oInt, e_asP, e_listOf0, e_lstOf, sExt, sApp, sFor, e_isiI, e_isiB, e_isiL, e_isiP, e_len, e_lenP, e_sum, e_max, e_min, e_max2, e_min2, e_min3, e_all, e_anyI, e_anyB, e_l1, e_l2, e_l3, e_t2, keepD_pv, keepD_p, tzD_some, e_t3, e_asPp, e_zT3, e_listL, e_ix, e_ixP0, e_ixP1, e_sl, e_rev, e_in, e_seq, e_rg, e_en, e_zp, e_zN, e_zT, e_zCons, e_zNil, e_pl, e_noObj, e_noObjP, lift_ev, liftD_ok, liftD_exc, List.all_cons, List.all_nil, iOwn, lcGo_map, lcS_pure, lcS_filt, Option.bind_some, Option.map_some, List.map_cons, List.map_nil, List.length_cons, List.length_nil, List.replicate_succ, List.replicate_zero, List.cons_append, List.nil_append, List.set_cons_zero, List.set_cons_succ, List.getElem?_cons_zero, List.getElem?_cons_succ, Bool.not_true, eq_self, not_true_eq_false, not_false_eq_true, Bool.true_xor, Bool.false_xor, Bool.not_false, Bool.not_not, Bool.true_and, Bool.and_true, Bool.false_and, Bool.and_false, Bool.true_or, Bool.or_true, Bool.or_false, Bool.false_or, decide_eq_true_eq, Bool.not_eq_true', decide_eq_false_iff_not, ne_eq, if_true, if_false, reduceIte, List.getElem?_nil, List.all_map, List.any_map, Function.id_comp, Function.comp_def, id, Bool.decide_eq_false, Bool.decide_eq_true]
abbrev Rows := List (List Int)
/-- a block -/
def isBlock (s : Rows) (lo hi least most : Int) : Bool :=
  decide (lo ≤ s.length) && decide ((s.length : Int) ≤ hi) && (s.all (fun r => decide (lo ≤ r.length) && decide ((r.length : Int) ≤ hi)) && (s.all (fun r => decide ((r.length : Int) = (ixD s 0).length)) && s.all fun r => r.all fun x => decide (least ≤ x) && decide (x ≤ most)))
theorem p_is_block (s : Rows) (lo hi least most : Int) (h0 : 0 < lo) (hl : s.length ≤ lim) (hr : ∀ r ∈ s, r.length ≤ lim) (w : Unit) : f_is_block [pv s, pv lo, pv hi, pv least, pv most] w = .ok (pv (isBlock s lo hi least most)) w := by
  unfold f_is_block b_is_block
  simp (disch := (first | assumption | decide | omega | (simp only [List.length_map, List.length_append, List.length_cons, List.length_nil, List.length_range, len_rg, len_enum, len_cut1]; first | assumption | omega) | (simp only [List.length_map, List.length_append, List.length_cons, List.length_nil, List.length_range, len_rg, len_enum, len_cut1, lim] at *; omega) | grind)) only [run_ev, runD_nx, runD_rt, runD_exc, runD_ite, sSeq_ev, seqD_nx, seqD_rt, seqD_exc, seqD_ite, sIf_ev, ifD_ev, xAnd_ev, xOr_ev, xChain_ev, andD_ev, orD_ev, i_and, i_or, i_ff, lim_if, lim_if2, lim_ifL, xOwn_nil, Nat.reduceAdd, Nat.reduceSub, Int.reduceEq, Int.reduceLT, Int.reduceLE, Nat.reduceLT, Nat.reduceLeDiff, Nat.zero_add, Bool.false_eq_true, decide_false, decide_true, reduceCtorEq,  i_andP, i_orP, i_ok, i_pv, t_ii, t_ib, t_il, t_it, t_bi, t_bb, t_bl, t_bt, t_li, t_lb, t_ll, t_lt, t_ti, t_tb, t_tl, t_tt, sRet, sNil, sDrop, sAsg, sRaise, xIf, x2, x1, xN, xCall, xSl, oEv, xLc, wipeZ, iOf, iOf2, xB, bAnd, bOr, bNot, bYes, lNil, lCons, sSet, xV, sFrz, sPar2, sPar3, r_bind, r_bindX, r_bindB, r_calm, r_opt, r_optB, r_int, r_bl, r_non, xVar, e_eq, e_ne, e_add, e_sub, e_cat, e_mul, e_div, e_mod, e_neg, e_not, e_lt, e_le, e_gt, e_ge, e_isB, e_asB, e_truB, e_truI, e_asI, e_oInt, e_asP, e_listOf0, e_lstOf, sExt, sApp, sFor, e_isiI, e_isiB, e_isiL, e_isiP, e_len, e_lenP, e_sum, e_max, e_min, e_max2, e_min2, e_min3, e_all, e_anyI, e_anyB, e_l1, e_l2, e_l3, e_t2, keepD_pv, keepD_p, tzD_some, e_t3, e_asPp, e_zT3, e_listL, e_ix, e_ixP0, e_ixP1, e_sl, e_rev, e_in, e_seq, e_rg, e_en, e_zp, e_zN, e_zT, e_zCons, e_zNil, e_pl, e_noObj, e_noObjP, lift_ev, liftD_ok, liftD_exc, List.all_cons, List.all_nil, iOwn, lcGo_map, lcS_pure, lcS_filt, Option.bind_some, Option.map_some, List.map_cons, List.map_nil, List.length_cons, List.length_nil, List.replicate_succ, List.replicate_zero, List.cons_append, List.nil_append, List.set_cons_zero, List.set_cons_succ, List.getElem?_cons_zero, List.getElem?_cons_succ, Bool.not_true, eq_self, not_true_eq_false, not_false_eq_true, Bool.true_xor, Bool.false_xor, Bool.not_false, Bool.not_not, Bool.true_and, Bool.and_true, Bool.false_and, Bool.and_false, Bool.true_or, Bool.or_true, Bool.or_false, Bool.false_or, decide_eq_true_eq, Bool.not_eq_true', decide_eq_false_iff_not, ne_eq, if_true, if_false, reduceIte, List.getElem?_nil, List.all_map, List.any_map, Function.id_comp, Function.comp_def, id, Bool.decide_eq_false, Bool.decide_eq_true]
  rw [lc_eq (fun r : List Int => r.all fun x => decide (least ≤ x) && decide (x ≤ most)) (fun x hx w => by
    have := hr x hx
    simp (disch := (first | assumption | decide | omega | (simp only [List.length_map, List.length_append, List.length_cons, List.length_nil, List.length_range, len_rg, len_enum, len_cut1]; first | assumption | omega) | (simp only [List.length_map, List.length_append, List.length_cons, List.length_nil, List.length_range, len_rg, len_enum, len_cut1, lim] at *; omega))) only [run_ev, runD_nx, runD_rt, runD_exc, runD_ite, sSeq_ev, seqD_nx, seqD_rt, seqD_exc, seqD_ite, sIf_ev, ifD_ev, xAnd_ev, xOr_ev, xChain_ev, andD_ev, orD_ev, i_and, i_or, i_ff, lim_if, lim_if2, lim_ifL, xOwn_nil, Nat.reduceAdd, Nat.reduceSub, Int.reduceEq, Int.reduceLT, Int.reduceLE, Nat.reduceLT, Nat.reduceLeDiff, Nat.zero_add, Bool.false_eq_true, decide_false, decide_true, reduceCtorEq,  i_andP, i_orP, i_ok, i_pv, t_ii, t_ib, t_il, t_it, t_bi, t_bb, t_bl, t_bt, t_li, t_lb, t_ll, t_lt, t_ti, t_tb, t_tl, t_tt, sRet, sNil, sDrop, sAsg, sRaise, xIf, x2, x1, xN, xCall, xSl, oEv, xLc, wipeZ, iOf, iOf2, xB, bAnd, bOr, bNot, bYes, lNil, lCons, sSet, xV, sFrz, sPar2, sPar3, r_bind, r_bindX, r_bindB, r_calm, r_opt, r_optB, r_int, r_bl, r_non, xVar, e_eq, e_ne, e_add, e_sub, e_cat, e_mul, e_div, e_mod, e_neg, e_not, e_lt, e_le, e_gt, e_ge, e_isB, e_asB, e_truB, e_truI, e_asI, e_oInt, e_asP, e_listOf0, e_lstOf, sExt, sApp, sFor, e_isiI, e_isiB, e_isiL, e_isiP, e_len, e_lenP, e_sum, e_max, e_min, e_max2, e_min2, e_min3, e_all, e_anyI, e_anyB, e_l1, e_l2, e_l3, e_t2, keepD_pv, keepD_p, tzD_some, e_t3, e_asPp, e_zT3, e_listL, e_ix, e_ixP0, e_ixP1, e_sl, e_rev, e_in, e_seq, e_rg, e_en, e_zp, e_zN, e_zT, e_zCons, e_zNil, e_pl, e_noObj, e_noObjP, lift_ev, liftD_ok, liftD_exc, List.all_cons, List.all_nil, iOwn, lcGo_map, lcS_pure, lcS_filt, Option.bind_some, Option.map_some, List.map_cons, List.map_nil, List.length_cons, List.length_nil, List.replicate_succ, List.replicate_zero, List.cons_append, List.nil_append, List.set_cons_zero, List.set_cons_succ, List.getElem?_cons_zero, List.getElem?_cons_succ, Bool.not_true, eq_self, not_true_eq_false, not_false_eq_true, Bool.true_xor, Bool.false_xor, Bool.not_false, Bool.not_not, Bool.true_and, Bool.and_true, Bool.false_and, Bool.and_false, Bool.true_or, Bool.or_true, Bool.or_false, Bool.false_or, decide_eq_true_eq, Bool.not_eq_true', decide_eq_false_iff_not, ne_eq, if_true, if_false, reduceIte, List.getElem?_nil, List.all_map, List.any_map, Function.id_comp, Function.comp_def, id, Bool.decide_eq_false, Bool.decide_eq_true, p_is_int])]
  simp (disch := (first | assumption | decide | omega | (simp only [List.length_map, List.length_append, List.length_cons, List.length_nil, List.length_range, len_rg, len_enum, len_cut1]; first | assumption | omega) | (simp only [List.length_map, List.length_append, List.length_cons, List.length_nil, List.length_range, len_rg, len_enum, len_cut1, lim] at *; omega))) only [run_ev, runD_nx, runD_rt, runD_exc, runD_ite, sSeq_ev, seqD_nx, seqD_rt, seqD_exc, seqD_ite, sIf_ev, ifD_ev, xAnd_ev, xOr_ev, xChain_ev, andD_ev, orD_ev, i_and, i_or, i_ff, lim_if, lim_if2, lim_ifL, xOwn_nil, Nat.reduceAdd, Nat.reduceSub, Int.reduceEq, Int.reduceLT, Int.reduceLE, Nat.reduceLT, Nat.reduceLeDiff, Nat.zero_add, Bool.false_eq_true, decide_false, decide_true, reduceCtorEq,  i_andP, i_orP, i_ok, i_pv, t_ii, t_ib, t_il, t_it, t_bi, t_bb, t_bl, t_bt, t_li, t_lb, t_ll, t_lt, t_ti, t_tb, t_tl, t_tt, sRet, sNil, sDrop, sAsg, sRaise, xIf, x2, x1, xN, xCall, xSl, oEv, xLc, wipeZ, iOf, iOf2, xB, bAnd, bOr, bNot, bYes, lNil, lCons, sSet, xV, sFrz, sPar2, sPar3, r_bind, r_bindX, r_bindB, r_calm, r_opt, r_optB, r_int, r_bl, r_non, xVar, e_eq, e_ne, e_add, e_sub, e_cat, e_mul, e_div, e_mod, e_neg, e_not, e_lt, e_le, e_gt, e_ge, e_isB, e_asB, e_truB, e_truI, e_asI, e_oInt, e_asP, e_listOf0, e_lstOf, sExt, sApp, sFor, e_isiI, e_isiB, e_isiL, e_isiP, e_len, e_lenP, e_sum, e_max, e_min, e_max2, e_min2, e_min3, e_all, e_anyI, e_anyB, e_l1, e_l2, e_l3, e_t2, keepD_pv, keepD_p, tzD_some, e_t3, e_asPp, e_zT3, e_listL, e_ix, e_ixP0, e_ixP1, e_sl, e_rev, e_in, e_seq, e_rg, e_en, e_zp, e_zN, e_zT, e_zCons, e_zNil, e_pl, e_noObj, e_noObjP, lift_ev, liftD_ok, liftD_exc, List.all_cons, List.all_nil, iOwn, lcGo_map, lcS_pure, lcS_filt, Option.bind_some, Option.map_some, List.map_cons, List.map_nil, List.length_cons, List.length_nil, List.replicate_succ, List.replicate_zero, List.cons_append, List.nil_append, List.set_cons_zero, List.set_cons_succ, List.getElem?_cons_zero, List.getElem?_cons_succ, Bool.not_true, eq_self, not_true_eq_false, not_false_eq_true, Bool.true_xor, Bool.false_xor, Bool.not_false, Bool.not_not, Bool.true_and, Bool.and_true, Bool.false_and, Bool.and_false, Bool.true_or, Bool.or_true, Bool.or_false, Bool.false_or, decide_eq_true_eq, Bool.not_eq_true', decide_eq_false_iff_not, ne_eq, if_true, if_false, reduceIte, List.getElem?_nil, List.all_map, List.any_map, Function.id_comp, Function.comp_def, id, Bool.decide_eq_false, Bool.decide_eq_true, isBlock]
/-- small enough to be asked -/
def Fit (s : Rows) : Prop := s.length ≤ lim ∧ ∀ r ∈ s, r.length ≤ lim
def isSheet (s : Rows) : Bool := isBlock s 2 4 (-999) 999
def isTable (s : Rows) : Bool := isBlock s 1 3 0 9
structure IsB (s : Rows) (lo hi : Nat) (least most : Int) : Prop where
  n1 : lo ≤ s.length
  n2 : s.length ≤ hi
  m1 : ∀ r ∈ s, lo ≤ r.length
  m2 : ∀ r ∈ s, r.length ≤ hi
  eq : ∀ r ∈ s, r.length = (ixD s 0).length
  en : ∀ r ∈ s, ∀ x ∈ r, least ≤ x ∧ x ≤ most
theorem isBlock_iff (s : Rows) (lo hi : Nat) (least most : Int) : isBlock s lo hi least most = true ↔ IsB s lo hi least most := by
  unfold isBlock
  simp only [Bool.and_eq_true, decide_eq_true_eq, List.all_eq_true]
  constructor
  · rintro ⟨⟨h1, h2⟩, h3, h4, h5⟩
    exact ⟨by omega, by omega, fun r hr => by have := h3 r hr; omega, fun r hr => by have := h3 r hr; omega, fun r hr => by have := h4 r hr; omega, fun r hr x hx => h5 r hr x hx⟩
  · rintro ⟨h1, h2, h3, h4, h5, h6⟩
    exact ⟨⟨by omega, by omega⟩, fun r hr => ⟨by have := h3 r hr; omega, by have := h4 r hr; omega⟩, fun r hr => by have := h5 r hr; omega, fun r hr x hx => h6 r hr x hx⟩
abbrev Sh (s : Rows) : Prop := IsB s 2 4 (-999) 999
abbrev Ta (s : Rows) : Prop := IsB s 1 3 0 9
theorem isSheet_iff (s : Rows) : isSheet s = true ↔ Sh s := isBlock_iff s 2 4 _ _
theorem isTable_iff (s : Rows) : isTable s = true ↔ Ta s := isBlock_iff s 1 3 _ _
theorem IsB.fit {s : Rows} {lo hi : Nat} {a b : Int} (h : IsB s lo hi a b) (hh : hi ≤ 4) : Fit s := ⟨by have := h.n2; unfold lim; omega, fun r hr => by have := h.m2 r hr; unfold lim; omega⟩
theorem p_is_sheet (s : Rows) (h : Fit s) (w : Unit) : f_is_sheet [pv s] w = .ok (pv (isSheet s)) w := by
  unfold f_is_sheet b_is_sheet
  simp (disch := (first | assumption | decide | omega | (simp only [List.length_map, List.length_append, List.length_cons, List.length_nil, List.length_range, len_rg, len_enum, len_cut1]; first | assumption | omega) | (simp only [List.length_map, List.length_append, List.length_cons, List.length_nil, List.length_range, len_rg, len_enum, len_cut1, lim] at *; omega))) only [run_ev, runD_nx, runD_rt, runD_exc, runD_ite, sSeq_ev, seqD_nx, seqD_rt, seqD_exc, seqD_ite, sIf_ev, ifD_ev, xAnd_ev, xOr_ev, xChain_ev, andD_ev, orD_ev, i_and, i_or, i_ff, lim_if, lim_if2, lim_ifL, xOwn_nil, Nat.reduceAdd, Nat.reduceSub, Int.reduceEq, Int.reduceLT, Int.reduceLE, Nat.reduceLT, Nat.reduceLeDiff, Nat.zero_add, Bool.false_eq_true, decide_false, decide_true, reduceCtorEq,  i_andP, i_orP, i_ok, i_pv, t_ii, t_ib, t_il, t_it, t_bi, t_bb, t_bl, t_bt, t_li, t_lb, t_ll, t_lt, t_ti, t_tb, t_tl, t_tt, sRet, sNil, sDrop, sAsg, sRaise, xIf, x2, x1, xN, xCall, xSl, oEv, xLc, wipeZ, iOf, iOf2, xB, bAnd, bOr, bNot, bYes, lNil, lCons, sSet, xV, sFrz, sPar2, sPar3, r_bind, r_bindX, r_bindB, r_calm, r_opt, r_optB, r_int, r_bl, r_non, xVar, e_eq, e_ne, e_add, e_sub, e_cat, e_mul, e_div, e_mod, e_neg, e_not, e_lt, e_le, e_gt, e_ge, e_isB, e_asB, e_truB, e_truI, e_asI, e_oInt, e_asP, e_listOf0, e_lstOf, sExt, sApp, sFor, e_isiI, e_isiB, e_isiL, e_isiP, e_len, e_lenP, e_sum, e_max, e_min, e_max2, e_min2, e_min3, e_all, e_anyI, e_anyB, e_l1, e_l2, e_l3, e_t2, keepD_pv, keepD_p, tzD_some, e_t3, e_asPp, e_zT3, e_listL, e_ix, e_ixP0, e_ixP1, e_sl, e_rev, e_in, e_seq, e_rg, e_en, e_zp, e_zN, e_zT, e_zCons, e_zNil, e_pl, e_noObj, e_noObjP, lift_ev, liftD_ok, liftD_exc, List.all_cons, List.all_nil, iOwn, lcGo_map, lcS_pure, lcS_filt, Option.bind_some, Option.map_some, List.map_cons, List.map_nil, List.length_cons, List.length_nil, List.replicate_succ, List.replicate_zero, List.cons_append, List.nil_append, List.set_cons_zero, List.set_cons_succ, List.getElem?_cons_zero, List.getElem?_cons_succ, Bool.not_true, eq_self, not_true_eq_false, not_false_eq_true, Bool.true_xor, Bool.false_xor, Bool.not_false, Bool.not_not, Bool.true_and, Bool.and_true, Bool.false_and, Bool.and_false, Bool.true_or, Bool.or_true, Bool.or_false, Bool.false_or, decide_eq_true_eq, Bool.not_eq_true', decide_eq_false_iff_not, ne_eq, if_true, if_false, reduceIte, List.getElem?_nil, List.all_map, List.any_map, Function.id_comp, Function.comp_def, id, Bool.decide_eq_false, Bool.decide_eq_true]
  rw [p_is_block s 2 4 _ _ (by decide) h.1 h.2]
  simp (disch := (first | assumption | decide | omega | (simp only [List.length_map, List.length_append, List.length_cons, List.length_nil, List.length_range, len_rg, len_enum, len_cut1]; first | assumption | omega) | (simp only [List.length_map, List.length_append, List.length_cons, List.length_nil, List.length_range, len_rg, len_enum, len_cut1, lim] at *; omega))) only [run_ev, runD_nx, runD_rt, runD_exc, runD_ite, sSeq_ev, seqD_nx, seqD_rt, seqD_exc, seqD_ite, sIf_ev, ifD_ev, xAnd_ev, xOr_ev, xChain_ev, andD_ev, orD_ev, i_and, i_or, i_ff, lim_if, lim_if2, lim_ifL, xOwn_nil, Nat.reduceAdd, Nat.reduceSub, Int.reduceEq, Int.reduceLT, Int.reduceLE, Nat.reduceLT, Nat.reduceLeDiff, Nat.zero_add, Bool.false_eq_true, decide_false, decide_true, reduceCtorEq,  i_andP, i_orP, i_ok, i_pv, t_ii, t_ib, t_il, t_it, t_bi, t_bb, t_bl, t_bt, t_li, t_lb, t_ll, t_lt, t_ti, t_tb, t_tl, t_tt, sRet, sNil, sDrop, sAsg, sRaise, xIf, x2, x1, xN, xCall, xSl, oEv, xLc, wipeZ, iOf, iOf2, xB, bAnd, bOr, bNot, bYes, lNil, lCons, sSet, xV, sFrz, sPar2, sPar3, r_bind, r_bindX, r_bindB, r_calm, r_opt, r_optB, r_int, r_bl, r_non, xVar, e_eq, e_ne, e_add, e_sub, e_cat, e_mul, e_div, e_mod, e_neg, e_not, e_lt, e_le, e_gt, e_ge, e_isB, e_asB, e_truB, e_truI, e_asI, e_oInt, e_asP, e_listOf0, e_lstOf, sExt, sApp, sFor, e_isiI, e_isiB, e_isiL, e_isiP, e_len, e_lenP, e_sum, e_max, e_min, e_max2, e_min2, e_min3, e_all, e_anyI, e_anyB, e_l1, e_l2, e_l3, e_t2, keepD_pv, keepD_p, tzD_some, e_t3, e_asPp, e_zT3, e_listL, e_ix, e_ixP0, e_ixP1, e_sl, e_rev, e_in, e_seq, e_rg, e_en, e_zp, e_zN, e_zT, e_zCons, e_zNil, e_pl, e_noObj, e_noObjP, lift_ev, liftD_ok, liftD_exc, List.all_cons, List.all_nil, iOwn, lcGo_map, lcS_pure, lcS_filt, Option.bind_some, Option.map_some, List.map_cons, List.map_nil, List.length_cons, List.length_nil, List.replicate_succ, List.replicate_zero, List.cons_append, List.nil_append, List.set_cons_zero, List.set_cons_succ, List.getElem?_cons_zero, List.getElem?_cons_succ, Bool.not_true, eq_self, not_true_eq_false, not_false_eq_true, Bool.true_xor, Bool.false_xor, Bool.not_false, Bool.not_not, Bool.true_and, Bool.and_true, Bool.false_and, Bool.and_false, Bool.true_or, Bool.or_true, Bool.or_false, Bool.false_or, decide_eq_true_eq, Bool.not_eq_true', decide_eq_false_iff_not, ne_eq, if_true, if_false, reduceIte, List.getElem?_nil, List.all_map, List.any_map, Function.id_comp, Function.comp_def, id, Bool.decide_eq_false, Bool.decide_eq_true, isSheet]
theorem p_check_sheet (s : Rows) (h : Sh s) (w : Unit) : f_check_sheet [pv s] w = .ok (.p .none) w := by
  have e : isSheet s = true := (isSheet_iff s).mpr h
  unfold f_check_sheet b_check_sheet
  simp (disch := (first | assumption | decide | omega | (simp only [List.length_map, List.length_append, List.length_cons, List.length_nil, List.length_range, len_rg, len_enum, len_cut1]; first | assumption | omega) | (simp only [List.length_map, List.length_append, List.length_cons, List.length_nil, List.length_range, len_rg, len_enum, len_cut1, lim] at *; omega))) only [run_ev, runD_nx, runD_rt, runD_exc, runD_ite, sSeq_ev, seqD_nx, seqD_rt, seqD_exc, seqD_ite, sIf_ev, ifD_ev, xAnd_ev, xOr_ev, xChain_ev, andD_ev, orD_ev, i_and, i_or, i_ff, lim_if, lim_if2, lim_ifL, xOwn_nil, Nat.reduceAdd, Nat.reduceSub, Int.reduceEq, Int.reduceLT, Int.reduceLE, Nat.reduceLT, Nat.reduceLeDiff, Nat.zero_add, Bool.false_eq_true, decide_false, decide_true, reduceCtorEq,  i_andP, i_orP, i_ok, i_pv, t_ii, t_ib, t_il, t_it, t_bi, t_bb, t_bl, t_bt, t_li, t_lb, t_ll, t_lt, t_ti, t_tb, t_tl, t_tt, sRet, sNil, sDrop, sAsg, sRaise, xIf, x2, x1, xN, xCall, xSl, oEv, xLc, wipeZ, iOf, iOf2, xB, bAnd, bOr, bNot, bYes, lNil, lCons, sSet, xV, sFrz, sPar2, sPar3, r_bind, r_bindX, r_bindB, r_calm, r_opt, r_optB, r_int, r_bl, r_non, xVar, e_eq, e_ne, e_add, e_sub, e_cat, e_mul, e_div, e_mod, e_neg, e_not, e_lt, e_le, e_gt, e_ge, e_isB, e_asB, e_truB, e_truI, e_asI, e_oInt, e_asP, e_listOf0, e_lstOf, sExt, sApp, sFor, e_isiI, e_isiB, e_isiL, e_isiP, e_len, e_lenP, e_sum, e_max, e_min, e_max2, e_min2, e_min3, e_all, e_anyI, e_anyB, e_l1, e_l2, e_l3, e_t2, keepD_pv, keepD_p, tzD_some, e_t3, e_asPp, e_zT3, e_listL, e_ix, e_ixP0, e_ixP1, e_sl, e_rev, e_in, e_seq, e_rg, e_en, e_zp, e_zN, e_zT, e_zCons, e_zNil, e_pl, e_noObj, e_noObjP, lift_ev, liftD_ok, liftD_exc, List.all_cons, List.all_nil, iOwn, lcGo_map, lcS_pure, lcS_filt, Option.bind_some, Option.map_some, List.map_cons, List.map_nil, List.length_cons, List.length_nil, List.replicate_succ, List.replicate_zero, List.cons_append, List.nil_append, List.set_cons_zero, List.set_cons_succ, List.getElem?_cons_zero, List.getElem?_cons_succ, Bool.not_true, eq_self, not_true_eq_false, not_false_eq_true, Bool.true_xor, Bool.false_xor, Bool.not_false, Bool.not_not, Bool.true_and, Bool.and_true, Bool.false_and, Bool.and_false, Bool.true_or, Bool.or_true, Bool.or_false, Bool.false_or, decide_eq_true_eq, Bool.not_eq_true', decide_eq_false_iff_not, ne_eq, if_true, if_false, reduceIte, List.getElem?_nil, List.all_map, List.any_map, Function.id_comp, Function.comp_def, id, Bool.decide_eq_false, Bool.decide_eq_true, p_is_sheet s (h.fit (by decide)), e]
def rowGap (r : List Int) : Int := (cut r none (some (-1))).sum - ixD r (-1)
theorem p_row_gap (r : List Int) (h : 0 < r.length) (w : Unit) : f_row_gap [pv r] w = .ok (pv (rowGap r)) w := by
  unfold f_row_gap b_row_gap
  simp (disch := (first | assumption | decide | omega | (simp only [List.length_map, List.length_append, List.length_cons, List.length_nil, List.length_range, len_rg, len_enum, len_cut1]; first | assumption | omega) | (simp only [List.length_map, List.length_append, List.length_cons, List.length_nil, List.length_range, len_rg, len_enum, len_cut1, lim] at *; omega))) only [run_ev, runD_nx, runD_rt, runD_exc, runD_ite, sSeq_ev, seqD_nx, seqD_rt, seqD_exc, seqD_ite, sIf_ev, ifD_ev, xAnd_ev, xOr_ev, xChain_ev, andD_ev, orD_ev, i_and, i_or, i_ff, lim_if, lim_if2, lim_ifL, xOwn_nil, Nat.reduceAdd, Nat.reduceSub, Int.reduceEq, Int.reduceLT, Int.reduceLE, Nat.reduceLT, Nat.reduceLeDiff, Nat.zero_add, Bool.false_eq_true, decide_false, decide_true, reduceCtorEq,  i_andP, i_orP, i_ok, i_pv, t_ii, t_ib, t_il, t_it, t_bi, t_bb, t_bl, t_bt, t_li, t_lb, t_ll, t_lt, t_ti, t_tb, t_tl, t_tt, sRet, sNil, sDrop, sAsg, sRaise, xIf, x2, x1, xN, xCall, xSl, oEv, xLc, wipeZ, iOf, iOf2, xB, bAnd, bOr, bNot, bYes, lNil, lCons, sSet, xV, sFrz, sPar2, sPar3, r_bind, r_bindX, r_bindB, r_calm, r_opt, r_optB, r_int, r_bl, r_non, xVar, e_eq, e_ne, e_add, e_sub, e_cat, e_mul, e_div, e_mod, e_neg, e_not, e_lt, e_le, e_gt, e_ge, e_isB, e_asB, e_truB, e_truI, e_asI, e_oInt, e_asP, e_listOf0, e_lstOf, sExt, sApp, sFor, e_isiI, e_isiB, e_isiL, e_isiP, e_len, e_lenP, e_sum, e_max, e_min, e_max2, e_min2, e_min3, e_all, e_anyI, e_anyB, e_l1, e_l2, e_l3, e_t2, keepD_pv, keepD_p, tzD_some, e_t3, e_asPp, e_zT3, e_listL, e_ix, e_ixP0, e_ixP1, e_sl, e_rev, e_in, e_seq, e_rg, e_en, e_zp, e_zN, e_zT, e_zCons, e_zNil, e_pl, e_noObj, e_noObjP, lift_ev, liftD_ok, liftD_exc, List.all_cons, List.all_nil, iOwn, lcGo_map, lcS_pure, lcS_filt, Option.bind_some, Option.map_some, List.map_cons, List.map_nil, List.length_cons, List.length_nil, List.replicate_succ, List.replicate_zero, List.cons_append, List.nil_append, List.set_cons_zero, List.set_cons_succ, List.getElem?_cons_zero, List.getElem?_cons_succ, Bool.not_true, eq_self, not_true_eq_false, not_false_eq_true, Bool.true_xor, Bool.false_xor, Bool.not_false, Bool.not_not, Bool.true_and, Bool.and_true, Bool.false_and, Bool.and_false, Bool.true_or, Bool.or_true, Bool.or_false, Bool.false_or, decide_eq_true_eq, Bool.not_eq_true', decide_eq_false_iff_not, ne_eq, if_true, if_false, reduceIte, List.getElem?_nil, List.all_map, List.any_map, Function.id_comp, Function.comp_def, id, Bool.decide_eq_false, Bool.decide_eq_true, rowGap]
def rowsOf (s : Rows) : List Int := s.map rowGap
theorem p_rows_of (s : Rows) (h : Sh s) (w : Unit) : f_rows_of [pv s] w = .ok (pv (rowsOf s)) w := by
  have := h.n2
  unfold f_rows_of b_rows_of
  simp (disch := (first | assumption | decide | omega | (simp only [List.length_map, List.length_append, List.length_cons, List.length_nil, List.length_range, len_rg, len_enum, len_cut1]; first | assumption | omega) | (simp only [List.length_map, List.length_append, List.length_cons, List.length_nil, List.length_range, len_rg, len_enum, len_cut1, lim] at *; omega))) only [run_ev, runD_nx, runD_rt, runD_exc, runD_ite, sSeq_ev, seqD_nx, seqD_rt, seqD_exc, seqD_ite, sIf_ev, ifD_ev, xAnd_ev, xOr_ev, xChain_ev, andD_ev, orD_ev, i_and, i_or, i_ff, lim_if, lim_if2, lim_ifL, xOwn_nil, Nat.reduceAdd, Nat.reduceSub, Int.reduceEq, Int.reduceLT, Int.reduceLE, Nat.reduceLT, Nat.reduceLeDiff, Nat.zero_add, Bool.false_eq_true, decide_false, decide_true, reduceCtorEq,  i_andP, i_orP, i_ok, i_pv, t_ii, t_ib, t_il, t_it, t_bi, t_bb, t_bl, t_bt, t_li, t_lb, t_ll, t_lt, t_ti, t_tb, t_tl, t_tt, sRet, sNil, sDrop, sAsg, sRaise, xIf, x2, x1, xN, xCall, xSl, oEv, xLc, wipeZ, iOf, iOf2, xB, bAnd, bOr, bNot, bYes, lNil, lCons, sSet, xV, sFrz, sPar2, sPar3, r_bind, r_bindX, r_bindB, r_calm, r_opt, r_optB, r_int, r_bl, r_non, xVar, e_eq, e_ne, e_add, e_sub, e_cat, e_mul, e_div, e_mod, e_neg, e_not, e_lt, e_le, e_gt, e_ge, e_isB, e_asB, e_truB, e_truI, e_asI, e_oInt, e_asP, e_listOf0, e_lstOf, sExt, sApp, sFor, e_isiI, e_isiB, e_isiL, e_isiP, e_len, e_lenP, e_sum, e_max, e_min, e_max2, e_min2, e_min3, e_all, e_anyI, e_anyB, e_l1, e_l2, e_l3, e_t2, keepD_pv, keepD_p, tzD_some, e_t3, e_asPp, e_zT3, e_listL, e_ix, e_ixP0, e_ixP1, e_sl, e_rev, e_in, e_seq, e_rg, e_en, e_zp, e_zN, e_zT, e_zCons, e_zNil, e_pl, e_noObj, e_noObjP, lift_ev, liftD_ok, liftD_exc, List.all_cons, List.all_nil, iOwn, lcGo_map, lcS_pure, lcS_filt, Option.bind_some, Option.map_some, List.map_cons, List.map_nil, List.length_cons, List.length_nil, List.replicate_succ, List.replicate_zero, List.cons_append, List.nil_append, List.set_cons_zero, List.set_cons_succ, List.getElem?_cons_zero, List.getElem?_cons_succ, Bool.not_true, eq_self, not_true_eq_false, not_false_eq_true, Bool.true_xor, Bool.false_xor, Bool.not_false, Bool.not_not, Bool.true_and, Bool.and_true, Bool.false_and, Bool.and_false, Bool.true_or, Bool.or_true, Bool.or_false, Bool.false_or, decide_eq_true_eq, Bool.not_eq_true', decide_eq_false_iff_not, ne_eq, if_true, if_false, reduceIte, List.getElem?_nil, List.all_map, List.any_map, Function.id_comp, Function.comp_def, id, Bool.decide_eq_false, Bool.decide_eq_true]
  rw [lc_eq rowGap (fun r hr w => by
    have := h.m1 r hr
    simp (disch := (first | assumption | decide | omega | (simp only [List.length_map, List.length_append, List.length_cons, List.length_nil, List.length_range, len_rg, len_enum, len_cut1]; first | assumption | omega) | (simp only [List.length_map, List.length_append, List.length_cons, List.length_nil, List.length_range, len_rg, len_enum, len_cut1, lim] at *; omega))) only [run_ev, runD_nx, runD_rt, runD_exc, runD_ite, sSeq_ev, seqD_nx, seqD_rt, seqD_exc, seqD_ite, sIf_ev, ifD_ev, xAnd_ev, xOr_ev, xChain_ev, andD_ev, orD_ev, i_and, i_or, i_ff, lim_if, lim_if2, lim_ifL, xOwn_nil, Nat.reduceAdd, Nat.reduceSub, Int.reduceEq, Int.reduceLT, Int.reduceLE, Nat.reduceLT, Nat.reduceLeDiff, Nat.zero_add, Bool.false_eq_true, decide_false, decide_true, reduceCtorEq,  i_andP, i_orP, i_ok, i_pv, t_ii, t_ib, t_il, t_it, t_bi, t_bb, t_bl, t_bt, t_li, t_lb, t_ll, t_lt, t_ti, t_tb, t_tl, t_tt, sRet, sNil, sDrop, sAsg, sRaise, xIf, x2, x1, xN, xCall, xSl, oEv, xLc, wipeZ, iOf, iOf2, xB, bAnd, bOr, bNot, bYes, lNil, lCons, sSet, xV, sFrz, sPar2, sPar3, r_bind, r_bindX, r_bindB, r_calm, r_opt, r_optB, r_int, r_bl, r_non, xVar, e_eq, e_ne, e_add, e_sub, e_cat, e_mul, e_div, e_mod, e_neg, e_not, e_lt, e_le, e_gt, e_ge, e_isB, e_asB, e_truB, e_truI, e_asI, e_oInt, e_asP, e_listOf0, e_lstOf, sExt, sApp, sFor, e_isiI, e_isiB, e_isiL, e_isiP, e_len, e_lenP, e_sum, e_max, e_min, e_max2, e_min2, e_min3, e_all, e_anyI, e_anyB, e_l1, e_l2, e_l3, e_t2, keepD_pv, keepD_p, tzD_some, e_t3, e_asPp, e_zT3, e_listL, e_ix, e_ixP0, e_ixP1, e_sl, e_rev, e_in, e_seq, e_rg, e_en, e_zp, e_zN, e_zT, e_zCons, e_zNil, e_pl, e_noObj, e_noObjP, lift_ev, liftD_ok, liftD_exc, List.all_cons, List.all_nil, iOwn, lcGo_map, lcS_pure, lcS_filt, Option.bind_some, Option.map_some, List.map_cons, List.map_nil, List.length_cons, List.length_nil, List.replicate_succ, List.replicate_zero, List.cons_append, List.nil_append, List.set_cons_zero, List.set_cons_succ, List.getElem?_cons_zero, List.getElem?_cons_succ, Bool.not_true, eq_self, not_true_eq_false, not_false_eq_true, Bool.true_xor, Bool.false_xor, Bool.not_false, Bool.not_not, Bool.true_and, Bool.and_true, Bool.false_and, Bool.and_false, Bool.true_or, Bool.or_true, Bool.or_false, Bool.false_or, decide_eq_true_eq, Bool.not_eq_true', decide_eq_false_iff_not, ne_eq, if_true, if_false, reduceIte, List.getElem?_nil, List.all_map, List.any_map, Function.id_comp, Function.comp_def, id, Bool.decide_eq_false, Bool.decide_eq_true, p_row_gap r (by omega)])]
  simp (disch := (first | assumption | decide | omega | (simp only [List.length_map, List.length_append, List.length_cons, List.length_nil, List.length_range, len_rg, len_enum, len_cut1]; first | assumption | omega) | (simp only [List.length_map, List.length_append, List.length_cons, List.length_nil, List.length_range, len_rg, len_enum, len_cut1, lim] at *; omega))) only [run_ev, runD_nx, runD_rt, runD_exc, runD_ite, sSeq_ev, seqD_nx, seqD_rt, seqD_exc, seqD_ite, sIf_ev, ifD_ev, xAnd_ev, xOr_ev, xChain_ev, andD_ev, orD_ev, i_and, i_or, i_ff, lim_if, lim_if2, lim_ifL, xOwn_nil, Nat.reduceAdd, Nat.reduceSub, Int.reduceEq, Int.reduceLT, Int.reduceLE, Nat.reduceLT, Nat.reduceLeDiff, Nat.zero_add, Bool.false_eq_true, decide_false, decide_true, reduceCtorEq,  i_andP, i_orP, i_ok, i_pv, t_ii, t_ib, t_il, t_it, t_bi, t_bb, t_bl, t_bt, t_li, t_lb, t_ll, t_lt, t_ti, t_tb, t_tl, t_tt, sRet, sNil, sDrop, sAsg, sRaise, xIf, x2, x1, xN, xCall, xSl, oEv, xLc, wipeZ, iOf, iOf2, xB, bAnd, bOr, bNot, bYes, lNil, lCons, sSet, xV, sFrz, sPar2, sPar3, r_bind, r_bindX, r_bindB, r_calm, r_opt, r_optB, r_int, r_bl, r_non, xVar, e_eq, e_ne, e_add, e_sub, e_cat, e_mul, e_div, e_mod, e_neg, e_not, e_lt, e_le, e_gt, e_ge, e_isB, e_asB, e_truB, e_truI, e_asI, e_oInt, e_asP, e_listOf0, e_lstOf, sExt, sApp, sFor, e_isiI, e_isiB, e_isiL, e_isiP, e_len, e_lenP, e_sum, e_max, e_min, e_max2, e_min2, e_min3, e_all, e_anyI, e_anyB, e_l1, e_l2, e_l3, e_t2, keepD_pv, keepD_p, tzD_some, e_t3, e_asPp, e_zT3, e_listL, e_ix, e_ixP0, e_ixP1, e_sl, e_rev, e_in, e_seq, e_rg, e_en, e_zp, e_zN, e_zT, e_zCons, e_zNil, e_pl, e_noObj, e_noObjP, lift_ev, liftD_ok, liftD_exc, List.all_cons, List.all_nil, iOwn, lcGo_map, lcS_pure, lcS_filt, Option.bind_some, Option.map_some, List.map_cons, List.map_nil, List.length_cons, List.length_nil, List.replicate_succ, List.replicate_zero, List.cons_append, List.nil_append, List.set_cons_zero, List.set_cons_succ, List.getElem?_cons_zero, List.getElem?_cons_succ, Bool.not_true, eq_self, not_true_eq_false, not_false_eq_true, Bool.true_xor, Bool.false_xor, Bool.not_false, Bool.not_not, Bool.true_and, Bool.and_true, Bool.false_and, Bool.and_false, Bool.true_or, Bool.or_true, Bool.or_false, Bool.false_or, decide_eq_true_eq, Bool.not_eq_true', decide_eq_false_iff_not, ne_eq, if_true, if_false, reduceIte, List.getElem?_nil, List.all_map, List.any_map, Function.id_comp, Function.comp_def, id, Bool.decide_eq_false, Bool.decide_eq_true, rowsOf]
def columnsOf (s : Rows) : List Int := (rg 0 (ixD s 0).length).map fun k => rowGap (s.map fun row => ixD row k)
theorem IsB.ix0 {s : Rows} {lo hi : Nat} {a b : Int} (h : IsB s lo hi a b) (hl : 0 < lo) : ixD s 0 ∈ s := ixD_mem (by have := h.n1; omega)
theorem p_columns_of (s : Rows) (h : Sh s) (w : Unit) : f_columns_of [pv s] w = .ok (pv (columnsOf s)) w := by
  have := h.n2
  have := h.n1
  have := h.m2 _ (h.ix0 (by decide))
  unfold f_columns_of b_columns_of
  simp (disch := (first | assumption | decide | omega | (simp only [List.length_map, List.length_append, List.length_cons, List.length_nil, List.length_range, len_rg, len_enum, len_cut1]; first | assumption | omega) | (simp only [List.length_map, List.length_append, List.length_cons, List.length_nil, List.length_range, len_rg, len_enum, len_cut1, lim] at *; omega))) only [run_ev, runD_nx, runD_rt, runD_exc, runD_ite, sSeq_ev, seqD_nx, seqD_rt, seqD_exc, seqD_ite, sIf_ev, ifD_ev, xAnd_ev, xOr_ev, xChain_ev, andD_ev, orD_ev, i_and, i_or, i_ff, lim_if, lim_if2, lim_ifL, xOwn_nil, Nat.reduceAdd, Nat.reduceSub, Int.reduceEq, Int.reduceLT, Int.reduceLE, Nat.reduceLT, Nat.reduceLeDiff, Nat.zero_add, Bool.false_eq_true, decide_false, decide_true, reduceCtorEq,  i_andP, i_orP, i_ok, i_pv, t_ii, t_ib, t_il, t_it, t_bi, t_bb, t_bl, t_bt, t_li, t_lb, t_ll, t_lt, t_ti, t_tb, t_tl, t_tt, sRet, sNil, sDrop, sAsg, sRaise, xIf, x2, x1, xN, xCall, xSl, oEv, xLc, wipeZ, iOf, iOf2, xB, bAnd, bOr, bNot, bYes, lNil, lCons, sSet, xV, sFrz, sPar2, sPar3, r_bind, r_bindX, r_bindB, r_calm, r_opt, r_optB, r_int, r_bl, r_non, xVar, e_eq, e_ne, e_add, e_sub, e_cat, e_mul, e_div, e_mod, e_neg, e_not, e_lt, e_le, e_gt, e_ge, e_isB, e_asB, e_truB, e_truI, e_asI, e_oInt, e_asP, e_listOf0, e_lstOf, sExt, sApp, sFor, e_isiI, e_isiB, e_isiL, e_isiP, e_len, e_lenP, e_sum, e_max, e_min, e_max2, e_min2, e_min3, e_all, e_anyI, e_anyB, e_l1, e_l2, e_l3, e_t2, keepD_pv, keepD_p, tzD_some, e_t3, e_asPp, e_zT3, e_listL, e_ix, e_ixP0, e_ixP1, e_sl, e_rev, e_in, e_seq, e_rg, e_en, e_zp, e_zN, e_zT, e_zCons, e_zNil, e_pl, e_noObj, e_noObjP, lift_ev, liftD_ok, liftD_exc, List.all_cons, List.all_nil, iOwn, lcGo_map, lcS_pure, lcS_filt, Option.bind_some, Option.map_some, List.map_cons, List.map_nil, List.length_cons, List.length_nil, List.replicate_succ, List.replicate_zero, List.cons_append, List.nil_append, List.set_cons_zero, List.set_cons_succ, List.getElem?_cons_zero, List.getElem?_cons_succ, Bool.not_true, eq_self, not_true_eq_false, not_false_eq_true, Bool.true_xor, Bool.false_xor, Bool.not_false, Bool.not_not, Bool.true_and, Bool.and_true, Bool.false_and, Bool.and_false, Bool.true_or, Bool.or_true, Bool.or_false, Bool.false_or, decide_eq_true_eq, Bool.not_eq_true', decide_eq_false_iff_not, ne_eq, if_true, if_false, reduceIte, List.getElem?_nil, List.all_map, List.any_map, Function.id_comp, Function.comp_def, id, Bool.decide_eq_false, Bool.decide_eq_true]
  rw [lc_eq (fun k : Int => rowGap (s.map fun row => ixD row k)) (fun k hk w => by
    have hk := mem_rg.mp hk
    rw [lc_eq (fun row : List Int => ixD row k) (fun r hr w => by
      have := h.eq r hr
      simp (disch := (first | assumption | decide | omega | (simp only [List.length_map, List.length_append, List.length_cons, List.length_nil, List.length_range, len_rg, len_enum, len_cut1]; first | assumption | omega) | (simp only [List.length_map, List.length_append, List.length_cons, List.length_nil, List.length_range, len_rg, len_enum, len_cut1, lim] at *; omega))) only [run_ev, runD_nx, runD_rt, runD_exc, runD_ite, sSeq_ev, seqD_nx, seqD_rt, seqD_exc, seqD_ite, sIf_ev, ifD_ev, xAnd_ev, xOr_ev, xChain_ev, andD_ev, orD_ev, i_and, i_or, i_ff, lim_if, lim_if2, lim_ifL, xOwn_nil, Nat.reduceAdd, Nat.reduceSub, Int.reduceEq, Int.reduceLT, Int.reduceLE, Nat.reduceLT, Nat.reduceLeDiff, Nat.zero_add, Bool.false_eq_true, decide_false, decide_true, reduceCtorEq,  i_andP, i_orP, i_ok, i_pv, t_ii, t_ib, t_il, t_it, t_bi, t_bb, t_bl, t_bt, t_li, t_lb, t_ll, t_lt, t_ti, t_tb, t_tl, t_tt, sRet, sNil, sDrop, sAsg, sRaise, xIf, x2, x1, xN, xCall, xSl, oEv, xLc, wipeZ, iOf, iOf2, xB, bAnd, bOr, bNot, bYes, lNil, lCons, sSet, xV, sFrz, sPar2, sPar3, r_bind, r_bindX, r_bindB, r_calm, r_opt, r_optB, r_int, r_bl, r_non, xVar, e_eq, e_ne, e_add, e_sub, e_cat, e_mul, e_div, e_mod, e_neg, e_not, e_lt, e_le, e_gt, e_ge, e_isB, e_asB, e_truB, e_truI, e_asI, e_oInt, e_asP, e_listOf0, e_lstOf, sExt, sApp, sFor, e_isiI, e_isiB, e_isiL, e_isiP, e_len, e_lenP, e_sum, e_max, e_min, e_max2, e_min2, e_min3, e_all, e_anyI, e_anyB, e_l1, e_l2, e_l3, e_t2, keepD_pv, keepD_p, tzD_some, e_t3, e_asPp, e_zT3, e_listL, e_ix, e_ixP0, e_ixP1, e_sl, e_rev, e_in, e_seq, e_rg, e_en, e_zp, e_zN, e_zT, e_zCons, e_zNil, e_pl, e_noObj, e_noObjP, lift_ev, liftD_ok, liftD_exc, List.all_cons, List.all_nil, iOwn, lcGo_map, lcS_pure, lcS_filt, Option.bind_some, Option.map_some, List.map_cons, List.map_nil, List.length_cons, List.length_nil, List.replicate_succ, List.replicate_zero, List.cons_append, List.nil_append, List.set_cons_zero, List.set_cons_succ, List.getElem?_cons_zero, List.getElem?_cons_succ, Bool.not_true, eq_self, not_true_eq_false, not_false_eq_true, Bool.true_xor, Bool.false_xor, Bool.not_false, Bool.not_not, Bool.true_and, Bool.and_true, Bool.false_and, Bool.and_false, Bool.true_or, Bool.or_true, Bool.or_false, Bool.false_or, decide_eq_true_eq, Bool.not_eq_true', decide_eq_false_iff_not, ne_eq, if_true, if_false, reduceIte, List.getElem?_nil, List.all_map, List.any_map, Function.id_comp, Function.comp_def, id, Bool.decide_eq_false, Bool.decide_eq_true])]
    simp (disch := (first | assumption | decide | omega | (simp only [List.length_map, List.length_append, List.length_cons, List.length_nil, List.length_range, len_rg, len_enum, len_cut1]; first | assumption | omega) | (simp only [List.length_map, List.length_append, List.length_cons, List.length_nil, List.length_range, len_rg, len_enum, len_cut1, lim] at *; omega))) only [run_ev, runD_nx, runD_rt, runD_exc, runD_ite, sSeq_ev, seqD_nx, seqD_rt, seqD_exc, seqD_ite, sIf_ev, ifD_ev, xAnd_ev, xOr_ev, xChain_ev, andD_ev, orD_ev, i_and, i_or, i_ff, lim_if, lim_if2, lim_ifL, xOwn_nil, Nat.reduceAdd, Nat.reduceSub, Int.reduceEq, Int.reduceLT, Int.reduceLE, Nat.reduceLT, Nat.reduceLeDiff, Nat.zero_add, Bool.false_eq_true, decide_false, decide_true, reduceCtorEq,  i_andP, i_orP, i_ok, i_pv, t_ii, t_ib, t_il, t_it, t_bi, t_bb, t_bl, t_bt, t_li, t_lb, t_ll, t_lt, t_ti, t_tb, t_tl, t_tt, sRet, sNil, sDrop, sAsg, sRaise, xIf, x2, x1, xN, xCall, xSl, oEv, xLc, wipeZ, iOf, iOf2, xB, bAnd, bOr, bNot, bYes, lNil, lCons, sSet, xV, sFrz, sPar2, sPar3, r_bind, r_bindX, r_bindB, r_calm, r_opt, r_optB, r_int, r_bl, r_non, xVar, e_eq, e_ne, e_add, e_sub, e_cat, e_mul, e_div, e_mod, e_neg, e_not, e_lt, e_le, e_gt, e_ge, e_isB, e_asB, e_truB, e_truI, e_asI, e_oInt, e_asP, e_listOf0, e_lstOf, sExt, sApp, sFor, e_isiI, e_isiB, e_isiL, e_isiP, e_len, e_lenP, e_sum, e_max, e_min, e_max2, e_min2, e_min3, e_all, e_anyI, e_anyB, e_l1, e_l2, e_l3, e_t2, keepD_pv, keepD_p, tzD_some, e_t3, e_asPp, e_zT3, e_listL, e_ix, e_ixP0, e_ixP1, e_sl, e_rev, e_in, e_seq, e_rg, e_en, e_zp, e_zN, e_zT, e_zCons, e_zNil, e_pl, e_noObj, e_noObjP, lift_ev, liftD_ok, liftD_exc, List.all_cons, List.all_nil, iOwn, lcGo_map, lcS_pure, lcS_filt, Option.bind_some, Option.map_some, List.map_cons, List.map_nil, List.length_cons, List.length_nil, List.replicate_succ, List.replicate_zero, List.cons_append, List.nil_append, List.set_cons_zero, List.set_cons_succ, List.getElem?_cons_zero, List.getElem?_cons_succ, Bool.not_true, eq_self, not_true_eq_false, not_false_eq_true, Bool.true_xor, Bool.false_xor, Bool.not_false, Bool.not_not, Bool.true_and, Bool.and_true, Bool.false_and, Bool.and_false, Bool.true_or, Bool.or_true, Bool.or_false, Bool.false_or, decide_eq_true_eq, Bool.not_eq_true', decide_eq_false_iff_not, ne_eq, if_true, if_false, reduceIte, List.getElem?_nil, List.all_map, List.any_map, Function.id_comp, Function.comp_def, id, Bool.decide_eq_false, Bool.decide_eq_true, p_row_gap])]
  simp (disch := (first | assumption | decide | omega | (simp only [List.length_map, List.length_append, List.length_cons, List.length_nil, List.length_range, len_rg, len_enum, len_cut1]; first | assumption | omega) | (simp only [List.length_map, List.length_append, List.length_cons, List.length_nil, List.length_range, len_rg, len_enum, len_cut1, lim] at *; omega))) only [run_ev, runD_nx, runD_rt, runD_exc, runD_ite, sSeq_ev, seqD_nx, seqD_rt, seqD_exc, seqD_ite, sIf_ev, ifD_ev, xAnd_ev, xOr_ev, xChain_ev, andD_ev, orD_ev, i_and, i_or, i_ff, lim_if, lim_if2, lim_ifL, xOwn_nil, Nat.reduceAdd, Nat.reduceSub, Int.reduceEq, Int.reduceLT, Int.reduceLE, Nat.reduceLT, Nat.reduceLeDiff, Nat.zero_add, Bool.false_eq_true, decide_false, decide_true, reduceCtorEq,  i_andP, i_orP, i_ok, i_pv, t_ii, t_ib, t_il, t_it, t_bi, t_bb, t_bl, t_bt, t_li, t_lb, t_ll, t_lt, t_ti, t_tb, t_tl, t_tt, sRet, sNil, sDrop, sAsg, sRaise, xIf, x2, x1, xN, xCall, xSl, oEv, xLc, wipeZ, iOf, iOf2, xB, bAnd, bOr, bNot, bYes, lNil, lCons, sSet, xV, sFrz, sPar2, sPar3, r_bind, r_bindX, r_bindB, r_calm, r_opt, r_optB, r_int, r_bl, r_non, xVar, e_eq, e_ne, e_add, e_sub, e_cat, e_mul, e_div, e_mod, e_neg, e_not, e_lt, e_le, e_gt, e_ge, e_isB, e_asB, e_truB, e_truI, e_asI, e_oInt, e_asP, e_listOf0, e_lstOf, sExt, sApp, sFor, e_isiI, e_isiB, e_isiL, e_isiP, e_len, e_lenP, e_sum, e_max, e_min, e_max2, e_min2, e_min3, e_all, e_anyI, e_anyB, e_l1, e_l2, e_l3, e_t2, keepD_pv, keepD_p, tzD_some, e_t3, e_asPp, e_zT3, e_listL, e_ix, e_ixP0, e_ixP1, e_sl, e_rev, e_in, e_seq, e_rg, e_en, e_zp, e_zN, e_zT, e_zCons, e_zNil, e_pl, e_noObj, e_noObjP, lift_ev, liftD_ok, liftD_exc, List.all_cons, List.all_nil, iOwn, lcGo_map, lcS_pure, lcS_filt, Option.bind_some, Option.map_some, List.map_cons, List.map_nil, List.length_cons, List.length_nil, List.replicate_succ, List.replicate_zero, List.cons_append, List.nil_append, List.set_cons_zero, List.set_cons_succ, List.getElem?_cons_zero, List.getElem?_cons_succ, Bool.not_true, eq_self, not_true_eq_false, not_false_eq_true, Bool.true_xor, Bool.false_xor, Bool.not_false, Bool.not_not, Bool.true_and, Bool.and_true, Bool.false_and, Bool.and_false, Bool.true_or, Bool.or_true, Bool.or_false, Bool.false_or, decide_eq_true_eq, Bool.not_eq_true', decide_eq_false_iff_not, ne_eq, if_true, if_false, reduceIte, List.getElem?_nil, List.all_map, List.any_map, Function.id_comp, Function.comp_def, id, Bool.decide_eq_false, Bool.decide_eq_true, columnsOf]
def rightS (s : Rows) : Bool := !(rowsOf s).any (· != 0) && !(columnsOf s).any (· != 0)
theorem p_right (s : Rows) (h : Sh s) (w : Unit) : f_right [pv s] w = .ok (pv (rightS s)) w := by
  unfold f_right b_right
  simp (disch := (first | assumption | decide | omega | (simp only [List.length_map, List.length_append, List.length_cons, List.length_nil, List.length_range, len_rg, len_enum, len_cut1]; first | assumption | omega) | (simp only [List.length_map, List.length_append, List.length_cons, List.length_nil, List.length_range, len_rg, len_enum, len_cut1, lim] at *; omega))) only [run_ev, runD_nx, runD_rt, runD_exc, runD_ite, sSeq_ev, seqD_nx, seqD_rt, seqD_exc, seqD_ite, sIf_ev, ifD_ev, xAnd_ev, xOr_ev, xChain_ev, andD_ev, orD_ev, i_and, i_or, i_ff, lim_if, lim_if2, lim_ifL, xOwn_nil, Nat.reduceAdd, Nat.reduceSub, Int.reduceEq, Int.reduceLT, Int.reduceLE, Nat.reduceLT, Nat.reduceLeDiff, Nat.zero_add, Bool.false_eq_true, decide_false, decide_true, reduceCtorEq,  i_andP, i_orP, i_ok, i_pv, t_ii, t_ib, t_il, t_it, t_bi, t_bb, t_bl, t_bt, t_li, t_lb, t_ll, t_lt, t_ti, t_tb, t_tl, t_tt, sRet, sNil, sDrop, sAsg, sRaise, xIf, x2, x1, xN, xCall, xSl, oEv, xLc, wipeZ, iOf, iOf2, xB, bAnd, bOr, bNot, bYes, lNil, lCons, sSet, xV, sFrz, sPar2, sPar3, r_bind, r_bindX, r_bindB, r_calm, r_opt, r_optB, r_int, r_bl, r_non, xVar, e_eq, e_ne, e_add, e_sub, e_cat, e_mul, e_div, e_mod, e_neg, e_not, e_lt, e_le, e_gt, e_ge, e_isB, e_asB, e_truB, e_truI, e_asI, e_oInt, e_asP, e_listOf0, e_lstOf, sExt, sApp, sFor, e_isiI, e_isiB, e_isiL, e_isiP, e_len, e_lenP, e_sum, e_max, e_min, e_max2, e_min2, e_min3, e_all, e_anyI, e_anyB, e_l1, e_l2, e_l3, e_t2, keepD_pv, keepD_p, tzD_some, e_t3, e_asPp, e_zT3, e_listL, e_ix, e_ixP0, e_ixP1, e_sl, e_rev, e_in, e_seq, e_rg, e_en, e_zp, e_zN, e_zT, e_zCons, e_zNil, e_pl, e_noObj, e_noObjP, lift_ev, liftD_ok, liftD_exc, List.all_cons, List.all_nil, iOwn, lcGo_map, lcS_pure, lcS_filt, Option.bind_some, Option.map_some, List.map_cons, List.map_nil, List.length_cons, List.length_nil, List.replicate_succ, List.replicate_zero, List.cons_append, List.nil_append, List.set_cons_zero, List.set_cons_succ, List.getElem?_cons_zero, List.getElem?_cons_succ, Bool.not_true, eq_self, not_true_eq_false, not_false_eq_true, Bool.true_xor, Bool.false_xor, Bool.not_false, Bool.not_not, Bool.true_and, Bool.and_true, Bool.false_and, Bool.and_false, Bool.true_or, Bool.or_true, Bool.or_false, Bool.false_or, decide_eq_true_eq, Bool.not_eq_true', decide_eq_false_iff_not, ne_eq, if_true, if_false, reduceIte, List.getElem?_nil, List.all_map, List.any_map, Function.id_comp, Function.comp_def, id, Bool.decide_eq_false, Bool.decide_eq_true, p_columns_of s h, p_rows_of s h, rightS]
/-! inner parts, sums -/
def wrongL (g : List Int) : List Int := ((enum 0 g).filter fun p => decide ¬p.2 = 0).map fun p => p.1
def turned (g : List Int) : List Int := cut g none (some (-1)) ++ [-ixD g (-1)]
/-- with its sums -/
def full (t : Rows) : Rows := t.map (fun row => row ++ [row.sum]) ++ [(rg 0 (ixD (t.map fun row => row ++ [row.sum]) 0).length).map fun k => ((t.map fun row => row ++ [row.sum]).map fun row => ixD row k).sum]
/-- even rows -/
structure Rect (f : Rows) (n m : Nat) : Prop where
  n : f.length = n
  m : ∀ r ∈ f, r.length = m
theorem Rect.ix0 {f : Rows} {n m : Nat} (h : Rect f n m) (hn : 0 < n) : (ixD f 0).length = m := h.m _ (ixD_mem (by have := h.n; omega))
theorem IsB.rect {s : Rows} {lo hi : Nat} {a b : Int} (h : IsB s lo hi a b) : Rect s s.length (ixD s 0).length := ⟨rfl, h.eq⟩
theorem Rect.map {f : Rows} {n m m' : Nat} (h : Rect f n m) (g : List Int → List Int) (hg : ∀ r ∈ f, r.length = m → (g r).length = m') : Rect (f.map g) n m' := ⟨by rw [List.length_map]; exact h.n, fun r hr => by
  obtain ⟨x, hx, rfl⟩ := List.mem_map.mp hr
  exact hg x hx (h.m x hx)⟩
def withSums (f : Rows) : Rows := f ++ [(rg 0 (ixD f 0).length).map fun k => (f.map fun row => ixD row k).sum]
def rowSums (t : Rows) : Rows := t.map fun row => row ++ [row.sum]
theorem full_eq (t : Rows) : full t = withSums (rowSums t) := rfl
theorem rowSums_rect {t : Rows} {n m : Nat} (h : Rect t n m) : Rect (rowSums t) n (m + 1) := h.map _ fun r _ e => by rw [List.length_append, e]; rfl
theorem p_Lfull (t : Rows) {a b : Int} (h : IsB t 1 3 a b) (w : Unit) : f_Lfull [pv t] w = .ok (pv (full t)) w := by
  have h1 := h.n1
  have h2 := h.n2
  have h3 := h.m2 _ (h.ix0 (by decide))
  unfold f_Lfull b_Lfull
  simp (disch := (first | assumption | decide | omega | (simp only [List.length_map, List.length_append, List.length_cons, List.length_nil, List.length_range, len_rg, len_enum, len_cut1]; first | assumption | omega) | (simp only [List.length_map, List.length_append, List.length_cons, List.length_nil, List.length_range, len_rg, len_enum, len_cut1, lim] at *; omega))) only [run_ev, runD_nx, runD_rt, runD_exc, runD_ite, sSeq_ev, seqD_nx, seqD_rt, seqD_exc, seqD_ite, sIf_ev, ifD_ev, xAnd_ev, xOr_ev, xChain_ev, andD_ev, orD_ev, i_and, i_or, i_ff, lim_if, lim_if2, lim_ifL, xOwn_nil, Nat.reduceAdd, Nat.reduceSub, Int.reduceEq, Int.reduceLT, Int.reduceLE, Nat.reduceLT, Nat.reduceLeDiff, Nat.zero_add, Bool.false_eq_true, decide_false, decide_true, reduceCtorEq,  i_andP, i_orP, i_ok, i_pv, t_ii, t_ib, t_il, t_it, t_bi, t_bb, t_bl, t_bt, t_li, t_lb, t_ll, t_lt, t_ti, t_tb, t_tl, t_tt, sRet, sNil, sDrop, sAsg, sRaise, xIf, x2, x1, xN, xCall, xSl, oEv, xLc, wipeZ, iOf, iOf2, xB, bAnd, bOr, bNot, bYes, lNil, lCons, sSet, xV, sFrz, sPar2, sPar3, r_bind, r_bindX, r_bindB, r_calm, r_opt, r_optB, r_int, r_bl, r_non, xVar, e_eq, e_ne, e_add, e_sub, e_cat, e_mul, e_div, e_mod, e_neg, e_not, e_lt, e_le, e_gt, e_ge, e_isB, e_asB, e_truB, e_truI, e_asI, e_oInt, e_asP, e_listOf0, e_lstOf, sExt, sApp, sFor, e_isiI, e_isiB, e_isiL, e_isiP, e_len, e_lenP, e_sum, e_max, e_min, e_max2, e_min2, e_min3, e_all, e_anyI, e_anyB, e_l1, e_l2, e_l3, e_t2, keepD_pv, keepD_p, tzD_some, e_t3, e_asPp, e_zT3, e_listL, e_ix, e_ixP0, e_ixP1, e_sl, e_rev, e_in, e_seq, e_rg, e_en, e_zp, e_zN, e_zT, e_zCons, e_zNil, e_pl, e_noObj, e_noObjP, lift_ev, liftD_ok, liftD_exc, List.all_cons, List.all_nil, iOwn, lcGo_map, lcS_pure, lcS_filt, Option.bind_some, Option.map_some, List.map_cons, List.map_nil, List.length_cons, List.length_nil, List.replicate_succ, List.replicate_zero, List.cons_append, List.nil_append, List.set_cons_zero, List.set_cons_succ, List.getElem?_cons_zero, List.getElem?_cons_succ, Bool.not_true, eq_self, not_true_eq_false, not_false_eq_true, Bool.true_xor, Bool.false_xor, Bool.not_false, Bool.not_not, Bool.true_and, Bool.and_true, Bool.false_and, Bool.and_false, Bool.true_or, Bool.or_true, Bool.or_false, Bool.false_or, decide_eq_true_eq, Bool.not_eq_true', decide_eq_false_iff_not, ne_eq, if_true, if_false, reduceIte, List.getElem?_nil, List.all_map, List.any_map, Function.id_comp, Function.comp_def, id, Bool.decide_eq_false, Bool.decide_eq_true]
  rw [lc_eq (fun row : List Int => row ++ [row.sum]) (fun row hr w => by
    have := h.m2 row hr
    simp (disch := (first | assumption | decide | omega | (simp only [List.length_map, List.length_append, List.length_cons, List.length_nil, List.length_range, len_rg, len_enum, len_cut1]; first | assumption | omega) | (simp only [List.length_map, List.length_append, List.length_cons, List.length_nil, List.length_range, len_rg, len_enum, len_cut1, lim] at *; omega))) only [run_ev, runD_nx, runD_rt, runD_exc, runD_ite, sSeq_ev, seqD_nx, seqD_rt, seqD_exc, seqD_ite, sIf_ev, ifD_ev, xAnd_ev, xOr_ev, xChain_ev, andD_ev, orD_ev, i_and, i_or, i_ff, lim_if, lim_if2, lim_ifL, xOwn_nil, Nat.reduceAdd, Nat.reduceSub, Int.reduceEq, Int.reduceLT, Int.reduceLE, Nat.reduceLT, Nat.reduceLeDiff, Nat.zero_add, Bool.false_eq_true, decide_false, decide_true, reduceCtorEq,  i_andP, i_orP, i_ok, i_pv, t_ii, t_ib, t_il, t_it, t_bi, t_bb, t_bl, t_bt, t_li, t_lb, t_ll, t_lt, t_ti, t_tb, t_tl, t_tt, sRet, sNil, sDrop, sAsg, sRaise, xIf, x2, x1, xN, xCall, xSl, oEv, xLc, wipeZ, iOf, iOf2, xB, bAnd, bOr, bNot, bYes, lNil, lCons, sSet, xV, sFrz, sPar2, sPar3, r_bind, r_bindX, r_bindB, r_calm, r_opt, r_optB, r_int, r_bl, r_non, xVar, e_eq, e_ne, e_add, e_sub, e_cat, e_mul, e_div, e_mod, e_neg, e_not, e_lt, e_le, e_gt, e_ge, e_isB, e_asB, e_truB, e_truI, e_asI, e_oInt, e_asP, e_listOf0, e_lstOf, sExt, sApp, sFor, e_isiI, e_isiB, e_isiL, e_isiP, e_len, e_lenP, e_sum, e_max, e_min, e_max2, e_min2, e_min3, e_all, e_anyI, e_anyB, e_l1, e_l2, e_l3, e_t2, keepD_pv, keepD_p, tzD_some, e_t3, e_asPp, e_zT3, e_listL, e_ix, e_ixP0, e_ixP1, e_sl, e_rev, e_in, e_seq, e_rg, e_en, e_zp, e_zN, e_zT, e_zCons, e_zNil, e_pl, e_noObj, e_noObjP, lift_ev, liftD_ok, liftD_exc, List.all_cons, List.all_nil, iOwn, lcGo_map, lcS_pure, lcS_filt, Option.bind_some, Option.map_some, List.map_cons, List.map_nil, List.length_cons, List.length_nil, List.replicate_succ, List.replicate_zero, List.cons_append, List.nil_append, List.set_cons_zero, List.set_cons_succ, List.getElem?_cons_zero, List.getElem?_cons_succ, Bool.not_true, eq_self, not_true_eq_false, not_false_eq_true, Bool.true_xor, Bool.false_xor, Bool.not_false, Bool.not_not, Bool.true_and, Bool.and_true, Bool.false_and, Bool.and_false, Bool.true_or, Bool.or_true, Bool.or_false, Bool.false_or, decide_eq_true_eq, Bool.not_eq_true', decide_eq_false_iff_not, ne_eq, if_true, if_false, reduceIte, List.getElem?_nil, List.all_map, List.any_map, Function.id_comp, Function.comp_def, id, Bool.decide_eq_false, Bool.decide_eq_true])]
  rw [full_eq]
  have R := rowSums_rect h.rect
  change _ = Res.ok (pv (withSums (rowSums t))) w
  have e1 : t.map (fun row => row ++ [row.sum]) = rowSums t := rfl
  rw [e1]
  revert R
  generalize rowSums t = f
  intro R
  have R0 := R.ix0 (by omega)
  have Rn := R.n
  simp (disch := (first | assumption | decide | omega | (simp only [List.length_map, List.length_append, List.length_cons, List.length_nil, List.length_range, len_rg, len_enum, len_cut1]; first | assumption | omega) | (simp only [List.length_map, List.length_append, List.length_cons, List.length_nil, List.length_range, len_rg, len_enum, len_cut1, lim] at *; omega))) only [run_ev, runD_nx, runD_rt, runD_exc, runD_ite, sSeq_ev, seqD_nx, seqD_rt, seqD_exc, seqD_ite, sIf_ev, ifD_ev, xAnd_ev, xOr_ev, xChain_ev, andD_ev, orD_ev, i_and, i_or, i_ff, lim_if, lim_if2, lim_ifL, xOwn_nil, Nat.reduceAdd, Nat.reduceSub, Int.reduceEq, Int.reduceLT, Int.reduceLE, Nat.reduceLT, Nat.reduceLeDiff, Nat.zero_add, Bool.false_eq_true, decide_false, decide_true, reduceCtorEq,  i_andP, i_orP, i_ok, i_pv, t_ii, t_ib, t_il, t_it, t_bi, t_bb, t_bl, t_bt, t_li, t_lb, t_ll, t_lt, t_ti, t_tb, t_tl, t_tt, sRet, sNil, sDrop, sAsg, sRaise, xIf, x2, x1, xN, xCall, xSl, oEv, xLc, wipeZ, iOf, iOf2, xB, bAnd, bOr, bNot, bYes, lNil, lCons, sSet, xV, sFrz, sPar2, sPar3, r_bind, r_bindX, r_bindB, r_calm, r_opt, r_optB, r_int, r_bl, r_non, xVar, e_eq, e_ne, e_add, e_sub, e_cat, e_mul, e_div, e_mod, e_neg, e_not, e_lt, e_le, e_gt, e_ge, e_isB, e_asB, e_truB, e_truI, e_asI, e_oInt, e_asP, e_listOf0, e_lstOf, sExt, sApp, sFor, e_isiI, e_isiB, e_isiL, e_isiP, e_len, e_lenP, e_sum, e_max, e_min, e_max2, e_min2, e_min3, e_all, e_anyI, e_anyB, e_l1, e_l2, e_l3, e_t2, keepD_pv, keepD_p, tzD_some, e_t3, e_asPp, e_zT3, e_listL, e_ix, e_ixP0, e_ixP1, e_sl, e_rev, e_in, e_seq, e_rg, e_en, e_zp, e_zN, e_zT, e_zCons, e_zNil, e_pl, e_noObj, e_noObjP, lift_ev, liftD_ok, liftD_exc, List.all_cons, List.all_nil, iOwn, lcGo_map, lcS_pure, lcS_filt, Option.bind_some, Option.map_some, List.map_cons, List.map_nil, List.length_cons, List.length_nil, List.replicate_succ, List.replicate_zero, List.cons_append, List.nil_append, List.set_cons_zero, List.set_cons_succ, List.getElem?_cons_zero, List.getElem?_cons_succ, Bool.not_true, eq_self, not_true_eq_false, not_false_eq_true, Bool.true_xor, Bool.false_xor, Bool.not_false, Bool.not_not, Bool.true_and, Bool.and_true, Bool.false_and, Bool.and_false, Bool.true_or, Bool.or_true, Bool.or_false, Bool.false_or, decide_eq_true_eq, Bool.not_eq_true', decide_eq_false_iff_not, ne_eq, if_true, if_false, reduceIte, List.getElem?_nil, List.all_map, List.any_map, Function.id_comp, Function.comp_def, id, Bool.decide_eq_false, Bool.decide_eq_true]
  rw [lc_eq (fun k : Int => (f.map fun row => ixD row k).sum) (fun k hk w => by
    have hk := mem_rg.mp hk
    rw [lc_eq (fun row : List Int => ixD row k) (fun r hr w => by
      have := R.m r hr
      simp (disch := (first | assumption | decide | omega | (simp only [List.length_map, List.length_append, List.length_cons, List.length_nil, List.length_range, len_rg, len_enum, len_cut1]; first | assumption | omega) | (simp only [List.length_map, List.length_append, List.length_cons, List.length_nil, List.length_range, len_rg, len_enum, len_cut1, lim] at *; omega))) only [run_ev, runD_nx, runD_rt, runD_exc, runD_ite, sSeq_ev, seqD_nx, seqD_rt, seqD_exc, seqD_ite, sIf_ev, ifD_ev, xAnd_ev, xOr_ev, xChain_ev, andD_ev, orD_ev, i_and, i_or, i_ff, lim_if, lim_if2, lim_ifL, xOwn_nil, Nat.reduceAdd, Nat.reduceSub, Int.reduceEq, Int.reduceLT, Int.reduceLE, Nat.reduceLT, Nat.reduceLeDiff, Nat.zero_add, Bool.false_eq_true, decide_false, decide_true, reduceCtorEq,  i_andP, i_orP, i_ok, i_pv, t_ii, t_ib, t_il, t_it, t_bi, t_bb, t_bl, t_bt, t_li, t_lb, t_ll, t_lt, t_ti, t_tb, t_tl, t_tt, sRet, sNil, sDrop, sAsg, sRaise, xIf, x2, x1, xN, xCall, xSl, oEv, xLc, wipeZ, iOf, iOf2, xB, bAnd, bOr, bNot, bYes, lNil, lCons, sSet, xV, sFrz, sPar2, sPar3, r_bind, r_bindX, r_bindB, r_calm, r_opt, r_optB, r_int, r_bl, r_non, xVar, e_eq, e_ne, e_add, e_sub, e_cat, e_mul, e_div, e_mod, e_neg, e_not, e_lt, e_le, e_gt, e_ge, e_isB, e_asB, e_truB, e_truI, e_asI, e_oInt, e_asP, e_listOf0, e_lstOf, sExt, sApp, sFor, e_isiI, e_isiB, e_isiL, e_isiP, e_len, e_lenP, e_sum, e_max, e_min, e_max2, e_min2, e_min3, e_all, e_anyI, e_anyB, e_l1, e_l2, e_l3, e_t2, keepD_pv, keepD_p, tzD_some, e_t3, e_asPp, e_zT3, e_listL, e_ix, e_ixP0, e_ixP1, e_sl, e_rev, e_in, e_seq, e_rg, e_en, e_zp, e_zN, e_zT, e_zCons, e_zNil, e_pl, e_noObj, e_noObjP, lift_ev, liftD_ok, liftD_exc, List.all_cons, List.all_nil, iOwn, lcGo_map, lcS_pure, lcS_filt, Option.bind_some, Option.map_some, List.map_cons, List.map_nil, List.length_cons, List.length_nil, List.replicate_succ, List.replicate_zero, List.cons_append, List.nil_append, List.set_cons_zero, List.set_cons_succ, List.getElem?_cons_zero, List.getElem?_cons_succ, Bool.not_true, eq_self, not_true_eq_false, not_false_eq_true, Bool.true_xor, Bool.false_xor, Bool.not_false, Bool.not_not, Bool.true_and, Bool.and_true, Bool.false_and, Bool.and_false, Bool.true_or, Bool.or_true, Bool.or_false, Bool.false_or, decide_eq_true_eq, Bool.not_eq_true', decide_eq_false_iff_not, ne_eq, if_true, if_false, reduceIte, List.getElem?_nil, List.all_map, List.any_map, Function.id_comp, Function.comp_def, id, Bool.decide_eq_false, Bool.decide_eq_true])]
    simp (disch := (first | assumption | decide | omega | (simp only [List.length_map, List.length_append, List.length_cons, List.length_nil, List.length_range, len_rg, len_enum, len_cut1]; first | assumption | omega) | (simp only [List.length_map, List.length_append, List.length_cons, List.length_nil, List.length_range, len_rg, len_enum, len_cut1, lim] at *; omega))) only [run_ev, runD_nx, runD_rt, runD_exc, runD_ite, sSeq_ev, seqD_nx, seqD_rt, seqD_exc, seqD_ite, sIf_ev, ifD_ev, xAnd_ev, xOr_ev, xChain_ev, andD_ev, orD_ev, i_and, i_or, i_ff, lim_if, lim_if2, lim_ifL, xOwn_nil, Nat.reduceAdd, Nat.reduceSub, Int.reduceEq, Int.reduceLT, Int.reduceLE, Nat.reduceLT, Nat.reduceLeDiff, Nat.zero_add, Bool.false_eq_true, decide_false, decide_true, reduceCtorEq,  i_andP, i_orP, i_ok, i_pv, t_ii, t_ib, t_il, t_it, t_bi, t_bb, t_bl, t_bt, t_li, t_lb, t_ll, t_lt, t_ti, t_tb, t_tl, t_tt, sRet, sNil, sDrop, sAsg, sRaise, xIf, x2, x1, xN, xCall, xSl, oEv, xLc, wipeZ, iOf, iOf2, xB, bAnd, bOr, bNot, bYes, lNil, lCons, sSet, xV, sFrz, sPar2, sPar3, r_bind, r_bindX, r_bindB, r_calm, r_opt, r_optB, r_int, r_bl, r_non, xVar, e_eq, e_ne, e_add, e_sub, e_cat, e_mul, e_div, e_mod, e_neg, e_not, e_lt, e_le, e_gt, e_ge, e_isB, e_asB, e_truB, e_truI, e_asI, e_oInt, e_asP, e_listOf0, e_lstOf, sExt, sApp, sFor, e_isiI, e_isiB, e_isiL, e_isiP, e_len, e_lenP, e_sum, e_max, e_min, e_max2, e_min2, e_min3, e_all, e_anyI, e_anyB, e_l1, e_l2, e_l3, e_t2, keepD_pv, keepD_p, tzD_some, e_t3, e_asPp, e_zT3, e_listL, e_ix, e_ixP0, e_ixP1, e_sl, e_rev, e_in, e_seq, e_rg, e_en, e_zp, e_zN, e_zT, e_zCons, e_zNil, e_pl, e_noObj, e_noObjP, lift_ev, liftD_ok, liftD_exc, List.all_cons, List.all_nil, iOwn, lcGo_map, lcS_pure, lcS_filt, Option.bind_some, Option.map_some, List.map_cons, List.map_nil, List.length_cons, List.length_nil, List.replicate_succ, List.replicate_zero, List.cons_append, List.nil_append, List.set_cons_zero, List.set_cons_succ, List.getElem?_cons_zero, List.getElem?_cons_succ, Bool.not_true, eq_self, not_true_eq_false, not_false_eq_true, Bool.true_xor, Bool.false_xor, Bool.not_false, Bool.not_not, Bool.true_and, Bool.and_true, Bool.false_and, Bool.and_false, Bool.true_or, Bool.or_true, Bool.or_false, Bool.false_or, decide_eq_true_eq, Bool.not_eq_true', decide_eq_false_iff_not, ne_eq, if_true, if_false, reduceIte, List.getElem?_nil, List.all_map, List.any_map, Function.id_comp, Function.comp_def, id, Bool.decide_eq_false, Bool.decide_eq_true])]
  simp (disch := (first | assumption | decide | omega | (simp only [List.length_map, List.length_append, List.length_cons, List.length_nil, List.length_range, len_rg, len_enum, len_cut1]; first | assumption | omega) | (simp only [List.length_map, List.length_append, List.length_cons, List.length_nil, List.length_range, len_rg, len_enum, len_cut1, lim] at *; omega))) only [run_ev, runD_nx, runD_rt, runD_exc, runD_ite, sSeq_ev, seqD_nx, seqD_rt, seqD_exc, seqD_ite, sIf_ev, ifD_ev, xAnd_ev, xOr_ev, xChain_ev, andD_ev, orD_ev, i_and, i_or, i_ff, lim_if, lim_if2, lim_ifL, xOwn_nil, Nat.reduceAdd, Nat.reduceSub, Int.reduceEq, Int.reduceLT, Int.reduceLE, Nat.reduceLT, Nat.reduceLeDiff, Nat.zero_add, Bool.false_eq_true, decide_false, decide_true, reduceCtorEq,  i_andP, i_orP, i_ok, i_pv, t_ii, t_ib, t_il, t_it, t_bi, t_bb, t_bl, t_bt, t_li, t_lb, t_ll, t_lt, t_ti, t_tb, t_tl, t_tt, sRet, sNil, sDrop, sAsg, sRaise, xIf, x2, x1, xN, xCall, xSl, oEv, xLc, wipeZ, iOf, iOf2, xB, bAnd, bOr, bNot, bYes, lNil, lCons, sSet, xV, sFrz, sPar2, sPar3, r_bind, r_bindX, r_bindB, r_calm, r_opt, r_optB, r_int, r_bl, r_non, xVar, e_eq, e_ne, e_add, e_sub, e_cat, e_mul, e_div, e_mod, e_neg, e_not, e_lt, e_le, e_gt, e_ge, e_isB, e_asB, e_truB, e_truI, e_asI, e_oInt, e_asP, e_listOf0, e_lstOf, sExt, sApp, sFor, e_isiI, e_isiB, e_isiL, e_isiP, e_len, e_lenP, e_sum, e_max, e_min, e_max2, e_min2, e_min3, e_all, e_anyI, e_anyB, e_l1, e_l2, e_l3, e_t2, keepD_pv, keepD_p, tzD_some, e_t3, e_asPp, e_zT3, e_listL, e_ix, e_ixP0, e_ixP1, e_sl, e_rev, e_in, e_seq, e_rg, e_en, e_zp, e_zN, e_zT, e_zCons, e_zNil, e_pl, e_noObj, e_noObjP, lift_ev, liftD_ok, liftD_exc, List.all_cons, List.all_nil, iOwn, lcGo_map, lcS_pure, lcS_filt, Option.bind_some, Option.map_some, List.map_cons, List.map_nil, List.length_cons, List.length_nil, List.replicate_succ, List.replicate_zero, List.cons_append, List.nil_append, List.set_cons_zero, List.set_cons_succ, List.getElem?_cons_zero, List.getElem?_cons_succ, Bool.not_true, eq_self, not_true_eq_false, not_false_eq_true, Bool.true_xor, Bool.false_xor, Bool.not_false, Bool.not_not, Bool.true_and, Bool.and_true, Bool.false_and, Bool.and_false, Bool.true_or, Bool.or_true, Bool.or_false, Bool.false_or, decide_eq_true_eq, Bool.not_eq_true', decide_eq_false_iff_not, ne_eq, if_true, if_false, reduceIte, List.getElem?_nil, List.all_map, List.any_map, Function.id_comp, Function.comp_def, id, Bool.decide_eq_false, Bool.decide_eq_true, withSums]
def inner (s : Rows) : Rows := (cut s none (some (-1))).map fun row => cut row none (some (-1))
def toldSums (s : Rows) : List Int × List Int := ((cut s none (some (-1))).map fun row => ixD row (-1), cut (ixD s (-1)) none (some (-1)))
def resummed (s : Rows) : Rows := full (inner s)
theorem cut_rect {s : Rows} {n m : Nat} (h : Rect s n m) : Rect (cut s none (some (-1))) (n - 1) m := ⟨by rw [len_cut1, h.n], fun r hr => h.m r (mem_cut1 hr)⟩
/-! places -/
def rowPlaces (m : Nat) (k : Int) : List (Int × Int) := (rg 0 m).map fun j => (k, j)
def places (n m : Nat) : List (Int × Int) := (rg 0 n).flatMap (rowPlaces m)
theorem foldl_app {α β : Type} (g : α → List β) : ∀ (xs : List α) (s : List β), xs.foldl (fun s x => s ++ g x) s = s ++ xs.flatMap g
  | [], s => by simp
  | x :: xs, s => by rw [List.foldl_cons, foldl_app g xs, List.flatMap_cons, List.append_assoc]
theorem len_flat {α β : Type} (g : α → List β) (m : Nat) : ∀ (xs : List α), (∀ x ∈ xs, (g x).length ≤ m) → (xs.flatMap g).length ≤ xs.length * m
  | [], _ => by simp
  | x :: xs, h => by
    rw [List.flatMap_cons, List.length_append, List.length_cons, Nat.succ_mul]
    have := h x List.mem_cons_self
    have := len_flat g m xs fun y hy => h y (List.mem_cons_of_mem _ hy)
    omega
theorem len_rowPlaces (m : Nat) (k : Int) : (rowPlaces m k).length = m := by simp [rowPlaces, len_rg]
def rowUnlike (one other : Rows) (m : Nat) (k : Int) : List (Int × Int) := ((rg 0 m).filter fun j => decide ¬ixD (ixD one k) j = ixD (ixD other k) j).map fun j => (k, j)
def unlike (one other : Rows) : List (Int × Int) := (rg 0 one.length).flatMap (rowUnlike one other (ixD one 0).length)
theorem len_rowUnlike (one other : Rows) (m : Nat) (k : Int) : (rowUnlike one other m k).length ≤ m := by
  unfold rowUnlike
  rw [List.length_map]
  refine Nat.le_trans (List.length_filter_le _ _) ?_
  rw [len_rg]; omega
/-! the law's own -/
theorem p_Ltrue (a b : Bool) (w : Unit) : f_Ltrue [pv a, pv b] w = .ok (pv (decide (a = b))) w := by
  unfold f_Ltrue b_Ltrue
  simp (disch := (first | assumption | decide | omega | (simp only [List.length_map, List.length_append, List.length_cons, List.length_nil, List.length_range, len_rg, len_enum, len_cut1]; first | assumption | omega) | (simp only [List.length_map, List.length_append, List.length_cons, List.length_nil, List.length_range, len_rg, len_enum, len_cut1, lim] at *; omega))) only [run_ev, runD_nx, runD_rt, runD_exc, runD_ite, sSeq_ev, seqD_nx, seqD_rt, seqD_exc, seqD_ite, sIf_ev, ifD_ev, xAnd_ev, xOr_ev, xChain_ev, andD_ev, orD_ev, i_and, i_or, i_ff, lim_if, lim_if2, lim_ifL, xOwn_nil, Nat.reduceAdd, Nat.reduceSub, Int.reduceEq, Int.reduceLT, Int.reduceLE, Nat.reduceLT, Nat.reduceLeDiff, Nat.zero_add, Bool.false_eq_true, decide_false, decide_true, reduceCtorEq,  i_andP, i_orP, i_ok, i_pv, t_ii, t_ib, t_il, t_it, t_bi, t_bb, t_bl, t_bt, t_li, t_lb, t_ll, t_lt, t_ti, t_tb, t_tl, t_tt, sRet, sNil, sDrop, sAsg, sRaise, xIf, x2, x1, xN, xCall, xSl, oEv, xLc, wipeZ, iOf, iOf2, xB, bAnd, bOr, bNot, bYes, lNil, lCons, sSet, xV, sFrz, sPar2, sPar3, r_bind, r_bindX, r_bindB, r_calm, r_opt, r_optB, r_int, r_bl, r_non, xVar, e_eq, e_ne, e_add, e_sub, e_cat, e_mul, e_div, e_mod, e_neg, e_not, e_lt, e_le, e_gt, e_ge, e_isB, e_asB, e_truB, e_truI, e_asI, e_oInt, e_asP, e_listOf0, e_lstOf, sExt, sApp, sFor, e_isiI, e_isiB, e_isiL, e_isiP, e_len, e_lenP, e_sum, e_max, e_min, e_max2, e_min2, e_min3, e_all, e_anyI, e_anyB, e_l1, e_l2, e_l3, e_t2, keepD_pv, keepD_p, tzD_some, e_t3, e_asPp, e_zT3, e_listL, e_ix, e_ixP0, e_ixP1, e_sl, e_rev, e_in, e_seq, e_rg, e_en, e_zp, e_zN, e_zT, e_zCons, e_zNil, e_pl, e_noObj, e_noObjP, lift_ev, liftD_ok, liftD_exc, List.all_cons, List.all_nil, iOwn, lcGo_map, lcS_pure, lcS_filt, Option.bind_some, Option.map_some, List.map_cons, List.map_nil, List.length_cons, List.length_nil, List.replicate_succ, List.replicate_zero, List.cons_append, List.nil_append, List.set_cons_zero, List.set_cons_succ, List.getElem?_cons_zero, List.getElem?_cons_succ, Bool.not_true, eq_self, not_true_eq_false, not_false_eq_true, Bool.true_xor, Bool.false_xor, Bool.not_false, Bool.not_not, Bool.true_and, Bool.and_true, Bool.false_and, Bool.and_false, Bool.true_or, Bool.or_true, Bool.or_false, Bool.false_or, decide_eq_true_eq, Bool.not_eq_true', decide_eq_false_iff_not, ne_eq, if_true, if_false, reduceIte, List.getElem?_nil, List.all_map, List.any_map, Function.id_comp, Function.comp_def, id, Bool.decide_eq_false, Bool.decide_eq_true]
theorem p_Lgaps (s : Rows) (h : Sh s) (w : Unit) : f_Lgaps [pv s] w = .ok (pv (rowsOf s, columnsOf s)) w := by
  have h1 := h.n1
  have h2 := h.n2
  have h3 := h.m2 _ (h.ix0 (by decide))
  have h4 := h.m1 _ (h.ix0 (by decide))
  unfold f_Lgaps b_Lgaps
  simp (disch := (first | assumption | decide | omega | (simp only [List.length_map, List.length_append, List.length_cons, List.length_nil, List.length_range, len_rg, len_enum, len_cut1]; first | assumption | omega) | (simp only [List.length_map, List.length_append, List.length_cons, List.length_nil, List.length_range, len_rg, len_enum, len_cut1, lim] at *; omega))) only [run_ev, runD_nx, runD_rt, runD_exc, runD_ite, sSeq_ev, seqD_nx, seqD_rt, seqD_exc, seqD_ite, sIf_ev, ifD_ev, xAnd_ev, xOr_ev, xChain_ev, andD_ev, orD_ev, i_and, i_or, i_ff, lim_if, lim_if2, lim_ifL, xOwn_nil, Nat.reduceAdd, Nat.reduceSub, Int.reduceEq, Int.reduceLT, Int.reduceLE, Nat.reduceLT, Nat.reduceLeDiff, Nat.zero_add, Bool.false_eq_true, decide_false, decide_true, reduceCtorEq,  i_andP, i_orP, i_ok, i_pv, t_ii, t_ib, t_il, t_it, t_bi, t_bb, t_bl, t_bt, t_li, t_lb, t_ll, t_lt, t_ti, t_tb, t_tl, t_tt, sRet, sNil, sDrop, sAsg, sRaise, xIf, x2, x1, xN, xCall, xSl, oEv, xLc, wipeZ, iOf, iOf2, xB, bAnd, bOr, bNot, bYes, lNil, lCons, sSet, xV, sFrz, sPar2, sPar3, r_bind, r_bindX, r_bindB, r_calm, r_opt, r_optB, r_int, r_bl, r_non, xVar, e_eq, e_ne, e_add, e_sub, e_cat, e_mul, e_div, e_mod, e_neg, e_not, e_lt, e_le, e_gt, e_ge, e_isB, e_asB, e_truB, e_truI, e_asI, e_oInt, e_asP, e_listOf0, e_lstOf, sExt, sApp, sFor, e_isiI, e_isiB, e_isiL, e_isiP, e_len, e_lenP, e_sum, e_max, e_min, e_max2, e_min2, e_min3, e_all, e_anyI, e_anyB, e_l1, e_l2, e_l3, e_t2, keepD_pv, keepD_p, tzD_some, e_t3, e_asPp, e_zT3, e_listL, e_ix, e_ixP0, e_ixP1, e_sl, e_rev, e_in, e_seq, e_rg, e_en, e_zp, e_zN, e_zT, e_zCons, e_zNil, e_pl, e_noObj, e_noObjP, lift_ev, liftD_ok, liftD_exc, List.all_cons, List.all_nil, iOwn, lcGo_map, lcS_pure, lcS_filt, Option.bind_some, Option.map_some, List.map_cons, List.map_nil, List.length_cons, List.length_nil, List.replicate_succ, List.replicate_zero, List.cons_append, List.nil_append, List.set_cons_zero, List.set_cons_succ, List.getElem?_cons_zero, List.getElem?_cons_succ, Bool.not_true, eq_self, not_true_eq_false, not_false_eq_true, Bool.true_xor, Bool.false_xor, Bool.not_false, Bool.not_not, Bool.true_and, Bool.and_true, Bool.false_and, Bool.and_false, Bool.true_or, Bool.or_true, Bool.or_false, Bool.false_or, decide_eq_true_eq, Bool.not_eq_true', decide_eq_false_iff_not, ne_eq, if_true, if_false, reduceIte, List.getElem?_nil, List.all_map, List.any_map, Function.id_comp, Function.comp_def, id, Bool.decide_eq_false, Bool.decide_eq_true]
  rw [lc_eq (fun row : List Int => rowGap row) (fun r hr w => by
    have := h.m1 r hr
    simp (disch := (first | assumption | decide | omega | (simp only [List.length_map, List.length_append, List.length_cons, List.length_nil, List.length_range, len_rg, len_enum, len_cut1]; first | assumption | omega) | (simp only [List.length_map, List.length_append, List.length_cons, List.length_nil, List.length_range, len_rg, len_enum, len_cut1, lim] at *; omega))) only [run_ev, runD_nx, runD_rt, runD_exc, runD_ite, sSeq_ev, seqD_nx, seqD_rt, seqD_exc, seqD_ite, sIf_ev, ifD_ev, xAnd_ev, xOr_ev, xChain_ev, andD_ev, orD_ev, i_and, i_or, i_ff, lim_if, lim_if2, lim_ifL, xOwn_nil, Nat.reduceAdd, Nat.reduceSub, Int.reduceEq, Int.reduceLT, Int.reduceLE, Nat.reduceLT, Nat.reduceLeDiff, Nat.zero_add, Bool.false_eq_true, decide_false, decide_true, reduceCtorEq,  i_andP, i_orP, i_ok, i_pv, t_ii, t_ib, t_il, t_it, t_bi, t_bb, t_bl, t_bt, t_li, t_lb, t_ll, t_lt, t_ti, t_tb, t_tl, t_tt, sRet, sNil, sDrop, sAsg, sRaise, xIf, x2, x1, xN, xCall, xSl, oEv, xLc, wipeZ, iOf, iOf2, xB, bAnd, bOr, bNot, bYes, lNil, lCons, sSet, xV, sFrz, sPar2, sPar3, r_bind, r_bindX, r_bindB, r_calm, r_opt, r_optB, r_int, r_bl, r_non, xVar, e_eq, e_ne, e_add, e_sub, e_cat, e_mul, e_div, e_mod, e_neg, e_not, e_lt, e_le, e_gt, e_ge, e_isB, e_asB, e_truB, e_truI, e_asI, e_oInt, e_asP, e_listOf0, e_lstOf, sExt, sApp, sFor, e_isiI, e_isiB, e_isiL, e_isiP, e_len, e_lenP, e_sum, e_max, e_min, e_max2, e_min2, e_min3, e_all, e_anyI, e_anyB, e_l1, e_l2, e_l3, e_t2, keepD_pv, keepD_p, tzD_some, e_t3, e_asPp, e_zT3, e_listL, e_ix, e_ixP0, e_ixP1, e_sl, e_rev, e_in, e_seq, e_rg, e_en, e_zp, e_zN, e_zT, e_zCons, e_zNil, e_pl, e_noObj, e_noObjP, lift_ev, liftD_ok, liftD_exc, List.all_cons, List.all_nil, iOwn, lcGo_map, lcS_pure, lcS_filt, Option.bind_some, Option.map_some, List.map_cons, List.map_nil, List.length_cons, List.length_nil, List.replicate_succ, List.replicate_zero, List.cons_append, List.nil_append, List.set_cons_zero, List.set_cons_succ, List.getElem?_cons_zero, List.getElem?_cons_succ, Bool.not_true, eq_self, not_true_eq_false, not_false_eq_true, Bool.true_xor, Bool.false_xor, Bool.not_false, Bool.not_not, Bool.true_and, Bool.and_true, Bool.false_and, Bool.and_false, Bool.true_or, Bool.or_true, Bool.or_false, Bool.false_or, decide_eq_true_eq, Bool.not_eq_true', decide_eq_false_iff_not, ne_eq, if_true, if_false, reduceIte, List.getElem?_nil, List.all_map, List.any_map, Function.id_comp, Function.comp_def, id, Bool.decide_eq_false, Bool.decide_eq_true, rowGap])]
  simp (disch := (first | assumption | decide | omega | (simp only [List.length_map, List.length_append, List.length_cons, List.length_nil, List.length_range, len_rg, len_enum, len_cut1]; first | assumption | omega) | (simp only [List.length_map, List.length_append, List.length_cons, List.length_nil, List.length_range, len_rg, len_enum, len_cut1, lim] at *; omega))) only [run_ev, runD_nx, runD_rt, runD_exc, runD_ite, sSeq_ev, seqD_nx, seqD_rt, seqD_exc, seqD_ite, sIf_ev, ifD_ev, xAnd_ev, xOr_ev, xChain_ev, andD_ev, orD_ev, i_and, i_or, i_ff, lim_if, lim_if2, lim_ifL, xOwn_nil, Nat.reduceAdd, Nat.reduceSub, Int.reduceEq, Int.reduceLT, Int.reduceLE, Nat.reduceLT, Nat.reduceLeDiff, Nat.zero_add, Bool.false_eq_true, decide_false, decide_true, reduceCtorEq,  i_andP, i_orP, i_ok, i_pv, t_ii, t_ib, t_il, t_it, t_bi, t_bb, t_bl, t_bt, t_li, t_lb, t_ll, t_lt, t_ti, t_tb, t_tl, t_tt, sRet, sNil, sDrop, sAsg, sRaise, xIf, x2, x1, xN, xCall, xSl, oEv, xLc, wipeZ, iOf, iOf2, xB, bAnd, bOr, bNot, bYes, lNil, lCons, sSet, xV, sFrz, sPar2, sPar3, r_bind, r_bindX, r_bindB, r_calm, r_opt, r_optB, r_int, r_bl, r_non, xVar, e_eq, e_ne, e_add, e_sub, e_cat, e_mul, e_div, e_mod, e_neg, e_not, e_lt, e_le, e_gt, e_ge, e_isB, e_asB, e_truB, e_truI, e_asI, e_oInt, e_asP, e_listOf0, e_lstOf, sExt, sApp, sFor, e_isiI, e_isiB, e_isiL, e_isiP, e_len, e_lenP, e_sum, e_max, e_min, e_max2, e_min2, e_min3, e_all, e_anyI, e_anyB, e_l1, e_l2, e_l3, e_t2, keepD_pv, keepD_p, tzD_some, e_t3, e_asPp, e_zT3, e_listL, e_ix, e_ixP0, e_ixP1, e_sl, e_rev, e_in, e_seq, e_rg, e_en, e_zp, e_zN, e_zT, e_zCons, e_zNil, e_pl, e_noObj, e_noObjP, lift_ev, liftD_ok, liftD_exc, List.all_cons, List.all_nil, iOwn, lcGo_map, lcS_pure, lcS_filt, Option.bind_some, Option.map_some, List.map_cons, List.map_nil, List.length_cons, List.length_nil, List.replicate_succ, List.replicate_zero, List.cons_append, List.nil_append, List.set_cons_zero, List.set_cons_succ, List.getElem?_cons_zero, List.getElem?_cons_succ, Bool.not_true, eq_self, not_true_eq_false, not_false_eq_true, Bool.true_xor, Bool.false_xor, Bool.not_false, Bool.not_not, Bool.true_and, Bool.and_true, Bool.false_and, Bool.and_false, Bool.true_or, Bool.or_true, Bool.or_false, Bool.false_or, decide_eq_true_eq, Bool.not_eq_true', decide_eq_false_iff_not, ne_eq, if_true, if_false, reduceIte, List.getElem?_nil, List.all_map, List.any_map, Function.id_comp, Function.comp_def, id, Bool.decide_eq_false, Bool.decide_eq_true]
  rw [lc_eq (fun k : Int => s.map fun row => ixD row k) (fun k hk w => by
    have hk := mem_rg.mp hk
    rw [lc_eq (fun row : List Int => ixD row k) (fun r hr w => by
      have := h.eq r hr
      simp (disch := (first | assumption | decide | omega | (simp only [List.length_map, List.length_append, List.length_cons, List.length_nil, List.length_range, len_rg, len_enum, len_cut1]; first | assumption | omega) | (simp only [List.length_map, List.length_append, List.length_cons, List.length_nil, List.length_range, len_rg, len_enum, len_cut1, lim] at *; omega))) only [run_ev, runD_nx, runD_rt, runD_exc, runD_ite, sSeq_ev, seqD_nx, seqD_rt, seqD_exc, seqD_ite, sIf_ev, ifD_ev, xAnd_ev, xOr_ev, xChain_ev, andD_ev, orD_ev, i_and, i_or, i_ff, lim_if, lim_if2, lim_ifL, xOwn_nil, Nat.reduceAdd, Nat.reduceSub, Int.reduceEq, Int.reduceLT, Int.reduceLE, Nat.reduceLT, Nat.reduceLeDiff, Nat.zero_add, Bool.false_eq_true, decide_false, decide_true, reduceCtorEq,  i_andP, i_orP, i_ok, i_pv, t_ii, t_ib, t_il, t_it, t_bi, t_bb, t_bl, t_bt, t_li, t_lb, t_ll, t_lt, t_ti, t_tb, t_tl, t_tt, sRet, sNil, sDrop, sAsg, sRaise, xIf, x2, x1, xN, xCall, xSl, oEv, xLc, wipeZ, iOf, iOf2, xB, bAnd, bOr, bNot, bYes, lNil, lCons, sSet, xV, sFrz, sPar2, sPar3, r_bind, r_bindX, r_bindB, r_calm, r_opt, r_optB, r_int, r_bl, r_non, xVar, e_eq, e_ne, e_add, e_sub, e_cat, e_mul, e_div, e_mod, e_neg, e_not, e_lt, e_le, e_gt, e_ge, e_isB, e_asB, e_truB, e_truI, e_asI, e_oInt, e_asP, e_listOf0, e_lstOf, sExt, sApp, sFor, e_isiI, e_isiB, e_isiL, e_isiP, e_len, e_lenP, e_sum, e_max, e_min, e_max2, e_min2, e_min3, e_all, e_anyI, e_anyB, e_l1, e_l2, e_l3, e_t2, keepD_pv, keepD_p, tzD_some, e_t3, e_asPp, e_zT3, e_listL, e_ix, e_ixP0, e_ixP1, e_sl, e_rev, e_in, e_seq, e_rg, e_en, e_zp, e_zN, e_zT, e_zCons, e_zNil, e_pl, e_noObj, e_noObjP, lift_ev, liftD_ok, liftD_exc, List.all_cons, List.all_nil, iOwn, lcGo_map, lcS_pure, lcS_filt, Option.bind_some, Option.map_some, List.map_cons, List.map_nil, List.length_cons, List.length_nil, List.replicate_succ, List.replicate_zero, List.cons_append, List.nil_append, List.set_cons_zero, List.set_cons_succ, List.getElem?_cons_zero, List.getElem?_cons_succ, Bool.not_true, eq_self, not_true_eq_false, not_false_eq_true, Bool.true_xor, Bool.false_xor, Bool.not_false, Bool.not_not, Bool.true_and, Bool.and_true, Bool.false_and, Bool.and_false, Bool.true_or, Bool.or_true, Bool.or_false, Bool.false_or, decide_eq_true_eq, Bool.not_eq_true', decide_eq_false_iff_not, ne_eq, if_true, if_false, reduceIte, List.getElem?_nil, List.all_map, List.any_map, Function.id_comp, Function.comp_def, id, Bool.decide_eq_false, Bool.decide_eq_true])]
    simp (disch := (first | assumption | decide | omega | (simp only [List.length_map, List.length_append, List.length_cons, List.length_nil, List.length_range, len_rg, len_enum, len_cut1]; first | assumption | omega) | (simp only [List.length_map, List.length_append, List.length_cons, List.length_nil, List.length_range, len_rg, len_enum, len_cut1, lim] at *; omega))) only [run_ev, runD_nx, runD_rt, runD_exc, runD_ite, sSeq_ev, seqD_nx, seqD_rt, seqD_exc, seqD_ite, sIf_ev, ifD_ev, xAnd_ev, xOr_ev, xChain_ev, andD_ev, orD_ev, i_and, i_or, i_ff, lim_if, lim_if2, lim_ifL, xOwn_nil, Nat.reduceAdd, Nat.reduceSub, Int.reduceEq, Int.reduceLT, Int.reduceLE, Nat.reduceLT, Nat.reduceLeDiff, Nat.zero_add, Bool.false_eq_true, decide_false, decide_true, reduceCtorEq,  i_andP, i_orP, i_ok, i_pv, t_ii, t_ib, t_il, t_it, t_bi, t_bb, t_bl, t_bt, t_li, t_lb, t_ll, t_lt, t_ti, t_tb, t_tl, t_tt, sRet, sNil, sDrop, sAsg, sRaise, xIf, x2, x1, xN, xCall, xSl, oEv, xLc, wipeZ, iOf, iOf2, xB, bAnd, bOr, bNot, bYes, lNil, lCons, sSet, xV, sFrz, sPar2, sPar3, r_bind, r_bindX, r_bindB, r_calm, r_opt, r_optB, r_int, r_bl, r_non, xVar, e_eq, e_ne, e_add, e_sub, e_cat, e_mul, e_div, e_mod, e_neg, e_not, e_lt, e_le, e_gt, e_ge, e_isB, e_asB, e_truB, e_truI, e_asI, e_oInt, e_asP, e_listOf0, e_lstOf, sExt, sApp, sFor, e_isiI, e_isiB, e_isiL, e_isiP, e_len, e_lenP, e_sum, e_max, e_min, e_max2, e_min2, e_min3, e_all, e_anyI, e_anyB, e_l1, e_l2, e_l3, e_t2, keepD_pv, keepD_p, tzD_some, e_t3, e_asPp, e_zT3, e_listL, e_ix, e_ixP0, e_ixP1, e_sl, e_rev, e_in, e_seq, e_rg, e_en, e_zp, e_zN, e_zT, e_zCons, e_zNil, e_pl, e_noObj, e_noObjP, lift_ev, liftD_ok, liftD_exc, List.all_cons, List.all_nil, iOwn, lcGo_map, lcS_pure, lcS_filt, Option.bind_some, Option.map_some, List.map_cons, List.map_nil, List.length_cons, List.length_nil, List.replicate_succ, List.replicate_zero, List.cons_append, List.nil_append, List.set_cons_zero, List.set_cons_succ, List.getElem?_cons_zero, List.getElem?_cons_succ, Bool.not_true, eq_self, not_true_eq_false, not_false_eq_true, Bool.true_xor, Bool.false_xor, Bool.not_false, Bool.not_not, Bool.true_and, Bool.and_true, Bool.false_and, Bool.and_false, Bool.true_or, Bool.or_true, Bool.or_false, Bool.false_or, decide_eq_true_eq, Bool.not_eq_true', decide_eq_false_iff_not, ne_eq, if_true, if_false, reduceIte, List.getElem?_nil, List.all_map, List.any_map, Function.id_comp, Function.comp_def, id, Bool.decide_eq_false, Bool.decide_eq_true])]
  simp (disch := (first | assumption | decide | omega | (simp only [List.length_map, List.length_append, List.length_cons, List.length_nil, List.length_range, len_rg, len_enum, len_cut1]; first | assumption | omega) | (simp only [List.length_map, List.length_append, List.length_cons, List.length_nil, List.length_range, len_rg, len_enum, len_cut1, lim] at *; omega))) only [run_ev, runD_nx, runD_rt, runD_exc, runD_ite, sSeq_ev, seqD_nx, seqD_rt, seqD_exc, seqD_ite, sIf_ev, ifD_ev, xAnd_ev, xOr_ev, xChain_ev, andD_ev, orD_ev, i_and, i_or, i_ff, lim_if, lim_if2, lim_ifL, xOwn_nil, Nat.reduceAdd, Nat.reduceSub, Int.reduceEq, Int.reduceLT, Int.reduceLE, Nat.reduceLT, Nat.reduceLeDiff, Nat.zero_add, Bool.false_eq_true, decide_false, decide_true, reduceCtorEq,  i_andP, i_orP, i_ok, i_pv, t_ii, t_ib, t_il, t_it, t_bi, t_bb, t_bl, t_bt, t_li, t_lb, t_ll, t_lt, t_ti, t_tb, t_tl, t_tt, sRet, sNil, sDrop, sAsg, sRaise, xIf, x2, x1, xN, xCall, xSl, oEv, xLc, wipeZ, iOf, iOf2, xB, bAnd, bOr, bNot, bYes, lNil, lCons, sSet, xV, sFrz, sPar2, sPar3, r_bind, r_bindX, r_bindB, r_calm, r_opt, r_optB, r_int, r_bl, r_non, xVar, e_eq, e_ne, e_add, e_sub, e_cat, e_mul, e_div, e_mod, e_neg, e_not, e_lt, e_le, e_gt, e_ge, e_isB, e_asB, e_truB, e_truI, e_asI, e_oInt, e_asP, e_listOf0, e_lstOf, sExt, sApp, sFor, e_isiI, e_isiB, e_isiL, e_isiP, e_len, e_lenP, e_sum, e_max, e_min, e_max2, e_min2, e_min3, e_all, e_anyI, e_anyB, e_l1, e_l2, e_l3, e_t2, keepD_pv, keepD_p, tzD_some, e_t3, e_asPp, e_zT3, e_listL, e_ix, e_ixP0, e_ixP1, e_sl, e_rev, e_in, e_seq, e_rg, e_en, e_zp, e_zN, e_zT, e_zCons, e_zNil, e_pl, e_noObj, e_noObjP, lift_ev, liftD_ok, liftD_exc, List.all_cons, List.all_nil, iOwn, lcGo_map, lcS_pure, lcS_filt, Option.bind_some, Option.map_some, List.map_cons, List.map_nil, List.length_cons, List.length_nil, List.replicate_succ, List.replicate_zero, List.cons_append, List.nil_append, List.set_cons_zero, List.set_cons_succ, List.getElem?_cons_zero, List.getElem?_cons_succ, Bool.not_true, eq_self, not_true_eq_false, not_false_eq_true, Bool.true_xor, Bool.false_xor, Bool.not_false, Bool.not_not, Bool.true_and, Bool.and_true, Bool.false_and, Bool.and_false, Bool.true_or, Bool.or_true, Bool.or_false, Bool.false_or, decide_eq_true_eq, Bool.not_eq_true', decide_eq_false_iff_not, ne_eq, if_true, if_false, reduceIte, List.getElem?_nil, List.all_map, List.any_map, Function.id_comp, Function.comp_def, id, Bool.decide_eq_false, Bool.decide_eq_true]
  rw [lc_eq (fun row : List Int => rowGap row) (fun r hr w => by
    obtain ⟨k, hk, rfl⟩ := List.mem_map.mp hr
    simp (disch := (first | assumption | decide | omega | (simp only [List.length_map, List.length_append, List.length_cons, List.length_nil, List.length_range, len_rg, len_enum, len_cut1]; first | assumption | omega) | (simp only [List.length_map, List.length_append, List.length_cons, List.length_nil, List.length_range, len_rg, len_enum, len_cut1, lim] at *; omega))) only [run_ev, runD_nx, runD_rt, runD_exc, runD_ite, sSeq_ev, seqD_nx, seqD_rt, seqD_exc, seqD_ite, sIf_ev, ifD_ev, xAnd_ev, xOr_ev, xChain_ev, andD_ev, orD_ev, i_and, i_or, i_ff, lim_if, lim_if2, lim_ifL, xOwn_nil, Nat.reduceAdd, Nat.reduceSub, Int.reduceEq, Int.reduceLT, Int.reduceLE, Nat.reduceLT, Nat.reduceLeDiff, Nat.zero_add, Bool.false_eq_true, decide_false, decide_true, reduceCtorEq,  i_andP, i_orP, i_ok, i_pv, t_ii, t_ib, t_il, t_it, t_bi, t_bb, t_bl, t_bt, t_li, t_lb, t_ll, t_lt, t_ti, t_tb, t_tl, t_tt, sRet, sNil, sDrop, sAsg, sRaise, xIf, x2, x1, xN, xCall, xSl, oEv, xLc, wipeZ, iOf, iOf2, xB, bAnd, bOr, bNot, bYes, lNil, lCons, sSet, xV, sFrz, sPar2, sPar3, r_bind, r_bindX, r_bindB, r_calm, r_opt, r_optB, r_int, r_bl, r_non, xVar, e_eq, e_ne, e_add, e_sub, e_cat, e_mul, e_div, e_mod, e_neg, e_not, e_lt, e_le, e_gt, e_ge, e_isB, e_asB, e_truB, e_truI, e_asI, e_oInt, e_asP, e_listOf0, e_lstOf, sExt, sApp, sFor, e_isiI, e_isiB, e_isiL, e_isiP, e_len, e_lenP, e_sum, e_max, e_min, e_max2, e_min2, e_min3, e_all, e_anyI, e_anyB, e_l1, e_l2, e_l3, e_t2, keepD_pv, keepD_p, tzD_some, e_t3, e_asPp, e_zT3, e_listL, e_ix, e_ixP0, e_ixP1, e_sl, e_rev, e_in, e_seq, e_rg, e_en, e_zp, e_zN, e_zT, e_zCons, e_zNil, e_pl, e_noObj, e_noObjP, lift_ev, liftD_ok, liftD_exc, List.all_cons, List.all_nil, iOwn, lcGo_map, lcS_pure, lcS_filt, Option.bind_some, Option.map_some, List.map_cons, List.map_nil, List.length_cons, List.length_nil, List.replicate_succ, List.replicate_zero, List.cons_append, List.nil_append, List.set_cons_zero, List.set_cons_succ, List.getElem?_cons_zero, List.getElem?_cons_succ, Bool.not_true, eq_self, not_true_eq_false, not_false_eq_true, Bool.true_xor, Bool.false_xor, Bool.not_false, Bool.not_not, Bool.true_and, Bool.and_true, Bool.false_and, Bool.and_false, Bool.true_or, Bool.or_true, Bool.or_false, Bool.false_or, decide_eq_true_eq, Bool.not_eq_true', decide_eq_false_iff_not, ne_eq, if_true, if_false, reduceIte, List.getElem?_nil, List.all_map, List.any_map, Function.id_comp, Function.comp_def, id, Bool.decide_eq_false, Bool.decide_eq_true, rowGap])]
  simp (disch := (first | assumption | decide | omega | (simp only [List.length_map, List.length_append, List.length_cons, List.length_nil, List.length_range, len_rg, len_enum, len_cut1]; first | assumption | omega) | (simp only [List.length_map, List.length_append, List.length_cons, List.length_nil, List.length_range, len_rg, len_enum, len_cut1, lim] at *; omega))) only [run_ev, runD_nx, runD_rt, runD_exc, runD_ite, sSeq_ev, seqD_nx, seqD_rt, seqD_exc, seqD_ite, sIf_ev, ifD_ev, xAnd_ev, xOr_ev, xChain_ev, andD_ev, orD_ev, i_and, i_or, i_ff, lim_if, lim_if2, lim_ifL, xOwn_nil, Nat.reduceAdd, Nat.reduceSub, Int.reduceEq, Int.reduceLT, Int.reduceLE, Nat.reduceLT, Nat.reduceLeDiff, Nat.zero_add, Bool.false_eq_true, decide_false, decide_true, reduceCtorEq,  i_andP, i_orP, i_ok, i_pv, t_ii, t_ib, t_il, t_it, t_bi, t_bb, t_bl, t_bt, t_li, t_lb, t_ll, t_lt, t_ti, t_tb, t_tl, t_tt, sRet, sNil, sDrop, sAsg, sRaise, xIf, x2, x1, xN, xCall, xSl, oEv, xLc, wipeZ, iOf, iOf2, xB, bAnd, bOr, bNot, bYes, lNil, lCons, sSet, xV, sFrz, sPar2, sPar3, r_bind, r_bindX, r_bindB, r_calm, r_opt, r_optB, r_int, r_bl, r_non, xVar, e_eq, e_ne, e_add, e_sub, e_cat, e_mul, e_div, e_mod, e_neg, e_not, e_lt, e_le, e_gt, e_ge, e_isB, e_asB, e_truB, e_truI, e_asI, e_oInt, e_asP, e_listOf0, e_lstOf, sExt, sApp, sFor, e_isiI, e_isiB, e_isiL, e_isiP, e_len, e_lenP, e_sum, e_max, e_min, e_max2, e_min2, e_min3, e_all, e_anyI, e_anyB, e_l1, e_l2, e_l3, e_t2, keepD_pv, keepD_p, tzD_some, e_t3, e_asPp, e_zT3, e_listL, e_ix, e_ixP0, e_ixP1, e_sl, e_rev, e_in, e_seq, e_rg, e_en, e_zp, e_zN, e_zT, e_zCons, e_zNil, e_pl, e_noObj, e_noObjP, lift_ev, liftD_ok, liftD_exc, List.all_cons, List.all_nil, iOwn, lcGo_map, lcS_pure, lcS_filt, Option.bind_some, Option.map_some, List.map_cons, List.map_nil, List.length_cons, List.length_nil, List.replicate_succ, List.replicate_zero, List.cons_append, List.nil_append, List.set_cons_zero, List.set_cons_succ, List.getElem?_cons_zero, List.getElem?_cons_succ, Bool.not_true, eq_self, not_true_eq_false, not_false_eq_true, Bool.true_xor, Bool.false_xor, Bool.not_false, Bool.not_not, Bool.true_and, Bool.and_true, Bool.false_and, Bool.and_false, Bool.true_or, Bool.or_true, Bool.or_false, Bool.false_or, decide_eq_true_eq, Bool.not_eq_true', decide_eq_false_iff_not, ne_eq, if_true, if_false, reduceIte, List.getElem?_nil, List.all_map, List.any_map, Function.id_comp, Function.comp_def, id, Bool.decide_eq_false, Bool.decide_eq_true]
  unfold rowsOf columnsOf
  rw [List.map_map]; rfl
def lawRight (s : Rows) : Bool := decide ((rowsOf s ++ columnsOf s).filter (fun g => decide ¬g = 0) = [])
theorem p_Lis_right (s : Rows) (h : Sh s) (w : Unit) : f_Lis_right [pv s] w = .ok (pv (lawRight s)) w := by
  have h1 := h.n2
  have h3 := h.m2 _ (h.ix0 (by decide))
  have e1 : (rowsOf s).length = s.length := by simp [rowsOf]
  have e2 : (columnsOf s).length = (ixD s 0).length := by simp [columnsOf, len_rg]
  unfold f_Lis_right b_Lis_right
  simp (disch := (first | assumption | decide | omega | (simp only [List.length_map, List.length_append, List.length_cons, List.length_nil, List.length_range, len_rg, len_enum, len_cut1]; first | assumption | omega) | (simp only [List.length_map, List.length_append, List.length_cons, List.length_nil, List.length_range, len_rg, len_enum, len_cut1, lim] at *; omega))) only [run_ev, runD_nx, runD_rt, runD_exc, runD_ite, sSeq_ev, seqD_nx, seqD_rt, seqD_exc, seqD_ite, sIf_ev, ifD_ev, xAnd_ev, xOr_ev, xChain_ev, andD_ev, orD_ev, i_and, i_or, i_ff, lim_if, lim_if2, lim_ifL, xOwn_nil, Nat.reduceAdd, Nat.reduceSub, Int.reduceEq, Int.reduceLT, Int.reduceLE, Nat.reduceLT, Nat.reduceLeDiff, Nat.zero_add, Bool.false_eq_true, decide_false, decide_true, reduceCtorEq,  i_andP, i_orP, i_ok, i_pv, t_ii, t_ib, t_il, t_it, t_bi, t_bb, t_bl, t_bt, t_li, t_lb, t_ll, t_lt, t_ti, t_tb, t_tl, t_tt, sRet, sNil, sDrop, sAsg, sRaise, xIf, x2, x1, xN, xCall, xSl, oEv, xLc, wipeZ, iOf, iOf2, xB, bAnd, bOr, bNot, bYes, lNil, lCons, sSet, xV, sFrz, sPar2, sPar3, r_bind, r_bindX, r_bindB, r_calm, r_opt, r_optB, r_int, r_bl, r_non, xVar, e_eq, e_ne, e_add, e_sub, e_cat, e_mul, e_div, e_mod, e_neg, e_not, e_lt, e_le, e_gt, e_ge, e_isB, e_asB, e_truB, e_truI, e_asI, e_oInt, e_asP, e_listOf0, e_lstOf, sExt, sApp, sFor, e_isiI, e_isiB, e_isiL, e_isiP, e_len, e_lenP, e_sum, e_max, e_min, e_max2, e_min2, e_min3, e_all, e_anyI, e_anyB, e_l1, e_l2, e_l3, e_t2, keepD_pv, keepD_p, tzD_some, e_t3, e_asPp, e_zT3, e_listL, e_ix, e_ixP0, e_ixP1, e_sl, e_rev, e_in, e_seq, e_rg, e_en, e_zp, e_zN, e_zT, e_zCons, e_zNil, e_pl, e_noObj, e_noObjP, lift_ev, liftD_ok, liftD_exc, List.all_cons, List.all_nil, iOwn, lcGo_map, lcS_pure, lcS_filt, Option.bind_some, Option.map_some, List.map_cons, List.map_nil, List.length_cons, List.length_nil, List.replicate_succ, List.replicate_zero, List.cons_append, List.nil_append, List.set_cons_zero, List.set_cons_succ, List.getElem?_cons_zero, List.getElem?_cons_succ, Bool.not_true, eq_self, not_true_eq_false, not_false_eq_true, Bool.true_xor, Bool.false_xor, Bool.not_false, Bool.not_not, Bool.true_and, Bool.and_true, Bool.false_and, Bool.and_false, Bool.true_or, Bool.or_true, Bool.or_false, Bool.false_or, decide_eq_true_eq, Bool.not_eq_true', decide_eq_false_iff_not, ne_eq, if_true, if_false, reduceIte, List.getElem?_nil, List.all_map, List.any_map, Function.id_comp, Function.comp_def, id, Bool.decide_eq_false, Bool.decide_eq_true, p_Lgaps s h, e_nil, e_nilT, lawRight, List.map_id']
theorem p_Lall (s : Rows) (h : Sh s) (w : Unit) : f_Lall [pv s] w = .ok (pv (places s.length (ixD s 0).length)) w := by
  have h1 := h.n1
  have h2 := h.n2
  have h3 := h.m2 _ (h.ix0 (by decide))
  obtain ⟨δ', e, ⟨a, b, hδ⟩⟩ := forGo_pre (w := w) (xs := rg 0 s.length) (tz := zN 2) (body := sSet 1 (xV (x2 gAdd (xVar 1) (xLc (iOf rgOf1 (xN gLen (lCons (x2 gIx (xVar 0) (xInt 0)) lNil))) (zN 3) bYes (xN gTupD (lCons (xVar 2) (lCons (xVar 3) lNil))) [3])))) (δ := [.v (pv s), .v (pv ([] : List (Int × Int))), .no, .no])
    (fun p δ => ∃ a b, δ = [.v (pv s), .v (pv (p.flatMap (rowPlaces (ixD s 0).length))), a, b]) ⟨_, _, rfl⟩ fun p k r ex δ ⟨a, b, hd⟩ => by
      subst hd
      have hp : p.length ≤ 4 := by
        have := congrArg List.length ex
        simp [len_rg] at this
        omega
      have := len_flat (rowPlaces (ixD s 0).length) 4 p fun x _ => by rw [len_rowPlaces]; exact h3
      refine ⟨[.v (pv s), .v (pv (p.flatMap (rowPlaces (ixD s 0).length))), .v (pv k), b], rfl, [.v (pv s), .v (pv ((p ++ [k]).flatMap (rowPlaces (ixD s 0).length))), .v (pv k), b], .inl ?_, _, _, rfl⟩
      have hr := len_rowPlaces (ixD s 0).length k
      rw [List.flatMap_append, List.flatMap_singleton]
      simp (disch := (first | assumption | decide | omega | (simp only [List.length_map, List.length_append, List.length_cons, List.length_nil, List.length_range, len_rg, len_enum, len_cut1]; first | assumption | omega) | (simp only [List.length_map, List.length_append, List.length_cons, List.length_nil, List.length_range, len_rg, len_enum, len_cut1, lim] at *; omega))) only [run_ev, runD_nx, runD_rt, runD_exc, runD_ite, sSeq_ev, seqD_nx, seqD_rt, seqD_exc, seqD_ite, sIf_ev, ifD_ev, xAnd_ev, xOr_ev, xChain_ev, andD_ev, orD_ev, i_and, i_or, i_ff, lim_if, lim_if2, lim_ifL, xOwn_nil, Nat.reduceAdd, Nat.reduceSub, Int.reduceEq, Int.reduceLT, Int.reduceLE, Nat.reduceLT, Nat.reduceLeDiff, Nat.zero_add, Bool.false_eq_true, decide_false, decide_true, reduceCtorEq,  i_andP, i_orP, i_ok, i_pv, t_ii, t_ib, t_il, t_it, t_bi, t_bb, t_bl, t_bt, t_li, t_lb, t_ll, t_lt, t_ti, t_tb, t_tl, t_tt, sRet, sNil, sDrop, sAsg, sRaise, xIf, x2, x1, xN, xCall, xSl, oEv, xLc, wipeZ, iOf, iOf2, xB, bAnd, bOr, bNot, bYes, lNil, lCons, sSet, xV, sFrz, sPar2, sPar3, r_bind, r_bindX, r_bindB, r_calm, r_opt, r_optB, r_int, r_bl, r_non, xVar, e_eq, e_ne, e_add, e_sub, e_cat, e_mul, e_div, e_mod, e_neg, e_not, e_lt, e_le, e_gt, e_ge, e_isB, e_asB, e_truB, e_truI, e_asI, e_oInt, e_asP, e_listOf0, e_lstOf, sExt, sApp, sFor, e_isiI, e_isiB, e_isiL, e_isiP, e_len, e_lenP, e_sum, e_max, e_min, e_max2, e_min2, e_min3, e_all, e_anyI, e_anyB, e_l1, e_l2, e_l3, e_t2, keepD_pv, keepD_p, tzD_some, e_t3, e_asPp, e_zT3, e_listL, e_ix, e_ixP0, e_ixP1, e_sl, e_rev, e_in, e_seq, e_rg, e_en, e_zp, e_zN, e_zT, e_zCons, e_zNil, e_pl, e_noObj, e_noObjP, lift_ev, liftD_ok, liftD_exc, List.all_cons, List.all_nil, iOwn, lcGo_map, lcS_pure, lcS_filt, Option.bind_some, Option.map_some, List.map_cons, List.map_nil, List.length_cons, List.length_nil, List.replicate_succ, List.replicate_zero, List.cons_append, List.nil_append, List.set_cons_zero, List.set_cons_succ, List.getElem?_cons_zero, List.getElem?_cons_succ, Bool.not_true, eq_self, not_true_eq_false, not_false_eq_true, Bool.true_xor, Bool.false_xor, Bool.not_false, Bool.not_not, Bool.true_and, Bool.and_true, Bool.false_and, Bool.and_false, Bool.true_or, Bool.or_true, Bool.or_false, Bool.false_or, decide_eq_true_eq, Bool.not_eq_true', decide_eq_false_iff_not, ne_eq, if_true, if_false, reduceIte, List.getElem?_nil, List.all_map, List.any_map, Function.id_comp, Function.comp_def, id, Bool.decide_eq_false, Bool.decide_eq_true]
      have er : (rg 0 (ixD s 0).length).map (Prod.mk k) = rowPlaces (ixD s 0).length k := rfl
      rw [er]
  subst hδ
  unfold f_Lall b_Lall
  simp (disch := (first | assumption | decide | omega | (simp only [List.length_map, List.length_append, List.length_cons, List.length_nil, List.length_range, len_rg, len_enum, len_cut1]; first | assumption | omega) | (simp only [List.length_map, List.length_append, List.length_cons, List.length_nil, List.length_range, len_rg, len_enum, len_cut1, lim] at *; omega))) only [run_ev, runD_nx, runD_rt, runD_exc, runD_ite, sSeq_ev, seqD_nx, seqD_rt, seqD_exc, seqD_ite, sIf_ev, ifD_ev, xAnd_ev, xOr_ev, xChain_ev, andD_ev, orD_ev, i_and, i_or, i_ff, lim_if, lim_if2, lim_ifL, xOwn_nil, Nat.reduceAdd, Nat.reduceSub, Int.reduceEq, Int.reduceLT, Int.reduceLE, Nat.reduceLT, Nat.reduceLeDiff, Nat.zero_add, Bool.false_eq_true, decide_false, decide_true, reduceCtorEq,  i_andP, i_orP, i_ok, i_pv, t_ii, t_ib, t_il, t_it, t_bi, t_bb, t_bl, t_bt, t_li, t_lb, t_ll, t_lt, t_ti, t_tb, t_tl, t_tt, sRet, sNil, sDrop, sAsg, sRaise, xIf, x2, x1, xN, xCall, xSl, oEv, xLc, wipeZ, iOf, iOf2, xB, bAnd, bOr, bNot, bYes, lNil, lCons, sSet, xV, sFrz, sPar2, sPar3, r_bind, r_bindX, r_bindB, r_calm, r_opt, r_optB, r_int, r_bl, r_non, xVar, e_eq, e_ne, e_add, e_sub, e_cat, e_mul, e_div, e_mod, e_neg, e_not, e_lt, e_le, e_gt, e_ge, e_isB, e_asB, e_truB, e_truI, e_asI, e_oInt, e_asP, e_listOf0, e_lstOf, sExt, sApp, sFor, e_isiI, e_isiB, e_isiL, e_isiP, e_len, e_lenP, e_sum, e_max, e_min, e_max2, e_min2, e_min3, e_all, e_anyI, e_anyB, e_l1, e_l2, e_l3, e_t2, keepD_pv, keepD_p, tzD_some, e_t3, e_asPp, e_zT3, e_listL, e_ix, e_ixP0, e_ixP1, e_sl, e_rev, e_in, e_seq, e_rg, e_en, e_zp, e_zN, e_zT, e_zCons, e_zNil, e_pl, e_noObj, e_noObjP, lift_ev, liftD_ok, liftD_exc, List.all_cons, List.all_nil, iOwn, lcGo_map, lcS_pure, lcS_filt, Option.bind_some, Option.map_some, List.map_cons, List.map_nil, List.length_cons, List.length_nil, List.replicate_succ, List.replicate_zero, List.cons_append, List.nil_append, List.set_cons_zero, List.set_cons_succ, List.getElem?_cons_zero, List.getElem?_cons_succ, Bool.not_true, eq_self, not_true_eq_false, not_false_eq_true, Bool.true_xor, Bool.false_xor, Bool.not_false, Bool.not_not, Bool.true_and, Bool.and_true, Bool.false_and, Bool.and_false, Bool.true_or, Bool.or_true, Bool.or_false, Bool.false_or, decide_eq_true_eq, Bool.not_eq_true', decide_eq_false_iff_not, ne_eq, if_true, if_false, reduceIte, List.getElem?_nil, List.all_map, List.any_map, Function.id_comp, Function.comp_def, id, Bool.decide_eq_false, Bool.decide_eq_true, e_nil]
  change runD (seqD (forGo (zN 2) _ ((rg 0 s.length).map Py.enc) [.v (pv s), .v (pv ([] : List (Int × Int))), .no, .no] w) _) = _
  rw [e]
  simp (disch := (first | assumption | decide | omega | (simp only [List.length_map, List.length_append, List.length_cons, List.length_nil, List.length_range, len_rg, len_enum, len_cut1]; first | assumption | omega) | (simp only [List.length_map, List.length_append, List.length_cons, List.length_nil, List.length_range, len_rg, len_enum, len_cut1, lim] at *; omega))) only [run_ev, runD_nx, runD_rt, runD_exc, runD_ite, sSeq_ev, seqD_nx, seqD_rt, seqD_exc, seqD_ite, sIf_ev, ifD_ev, xAnd_ev, xOr_ev, xChain_ev, andD_ev, orD_ev, i_and, i_or, i_ff, lim_if, lim_if2, lim_ifL, xOwn_nil, Nat.reduceAdd, Nat.reduceSub, Int.reduceEq, Int.reduceLT, Int.reduceLE, Nat.reduceLT, Nat.reduceLeDiff, Nat.zero_add, Bool.false_eq_true, decide_false, decide_true, reduceCtorEq,  i_andP, i_orP, i_ok, i_pv, t_ii, t_ib, t_il, t_it, t_bi, t_bb, t_bl, t_bt, t_li, t_lb, t_ll, t_lt, t_ti, t_tb, t_tl, t_tt, sRet, sNil, sDrop, sAsg, sRaise, xIf, x2, x1, xN, xCall, xSl, oEv, xLc, wipeZ, iOf, iOf2, xB, bAnd, bOr, bNot, bYes, lNil, lCons, sSet, xV, sFrz, sPar2, sPar3, r_bind, r_bindX, r_bindB, r_calm, r_opt, r_optB, r_int, r_bl, r_non, xVar, e_eq, e_ne, e_add, e_sub, e_cat, e_mul, e_div, e_mod, e_neg, e_not, e_lt, e_le, e_gt, e_ge, e_isB, e_asB, e_truB, e_truI, e_asI, e_oInt, e_asP, e_listOf0, e_lstOf, sExt, sApp, sFor, e_isiI, e_isiB, e_isiL, e_isiP, e_len, e_lenP, e_sum, e_max, e_min, e_max2, e_min2, e_min3, e_all, e_anyI, e_anyB, e_l1, e_l2, e_l3, e_t2, keepD_pv, keepD_p, tzD_some, e_t3, e_asPp, e_zT3, e_listL, e_ix, e_ixP0, e_ixP1, e_sl, e_rev, e_in, e_seq, e_rg, e_en, e_zp, e_zN, e_zT, e_zCons, e_zNil, e_pl, e_noObj, e_noObjP, lift_ev, liftD_ok, liftD_exc, List.all_cons, List.all_nil, iOwn, lcGo_map, lcS_pure, lcS_filt, Option.bind_some, Option.map_some, List.map_cons, List.map_nil, List.length_cons, List.length_nil, List.replicate_succ, List.replicate_zero, List.cons_append, List.nil_append, List.set_cons_zero, List.set_cons_succ, List.getElem?_cons_zero, List.getElem?_cons_succ, Bool.not_true, eq_self, not_true_eq_false, not_false_eq_true, Bool.true_xor, Bool.false_xor, Bool.not_false, Bool.not_not, Bool.true_and, Bool.and_true, Bool.false_and, Bool.and_false, Bool.true_or, Bool.or_true, Bool.or_false, Bool.false_or, decide_eq_true_eq, Bool.not_eq_true', decide_eq_false_iff_not, ne_eq, if_true, if_false, reduceIte, List.getElem?_nil, List.all_map, List.any_map, Function.id_comp, Function.comp_def, id, Bool.decide_eq_false, Bool.decide_eq_true, places]
/-! changed entries -/
def setRC (s : Rows) (k j v : Int) : Rows := s.set k.toNat ((s.getD k.toNat []).set j.toNat v)
abbrev Chg := List ((Int × Int) × Int)
def put (s : Rows) (cs : Chg) : Rows := cs.foldl (fun s c => setRC s c.1.1 c.1.2 c.2) s
theorem ixN_of {n : Nat} {i : Int} (h : 0 ≤ i ∧ i < n) : L2.ixN n i = some i.toNat := by
  unfold L2.ixN
  rw [if_pos h.1, if_pos h.2]
theorem lcGoO_rows {W : Type} (i : Nat) (δ : Ev) (w : W) (hi : i < δ.length) : ∀ s : Rows, lcGoO (zN i) (xListO (xVar i)) δ (s.map Py.enc) w = .ok (s.map fun r => r.map Py.enc) w
  | [] => rfl
  | r :: s => by
    show lcGoO (zN i) (xListO (xVar i)) δ (Py.enc r :: s.map Py.enc) w = _
    unfold lcGoO
    rw [e_zN, if_pos hi]
    have e1 : xListO (xVar i) (δ.set i (.v (pv r))) w = .ok (.own (r.map Py.enc)) w := by
      unfold xListO xVar
      rw [List.getElem?_set_self hi]; rfl
    dsimp only
    rw [e1]
    dsimp only
    rw [lcGoO_rows i δ w hi s]; rfl
theorem setRC_rect {s : Rows} {n m : Nat} (h : Rect s n m) (k j v : Int) (hk : 0 ≤ k ∧ k < n) : Rect (setRC s k j v) n m := ⟨by unfold setRC; rw [List.length_set]; exact h.n, fun r hr => by
  unfold setRC at hr
  rcases List.mem_or_eq_of_mem_set hr with hr | rfl
  · exact h.m r hr
  · rw [List.length_set]
    have hl : k.toNat < s.length := by have := h.n; omega
    rw [List.getD_eq_getElem?_getD, List.getElem?_eq_getElem hl]
    exact h.m _ (List.getElem_mem hl)⟩
theorem put_rect {n m : Nat} : ∀ (cs : Chg) (s : Rows), Rect s n m → (∀ c ∈ cs, 0 ≤ c.1.1 ∧ c.1.1 < n) → Rect (put s cs) n m
  | [], _, h, _ => h
  | c :: cs, s, h, hc => put_rect cs _ (setRC_rect h _ _ _ (hc c List.mem_cons_self)) fun d hd => hc d (List.mem_cons_of_mem _ hd)
theorem put_snoc (s : Rows) (cs : Chg) (c : (Int × Int) × Int) : put s (cs ++ [c]) = setRC (put s cs) c.1.1 c.1.2 c.2 := by
  unfold put; rw [List.foldl_append]; rfl
theorem e_frz2 (s : Rows) : D.p (.list ((s.map fun r => r.map Py.enc).map PyData.list)) = pv s := by
  rw [List.map_map]; rfl
/-- one stored entry -/
theorem setII_ev {W : Type} {δ : Ev} {w : W} {i : Nat} {k h f : XF W} {s : Rows} {n m : Nat} {a b v : Int} (R : Rect s n m) (hδ : δ[i]? = some (.own2 (s.map fun r => r.map Py.enc))) (e1 : f δ w = .ok (pv v) w) (e2 : k δ w = .ok (pv a) w) (e3 : h δ w = .ok (pv b) w)
    (ha : 0 ≤ a ∧ a < n) (hb : 0 ≤ b ∧ b < m) : sSetII i k h f δ w = .nx (δ.set i (.own2 ((setRC s a b v).map fun r => r.map Py.enc))) w := by
  have hl : a.toNat < s.length := by have := R.n; omega
  have hr := R.m _ (List.getElem_mem hl)
  have g1 : (s.map fun r => r.map Py.enc).getD a.toNat [] = s[a.toNat].map Py.enc := by
    rw [List.getD_eq_getElem?_getD, List.getElem?_map, List.getElem?_eq_getElem hl]; rfl
  have g2 : s.getD a.toNat [] = s[a.toNat] := by
    rw [List.getD_eq_getElem?_getD, List.getElem?_eq_getElem hl]; rfl
  unfold sSetII
  rw [hδ]
  dsimp only
  rw [e1]
  dsimp only
  rw [e2]
  dsimp only
  rw [e_asI]
  show (match L2.ixN (s.map fun r => r.map Py.enc).length a with
    | some j => _
    | none => _) = _
  rw [List.length_map, R.n, ixN_of ha]
  dsimp only
  rw [e3]
  dsimp only
  rw [e_asI, e_asP, g1]
  show (match some (Py.enc v), L2.ixN (s[a.toNat].map Py.enc).length b with
    | some p, some l => _
    | _, _ => _) = _
  rw [List.length_map, hr, ixN_of hb]
  dsimp only
  unfold setRC
  rw [g2, List.map_set, List.map_set]
theorem p_Lput (s : Rows) (cs : Chg) (n m : Nat) (R : Rect s n m) (hn : n ≤ 1000) (hc : ∀ c ∈ cs, (0 ≤ c.1.1 ∧ c.1.1 < n) ∧ 0 ≤ c.1.2 ∧ c.1.2 < m) (w : Unit) : f_Lput [pv s, pv cs] w = .ok (pv (put s cs)) w := by
  have h1 := R.n
  obtain ⟨δ', e, ⟨a, b, c, d, hδ⟩⟩ := forGo_pre (w := w) (xs := cs) (tz := zT 2 (zCons (zT 2 (zCons (zN 3) (zCons (zN 4) zNil))) (zCons (zN 5) zNil))) (body := sSetII 2 (xVar 3) (xVar 4) (xVar 5)) (δ := [.v (pv s), .v (pv cs), .own2 (s.map fun r => r.map Py.enc), .no, .no, .no, .no])
    (fun p δ => ∃ a b c d, δ = [.v (pv s), .v (pv cs), .own2 ((put s p).map fun r => r.map Py.enc), a, b, c, d]) ⟨_, _, _, _, rfl⟩ fun p x r ex δ ⟨a, b, c, d, hd⟩ => by
      subst hd
      have hx := hc x (by rw [ex]; simp)
      have Rp := put_rect p s R fun c h => (hc c (by rw [ex]; simp [h])).1
      refine ⟨[.v (pv s), .v (pv cs), .own2 ((put s p).map fun r => r.map Py.enc), .v (pv x.1.1), .v (pv x.1.2), .v (pv x.2), d], rfl, _, .inl (setII_ev Rp rfl rfl rfl rfl hx.1 hx.2), ?_⟩
      rw [put_snoc]
      exact ⟨_, _, _, _, rfl⟩
  subst hδ
  unfold f_Lput b_Lput
  simp (disch := (first | assumption | decide | omega | (simp only [List.length_map, List.length_append, List.length_cons, List.length_nil, List.length_range, len_rg, len_enum, len_cut1]; first | assumption | omega) | (simp only [List.length_map, List.length_append, List.length_cons, List.length_nil, List.length_range, len_rg, len_enum, len_cut1, lim] at *; omega))) only [run_ev, runD_nx, runD_rt, runD_exc, runD_ite, sSeq_ev, seqD_nx, seqD_rt, seqD_exc, seqD_ite, sIf_ev, ifD_ev, xAnd_ev, xOr_ev, xChain_ev, andD_ev, orD_ev, i_and, i_or, i_ff, lim_if, lim_if2, lim_ifL, xOwn_nil, Nat.reduceAdd, Nat.reduceSub, Int.reduceEq, Int.reduceLT, Int.reduceLE, Nat.reduceLT, Nat.reduceLeDiff, Nat.zero_add, Bool.false_eq_true, decide_false, decide_true, reduceCtorEq,  i_andP, i_orP, i_ok, i_pv, t_ii, t_ib, t_il, t_it, t_bi, t_bb, t_bl, t_bt, t_li, t_lb, t_ll, t_lt, t_ti, t_tb, t_tl, t_tt, sRet, sNil, sDrop, sAsg, sRaise, xIf, x2, x1, xN, xCall, xSl, oEv, xLc, wipeZ, iOf, iOf2, xB, bAnd, bOr, bNot, bYes, lNil, lCons, sSet, xV, sFrz, sPar2, sPar3, r_bind, r_bindX, r_bindB, r_calm, r_opt, r_optB, r_int, r_bl, r_non, xVar, e_eq, e_ne, e_add, e_sub, e_cat, e_mul, e_div, e_mod, e_neg, e_not, e_lt, e_le, e_gt, e_ge, e_isB, e_asB, e_truB, e_truI, e_asI, e_oInt, e_asP, e_listOf0, e_lstOf, sExt, sApp, sFor, e_isiI, e_isiB, e_isiL, e_isiP, e_len, e_lenP, e_sum, e_max, e_min, e_max2, e_min2, e_min3, e_all, e_anyI, e_anyB, e_l1, e_l2, e_l3, e_t2, keepD_pv, keepD_p, tzD_some, e_t3, e_asPp, e_zT3, e_listL, e_ix, e_ixP0, e_ixP1, e_sl, e_rev, e_in, e_seq, e_rg, e_en, e_zp, e_zN, e_zT, e_zCons, e_zNil, e_pl, e_noObj, e_noObjP, lift_ev, liftD_ok, liftD_exc, List.all_cons, List.all_nil, iOwn, lcGo_map, lcS_pure, lcS_filt, Option.bind_some, Option.map_some, List.map_cons, List.map_nil, List.length_cons, List.length_nil, List.replicate_succ, List.replicate_zero, List.cons_append, List.nil_append, List.set_cons_zero, List.set_cons_succ, List.getElem?_cons_zero, List.getElem?_cons_succ, Bool.not_true, eq_self, not_true_eq_false, not_false_eq_true, Bool.true_xor, Bool.false_xor, Bool.not_false, Bool.not_not, Bool.true_and, Bool.and_true, Bool.false_and, Bool.and_false, Bool.true_or, Bool.or_true, Bool.or_false, Bool.false_or, decide_eq_true_eq, Bool.not_eq_true', decide_eq_false_iff_not, ne_eq, if_true, if_false, reduceIte, List.getElem?_nil, List.all_map, List.any_map, Function.id_comp, Function.comp_def, id, Bool.decide_eq_false, Bool.decide_eq_true, xLcOO, lcGoO_rows]
  change runD (seqD (forGo _ _ (cs.map Py.enc) [.v (pv s), .v (pv cs), .own2 (s.map fun r => r.map Py.enc), .no, .no, .no, .no] w) _) = _
  rw [e]
  simp (disch := (first | assumption | decide | omega | (simp only [List.length_map, List.length_append, List.length_cons, List.length_nil, List.length_range, len_rg, len_enum, len_cut1]; first | assumption | omega) | (simp only [List.length_map, List.length_append, List.length_cons, List.length_nil, List.length_range, len_rg, len_enum, len_cut1, lim] at *; omega))) only [run_ev, runD_nx, runD_rt, runD_exc, runD_ite, sSeq_ev, seqD_nx, seqD_rt, seqD_exc, seqD_ite, sIf_ev, ifD_ev, xAnd_ev, xOr_ev, xChain_ev, andD_ev, orD_ev, i_and, i_or, i_ff, lim_if, lim_if2, lim_ifL, xOwn_nil, Nat.reduceAdd, Nat.reduceSub, Int.reduceEq, Int.reduceLT, Int.reduceLE, Nat.reduceLT, Nat.reduceLeDiff, Nat.zero_add, Bool.false_eq_true, decide_false, decide_true, reduceCtorEq,  i_andP, i_orP, i_ok, i_pv, t_ii, t_ib, t_il, t_it, t_bi, t_bb, t_bl, t_bt, t_li, t_lb, t_ll, t_lt, t_ti, t_tb, t_tl, t_tt, sRet, sNil, sDrop, sAsg, sRaise, xIf, x2, x1, xN, xCall, xSl, oEv, xLc, wipeZ, iOf, iOf2, xB, bAnd, bOr, bNot, bYes, lNil, lCons, sSet, xV, sFrz, sPar2, sPar3, r_bind, r_bindX, r_bindB, r_calm, r_opt, r_optB, r_int, r_bl, r_non, xVar, e_eq, e_ne, e_add, e_sub, e_cat, e_mul, e_div, e_mod, e_neg, e_not, e_lt, e_le, e_gt, e_ge, e_isB, e_asB, e_truB, e_truI, e_asI, e_oInt, e_asP, e_listOf0, e_lstOf, sExt, sApp, sFor, e_isiI, e_isiB, e_isiL, e_isiP, e_len, e_lenP, e_sum, e_max, e_min, e_max2, e_min2, e_min3, e_all, e_anyI, e_anyB, e_l1, e_l2, e_l3, e_t2, keepD_pv, keepD_p, tzD_some, e_t3, e_asPp, e_zT3, e_listL, e_ix, e_ixP0, e_ixP1, e_sl, e_rev, e_in, e_seq, e_rg, e_en, e_zp, e_zN, e_zT, e_zCons, e_zNil, e_pl, e_noObj, e_noObjP, lift_ev, liftD_ok, liftD_exc, List.all_cons, List.all_nil, iOwn, lcGo_map, lcS_pure, lcS_filt, Option.bind_some, Option.map_some, List.map_cons, List.map_nil, List.length_cons, List.length_nil, List.replicate_succ, List.replicate_zero, List.cons_append, List.nil_append, List.set_cons_zero, List.set_cons_succ, List.getElem?_cons_zero, List.getElem?_cons_succ, Bool.not_true, eq_self, not_true_eq_false, not_false_eq_true, Bool.true_xor, Bool.false_xor, Bool.not_false, Bool.not_not, Bool.true_and, Bool.and_true, Bool.false_and, Bool.and_false, Bool.true_or, Bool.or_true, Bool.or_false, Bool.false_or, decide_eq_true_eq, Bool.not_eq_true', decide_eq_false_iff_not, ne_eq, if_true, if_false, reduceIte, List.getElem?_nil, List.all_map, List.any_map, Function.id_comp, Function.comp_def, id, Bool.decide_eq_false, Bool.decide_eq_true, e_frz2]
/-! the draws -/
def Gd (w : Wd) : Prop := ∃ ns n, w = some (ns, n) ∧ ns ≠ []
theorem w_start (ns : List Int) : ∃ w', f_Lstart [.scr ns] none = .ok (.obj 0) w' ∧ Gd w' := by
  cases ns with
  | nil => exact ⟨some ([0], 0), rfl, [0], 0, rfl, by simp⟩
  | cons x r =>
    refine ⟨some (x :: r, 0), ?_, _, _, rfl, by simp⟩
    have e1 : ints? (.int x :: r.map PyData.int) = some (x :: r) := ints?_map (x :: r)
    have e2 : gNeS (.scr (x :: r)) (.p (.list [])) = some (pv true) := by
      show (if eqOk (.list (.int x :: r.map .int)) (.list []) = true then some (D.p (.bool (!PyData.eqv (.list (.int x :: r.map .int)) (.list [])))) else none) = _
      have e3 : eqOk (.list (.int x :: r.map .int)) (.list []) = true := eqOk_pv (x :: r) ([] : List Int) (by decide)
      rw [if_pos e3]
      have e4 : PyData.eqv (.list (.int x :: r.map .int)) (.list []) = false := by simp [PyData.eqv, PyData.eqvAll]
      rw [e4]; rfl
    unfold f_Lstart b_Lstart
    simp (disch := (first | assumption | decide | omega | (simp only [List.length_map, List.length_append, List.length_cons, List.length_nil, List.length_range, len_rg, len_enum, len_cut1]; first | assumption | omega) | (simp only [List.length_map, List.length_append, List.length_cons, List.length_nil, List.length_range, len_rg, len_enum, len_cut1, lim] at *; omega))) only [run_ev, runD_nx, runD_rt, runD_exc, runD_ite, sSeq_ev, seqD_nx, seqD_rt, seqD_exc, seqD_ite, sIf_ev, ifD_ev, xAnd_ev, xOr_ev, xChain_ev, andD_ev, orD_ev, i_and, i_or, i_ff, lim_if, lim_if2, lim_ifL, xOwn_nil, Nat.reduceAdd, Nat.reduceSub, Int.reduceEq, Int.reduceLT, Int.reduceLE, Nat.reduceLT, Nat.reduceLeDiff, Nat.zero_add, Bool.false_eq_true, decide_false, decide_true, reduceCtorEq,  i_andP, i_orP, i_ok, i_pv, t_ii, t_ib, t_il, t_it, t_bi, t_bb, t_bl, t_bt, t_li, t_lb, t_ll, t_lt, t_ti, t_tb, t_tl, t_tt, sRet, sNil, sDrop, sAsg, sRaise, xIf, x2, x1, xN, xCall, xSl, oEv, xLc, wipeZ, iOf, iOf2, xB, bAnd, bOr, bNot, bYes, lNil, lCons, sSet, xV, sFrz, sPar2, sPar3, r_bind, r_bindX, r_bindB, r_calm, r_opt, r_optB, r_int, r_bl, r_non, xVar, e_eq, e_ne, e_add, e_sub, e_cat, e_mul, e_div, e_mod, e_neg, e_not, e_lt, e_le, e_gt, e_ge, e_isB, e_asB, e_truB, e_truI, e_asI, e_oInt, e_asP, e_listOf0, e_lstOf, sExt, sApp, sFor, e_isiI, e_isiB, e_isiL, e_isiP, e_len, e_lenP, e_sum, e_max, e_min, e_max2, e_min2, e_min3, e_all, e_anyI, e_anyB, e_l1, e_l2, e_l3, e_t2, keepD_pv, keepD_p, tzD_some, e_t3, e_asPp, e_zT3, e_listL, e_ix, e_ixP0, e_ixP1, e_sl, e_rev, e_in, e_seq, e_rg, e_en, e_zp, e_zN, e_zT, e_zCons, e_zNil, e_pl, e_noObj, e_noObjP, lift_ev, liftD_ok, liftD_exc, List.all_cons, List.all_nil, iOwn, lcGo_map, lcS_pure, lcS_filt, Option.bind_some, Option.map_some, List.map_cons, List.map_nil, List.length_cons, List.length_nil, List.replicate_succ, List.replicate_zero, List.cons_append, List.nil_append, List.set_cons_zero, List.set_cons_succ, List.getElem?_cons_zero, List.getElem?_cons_succ, Bool.not_true, eq_self, not_true_eq_false, not_false_eq_true, Bool.true_xor, Bool.false_xor, Bool.not_false, Bool.not_not, Bool.true_and, Bool.and_true, Bool.false_and, Bool.and_false, Bool.true_or, Bool.or_true, Bool.or_false, Bool.false_or, decide_eq_true_eq, Bool.not_eq_true', decide_eq_false_iff_not, ne_eq, if_true, if_false, reduceIte, List.getElem?_nil, List.all_map, List.any_map, Function.id_comp, Function.comp_def, id, Bool.decide_eq_false, Bool.decide_eq_true, sStart, xIfX, e_nil, e2, xListS, e1]
theorem g_ix00 (ns : List Int) (n : Int) : gIxW (.obj 0) (pv (0 : Int)) (some (ns, n)) = some (.obj 1) := rfl
theorem g_ix01 (ns : List Int) (n : Int) : gIxW (.obj 0) (pv (1 : Int)) (some (ns, n)) = some (pv n) := rfl
theorem g_ix1 (ns : List Int) (n i : Int) (h : 0 ≤ i ∧ i < ns.length) : gIxW (.obj 1) (pv i) (some (ns, n)) = some (pv (ixD ns i)) := by
  have hl : i.toNat < ns.length := by omega
  show ((L2.atI ns i).map fun m => D.p (.int m)) = some (pv ((L2.atI ns i).getD default))
  unfold L2.atI
  rw [ixN_of h]
  show ((ns[i.toNat]?).map fun m => D.p (.int m)) = some (pv ((ns[i.toNat]?).getD default))
  rw [List.getElem?_eq_getElem hl]; rfl
theorem g_up0 (ns : List Int) (n m : Int) : upW (pv m) (.obj 0) (pv (1 : Int)) (some (ns, n)) = some (some (ns, m)) := rfl
theorem g_up1 (ns : List Int) (n m i : Int) (h : 0 ≤ i ∧ i < ns.length) : upW (pv m) (.obj 1) (pv i) (some (ns, n)) = some (some (ns.set i.toNat m, n)) := by
  show ((L2.ixN ns.length i).map fun j => some (ns.set j m, n)) = _
  rw [ixN_of h]; rfl
theorem g_len (ns : List Int) (n : Int) : gLenW (.obj 1) (some (ns, n)) = some (pv (ns.length : Int)) := rfl
theorem e_pow5 (a : Int) (h : a.natAbs < 2 ^ 64) : gPow (pv a) (pv (5 : Int)) = some (pv (a ^ 5)) := by
  show (if cPow a 5 = true then some (D.p (.int (a ^ 5))) else none) = _
  rw [if_pos (by simp [cPow]; exact h)]; rfl
theorem w_draw (L : Int) (h0 : 0 < L) (h1 : L < 1073741824) (w : Wd) (g : Gd w) : ∃ (r : Int) (w' : Wd), f_Ldraw [.obj 0, pv L] w = .ok (pv r) w' ∧ (0 ≤ r ∧ r < L) ∧ Gd w' := by
  obtain ⟨ns, n, rfl, hn⟩ := g
  have hl : 0 < ns.length := List.length_pos_iff.mpr hn
  have hk : 0 ≤ (n + 1) % (ns.length : Int) ∧ (n + 1) % (ns.length : Int) < ns.length := ⟨Int.emod_nonneg _ (by omega), Int.emod_lt_of_pos _ (by omega)⟩
  by_cases hc : 1000000000000000000 ≤ ixD ns ((n + 1) % (ns.length : Int))
  · refine ⟨ixD ns ((n + 1) % (ns.length : Int)) % L, some (ns.set ((n + 1) % (ns.length : Int)).toNat (ixD ns ((n + 1) % (ns.length : Int)) / L), n + 1), ?_, ⟨Int.emod_nonneg _ (by omega), Int.emod_lt_of_pos _ h0⟩, _, _, rfl, fun z => hn (by simpa using z)⟩
    unfold f_Ldraw b_Ldraw
    simp (disch := (first | assumption | decide | omega | (simp only [List.length_map, List.length_append, List.length_cons, List.length_nil, List.length_range, len_rg, len_enum, len_cut1]; first | assumption | omega) | (simp only [List.length_map, List.length_append, List.length_cons, List.length_nil, List.length_range, len_rg, len_enum, len_cut1, lim] at *; omega))) only [run_ev, runD_nx, runD_rt, runD_exc, runD_ite, sSeq_ev, seqD_nx, seqD_rt, seqD_exc, seqD_ite, sIf_ev, ifD_ev, xAnd_ev, xOr_ev, xChain_ev, andD_ev, orD_ev, i_and, i_or, i_ff, lim_if, lim_if2, lim_ifL, xOwn_nil, Nat.reduceAdd, Nat.reduceSub, Int.reduceEq, Int.reduceLT, Int.reduceLE, Nat.reduceLT, Nat.reduceLeDiff, Nat.zero_add, Bool.false_eq_true, decide_false, decide_true, reduceCtorEq,  i_andP, i_orP, i_ok, i_pv, t_ii, t_ib, t_il, t_it, t_bi, t_bb, t_bl, t_bt, t_li, t_lb, t_ll, t_lt, t_ti, t_tb, t_tl, t_tt, sRet, sNil, sDrop, sAsg, sRaise, xIf, x2, x1, xN, xCall, xSl, oEv, xLc, wipeZ, iOf, iOf2, xB, bAnd, bOr, bNot, bYes, lNil, lCons, sSet, xV, sFrz, sPar2, sPar3, r_bind, r_bindX, r_bindB, r_calm, r_opt, r_optB, r_int, r_bl, r_non, xVar, e_eq, e_ne, e_add, e_sub, e_cat, e_mul, e_div, e_mod, e_neg, e_not, e_lt, e_le, e_gt, e_ge, e_isB, e_asB, e_truB, e_truI, e_asI, e_oInt, e_asP, e_listOf0, e_lstOf, sExt, sApp, sFor, e_isiI, e_isiB, e_isiL, e_isiP, e_len, e_lenP, e_sum, e_max, e_min, e_max2, e_min2, e_min3, e_all, e_anyI, e_anyB, e_l1, e_l2, e_l3, e_t2, keepD_pv, keepD_p, tzD_some, e_t3, e_asPp, e_zT3, e_listL, e_ix, e_ixP0, e_ixP1, e_sl, e_rev, e_in, e_seq, e_rg, e_en, e_zp, e_zN, e_zT, e_zCons, e_zNil, e_pl, e_noObj, e_noObjP, lift_ev, liftD_ok, liftD_exc, List.all_cons, List.all_nil, iOwn, lcGo_map, lcS_pure, lcS_filt, Option.bind_some, Option.map_some, List.map_cons, List.map_nil, List.length_cons, List.length_nil, List.replicate_succ, List.replicate_zero, List.cons_append, List.nil_append, List.set_cons_zero, List.set_cons_succ, List.getElem?_cons_zero, List.getElem?_cons_succ, Bool.not_true, eq_self, not_true_eq_false, not_false_eq_true, Bool.true_xor, Bool.false_xor, Bool.not_false, Bool.not_not, Bool.true_and, Bool.and_true, Bool.false_and, Bool.and_false, Bool.true_or, Bool.or_true, Bool.or_false, Bool.false_or, decide_eq_true_eq, Bool.not_eq_true', decide_eq_false_iff_not, ne_eq, if_true, if_false, reduceIte, List.getElem?_nil, List.all_map, List.any_map, Function.id_comp, Function.comp_def, id, Bool.decide_eq_false, Bool.decide_eq_true, xIxW, xLenW, sSetW, g_ix00, g_ix01, g_ix1, g_up0, g_up1, g_len, hc]
  · have hm : ∀ x : Int, cMul 104729 x = true := fun x => rfl
    have hm2 : ∀ x : Int, cMul x 69621 = true := fun x => by unfold cMul; simp
    have hx : ∀ x : Int, (x % 4294967291).natAbs < 2 ^ 64 := fun x => by
      have := Int.emod_nonneg x (b := 4294967291) (by decide)
      have := Int.emod_lt_of_pos x (b := 4294967291) (by decide)
      omega
    let y : Int := ((ixD ns ((n + 1) % (ns.length : Int)) + 104729 * (n + 1)) % 4294967291) ^ 5 % 4294967279
    refine ⟨((y / 64 * 69621 + y) % 4294967231 / 8) % L, some (ns, n + 1), ?_, ⟨Int.emod_nonneg _ (by omega), Int.emod_lt_of_pos _ h0⟩, _, _, rfl, hn⟩
    unfold f_Ldraw b_Ldraw
    simp (disch := (first | assumption | decide | omega | (simp only [List.length_map, List.length_append, List.length_cons, List.length_nil, List.length_range, len_rg, len_enum, len_cut1]; first | assumption | omega) | (simp only [List.length_map, List.length_append, List.length_cons, List.length_nil, List.length_range, len_rg, len_enum, len_cut1, lim] at *; omega) | grind)) only [run_ev, runD_nx, runD_rt, runD_exc, runD_ite, sSeq_ev, seqD_nx, seqD_rt, seqD_exc, seqD_ite, sIf_ev, ifD_ev, xAnd_ev, xOr_ev, xChain_ev, andD_ev, orD_ev, i_and, i_or, i_ff, lim_if, lim_if2, lim_ifL, xOwn_nil, Nat.reduceAdd, Nat.reduceSub, Int.reduceEq, Int.reduceLT, Int.reduceLE, Nat.reduceLT, Nat.reduceLeDiff, Nat.zero_add, Bool.false_eq_true, decide_false, decide_true, reduceCtorEq,  i_andP, i_orP, i_ok, i_pv, t_ii, t_ib, t_il, t_it, t_bi, t_bb, t_bl, t_bt, t_li, t_lb, t_ll, t_lt, t_ti, t_tb, t_tl, t_tt, sRet, sNil, sDrop, sAsg, sRaise, xIf, x2, x1, xN, xCall, xSl, oEv, xLc, wipeZ, iOf, iOf2, xB, bAnd, bOr, bNot, bYes, lNil, lCons, sSet, xV, sFrz, sPar2, sPar3, r_bind, r_bindX, r_bindB, r_calm, r_opt, r_optB, r_int, r_bl, r_non, xVar, e_eq, e_ne, e_add, e_sub, e_cat, e_mul, e_div, e_mod, e_neg, e_not, e_lt, e_le, e_gt, e_ge, e_isB, e_asB, e_truB, e_truI, e_asI, e_oInt, e_asP, e_listOf0, e_lstOf, sExt, sApp, sFor, e_isiI, e_isiB, e_isiL, e_isiP, e_len, e_lenP, e_sum, e_max, e_min, e_max2, e_min2, e_min3, e_all, e_anyI, e_anyB, e_l1, e_l2, e_l3, e_t2, keepD_pv, keepD_p, tzD_some, e_t3, e_asPp, e_zT3, e_listL, e_ix, e_ixP0, e_ixP1, e_sl, e_rev, e_in, e_seq, e_rg, e_en, e_zp, e_zN, e_zT, e_zCons, e_zNil, e_pl, e_noObj, e_noObjP, lift_ev, liftD_ok, liftD_exc, List.all_cons, List.all_nil, iOwn, lcGo_map, lcS_pure, lcS_filt, Option.bind_some, Option.map_some, List.map_cons, List.map_nil, List.length_cons, List.length_nil, List.replicate_succ, List.replicate_zero, List.cons_append, List.nil_append, List.set_cons_zero, List.set_cons_succ, List.getElem?_cons_zero, List.getElem?_cons_succ, Bool.not_true, eq_self, not_true_eq_false, not_false_eq_true, Bool.true_xor, Bool.false_xor, Bool.not_false, Bool.not_not, Bool.true_and, Bool.and_true, Bool.false_and, Bool.and_false, Bool.true_or, Bool.or_true, Bool.or_false, Bool.false_or, decide_eq_true_eq, Bool.not_eq_true', decide_eq_false_iff_not, ne_eq, if_true, if_false, reduceIte, List.getElem?_nil, List.all_map, List.any_map, Function.id_comp, Function.comp_def, id, Bool.decide_eq_false, Bool.decide_eq_true, xIxW, xLenW, sSetW, g_ix00, g_ix01, g_ix1, g_up0, g_up1, g_len, hc, hm, hm2, e_pow5, hx]
    rfl
theorem w_pick {α : Type} [Py α] [Inhabited α] (xs : List α) (h0 : 0 < xs.length) (h1 : xs.length < 1000000) (w : Wd) (g : Gd w) : ∃ (r : α) (w' : Wd), f_Lpick [.obj 0, pv xs] w = .ok (pv r) w' ∧ r ∈ xs ∧ Gd w' := by
  obtain ⟨r, w', e, hr, g'⟩ := w_draw xs.length (by omega) (by omega) w g
  refine ⟨ixD xs r, w', ?_, ixD_mem (by omega), g'⟩
  unfold f_Lpick b_Lpick
  simp (disch := (first | assumption | decide | omega | (simp only [List.length_map, List.length_append, List.length_cons, List.length_nil, List.length_range, len_rg, len_enum, len_cut1]; first | assumption | omega) | (simp only [List.length_map, List.length_append, List.length_cons, List.length_nil, List.length_range, len_rg, len_enum, len_cut1, lim] at *; omega))) only [run_ev, runD_nx, runD_rt, runD_exc, runD_ite, sSeq_ev, seqD_nx, seqD_rt, seqD_exc, seqD_ite, sIf_ev, ifD_ev, xAnd_ev, xOr_ev, xChain_ev, andD_ev, orD_ev, i_and, i_or, i_ff, lim_if, lim_if2, lim_ifL, xOwn_nil, Nat.reduceAdd, Nat.reduceSub, Int.reduceEq, Int.reduceLT, Int.reduceLE, Nat.reduceLT, Nat.reduceLeDiff, Nat.zero_add, Bool.false_eq_true, decide_false, decide_true, reduceCtorEq,  i_andP, i_orP, i_ok, i_pv, t_ii, t_ib, t_il, t_it, t_bi, t_bb, t_bl, t_bt, t_li, t_lb, t_ll, t_lt, t_ti, t_tb, t_tl, t_tt, sRet, sNil, sDrop, sAsg, sRaise, xIf, x2, x1, xN, xCall, xSl, oEv, xLc, wipeZ, iOf, iOf2, xB, bAnd, bOr, bNot, bYes, lNil, lCons, sSet, xV, sFrz, sPar2, sPar3, r_bind, r_bindX, r_bindB, r_calm, r_opt, r_optB, r_int, r_bl, r_non, xVar, e_eq, e_ne, e_add, e_sub, e_cat, e_mul, e_div, e_mod, e_neg, e_not, e_lt, e_le, e_gt, e_ge, e_isB, e_asB, e_truB, e_truI, e_asI, e_oInt, e_asP, e_listOf0, e_lstOf, sExt, sApp, sFor, e_isiI, e_isiB, e_isiL, e_isiP, e_len, e_lenP, e_sum, e_max, e_min, e_max2, e_min2, e_min3, e_all, e_anyI, e_anyB, e_l1, e_l2, e_l3, e_t2, keepD_pv, keepD_p, tzD_some, e_t3, e_asPp, e_zT3, e_listL, e_ix, e_ixP0, e_ixP1, e_sl, e_rev, e_in, e_seq, e_rg, e_en, e_zp, e_zN, e_zT, e_zCons, e_zNil, e_pl, e_noObj, e_noObjP, lift_ev, liftD_ok, liftD_exc, List.all_cons, List.all_nil, iOwn, lcGo_map, lcS_pure, lcS_filt, Option.bind_some, Option.map_some, List.map_cons, List.map_nil, List.length_cons, List.length_nil, List.replicate_succ, List.replicate_zero, List.cons_append, List.nil_append, List.set_cons_zero, List.set_cons_succ, List.getElem?_cons_zero, List.getElem?_cons_succ, Bool.not_true, eq_self, not_true_eq_false, not_false_eq_true, Bool.true_xor, Bool.false_xor, Bool.not_false, Bool.not_not, Bool.true_and, Bool.and_true, Bool.false_and, Bool.and_false, Bool.true_or, Bool.or_true, Bool.or_false, Bool.false_or, decide_eq_true_eq, Bool.not_eq_true', decide_eq_false_iff_not, ne_eq, if_true, if_false, reduceIte, List.getElem?_nil, List.all_map, List.any_map, Function.id_comp, Function.comp_def, id, Bool.decide_eq_false, Bool.decide_eq_true, e]
theorem w_table (w : Wd) (g : Gd w) : ∃ (t : Rows) (w' : Wd), f_Ltable [.obj 0] w = .ok (pv t) w' ∧ Ta t ∧ Gd w' := by
  obtain ⟨hi, w1, e1, h1, g1⟩ := w_draw 3 (by decide) (by decide) w g
  obtain ⟨wi, w2, e2, h2, g2⟩ := w_draw 3 (by decide) (by decide) w1 g1
  obtain ⟨mo, w3, e3, h3, g3⟩ := w_pick ([2, 4, 10] : List Int) (by decide) (by decide) w2 g2
  have hm : 2 ≤ mo ∧ mo ≤ 10 := by
    simp only [List.mem_cons, List.not_mem_nil, or_false] at h3
    omega
  obtain ⟨t, w4, e4, l4, p4, g4⟩ := lc_draw (body := fun (x : Int) w => ((lcS (fun (x_1 : Int) w => (f_Ldraw [.obj 0, pv mo] w).calm.bind keepD) (rg 0 (1 + wi)) w).bind fun ys w2 => Res.ok (D.p (.list ys)) w2).calm.bind keepD) Gd (fun r : List Int => r.length = (1 + wi).toNat ∧ ∀ x ∈ r, 0 ≤ x ∧ x < mo) (rg 0 (1 + hi)) (fun x _ w g => by
    obtain ⟨r, w', e, l, p, g'⟩ := lc_draw (body := fun (x_1 : Int) w => (f_Ldraw [.obj 0, pv mo] w).calm.bind keepD) Gd (fun x : Int => 0 ≤ x ∧ x < mo) (rg 0 (1 + wi)) (fun x _ w g => by
        obtain ⟨r, w', e, h, g'⟩ := w_draw mo (by omega) (by omega) w g
        exact ⟨r, w', by rw [e]; rfl, h, g'⟩) w g
    refine ⟨r, w', ?_, ⟨by rw [l, len_rg]; omega, p⟩, g'⟩
    rw [e]; rfl) w3 g3
  rw [len_rg] at l4
  refine ⟨t, w4, ?_, ?_, g4⟩
  · unfold f_Ltable b_Ltable
    simp (disch := (first | assumption | decide | omega | (simp only [List.length_map, List.length_append, List.length_cons, List.length_nil, List.length_range, len_rg, len_enum, len_cut1]; first | assumption | omega) | (simp only [List.length_map, List.length_append, List.length_cons, List.length_nil, List.length_range, len_rg, len_enum, len_cut1, lim] at *; omega))) only [run_ev, runD_nx, runD_rt, runD_exc, runD_ite, sSeq_ev, seqD_nx, seqD_rt, seqD_exc, seqD_ite, sIf_ev, ifD_ev, xAnd_ev, xOr_ev, xChain_ev, andD_ev, orD_ev, i_and, i_or, i_ff, lim_if, lim_if2, lim_ifL, xOwn_nil, Nat.reduceAdd, Nat.reduceSub, Int.reduceEq, Int.reduceLT, Int.reduceLE, Nat.reduceLT, Nat.reduceLeDiff, Nat.zero_add, Bool.false_eq_true, decide_false, decide_true, reduceCtorEq,  i_andP, i_orP, i_ok, i_pv, t_ii, t_ib, t_il, t_it, t_bi, t_bb, t_bl, t_bt, t_li, t_lb, t_ll, t_lt, t_ti, t_tb, t_tl, t_tt, sRet, sNil, sDrop, sAsg, sRaise, xIf, x2, x1, xN, xCall, xSl, oEv, xLc, wipeZ, iOf, iOf2, xB, bAnd, bOr, bNot, bYes, lNil, lCons, sSet, xV, sFrz, sPar2, sPar3, r_bind, r_bindX, r_bindB, r_calm, r_opt, r_optB, r_int, r_bl, r_non, xVar, e_eq, e_ne, e_add, e_sub, e_cat, e_mul, e_div, e_mod, e_neg, e_not, e_lt, e_le, e_gt, e_ge, e_isB, e_asB, e_truB, e_truI, e_asI, e_oInt, e_asP, e_listOf0, e_lstOf, sExt, sApp, sFor, e_isiI, e_isiB, e_isiL, e_isiP, e_len, e_lenP, e_sum, e_max, e_min, e_max2, e_min2, e_min3, e_all, e_anyI, e_anyB, e_l1, e_l2, e_l3, e_t2, keepD_pv, keepD_p, tzD_some, e_t3, e_asPp, e_zT3, e_listL, e_ix, e_ixP0, e_ixP1, e_sl, e_rev, e_in, e_seq, e_rg, e_en, e_zp, e_zN, e_zT, e_zCons, e_zNil, e_pl, e_noObj, e_noObjP, lift_ev, liftD_ok, liftD_exc, List.all_cons, List.all_nil, iOwn, lcGo_map, lcS_pure, lcS_filt, Option.bind_some, Option.map_some, List.map_cons, List.map_nil, List.length_cons, List.length_nil, List.replicate_succ, List.replicate_zero, List.cons_append, List.nil_append, List.set_cons_zero, List.set_cons_succ, List.getElem?_cons_zero, List.getElem?_cons_succ, Bool.not_true, eq_self, not_true_eq_false, not_false_eq_true, Bool.true_xor, Bool.false_xor, Bool.not_false, Bool.not_not, Bool.true_and, Bool.and_true, Bool.false_and, Bool.and_false, Bool.true_or, Bool.or_true, Bool.or_false, Bool.false_or, decide_eq_true_eq, Bool.not_eq_true', decide_eq_false_iff_not, ne_eq, if_true, if_false, reduceIte, List.getElem?_nil, List.all_map, List.any_map, Function.id_comp, Function.comp_def, id, Bool.decide_eq_false, Bool.decide_eq_true, e1, e2, e3]
    rw [e4]
    simp (disch := (first | assumption | decide | omega | (simp only [List.length_map, List.length_append, List.length_cons, List.length_nil, List.length_range, len_rg, len_enum, len_cut1]; first | assumption | omega) | (simp only [List.length_map, List.length_append, List.length_cons, List.length_nil, List.length_range, len_rg, len_enum, len_cut1, lim] at *; omega))) only [run_ev, runD_nx, runD_rt, runD_exc, runD_ite, sSeq_ev, seqD_nx, seqD_rt, seqD_exc, seqD_ite, sIf_ev, ifD_ev, xAnd_ev, xOr_ev, xChain_ev, andD_ev, orD_ev, i_and, i_or, i_ff, lim_if, lim_if2, lim_ifL, xOwn_nil, Nat.reduceAdd, Nat.reduceSub, Int.reduceEq, Int.reduceLT, Int.reduceLE, Nat.reduceLT, Nat.reduceLeDiff, Nat.zero_add, Bool.false_eq_true, decide_false, decide_true, reduceCtorEq,  i_andP, i_orP, i_ok, i_pv, t_ii, t_ib, t_il, t_it, t_bi, t_bb, t_bl, t_bt, t_li, t_lb, t_ll, t_lt, t_ti, t_tb, t_tl, t_tt, sRet, sNil, sDrop, sAsg, sRaise, xIf, x2, x1, xN, xCall, xSl, oEv, xLc, wipeZ, iOf, iOf2, xB, bAnd, bOr, bNot, bYes, lNil, lCons, sSet, xV, sFrz, sPar2, sPar3, r_bind, r_bindX, r_bindB, r_calm, r_opt, r_optB, r_int, r_bl, r_non, xVar, e_eq, e_ne, e_add, e_sub, e_cat, e_mul, e_div, e_mod, e_neg, e_not, e_lt, e_le, e_gt, e_ge, e_isB, e_asB, e_truB, e_truI, e_asI, e_oInt, e_asP, e_listOf0, e_lstOf, sExt, sApp, sFor, e_isiI, e_isiB, e_isiL, e_isiP, e_len, e_lenP, e_sum, e_max, e_min, e_max2, e_min2, e_min3, e_all, e_anyI, e_anyB, e_l1, e_l2, e_l3, e_t2, keepD_pv, keepD_p, tzD_some, e_t3, e_asPp, e_zT3, e_listL, e_ix, e_ixP0, e_ixP1, e_sl, e_rev, e_in, e_seq, e_rg, e_en, e_zp, e_zN, e_zT, e_zCons, e_zNil, e_pl, e_noObj, e_noObjP, lift_ev, liftD_ok, liftD_exc, List.all_cons, List.all_nil, iOwn, lcGo_map, lcS_pure, lcS_filt, Option.bind_some, Option.map_some, List.map_cons, List.map_nil, List.length_cons, List.length_nil, List.replicate_succ, List.replicate_zero, List.cons_append, List.nil_append, List.set_cons_zero, List.set_cons_succ, List.getElem?_cons_zero, List.getElem?_cons_succ, Bool.not_true, eq_self, not_true_eq_false, not_false_eq_true, Bool.true_xor, Bool.false_xor, Bool.not_false, Bool.not_not, Bool.true_and, Bool.and_true, Bool.false_and, Bool.and_false, Bool.true_or, Bool.or_true, Bool.or_false, Bool.false_or, decide_eq_true_eq, Bool.not_eq_true', decide_eq_false_iff_not, ne_eq, if_true, if_false, reduceIte, List.getElem?_nil, List.all_map, List.any_map, Function.id_comp, Function.comp_def, id, Bool.decide_eq_false, Bool.decide_eq_true]
  · have h0 : ixD t 0 ∈ t := ixD_mem (by omega)
    refine ⟨by omega, by omega, fun r hr => ?_, fun r hr => ?_, fun r hr => ?_, fun r hr x hx => ?_⟩
    · have := (p4 r hr).1; omega
    · have := (p4 r hr).1; omega
    · have := (p4 r hr).1; have := (p4 _ h0).1; omega
    · have := (p4 r hr).2 x hx; omega
/-! sheets: plain laws -/
theorem cut1_snoc {α : Type} (xs : List α) (x : α) : cut (xs ++ [x]) none (some (-1)) = xs := by
  rw [cut1_eq, List.length_append, List.length_singleton, Nat.add_sub_cancel, List.take_left]
theorem ixD_nat {α : Type} [Inhabited α] (xs : List α) (k : Int) (h : 0 ≤ k ∧ k < xs.length) : ixD xs k = xs[k.toNat]'(by omega) := by
  unfold ixD L2.atI
  rw [ixN_of h]
  show (xs[k.toNat]?).getD default = _
  rw [List.getElem?_eq_getElem (by omega)]; rfl
theorem ixD_last {α : Type} [Inhabited α] (xs : List α) (x : α) : ixD (xs ++ [x]) (-1) = x := by
  unfold ixD
  rw [L2.atI_last]; rfl
theorem snoc_of {α : Type} [Inhabited α] {xs : List α} (h : 0 < xs.length) : xs = cut xs none (some (-1)) ++ [ixD xs (-1)] := by
  have hne : xs ≠ [] := List.length_pos_iff.mp h
  rw [← List.dropLast_concat_getLast hne, cut1_snoc, ixD_last]
theorem ixD_left {α : Type} [Inhabited α] (xs ys : List α) (k : Int) (h : 0 ≤ k ∧ k < xs.length) : ixD (xs ++ ys) k = ixD xs k := by
  rw [ixD_nat xs k h, ixD_nat (xs ++ ys) k (by rw [List.length_append]; omega), List.getElem_append_left (by omega)]
theorem ixD_right {α : Type} [Inhabited α] (xs : List α) (y : α) (k : Int) (h : k = xs.length) : ixD (xs ++ [y]) k = y := by
  subst h
  rw [ixD_nat _ _ (by rw [List.length_append, List.length_singleton]; omega), List.getElem_append_right (by simp)]
  simp
theorem ixD_map {α β : Type} [Inhabited α] [Inhabited β] (f : α → β) (xs : List α) (k : Int) (h : 0 ≤ k ∧ k < xs.length) : ixD (xs.map f) k = f (ixD xs k) := by
  rw [ixD_nat xs k h, ixD_nat _ k (by rw [List.length_map]; exact h), List.getElem_map]
theorem ixD_rg (a b k : Int) (h : 0 ≤ k ∧ k < b - a) : ixD (rg a b) k = a + k := by
  rw [ixD_nat _ _ (by rw [len_rg]; omega)]
  unfold rg
  rw [List.getElem_map, List.getElem_range]
  omega
theorem map_ixD {α : Type} [Inhabited α] (xs : List α) (m : Nat) (h : xs.length = m) : (rg 0 m).map (ixD xs) = xs := by
  subst h
  refine List.ext_getElem (by rw [List.length_map, len_rg]; omega) fun i h1 h2 => ?_
  rw [List.getElem_map]
  have e : (rg 0 (xs.length : Int))[i]'(by rw [len_rg]; omega) = (i : Int) := by
    unfold rg
    rw [List.getElem_map, List.getElem_range]; omega
  rw [e, ixD_nat _ _ (by omega)]
  simp
theorem map_ixD' {α : Type} [Inhabited α] (xs : List α) (m : Nat) (h : m ≤ xs.length) : (rg 0 m).map (ixD xs) = xs.take m := by
  have hl : (xs.take m).length = m := by rw [List.length_take]; omega
  rw [← map_ixD (xs.take m) m hl]
  refine List.map_congr_left fun k hk => ?_
  have hk := mem_rg.mp hk
  rw [ixD_nat _ _ (by omega), ixD_nat _ _ (by omega), List.getElem_take]
theorem rg_snoc (m : Nat) : rg 0 ((m + 1 : Nat) : Int) = rg 0 m ++ [(m : Int)] := by
  unfold rg
  have e1 : (((m + 1 : Nat) : Int) - 0).toNat = m + 1 := by omega
  have e2 : ((m : Int) - 0).toNat = m := by omega
  rw [e1, e2, List.range_succ, List.map_append]
  simp
theorem sum_app (a b : List Int) : (a ++ b).sum = a.sum + b.sum := List.sum_append
theorem sum_one (a : Int) : [a].sum = a := by simp
theorem sum_swap {α β : Type} (g : α → β → Int) (xs : List α) : ∀ f : List β, (xs.map fun k => (f.map fun r => g k r).sum).sum = (f.map fun r => (xs.map fun k => g k r).sum).sum
  | [] => by
    simp only [List.map_nil, List.sum_nil]
    induction xs with
    | nil => rfl
    | cons x xs ih => rw [List.map_cons, List.sum_cons, ih]; rfl
  | r :: f => by
    simp only [List.map_cons, List.sum_cons]
    rw [← sum_swap g xs f]
    induction xs with
    | nil => rfl
    | cons x xs ih =>
      simp only [List.map_cons, List.sum_cons]
      rw [ih]; omega
theorem sum_sub {α : Type} (a b : α → Int) : ∀ xs : List α, (xs.map fun x => a x - b x).sum = (xs.map a).sum - (xs.map b).sum
  | [] => rfl
  | x :: xs => by
    simp only [List.map_cons, List.sum_cons]
    rw [sum_sub a b xs]; omega
theorem rowGap_snoc (r : List Int) (x : Int) : rowGap (r ++ [x]) = r.sum - x := by
  unfold rowGap
  rw [cut1_snoc, ixD_last]
/-- the columns' gaps, the last row apart -/
theorem columns_snoc (f : Rows) (l : List Int) (m : Nat) (R : Rect f f.length m) (hl : l.length = m) : columnsOf (f ++ [l]) = (rg 0 m).map fun k => (f.map fun r => ixD r k).sum - ixD l k := by
  have e0 : (ixD (f ++ [l]) 0).length = m := by
    cases f with
    | nil => exact hl
    | cons a f => rw [ixD_left _ _ _ (by rw [List.length_cons]; omega)]; exact R.m _ (ixD_mem (by rw [List.length_cons]; omega))
  unfold columnsOf
  rw [e0]
  refine List.map_congr_left fun k _ => ?_
  rw [List.map_append, List.map_cons, List.map_nil, rowGap_snoc]
/-- rows and columns have the same common gap -/
theorem gap_eq (s : Rows) (n m : Nat) (R : Rect s n m) (hn : 0 < n) (hm : 0 < m) : (cut (rowsOf s) none (some (-1))).sum - ixD (rowsOf s) (-1) = (cut (columnsOf s) none (some (-1))).sum - ixD (columnsOf s) (-1) := by
  have hs : 0 < s.length := by rw [R.n]; exact hn
  have es := snoc_of hs
  generalize cut s none (some (-1)) = f at es
  generalize ixD s (-1) = l at es
  subst es
  have hl : l.length = m := R.m l (by simp)
  have Rf : Rect f f.length m := ⟨rfl, fun r hr => R.m r (List.mem_append_left _ hr)⟩
  rw [columns_snoc f l m Rf hl]
  obtain ⟨m', rfl⟩ : ∃ m', m = m' + 1 := ⟨m - 1, by omega⟩
  unfold rowsOf
  rw [List.map_append, List.map_cons, List.map_nil, cut1_snoc, ixD_last, rg_snoc, List.map_append, List.map_cons, List.map_nil, cut1_snoc, ixD_last]
  rw [sum_sub (fun k : Int => (f.map fun r => ixD r k).sum) (fun k => ixD l k), sum_swap (fun (k : Int) (r : List Int) => ixD r k)]
  have e1 : ∀ r : List Int, r.length = m' + 1 → ((rg 0 m').map fun k => ixD r k).sum - ixD r m' = rowGap r := fun r hr => by
    have h1 : (rg 0 (m' : Int)).map (fun k => ixD r k) = cut r none (some (-1)) := by
      rw [cut1_eq, hr, Nat.add_sub_cancel]
      exact map_ixD' r m' (by omega)
    have h2 : ixD r (m' : Int) = ixD r (-1) := by
      have := snoc_of (xs := r) (by omega)
      have hc : (cut r none (some (-1))).length = m' := by rw [len_cut1]; omega
      rw [this, ixD_right _ _ _ (by rw [hc]), ixD_last]
    rw [h1, h2]; rfl
  have e2 := e1 l hl
  have e3 : (f.map rowGap).sum = (f.map fun r => ((rg 0 m').map fun k => ixD r k).sum).sum - (f.map fun r => ixD r (m' : Int)).sum := by
    rw [← sum_sub]
    congr 1
    refine List.map_congr_left fun r hr => (e1 r (Rf.m r hr)).symm
  rw [e3, ← e2]
  omega
theorem turned_sum (g : List Int) : (turned g).sum = (cut g none (some (-1))).sum - ixD g (-1) := by
  unfold turned
  rw [sum_app, sum_one]; omega
theorem any_filter (g : List Int) : (!g.any (· != 0)) = decide (g.filter (fun x => decide ¬x = 0) = []) := by
  induction g with
  | nil => rfl
  | cons x g ih =>
    rw [List.any_cons]
    by_cases h : x = 0
    · subst h
      rw [List.filter_cons_of_neg (by simp)]
      simpa using ih
    · rw [List.filter_cons_of_pos (by simpa using h)]
      simp [h]
theorem right_law (s : Rows) : lawRight s = rightS s := by
  unfold lawRight rightS
  rw [any_filter, any_filter, List.filter_append]
  simp [Bool.decide_and]
theorem enum_eq {α : Type} [Inhabited α] (g : List α) : enum 0 g = (rg 0 g.length).map fun k => (k, ixD g k) := by
  have key : ∀ (l pre : List α), enum pre.length l = (rg pre.length ((pre ++ l).length : Int)).map fun k => (k, ixD (pre ++ l) k) := by
    intro l
    induction l with
    | nil =>
      intro pre
      have : rg (pre.length : Int) ((pre ++ []).length : Int) = [] := by
        unfold rg; simp
      rw [this]; rfl
    | cons x l ih =>
      intro pre
      have h1 := ih (pre ++ [x])
      rw [List.append_assoc, List.length_append] at h1
      have e2 : rg (pre.length : Int) ((pre ++ x :: l).length : Int) = (pre.length : Int) :: rg ((pre.length + 1 : Nat) : Int) ((pre ++ x :: l).length : Int) := by
        unfold rg
        have e3 : (((pre ++ x :: l).length : Int) - (pre.length : Int)).toNat = l.length + 1 := by simp; omega
        have e4 : (((pre ++ x :: l).length : Int) - ((pre.length + 1 : Nat) : Int)).toNat = l.length := by simp; omega
        rw [e3, e4, List.range_succ_eq_map, List.map_cons, List.map_map]
        refine congr (congrArg _ (by simp)) (List.map_congr_left fun i _ => ?_)
        show (pre.length : Int) + ((i + 1 : Nat) : Int) = ((pre.length + 1 : Nat) : Int) + (i : Int)
        omega
      rw [e2, List.map_cons]
      show ((pre.length : Int), x) :: enum (pre.length + 1) l = _
      have e5 : ixD (pre ++ x :: l) (pre.length : Int) = x := by
        rw [ixD_nat _ _ (by rw [List.length_append, List.length_cons]; omega), List.getElem_append_right (by simp)]
        simp
      rw [e5]
      congr 1
  have := key g []
  simpa using this
theorem wrong_eq (g : List Int) : wrongL g = (rg 0 g.length).filter fun k => decide ¬ixD g k = 0 := by
  unfold wrongL
  rw [enum_eq, List.filter_map, List.map_map]
  show List.map (fun k : Int => k) _ = _
  rw [List.map_id']
  rfl
/-! sums written out -/
theorem inner_full (t : Rows) : inner (full t) = t := by
  rw [full_eq]
  unfold inner withSums
  rw [cut1_snoc]
  unfold rowSums
  rw [List.map_map]
  have : ((fun row : List Int => cut row none (some (-1))) ∘ fun row => row ++ [row.sum]) = id := by
    funext row
    show cut (row ++ [row.sum]) none (some (-1)) = row
    exact cut1_snoc _ _
  rw [this, List.map_id]
theorem right_full (t : Rows) (n m : Nat) (R : Rect t n m) (hn : 0 < n) : rightS (full t) = true := by
  have Rf := rowSums_rect R
  have R0 := Rf.ix0 hn
  have hc : columnsOf (full t) = (rg 0 ((m + 1 : Nat) : Int)).map fun _ => 0 := by
    rw [full_eq]
    unfold withSums
    rw [columns_snoc _ _ (m + 1) ⟨rfl, Rf.m⟩ (by rw [List.length_map, R0, len_rg]; omega), R0]
    refine List.map_congr_left fun k hk => ?_
    have hk := mem_rg.mp hk
    rw [ixD_map _ _ _ (by rw [len_rg]; omega), ixD_rg _ _ _ (by omega)]
    simp
  have hr : ∀ g ∈ rowsOf (full t), g = 0 := by
    intro g hg
    rw [full_eq] at hg
    unfold rowsOf withSums at hg
    rw [List.map_append, List.mem_append] at hg
    rcases hg with hg | hg
    · unfold rowSums at hg
      rw [List.map_map] at hg
      obtain ⟨r, _, rfl⟩ := List.mem_map.mp hg
      show rowGap (r ++ [r.sum]) = 0
      rw [rowGap_snoc]; omega
    · simp only [List.map_cons, List.map_nil, List.mem_singleton] at hg
      subst hg
      rw [R0, rg_snoc, List.map_append, List.map_cons, List.map_nil, rowGap_snoc, sum_swap (fun (k : Int) (r : List Int) => ixD r k)]
      unfold rowSums
      rw [List.map_map, List.map_map]
      have : (t.map ((fun r => ((rg 0 (m : Int)).map fun k => ixD r k).sum) ∘ fun row => row ++ [row.sum])).sum = (t.map ((fun row => ixD row (m : Int)) ∘ fun row => row ++ [row.sum])).sum := by
        congr 1
        refine List.map_congr_left fun r hr => ?_
        show ((rg 0 (m : Int)).map fun k => ixD (r ++ [r.sum]) k).sum = ixD (r ++ [r.sum]) (m : Int)
        rw [ixD_right _ _ _ (by rw [R.m r hr])]
        have e1 : (rg 0 (m : Int)).map (fun k => ixD (r ++ [r.sum]) k) = r := by
          have h2 := map_ixD' (r ++ [r.sum]) m (by rw [List.length_append, R.m r hr]; omega)
          rw [h2, ← R.m r hr, List.take_left]
        rw [e1]
      rw [this]; omega
  unfold rightS
  rw [hc]
  have h1 : (rowsOf (full t)).any (· != 0) = false := by
    rw [List.any_eq_false]
    intro g hg
    rw [hr g hg]; simp
  rw [h1]
  simp
/-! changed sheets: plain laws -/
open PySem.W (alike dataLt)
theorem sum_bound (a b : Int) : ∀ (xs : List Int), (∀ x ∈ xs, a ≤ x ∧ x ≤ b) → a * xs.length ≤ xs.sum ∧ xs.sum ≤ b * xs.length
  | [], _ => by simp
  | x :: xs, h => by
    have h1 := h x List.mem_cons_self
    have h2 := sum_bound a b xs fun y hy => h y (List.mem_cons_of_mem _ hy)
    rw [List.sum_cons, List.length_cons]
    have e1 : a * ((xs.length + 1 : Nat) : Int) = a * xs.length + a := by push_cast; rw [Int.mul_add, Int.mul_one]
    have e2 : b * ((xs.length + 1 : Nat) : Int) = b * xs.length + b := by push_cast; rw [Int.mul_add, Int.mul_one]
    rw [e1, e2]
    omega
theorem len3 {n : Nat} (h : n ≤ 3) : n = 0 ∨ n = 1 ∨ n = 2 ∨ n = 3 := by omega
theorem sum_bound3 (a b : Int) (ha : a ≤ 0) (hb : 0 ≤ b) (xs : List Int) (hl : xs.length ≤ 3) (h : ∀ x ∈ xs, a ≤ x ∧ x ≤ b) : 3 * a ≤ xs.sum ∧ xs.sum ≤ 3 * b := by
  have := sum_bound a b xs h
  rcases len3 hl with e | e | e | e <;> rw [e] at this <;> omega
theorem full_block (t : Rows) (a b : Int) (ha : a ≤ 0) (hb : 0 ≤ b) (h : IsB t 1 3 a b) : IsB (full t) 2 4 (9 * a) (9 * b) := by
  have R := h.rect
  have R1 := rowSums_rect R
  have h1 := h.n1
  have h2 := h.n2
  have h3 := h.m2 _ (h.ix0 (by decide))
  have h4 := h.m1 _ (h.ix0 (by decide))
  have R0 := R1.ix0 (by omega)
  have hm : ∀ r ∈ full t, r.length = (ixD t 0).length + 1 := fun r hr => by
    rw [full_eq] at hr
    unfold withSums at hr
    rcases List.mem_append.mp hr with hr | hr
    · exact R1.m r hr
    · rw [List.mem_singleton.mp hr, List.length_map, len_rg, R0]; omega
  have hlen : (full t).length = t.length + 1 := by rw [full_eq]; unfold withSums; rw [List.length_append, R1.n]; rfl
  have hrow : ∀ r ∈ rowSums t, ∀ x ∈ r, 3 * a ≤ x ∧ x ≤ 3 * b := fun r hr x hx => by
    unfold rowSums at hr
    obtain ⟨q, hq, rfl⟩ := List.mem_map.mp hr
    rcases List.mem_append.mp hx with hx | hx
    · have := h.en q hq x hx; omega
    · rw [List.mem_singleton.mp hx]
      exact sum_bound3 a b ha hb q (h.m2 q hq) (h.en q hq)
  have h0 : ixD (full t) 0 ∈ full t := ixD_mem (by omega)
  refine ⟨by omega, by omega, fun r hr => by rw [hm r hr]; omega, fun r hr => by rw [hm r hr]; omega, fun r hr => by rw [hm r hr, hm _ h0], fun r hr x hx => ?_⟩
  rw [full_eq] at hr
  unfold withSums at hr
  rcases List.mem_append.mp hr with hr | hr
  · have := hrow r hr x hx; omega
  · rw [List.mem_singleton.mp hr] at hx
    obtain ⟨k, hk, rfl⟩ := List.mem_map.mp hx
    have hk := mem_rg.mp hk
    have := sum_bound3 (3 * a) (3 * b) (by omega) (by omega) ((rowSums t).map fun row => ixD row k) (by rw [List.length_map, R1.n]; exact h2) fun x hx => by
      obtain ⟨r, hr, rfl⟩ := List.mem_map.mp hx
      exact hrow r hr _ (ixD_mem (by rw [R1.m r hr, ← R0]; omega))
    omega
theorem IsB.weak {s : Rows} {lo hi : Nat} {a b c d : Int} (h : IsB s lo hi a b) (h1 : c ≤ a) (h2 : b ≤ d) : IsB s lo hi c d := ⟨h.n1, h.n2, h.m1, h.m2, h.eq, fun r hr x hx => by have := h.en r hr x hx; omega⟩
theorem full_rect (t : Rows) (n m : Nat) (R : Rect t n m) (hn : 0 < n) : Rect (full t) (n + 1) (m + 1) := by
  have R1 := rowSums_rect R
  have R0 := R1.ix0 hn
  refine ⟨by rw [full_eq]; unfold withSums; rw [List.length_append, R1.n]; rfl, fun r hr => ?_⟩
  rw [full_eq] at hr
  unfold withSums at hr
  rcases List.mem_append.mp hr with hr | hr
  · exact R1.m r hr
  · rw [List.mem_singleton.mp hr, List.length_map, len_rg, R0]; omega
/-! an entry by its place -/
def get (s : Rows) (p : Int × Int) : Int := ixD (ixD s p.1) p.2
def InR (n m : Nat) (p : Int × Int) : Prop := (0 ≤ p.1 ∧ p.1 < n) ∧ 0 ≤ p.2 ∧ p.2 < m
theorem get_set {s : Rows} {n m : Nat} (R : Rect s n m) {p q : Int × Int} (v : Int) (hp : InR n m p) (hq : InR n m q) : get (setRC s p.1 p.2 v) q = if q = p then v else get s q := by
  obtain ⟨k, j⟩ := p
  obtain ⟨k', j'⟩ := q
  obtain ⟨⟨a1, a2⟩, a3, a4⟩ := hp
  obtain ⟨⟨b1, b2⟩, b3, b4⟩ := hq
  dsimp only at a1 a2 a3 a4 b1 b2 b3 b4
  have hn := R.n
  have R' := setRC_rect R k j v ⟨a1, a2⟩
  have hl' := R'.n
  have kl : k.toNat < s.length := by omega
  have g2 : s.getD k.toNat [] = s[k.toNat] := by
    rw [List.getD_eq_getElem?_getD, List.getElem?_eq_getElem kl]; rfl
  have rl := R.m _ (List.getElem_mem kl)
  unfold get
  dsimp only
  have es : setRC s k j v = s.set k.toNat (s[k.toNat].set j.toNat v) := by unfold setRC; rw [g2]
  rw [es, ixD_nat (s.set _ _) k' (by rw [List.length_set]; omega), ixD_nat s k' (by omega), List.getElem_set]
  by_cases e : k.toNat = k'.toNat
  · have ek : k = k' := by omega
    subst ek
    rw [if_pos rfl, ixD_nat _ j' (by rw [List.length_set, rl]; omega), List.getElem_set]
    by_cases e2 : j.toNat = j'.toNat
    · have ej : j = j' := by omega
      subst ej
      simp
    · rw [if_neg e2, if_neg (fun z => e2 (by cases z; rfl)), ixD_nat _ j' (by rw [rl]; omega)]
  · rw [if_neg e, if_neg (fun z => e (by cases z; rfl))]
theorem get_put_no {n m : Nat} : ∀ (cs : Chg) (s : Rows), Rect s n m → (∀ c ∈ cs, InR n m c.1) → ∀ q, InR n m q → q ∉ cs.map (·.1) → get (put s cs) q = get s q
  | [], _, _, _, _, _, _ => rfl
  | c :: cs, s, R, hc, q, hq, hn => by
    have h1 := hc c List.mem_cons_self
    show get (put (setRC s c.1.1 c.1.2 c.2) cs) q = _
    rw [get_put_no cs _ (setRC_rect R _ _ _ h1.1) (fun d hd => hc d (List.mem_cons_of_mem _ hd)) q hq (fun z => hn (by rw [List.map_cons]; exact List.mem_cons_of_mem _ z)), get_set R _ h1 hq, if_neg fun z => hn (by rw [List.map_cons, z]; exact List.mem_cons_self)]
theorem get_put_yes {n m : Nat} : ∀ (cs : Chg) (s : Rows), Rect s n m → (∀ c ∈ cs, InR n m c.1) → (cs.map (·.1)).Nodup → ∀ c ∈ cs, get (put s cs) c.1 = c.2
  | c :: cs, s, R, hc, nd, d, hd => by
    have h1 := hc c List.mem_cons_self
    rw [List.map_cons, List.nodup_cons] at nd
    have R' := setRC_rect R c.1.1 c.1.2 c.2 h1.1
    have hc' := fun d hd => hc d (List.mem_cons_of_mem c hd)
    show get (put (setRC s c.1.1 c.1.2 c.2) cs) d.1 = _
    rcases List.mem_cons.mp hd with rfl | hd
    · rw [get_put_no cs _ R' hc' _ h1 nd.1, get_set R _ h1 h1, if_pos rfl]
    · exact get_put_yes cs _ R' hc' nd.2 d hd
theorem en_set {s : Rows} {a b : Int} (h : ∀ r ∈ s, ∀ x ∈ r, a ≤ x ∧ x ≤ b) (k j v : Int) (hv : a ≤ v ∧ v ≤ b) : ∀ r ∈ setRC s k j v, ∀ x ∈ r, a ≤ x ∧ x ≤ b := fun r hr x hx => by
  unfold setRC at hr
  rcases List.mem_or_eq_of_mem_set hr with hr | rfl
  · exact h r hr x hx
  · rcases List.mem_or_eq_of_mem_set hx with hx | rfl
    · rw [List.getD_eq_getElem?_getD] at hx
      cases e : s[k.toNat]? with
      | none => rw [e] at hx; cases hx
      | some r =>
        rw [e] at hx
        exact h r (List.mem_of_getElem? e) x hx
    · exact hv
theorem en_put {a b : Int} : ∀ (cs : Chg) (s : Rows), (∀ r ∈ s, ∀ x ∈ r, a ≤ x ∧ x ≤ b) → (∀ c ∈ cs, a ≤ c.2 ∧ c.2 ≤ b) → ∀ r ∈ put s cs, ∀ x ∈ r, a ≤ x ∧ x ≤ b
  | [], _, h, _ => h
  | c :: cs, s, h, hc => en_put cs _ (en_set h _ _ _ (hc c List.mem_cons_self)) fun d hd => hc d (List.mem_cons_of_mem _ hd)
theorem get_en {s : Rows} {n m : Nat} {a b : Int} (R : Rect s n m) (h : ∀ r ∈ s, ∀ x ∈ r, a ≤ x ∧ x ≤ b) {p : Int × Int} (hp : InR n m p) : a ≤ get s p ∧ get s p ≤ b := by
  have hn := R.n
  obtain ⟨h1, h2⟩ := hp
  have hr : ixD s p.1 ∈ s := ixD_mem (by omega)
  exact h _ hr _ (ixD_mem (by rw [R.m _ hr]; omega))
theorem block_put {s : Rows} {lo hi n m : Nat} {a b c d : Int} (h : IsB s lo hi a b) (R : Rect s n m) (hn : 0 < n) (cs : Chg) (hc : ∀ x ∈ cs, InR n m x.1 ∧ c ≤ x.2 ∧ x.2 ≤ d) (h1 : c ≤ a) (h2 : b ≤ d) : IsB (put s cs) lo hi c d := by
  have R' := put_rect cs s R fun x hx => (hc x hx).1.1
  have l1 := R.n
  have l2 := R'.n
  have g1 := h.n1
  have g2 := h.n2
  have hs : ixD s 0 ∈ s := ixD_mem (by omega)
  have hm := R.m _ hs
  have hm1 := h.m1 _ hs
  have hm2 := h.m2 _ hs
  have hp : ixD (put s cs) 0 ∈ put s cs := ixD_mem (by omega)
  refine ⟨by omega, by omega, fun r hr => by rw [R'.m r hr]; omega, fun r hr => by rw [R'.m r hr]; omega, fun r hr => by rw [R'.m r hr, R'.m _ hp], en_put cs s (fun r hr x hx => by have := h.en r hr x hx; omega) fun x hx => (hc x hx).2⟩
/-! the places, in order -/
def ltPl (p q : Int × Int) : Prop := p.1 < q.1 ∨ (p.1 = q.1 ∧ p.2 < q.2)
theorem rg_sorted (a b : Int) : (rg a b).Pairwise (· < ·) := by
  unfold rg
  rw [List.pairwise_map]
  refine List.Pairwise.imp (fun h => by omega) List.pairwise_lt_range
theorem places_sorted (n m : Nat) : (places n m).Pairwise ltPl := by
  unfold places
  rw [List.pairwise_flatMap]
  refine ⟨fun k _ => ?_, List.Pairwise.imp (fun h x hx y hy => ?_) (rg_sorted 0 n)⟩
  · unfold rowPlaces
    rw [List.pairwise_map]
    exact List.Pairwise.imp (fun h => .inr ⟨rfl, h⟩) (rg_sorted 0 m)
  · unfold rowPlaces at hx hy
    obtain ⟨_, _, rfl⟩ := List.mem_map.mp hx
    obtain ⟨_, _, rfl⟩ := List.mem_map.mp hy
    exact .inl h
theorem mem_places {n m : Nat} {p : Int × Int} : p ∈ places n m ↔ InR n m p := by
  obtain ⟨k, j⟩ := p
  unfold places rowPlaces InR
  simp only [List.mem_flatMap, List.mem_map, mem_rg, Prod.mk.injEq]
  constructor
  · rintro ⟨_, h1, _, h2, rfl, rfl⟩; exact ⟨h1, h2⟩
  · rintro ⟨h1, h2⟩; exact ⟨k, h1, j, h2, rfl, rfl⟩
theorem unlike_eq (s o : Rows) (n m : Nat) (h1 : s.length = n) (h2 : (ixD s 0).length = m) : unlike s o = (places n m).filter fun p => decide ¬get s p = get o p := by
  unfold unlike places
  rw [h1, h2, List.filter_flatMap]
  congr 1
  funext k
  unfold rowUnlike rowPlaces
  rw [List.filter_map]; rfl
/-! sorted lists -/
def insT {α : Type} [Py α] (x : α) : List α → List α
  | [] => [x]
  | y :: ys => if le0 (Py.enc x) (Py.enc y) = true then x :: y :: ys else y :: insT x ys
def sortT {α : Type} [Py α] : List α → List α
  | [] => []
  | x :: xs => insT x (sortT xs)
theorem insT_enc {α : Type} [Py α] (x : α) : ∀ ys : List α, insP (Py.enc x) (ys.map Py.enc) = (insT x ys).map Py.enc
  | [] => rfl
  | y :: ys => by
    show insP (Py.enc x) (Py.enc y :: ys.map Py.enc) = _
    unfold insP insT
    split
    · rfl
    · rw [insT_enc x ys]; rfl
theorem sortT_enc {α : Type} [Py α] : ∀ xs : List α, sortP (xs.map Py.enc) = (sortT xs).map Py.enc
  | [] => rfl
  | x :: xs => by
    show insP (Py.enc x) (sortP (xs.map Py.enc)) = _
    rw [sortT_enc xs, insT_enc]; rfl
theorem insT_perm {α : Type} [Py α] (x : α) : ∀ ys : List α, (insT x ys).Perm (x :: ys)
  | [] => List.Perm.refl _
  | y :: ys => by
    unfold insT
    split
    · exact List.Perm.refl _
    · exact (List.Perm.cons y (insT_perm x ys)).trans (List.Perm.swap x y ys)
theorem sortT_perm {α : Type} [Py α] : ∀ xs : List α, (sortT xs).Perm xs
  | [] => List.Perm.refl _
  | x :: xs => (insT_perm x _).trans (List.Perm.cons x (sortT_perm xs))
theorem sortT_sd {α : Type} [Py α] (xs : List α) : (sortT xs).Pairwise fun a b => le0 (Py.enc a) (Py.enc b) = true := by
  have := sortP_sd (xs.map Py.enc)
  rw [sortT_enc] at this
  exact List.pairwise_map.mp this
theorem e_sortedT {α : Type} [Py α] (xs : List α) (h1 : ∀ a b : α, alike (Py.enc a) (Py.enc b) = true) (h2 : (∀ a : α, isTup1 (Py.enc a) = true) ∨ ∀ a : α, isOther (Py.enc a) = true) (h3 : xs.length ≤ lim) (h4 : Py.dep α ≤ 32) : gSorted [pv xs] = some (pv (sortT xs)) := by
  show (if sortOk (xs.map Py.enc) = true then some (D.p (.list (sortP (xs.map Py.enc)))) else none) = _
  have ok : sortOk (xs.map Py.enc) = true := by
    unfold sortOk allAlike
    simp only [Bool.and_eq_true, Bool.or_eq_true, List.all_eq_true, List.mem_map, decide_eq_true_eq, List.length_map]
    refine ⟨⟨⟨?_, ?_⟩, h3⟩, ?_⟩
    · rintro _ ⟨a, _, rfl⟩ _ ⟨b, _, rfl⟩; exact h1 a b
    · rcases h2 with h2 | h2
      · left; rintro _ ⟨a, _, rfl⟩; exact h2 a
      · right; rintro _ ⟨a, _, rfl⟩; exact h2 a
    · rintro _ ⟨a, _, rfl⟩
      have := Py.hdep a; omega
  rw [if_pos ok, sortT_enc]; rfl
theorem e_sortC (xs : Chg) (h3 : xs.length ≤ lim) : gSorted [pv xs] = some (pv (sortT xs)) :=
  e_sortedT xs (fun a b => by simp [Py.enc, alike, PySem.W.alikeAll]) (.inl fun a => rfl) h3 (by decide)
theorem le0_chg {a b : (Int × Int) × Int} (h : le0 (Py.enc a) (Py.enc b) = true) (hne : a.1 ≠ b.1) : ltPl a.1 b.1 := by
  obtain ⟨⟨k, j⟩, e⟩ := a
  obtain ⟨⟨k', j'⟩, e'⟩ := b
  have h : (!dataLt (.tuple [.tuple [.int k', .int j'], .int e']) (.tuple [.tuple [.int k, .int j], .int e])) = true := h
  rw [PySem.W.dataLt_pair (by simp [alike, PySem.W.alikeAll]) (by simp [alike])] at h
  have hq : PyData.eqv (.tuple [.int k', .int j']) (.tuple [.int k, .int j]) = decide ((k', j') = (k, j)) := eqv_pv ((k', j') : Int × Int) (k, j)
  have hne' : ¬(k', j') = (k, j) := fun z => hne (by rw [Prod.mk.injEq] at z; simp [z.1, z.2])
  rw [hq, decide_eq_false hne', if_neg Bool.false_ne_true, PySem.W.dataLt_ii] at h
  simp only [Bool.not_eq_true', decide_eq_false_iff_not] at h
  have hne2 : ¬(k = k' ∧ j = j') := fun z => hne (by simp [z.1, z.2])
  unfold ltPl
  dsimp only
  omega
theorem sortC_sorted (cs : Chg) (nd : (cs.map (·.1)).Nodup) : ((sortT cs).map (·.1)).Pairwise ltPl := by
  have nd' : ((sortT cs).map (·.1)).Nodup := ((sortT_perm cs).map _).nodup_iff.mpr nd
  rw [List.pairwise_map]
  have h1 := sortT_sd cs
  rw [List.Nodup, List.pairwise_map] at nd'
  exact h1.imp₂ (fun a b h1 h2 => le0_chg h1 h2) nd'
/-- the changed places, in order, are those where the sheets differ -/
theorem unlike_put (s : Rows) (n m : Nat) (R : Rect s n m) (h2 : (ixD s 0).length = m) (cs : Chg) (hc : ∀ c ∈ cs, InR n m c.1 ∧ c.2 ≠ get s c.1) (nd : (cs.map (·.1)).Nodup) : unlike s (put s cs) = (sortT cs).map (·.1) := by
  have hc1 : ∀ c ∈ cs, InR n m c.1 := fun c h => (hc c h).1
  rw [unlike_eq s _ n m R.n h2]
  have s1 : ((places n m).filter fun p => decide ¬get s p = get (put s cs) p).Pairwise ltPl := (places_sorted n m).filter _
  have s2 := sortC_sorted cs nd
  have irr : ∀ p : Int × Int, ¬ltPl p p := fun p h => by unfold ltPl at h; omega
  have nd1 : ((places n m).filter fun p => decide ¬get s p = get (put s cs) p).Nodup := List.Pairwise.imp (S := (· ≠ ·)) (fun {a b} (h : ltPl a b) (e : a = b) => irr b (e ▸ h)) s1
  have nd2 : ((sortT cs).map (·.1)).Nodup := List.Pairwise.imp (S := (· ≠ ·)) (fun {a b} (h : ltPl a b) (e : a = b) => irr b (e ▸ h)) s2
  refine List.Perm.eq_of_pairwise (le := ltPl) (fun a b _ _ h1 h2 => ?_) s1 s2 ((List.perm_ext_iff_of_nodup nd1 nd2).mpr fun p => ?_)
  · unfold ltPl at h1 h2; omega
  · rw [List.mem_filter, mem_places, ((sortT_perm cs).map _).mem_iff, decide_eq_true_eq]
    constructor
    · rintro ⟨hp, hne⟩
      by_cases hm : p ∈ cs.map (·.1)
      · exact hm
      · exact absurd (get_put_no cs s R hc1 p hp hm).symm hne
    · intro hm
      obtain ⟨c, h, rfl⟩ := List.mem_map.mp hm
      refine ⟨hc1 c h, ?_⟩
      rw [get_put_yes cs s R hc1 nd c h]
      exact fun z => (hc c h).2 z.symm
theorem unlike_self (s : Rows) : unlike s s = [] := by
  rw [unlike_eq s s _ _ rfl rfl]
  simp
/-! a sheet drawn -/
structure ChOk (g : Rows) (n m : Nat) (cs : Chg) : Prop where
  nd : (cs.map (·.1)).Nodup
  ok : ∀ c ∈ cs, InR n m c.1 ∧ c.2 ≠ get g c.1 ∧ get g c.1 - 4 ≤ c.2 ∧ c.2 ≤ get g c.1 + 5
theorem w_sheet (most : Int) (hmo : 0 ≤ most ∧ most < 1000) (w : Wd) (gw : Gd w) : ∃ (t : Rows) (cs : Chg) (w' : Wd), f_Lsheet [.obj 0, pv most] w = .ok (.p (.tuple [Py.enc (full t), Py.enc (sortT cs), Py.enc (put (full t) cs)])) w' ∧
    Ta t ∧ ChOk (full t) (full t).length (ixD (full t) 0).length cs ∧ cs.length ≤ most.toNat ∧ Gd w' := by
  obtain ⟨t, w1, e1, ht, g1⟩ := w_table w gw
  have hS : Sh (full t) := (full_block t 0 9 (by decide) (by decide) ht).weak (by decide) (by decide)
  obtain ⟨tn, w2, e2, h2, g2⟩ := w_draw (most + 1) (by omega) (by omega) w1 g1
  have pf := p_Lfull t ht ()
  generalize hG : full t = G at *
  have a1 := hS.n1
  have a2 := hS.n2
  have a3 := hS.m2 _ (hS.ix0 (by decide))
  have a4 := hS.m1 _ (hS.ix0 (by decide))
  have pl : (places G.length (ixD G 0).length).length ≤ 1000 := by
    have := len_flat (rowPlaces (ixD G 0).length) 4 (rg 0 G.length) fun x _ => by rw [len_rowPlaces]; exact a3
    rw [len_rg] at this
    unfold places; omega
  have pl0 : 0 < (places G.length (ixD G 0).length).length := by
    have : ((0, 0) : Int × Int) ∈ places G.length (ixD G 0).length := mem_places.mpr ⟨⟨by simp, by simp; omega⟩, by simp, by simp; omega⟩
    exact List.length_pos_of_mem this
  let body : SF Wd := (sSeq (sSet 5 (xV (xCall f_Lpick (lCons (xVar 0) (lCons (xCall (liftZ f_Lall) (lCons (xVar 2) lNil)) lNil)))))
    (sIf (xB asB (x2 (gIn true) (xVar 5) (xLc (iOwn 3) (zT 2 (zCons (zN 7) (zCons (zN 8) zNil))) bYes (xVar 7) [7, 8]))) (sSeq (sSet 6 (xV (x2 gSub (xCall f_Ldraw (lCons (xVar 0) (lCons (xInt 9) lNil))) (xInt 4))))
    (sApp 3 (xN gTupD (lCons (xVar 5) (lCons (x2 gAdd (x2 gIx (x2 gIx (xVar 2) (x2 gIx (xVar 5) (xInt 0))) (x2 gIx (xVar 5) (xInt 1))) (xIf (xB asB (x2 gNe (xVar 6) (xInt 0))) (xVar 6) (xInt 5))) lNil))))) sNil))
  obtain ⟨δ', w3, e3, g3, cs, x4, x5, x6, hcs, hl, hd⟩ := forGo_preW (tz := zN 4) (body := body)
    (fun p δ w => Gd w ∧ ∃ (cs : Chg) (x4 x5 x6 : Sl), ChOk G G.length (ixD G 0).length cs ∧ cs.length ≤ p.length ∧ δ = [.v (.obj 0), .v (pv most), .v (pv G), .own (cs.map Py.enc), x4, x5, x6, .no, .no])
    (rg 0 tn) [] (fun p x r ex δ w ⟨gw, cs, x4, x5, x6, hcs, hl, hd⟩ => by
      subst hd
      have hp : p.length ≤ 1000 := by
        have := congrArg List.length ex
        simp [len_rg] at this
        omega
      obtain ⟨q, w1, e1, hq, g1⟩ := w_pick (places G.length (ixD G 0).length) pl0 (by omega) w gw
      have hq := mem_places.mp hq
      have pa := p_Lall G hS ()
      refine ⟨[.v (.obj 0), .v (pv most), .v (pv G), .own (cs.map Py.enc), .v (pv x), x5, x6, .no, .no], rfl, ?_⟩
      by_cases hm : q ∈ List.map Prod.fst cs
      · refine ⟨[.v (.obj 0), .v (pv most), .v (pv G), .own (cs.map Py.enc), .v (pv x), .v (pv q), x6, .no, .no], w1, .inl ?_, g1, cs, _, _, _, hcs, by rw [List.length_append]; omega, rfl⟩
        show body _ w = _
        unfold body
        simp (disch := (first | assumption | decide | omega | (simp only [List.length_map, List.length_append, List.length_cons, List.length_nil, List.length_range, len_rg, len_enum, len_cut1]; first | assumption | omega) | (simp only [List.length_map, List.length_append, List.length_cons, List.length_nil, List.length_range, len_rg, len_enum, len_cut1, lim] at *; omega))) only [run_ev, runD_nx, runD_rt, runD_exc, runD_ite, sSeq_ev, seqD_nx, seqD_rt, seqD_exc, seqD_ite, sIf_ev, ifD_ev, xAnd_ev, xOr_ev, xChain_ev, andD_ev, orD_ev, i_and, i_or, i_ff, lim_if, lim_if2, lim_ifL, xOwn_nil, Nat.reduceAdd, Nat.reduceSub, Int.reduceEq, Int.reduceLT, Int.reduceLE, Nat.reduceLT, Nat.reduceLeDiff, Nat.zero_add, Bool.false_eq_true, decide_false, decide_true, reduceCtorEq,  i_andP, i_orP, i_ok, i_pv, t_ii, t_ib, t_il, t_it, t_bi, t_bb, t_bl, t_bt, t_li, t_lb, t_ll, t_lt, t_ti, t_tb, t_tl, t_tt, sRet, sNil, sDrop, sAsg, sRaise, xIf, x2, x1, xN, xCall, xSl, oEv, xLc, wipeZ, iOf, iOf2, xB, bAnd, bOr, bNot, bYes, lNil, lCons, sSet, xV, sFrz, sPar2, sPar3, r_bind, r_bindX, r_bindB, r_calm, r_opt, r_optB, r_int, r_bl, r_non, xVar, e_eq, e_ne, e_add, e_sub, e_cat, e_mul, e_div, e_mod, e_neg, e_not, e_lt, e_le, e_gt, e_ge, e_isB, e_asB, e_truB, e_truI, e_asI, e_oInt, e_asP, e_listOf0, e_lstOf, sExt, sApp, sFor, e_isiI, e_isiB, e_isiL, e_isiP, e_len, e_lenP, e_sum, e_max, e_min, e_max2, e_min2, e_min3, e_all, e_anyI, e_anyB, e_l1, e_l2, e_l3, e_t2, keepD_pv, keepD_p, tzD_some, e_t3, e_asPp, e_zT3, e_listL, e_ix, e_ixP0, e_ixP1, e_sl, e_rev, e_in, e_seq, e_rg, e_en, e_zp, e_zN, e_zT, e_zCons, e_zNil, e_pl, e_noObj, e_noObjP, lift_ev, liftD_ok, liftD_exc, List.all_cons, List.all_nil, iOwn, lcGo_map, lcS_pure, lcS_filt, Option.bind_some, Option.map_some, List.map_cons, List.map_nil, List.length_cons, List.length_nil, List.replicate_succ, List.replicate_zero, List.cons_append, List.nil_append, List.set_cons_zero, List.set_cons_succ, List.getElem?_cons_zero, List.getElem?_cons_succ, Bool.not_true, eq_self, not_true_eq_false, not_false_eq_true, Bool.true_xor, Bool.false_xor, Bool.not_false, Bool.not_not, Bool.true_and, Bool.and_true, Bool.false_and, Bool.and_false, Bool.true_or, Bool.or_true, Bool.or_false, Bool.false_or, decide_eq_true_eq, Bool.not_eq_true', decide_eq_false_iff_not, ne_eq, if_true, if_false, reduceIte, List.getElem?_nil, List.all_map, List.any_map, Function.id_comp, Function.comp_def, id, Bool.decide_eq_false, Bool.decide_eq_true, pa, e1, hm]
      · obtain ⟨by_, w2, e2, h2, g2⟩ := w_draw 9 (by decide) (by decide) w1 g1
        have h01 := hq
        obtain ⟨h01, h02⟩ := h01
        have hr : ixD G q.1 ∈ G := ixD_mem (by omega)
        have hrl := hS.eq _ hr
        let c : (Int × Int) × Int := (q, get G q + (if ¬by_ - 4 = 0 then by_ - 4 else 5))
        have hcb : c.2 ≠ get G q ∧ get G q - 4 ≤ c.2 ∧ c.2 ≤ get G q + 5 := by
          show get G q + (if ¬by_ - 4 = 0 then by_ - 4 else 5) ≠ get G q ∧ get G q - 4 ≤ get G q + (if ¬by_ - 4 = 0 then by_ - 4 else 5) ∧ get G q + (if ¬by_ - 4 = 0 then by_ - 4 else 5) ≤ get G q + 5
          split <;> omega
        refine ⟨[.v (.obj 0), .v (pv most), .v (pv G), .own ((cs ++ [c]).map Py.enc), .v (pv x), .v (pv q), .v (pv (by_ - 4)), .no, .no], w2, .inl ?_, g2, cs ++ [c], _, _, _, ⟨?_, fun d hd => ?_⟩, by rw [List.length_append, List.length_append]; simp; omega, rfl⟩
        · show body _ w = _
          unfold body
          simp (disch := (first | assumption | decide | omega | (simp only [List.length_map, List.length_append, List.length_cons, List.length_nil, List.length_range, len_rg, len_enum, len_cut1]; first | assumption | omega) | (simp only [List.length_map, List.length_append, List.length_cons, List.length_nil, List.length_range, len_rg, len_enum, len_cut1, lim] at *; omega))) only [run_ev, runD_nx, runD_rt, runD_exc, runD_ite, sSeq_ev, seqD_nx, seqD_rt, seqD_exc, seqD_ite, sIf_ev, ifD_ev, xAnd_ev, xOr_ev, xChain_ev, andD_ev, orD_ev, i_and, i_or, i_ff, lim_if, lim_if2, lim_ifL, xOwn_nil, Nat.reduceAdd, Nat.reduceSub, Int.reduceEq, Int.reduceLT, Int.reduceLE, Nat.reduceLT, Nat.reduceLeDiff, Nat.zero_add, Bool.false_eq_true, decide_false, decide_true, reduceCtorEq,  i_andP, i_orP, i_ok, i_pv, t_ii, t_ib, t_il, t_it, t_bi, t_bb, t_bl, t_bt, t_li, t_lb, t_ll, t_lt, t_ti, t_tb, t_tl, t_tt, sRet, sNil, sDrop, sAsg, sRaise, xIf, x2, x1, xN, xCall, xSl, oEv, xLc, wipeZ, iOf, iOf2, xB, bAnd, bOr, bNot, bYes, lNil, lCons, sSet, xV, sFrz, sPar2, sPar3, r_bind, r_bindX, r_bindB, r_calm, r_opt, r_optB, r_int, r_bl, r_non, xVar, e_eq, e_ne, e_add, e_sub, e_cat, e_mul, e_div, e_mod, e_neg, e_not, e_lt, e_le, e_gt, e_ge, e_isB, e_asB, e_truB, e_truI, e_asI, e_oInt, e_asP, e_listOf0, e_lstOf, sExt, sApp, sFor, e_isiI, e_isiB, e_isiL, e_isiP, e_len, e_lenP, e_sum, e_max, e_min, e_max2, e_min2, e_min3, e_all, e_anyI, e_anyB, e_l1, e_l2, e_l3, e_t2, keepD_pv, keepD_p, tzD_some, e_t3, e_asPp, e_zT3, e_listL, e_ix, e_ixP0, e_ixP1, e_sl, e_rev, e_in, e_seq, e_rg, e_en, e_zp, e_zN, e_zT, e_zCons, e_zNil, e_pl, e_noObj, e_noObjP, lift_ev, liftD_ok, liftD_exc, List.all_cons, List.all_nil, iOwn, lcGo_map, lcS_pure, lcS_filt, Option.bind_some, Option.map_some, List.map_cons, List.map_nil, List.length_cons, List.length_nil, List.replicate_succ, List.replicate_zero, List.cons_append, List.nil_append, List.set_cons_zero, List.set_cons_succ, List.getElem?_cons_zero, List.getElem?_cons_succ, Bool.not_true, eq_self, not_true_eq_false, not_false_eq_true, Bool.true_xor, Bool.false_xor, Bool.not_false, Bool.not_not, Bool.true_and, Bool.and_true, Bool.false_and, Bool.and_false, Bool.true_or, Bool.or_true, Bool.or_false, Bool.false_or, decide_eq_true_eq, Bool.not_eq_true', decide_eq_false_iff_not, ne_eq, if_true, if_false, reduceIte, List.getElem?_nil, List.all_map, List.any_map, Function.id_comp, Function.comp_def, id, Bool.decide_eq_false, Bool.decide_eq_true, pa, e1, hm, e2]
          rw [List.map_append]
          rfl
        · rw [List.map_append, List.map_cons, List.map_nil, List.nodup_append]
          refine ⟨hcs.nd, by simp, fun a ha b hb z => ?_⟩
          rw [List.mem_singleton.mp hb] at z
          have z : a = q := z
          exact hm (z ▸ ha)
        · rcases List.mem_append.mp hd with hd | hd
          · exact hcs.ok d hd
          · rw [List.mem_singleton.mp hd]
            exact ⟨hq, hcb⟩) [.v (.obj 0), .v (pv most), .v (pv G), .own [], .no, .no, .no, .no, .no] w2 ⟨g2, [], _, _, _, ⟨List.nodup_nil, fun c h => by cases h⟩, by simp, rfl⟩
  have hl' : cs.length ≤ most.toNat := by
    rw [List.nil_append, len_rg] at hl; omega
  have hT : Rect G G.length (ixD G 0).length := hS.rect
  have pp := p_Lput G cs _ _ hT (by omega) (fun c h => (hcs.ok c h).1) ()
  refine ⟨t, cs, w3, ?_, ht, ?_, hl', g3⟩
  · subst hd
    unfold f_Lsheet b_Lsheet
    simp (disch := (first | assumption | decide | omega | (simp only [List.length_map, List.length_append, List.length_cons, List.length_nil, List.length_range, len_rg, len_enum, len_cut1]; first | assumption | omega) | (simp only [List.length_map, List.length_append, List.length_cons, List.length_nil, List.length_range, len_rg, len_enum, len_cut1, lim] at *; omega))) only [run_ev, runD_nx, runD_rt, runD_exc, runD_ite, sSeq_ev, seqD_nx, seqD_rt, seqD_exc, seqD_ite, sIf_ev, ifD_ev, xAnd_ev, xOr_ev, xChain_ev, andD_ev, orD_ev, i_and, i_or, i_ff, lim_if, lim_if2, lim_ifL, xOwn_nil, Nat.reduceAdd, Nat.reduceSub, Int.reduceEq, Int.reduceLT, Int.reduceLE, Nat.reduceLT, Nat.reduceLeDiff, Nat.zero_add, Bool.false_eq_true, decide_false, decide_true, reduceCtorEq,  i_andP, i_orP, i_ok, i_pv, t_ii, t_ib, t_il, t_it, t_bi, t_bb, t_bl, t_bt, t_li, t_lb, t_ll, t_lt, t_ti, t_tb, t_tl, t_tt, sRet, sNil, sDrop, sAsg, sRaise, xIf, x2, x1, xN, xCall, xSl, oEv, xLc, wipeZ, iOf, iOf2, xB, bAnd, bOr, bNot, bYes, lNil, lCons, sSet, xV, sFrz, sPar2, sPar3, r_bind, r_bindX, r_bindB, r_calm, r_opt, r_optB, r_int, r_bl, r_non, xVar, e_eq, e_ne, e_add, e_sub, e_cat, e_mul, e_div, e_mod, e_neg, e_not, e_lt, e_le, e_gt, e_ge, e_isB, e_asB, e_truB, e_truI, e_asI, e_oInt, e_asP, e_listOf0, e_lstOf, sExt, sApp, sFor, e_isiI, e_isiB, e_isiL, e_isiP, e_len, e_lenP, e_sum, e_max, e_min, e_max2, e_min2, e_min3, e_all, e_anyI, e_anyB, e_l1, e_l2, e_l3, e_t2, keepD_pv, keepD_p, tzD_some, e_t3, e_asPp, e_zT3, e_listL, e_ix, e_ixP0, e_ixP1, e_sl, e_rev, e_in, e_seq, e_rg, e_en, e_zp, e_zN, e_zT, e_zCons, e_zNil, e_pl, e_noObj, e_noObjP, lift_ev, liftD_ok, liftD_exc, List.all_cons, List.all_nil, iOwn, lcGo_map, lcS_pure, lcS_filt, Option.bind_some, Option.map_some, List.map_cons, List.map_nil, List.length_cons, List.length_nil, List.replicate_succ, List.replicate_zero, List.cons_append, List.nil_append, List.set_cons_zero, List.set_cons_succ, List.getElem?_cons_zero, List.getElem?_cons_succ, Bool.not_true, eq_self, not_true_eq_false, not_false_eq_true, Bool.true_xor, Bool.false_xor, Bool.not_false, Bool.not_not, Bool.true_and, Bool.and_true, Bool.false_and, Bool.and_false, Bool.true_or, Bool.or_true, Bool.or_false, Bool.false_or, decide_eq_true_eq, Bool.not_eq_true', decide_eq_false_iff_not, ne_eq, if_true, if_false, reduceIte, List.getElem?_nil, List.all_map, List.any_map, Function.id_comp, Function.comp_def, id, Bool.decide_eq_false, Bool.decide_eq_true, e1, pf, e2]
    change runD (seqD (forGo (zN 4) body ((rg 0 tn).map Py.enc) [.v (.obj 0), .v (pv most), .v (pv G), .own [], .no, .no, .no, .no, .no] w2) _) = _
    rw [e3]
    simp (disch := (first | assumption | decide | omega | (simp only [List.length_map, List.length_append, List.length_cons, List.length_nil, List.length_range, len_rg, len_enum, len_cut1]; first | assumption | omega) | (simp only [List.length_map, List.length_append, List.length_cons, List.length_nil, List.length_range, len_rg, len_enum, len_cut1, lim] at *; omega))) only [run_ev, runD_nx, runD_rt, runD_exc, runD_ite, sSeq_ev, seqD_nx, seqD_rt, seqD_exc, seqD_ite, sIf_ev, ifD_ev, xAnd_ev, xOr_ev, xChain_ev, andD_ev, orD_ev, i_and, i_or, i_ff, lim_if, lim_if2, lim_ifL, xOwn_nil, Nat.reduceAdd, Nat.reduceSub, Int.reduceEq, Int.reduceLT, Int.reduceLE, Nat.reduceLT, Nat.reduceLeDiff, Nat.zero_add, Bool.false_eq_true, decide_false, decide_true, reduceCtorEq,  i_andP, i_orP, i_ok, i_pv, t_ii, t_ib, t_il, t_it, t_bi, t_bb, t_bl, t_bt, t_li, t_lb, t_ll, t_lt, t_ti, t_tb, t_tl, t_tt, sRet, sNil, sDrop, sAsg, sRaise, xIf, x2, x1, xN, xCall, xSl, oEv, xLc, wipeZ, iOf, iOf2, xB, bAnd, bOr, bNot, bYes, lNil, lCons, sSet, xV, sFrz, sPar2, sPar3, r_bind, r_bindX, r_bindB, r_calm, r_opt, r_optB, r_int, r_bl, r_non, xVar, e_eq, e_ne, e_add, e_sub, e_cat, e_mul, e_div, e_mod, e_neg, e_not, e_lt, e_le, e_gt, e_ge, e_isB, e_asB, e_truB, e_truI, e_asI, e_oInt, e_asP, e_listOf0, e_lstOf, sExt, sApp, sFor, e_isiI, e_isiB, e_isiL, e_isiP, e_len, e_lenP, e_sum, e_max, e_min, e_max2, e_min2, e_min3, e_all, e_anyI, e_anyB, e_l1, e_l2, e_l3, e_t2, keepD_pv, keepD_p, tzD_some, e_t3, e_asPp, e_zT3, e_listL, e_ix, e_ixP0, e_ixP1, e_sl, e_rev, e_in, e_seq, e_rg, e_en, e_zp, e_zN, e_zT, e_zCons, e_zNil, e_pl, e_noObj, e_noObjP, lift_ev, liftD_ok, liftD_exc, List.all_cons, List.all_nil, iOwn, lcGo_map, lcS_pure, lcS_filt, Option.bind_some, Option.map_some, List.map_cons, List.map_nil, List.length_cons, List.length_nil, List.replicate_succ, List.replicate_zero, List.cons_append, List.nil_append, List.set_cons_zero, List.set_cons_succ, List.getElem?_cons_zero, List.getElem?_cons_succ, Bool.not_true, eq_self, not_true_eq_false, not_false_eq_true, Bool.true_xor, Bool.false_xor, Bool.not_false, Bool.not_not, Bool.true_and, Bool.and_true, Bool.false_and, Bool.and_false, Bool.true_or, Bool.or_true, Bool.or_false, Bool.false_or, decide_eq_true_eq, Bool.not_eq_true', decide_eq_false_iff_not, ne_eq, if_true, if_false, reduceIte, List.getElem?_nil, List.all_map, List.any_map, Function.id_comp, Function.comp_def, id, Bool.decide_eq_false, Bool.decide_eq_true, e_sortC, pp]
    rw [hG]
  · rw [hG]; exact hcs
/-! # sums of signed entries -/
theorem sum_zero {α : Type} (a : α → Int) : ∀ xs : List α, (∀ x ∈ xs, a x = 0) → (xs.map a).sum = 0
  | [], _ => rfl
  | x :: xs, h => by
    rw [List.map_cons, List.sum_cons, h x List.mem_cons_self, sum_zero a xs fun y hy => h y (List.mem_cons_of_mem _ hy)]; rfl
theorem sum_add {α : Type} (a b : α → Int) : ∀ xs : List α, (xs.map fun x => a x + b x).sum = (xs.map a).sum + (xs.map b).sum
  | [] => rfl
  | x :: xs => by
    simp only [List.map_cons, List.sum_cons]
    rw [sum_add a b xs]; omega
theorem sum_ind {α : Type} [DecidableEq α] (d : Int) (x0 : α) : ∀ xs : List α, xs.Nodup → x0 ∈ xs → (xs.map fun x => if x = x0 then d else 0).sum = d
  | x :: xs, nd, h => by
    obtain ⟨n1, n2⟩ := List.nodup_cons.mp nd
    rw [List.map_cons, List.sum_cons]
    by_cases e : x = x0
    · subst e
      rw [if_pos rfl, sum_zero _ xs fun y hy => if_neg fun (z : y = x) => n1 (z ▸ hy)]; omega
    · rw [if_neg e, sum_ind d x0 xs n2 ((List.mem_cons.mp h).resolve_left fun z => e z.symm)]; omega
theorem sum_congr {α : Type} {a b : α → Int} {xs : List α} (h : ∀ x ∈ xs, a x = b x) : (xs.map a).sum = (xs.map b).sum := by
  rw [List.map_congr_left h]
theorem sum_neg {α : Type} (a : α → Int) : ∀ xs : List α, (xs.map fun x => -a x).sum = -(xs.map a).sum
  | [] => rfl
  | x :: xs => by
    simp only [List.map_cons, List.sum_cons]
    rw [sum_neg a xs]; omega
theorem nodup_rg (a b : Int) : (rg a b).Nodup := List.Pairwise.imp (S := (· ≠ ·)) (fun {x y} (h : x < y) (e : x = y) => by omega) (rg_sorted a b)
theorem other_nz (a : Int → Int) (m : Nat) (h : ((rg 0 m).map a).sum = 0) (j : Int) (hj : 0 ≤ j ∧ j < m) (hn : a j ≠ 0) : ∃ i : Int, (0 ≤ i ∧ i < m) ∧ i ≠ j ∧ a i ≠ 0 := Classical.byContradiction fun z => by
  have e1 : ∀ i ∈ rg 0 (m : Int), a i = if i = j then a j else 0 := fun i hi => by
    by_cases e : i = j
    · subst e; rw [if_pos rfl]
    · rw [if_neg e]
      exact Classical.byContradiction fun q => z ⟨i, mem_rg.mp hi, e, q⟩
  rw [sum_congr e1, sum_ind _ _ _ (nodup_rg 0 m) (mem_rg.mpr hj)] at h
  exact hn h
theorem nodup_len {α : Type} [DecidableEq α] : ∀ (xs ys : List α), xs.Nodup → (∀ x ∈ xs, x ∈ ys) → xs.length ≤ ys.length
  | [], _, _, _ => Nat.zero_le _
  | x :: xs, ys, nd, h => by
    obtain ⟨n1, n2⟩ := List.nodup_cons.mp nd
    have hx := h x List.mem_cons_self
    have := nodup_len xs (ys.erase x) n2 fun y hy => (List.mem_erase_of_ne fun (z : y = x) => n1 (z ▸ hy)).mpr (h y (List.mem_cons_of_mem _ hy))
    rw [List.length_erase_of_mem hx] at this
    have := List.length_pos_of_mem hx
    rw [List.length_cons]; omega
/-- what changes no sum has four entries at least -/
theorem four (a : Int × Int → Int) (n m : Nat) (hr : ∀ k : Int, 0 ≤ k ∧ k < n → ((rg 0 m).map fun j => a (k, j)).sum = 0) (hc : ∀ j : Int, 0 ≤ j ∧ j < m → ((rg 0 n).map fun k => a (k, j)).sum = 0)
    (L : List (Int × Int)) (hL : ∀ p, InR n m p → a p ≠ 0 → p ∈ L) (p : Int × Int) (hp : InR n m p) (hn : a p ≠ 0) : 4 ≤ L.length := by
  obtain ⟨k, j⟩ := p
  obtain ⟨hk, hj⟩ := hp
  obtain ⟨j2, h1, h2, h3⟩ := other_nz (fun j => a (k, j)) m (hr k hk) j hj hn
  obtain ⟨k2, g1, g2, g3⟩ := other_nz (fun k => a (k, j)) n (hc j hj) k hk hn
  obtain ⟨k3, f1, f2, f3⟩ := other_nz (fun k => a (k, j2)) n (hc j2 h1) k hk h3
  have := nodup_len [(k, j), (k, j2), (k2, j), (k3, j2)] L (by
    have a1 := g2.symm
    have a2 := f2.symm
    have a3 := h2.symm
    simp [a1, a2, a3]) fun x hx => by
      simp only [List.mem_cons, List.not_mem_nil, or_false] at hx
      rcases hx with rfl | rfl | rfl | rfl
      · exact hL _ ⟨hk, hj⟩ hn
      · exact hL _ ⟨hk, h1⟩ h3
      · exact hL _ ⟨g1, hj⟩ g3
      · exact hL _ ⟨f1, h1⟩ f3
  exact this
/-! signs -/
def sgn (n m : Nat) (p : Int × Int) : Int := if ¬decide (p.1 = n - 1) = decide (p.2 = m - 1) then -1 else 1
def s1 (n : Nat) (k : Int) : Int := if k = n - 1 then -1 else 1
theorem sgn_eq (n m : Nat) (k j : Int) : sgn n m (k, j) = s1 n k * s1 m j := by
  unfold sgn s1
  dsimp only
  by_cases h1 : k = n - 1 <;> by_cases h2 : j = m - 1 <;> simp [h1, h2]
theorem s1_sq (n : Nat) (k : Int) : s1 n k * s1 n k = 1 := by unfold s1; split <;> rfl
theorem s1_cases (n : Nat) (k : Int) : s1 n k = 1 ∨ s1 n k = -1 := by unfold s1; split <;> simp
theorem sgn_cases (n m : Nat) (p : Int × Int) : sgn n m p = 1 ∨ sgn n m p = -1 := by unfold sgn; split <;> simp
def tg (s : Rows) (n m : Nat) (p : Int × Int) : Int := sgn n m p * get s p
def rowT (s : Rows) (n m : Nat) (k : Int) : Int := ((rg 0 m).map fun j => tg s n m (k, j)).sum
def colT (s : Rows) (n m : Nat) (j : Int) : Int := ((rg 0 n).map fun k => tg s n m (k, j)).sum
theorem sum_mul {α : Type} (c : Int) (a : α → Int) : ∀ xs : List α, (xs.map fun x => c * a x).sum = c * (xs.map a).sum
  | [] => by simp
  | x :: xs => by
    simp only [List.map_cons, List.sum_cons]
    rw [sum_mul c a xs, Int.mul_add]
theorem rowGap_sum (r : List Int) (m : Nat) (hm : 0 < m) (h : r.length = m) : rowGap r = ((rg 0 m).map fun j => s1 m j * ixD r j).sum := by
  obtain ⟨m', rfl⟩ : ∃ m', m = m' + 1 := ⟨m - 1, by omega⟩
  have e0 := snoc_of (xs := r) (by omega)
  have hc : (cut r none (some (-1))).length = m' := by rw [len_cut1]; omega
  generalize cut r none (some (-1)) = f at e0 hc
  generalize ixD r (-1) = x at e0
  subst e0
  rw [rowGap_snoc, rg_snoc, List.map_append, List.map_cons, List.map_nil, sum_app, sum_one, ixD_right _ _ _ (by rw [hc])]
  have e1 : ((rg 0 (m' : Int)).map fun j => s1 (m' + 1) j * ixD (f ++ [x]) j) = f := by
    rw [← map_ixD f m' hc]
    refine List.map_congr_left fun j hj => ?_
    have hj := mem_rg.mp hj
    rw [map_ixD f m' hc, ixD_left _ _ _ (by omega)]
    unfold s1
    rw [if_neg (by omega), Int.one_mul]
  rw [e1]
  unfold s1
  rw [if_pos (by omega)]
  omega
theorem ix_rowsOf {s : Rows} {n m : Nat} (R : Rect s n m) (hm : 0 < m) (k : Int) (hk : 0 ≤ k ∧ k < n) : ixD (rowsOf s) k = s1 n k * rowT s n m k := by
  have hn := R.n
  have hr : ixD s k ∈ s := ixD_mem (by omega)
  unfold rowsOf rowT
  rw [ixD_map _ _ _ (by omega), rowGap_sum _ m hm (R.m _ hr), ← sum_mul]
  refine sum_congr fun j hj => ?_
  unfold tg get
  rw [sgn_eq]
  dsimp only
  have := s1_sq n k
  rw [Int.mul_assoc, ← Int.mul_assoc (s1 n k) (s1 n k), this, Int.one_mul]
theorem ix_columnsOf {s : Rows} {n m : Nat} (R : Rect s n m) (hn : 0 < n) (j : Int) (hj : 0 ≤ j ∧ j < m) : ixD (columnsOf s) j = s1 m j * colT s n m j := by
  have hl := R.n
  unfold columnsOf colT
  rw [R.ix0 hn, ixD_map _ _ _ (by rw [len_rg]; omega), ixD_rg _ _ _ (by omega), rowGap_sum _ n hn (by rw [List.length_map, hl]), ← sum_mul]
  refine sum_congr fun k hk => ?_
  have hk := mem_rg.mp hk
  unfold tg get
  rw [sgn_eq, ixD_map _ _ _ (by omega), Int.zero_add]
  dsimp only
  have := s1_sq m j
  rw [Int.mul_comm (s1 n k) (s1 m j), Int.mul_assoc, ← Int.mul_assoc (s1 m j) (s1 m j), this, Int.one_mul]
theorem len_rowsOf (s : Rows) : (rowsOf s).length = s.length := by simp [rowsOf]
theorem len_columnsOf (s : Rows) : (columnsOf s).length = (ixD s 0).length := by simp [columnsOf, len_rg]
theorem turned_of (g : List Int) (n : Nat) (hn : 0 < n) (h : g.length = n) (t : Int → Int) (ht : ∀ k : Int, 0 ≤ k ∧ k < n → ixD g k = s1 n k * t k) : turned g = (rg 0 n).map t := by
  have e0 := snoc_of (xs := g) (by omega)
  have hc : (cut g none (some (-1))).length = n - 1 := by rw [len_cut1]; omega
  unfold turned
  generalize cut g none (some (-1)) = f at e0 hc
  generalize ixD g (-1) = x at e0
  subst e0
  have hl : (f ++ [-x]).length = n := by rw [List.length_append, hc]; simp; omega
  rw [← map_ixD (f ++ [-x]) n hl]
  refine List.map_congr_left fun k hk => ?_
  have hk := mem_rg.mp hk
  have := ht k hk
  unfold s1 at this
  by_cases e : k = (n : Int) - 1
  · rw [if_pos e, ixD_right _ _ _ (by rw [hc]; omega)] at this
    rw [ixD_right _ _ _ (by rw [hc]; omega)]
    omega
  · rw [if_neg e, ixD_left _ _ _ (by omega)] at this
    rw [ixD_left _ _ _ (by omega)]
    omega
theorem turned_rows {s : Rows} {n m : Nat} (R : Rect s n m) (hn : 0 < n) (hm : 0 < m) : turned (rowsOf s) = (rg 0 n).map (rowT s n m) :=
  turned_of _ n hn (by rw [len_rowsOf, R.n]) _ fun k hk => ix_rowsOf R hm k hk
theorem turned_columns {s : Rows} {n m : Nat} (R : Rect s n m) (hn : 0 < n) (hm : 0 < m) : turned (columnsOf s) = (rg 0 m).map (colT s n m) :=
  turned_of _ m hm (by rw [len_columnsOf, R.ix0 hn]) _ fun j hj => ix_columnsOf R hn j hj
theorem s1_zero {n : Nat} {k t : Int} : s1 n k * t = 0 ↔ t = 0 := by
  rcases s1_cases n k with e | e <;> rw [e] <;> omega
/-- right: no sum of signed entries is other than 0 -/
def Zero (s : Rows) (n m : Nat) : Prop := (∀ k : Int, 0 ≤ k ∧ k < n → rowT s n m k = 0) ∧ ∀ j : Int, 0 ≤ j ∧ j < m → colT s n m j = 0
theorem any_zero (g : List Int) (n : Nat) (h : g.length = n) : g.any (· != 0) = false ↔ ∀ k : Int, 0 ≤ k ∧ k < n → ixD g k = 0 := by
  rw [List.any_eq_false]
  constructor
  · intro z k hk
    have := z _ (ixD_mem (xs := g) (i := k) (by omega))
    simpa using this
  · intro z x hx
    obtain ⟨i, hi, rfl⟩ := List.getElem_of_mem hx
    have := z i (by omega)
    rw [ixD_nat _ _ (by omega)] at this
    simpa using this
theorem right_iff {s : Rows} {n m : Nat} (R : Rect s n m) (hn : 0 < n) (hm : 0 < m) : rightS s = true ↔ Zero s n m := by
  unfold rightS Zero
  rw [Bool.and_eq_true, Bool.not_eq_true', Bool.not_eq_true', any_zero _ n (by rw [len_rowsOf, R.n]), any_zero _ m (by rw [len_columnsOf, R.ix0 hn])]
  constructor
  · rintro ⟨h1, h2⟩
    exact ⟨fun k hk => s1_zero.mp ((ix_rowsOf R hm k hk).symm.trans (h1 k hk)), fun j hj => s1_zero.mp ((ix_columnsOf R hn j hj).symm.trans (h2 j hj))⟩
  · rintro ⟨h1, h2⟩
    exact ⟨fun k hk => (ix_rowsOf R hm k hk).trans (s1_zero.mpr (h1 k hk)), fun j hj => (ix_columnsOf R hn j hj).trans (s1_zero.mpr (h2 j hj))⟩
/-! one entry changed -/
theorem tg_set {s : Rows} {n m : Nat} (R : Rect s n m) {p q : Int × Int} (v : Int) (hp : InR n m p) (hq : InR n m q) : tg (setRC s p.1 p.2 v) n m q = tg s n m q + if q = p then sgn n m p * (v - get s p) else 0 := by
  unfold tg
  rw [get_set R v hp hq]
  by_cases e : q = p
  · subst e
    rw [if_pos rfl, if_pos rfl, Int.mul_sub]; omega
  · rw [if_neg e, if_neg e]; omega
theorem rowT_set {s : Rows} {n m : Nat} (R : Rect s n m) {p : Int × Int} (v : Int) (hp : InR n m p) (k : Int) (hk : 0 ≤ k ∧ k < n) : rowT (setRC s p.1 p.2 v) n m k = rowT s n m k + if k = p.1 then sgn n m p * (v - get s p) else 0 := by
  unfold rowT
  have e1 : ∀ j ∈ rg 0 (m : Int), tg (setRC s p.1 p.2 v) n m (k, j) = tg s n m (k, j) + if j = p.2 then (if k = p.1 then sgn n m p * (v - get s p) else 0) else 0 := fun j hj => by
    rw [tg_set R v hp ⟨hk, mem_rg.mp hj⟩]
    congr 1
    obtain ⟨a, b⟩ := p
    simp only [Prod.mk.injEq]
    by_cases h1 : k = a <;> by_cases h2 : j = b <;> simp [h1, h2]
  rw [sum_congr e1, sum_add, sum_ind _ _ _ (nodup_rg 0 m) (mem_rg.mpr hp.2)]
theorem colT_set {s : Rows} {n m : Nat} (R : Rect s n m) {p : Int × Int} (v : Int) (hp : InR n m p) (j : Int) (hj : 0 ≤ j ∧ j < m) : colT (setRC s p.1 p.2 v) n m j = colT s n m j + if j = p.2 then sgn n m p * (v - get s p) else 0 := by
  unfold colT
  have e1 : ∀ k ∈ rg 0 (n : Int), tg (setRC s p.1 p.2 v) n m (k, j) = tg s n m (k, j) + if k = p.1 then (if j = p.2 then sgn n m p * (v - get s p) else 0) else 0 := fun k hk => by
    rw [tg_set R v hp ⟨mem_rg.mp hk, hj⟩]
    congr 1
    obtain ⟨a, b⟩ := p
    simp only [Prod.mk.injEq]
    by_cases h1 : k = a <;> by_cases h2 : j = b <;> simp [h1, h2]
  rw [sum_congr e1, sum_add, sum_ind _ _ _ (nodup_rg 0 n) (mem_rg.mpr hp.1)]
/-- up to three entries changed are seen -/
theorem few_seen (g : Rows) (n m : Nat) (R : Rect g n m) (hn : 0 < n) (hm : 0 < m) (hg : Zero g n m) (cs : Chg) (hc : ∀ c ∈ cs, InR n m c.1 ∧ c.2 ≠ get g c.1) (nd : (cs.map (·.1)).Nodup) (h1 : cs ≠ []) (h3 : cs.length ≤ 3) : ¬Zero (put g cs) n m := by
  intro hz
  have hc1 : ∀ c ∈ cs, InR n m c.1 := fun c h => (hc c h).1
  obtain ⟨c, hcm⟩ := List.exists_mem_of_ne_nil cs h1
  have sg0 : ∀ (p : Int × Int) (x : Int), sgn n m p * x ≠ 0 ↔ x ≠ 0 := fun p x => by
    rcases sgn_cases n m p with e | e <;> rw [e] <;> omega
  have := four (fun p => tg (put g cs) n m p - tg g n m p) n m (fun k hk => by rw [sum_sub (fun j => tg (put g cs) n m (k, j)) (fun j => tg g n m (k, j))]; have a := hz.1 k hk; have b := hg.1 k hk; unfold rowT at a b; omega)
    (fun j hj => by rw [sum_sub (fun k => tg (put g cs) n m (k, j)) (fun k => tg g n m (k, j))]; have a := hz.2 j hj; have b := hg.2 j hj; unfold colT at a b; omega)
    (cs.map (·.1)) (fun p hp h => by
      refine Classical.byContradiction fun z => h ?_
      show tg (put g cs) n m p - tg g n m p = 0
      unfold tg
      rw [get_put_no cs g R hc1 p hp z]; omega) c.1 (hc1 c hcm) (by
      show tg (put g cs) n m c.1 - tg g n m c.1 ≠ 0
      unfold tg
      rw [get_put_yes cs g R hc1 nd c hcm, ← Int.mul_sub, sg0]
      have := (hc c hcm).2; omega)
  rw [List.length_map] at this
  omega
/-! # changes: what the functions compute -/
theorem p_check_place (s : Rows) (h : Sh s) (p : Int × Int) (hp : InR s.length (ixD s 0).length p) (w : Unit) : f_check_place [pv s, pv p] w = .ok (.p .none) w := by
  have h1 := h.n1
  obtain ⟨⟨a1, a2⟩, a3, a4⟩ := hp
  have b1 : decide (p.1 ≤ (s.length : Int) - 1) = true := decide_eq_true (by omega)
  have b2 : decide (p.2 ≤ ((ixD s 0).length : Int) - 1) = true := decide_eq_true (by omega)
  unfold f_check_place b_check_place
  simp (disch := (first | assumption | decide | omega | (simp only [List.length_map, List.length_append, List.length_cons, List.length_nil, List.length_range, len_rg, len_enum, len_cut1]; first | assumption | omega) | (simp only [List.length_map, List.length_append, List.length_cons, List.length_nil, List.length_range, len_rg, len_enum, len_cut1, lim] at *; omega))) only [run_ev, runD_nx, runD_rt, runD_exc, runD_ite, sSeq_ev, seqD_nx, seqD_rt, seqD_exc, seqD_ite, sIf_ev, ifD_ev, xAnd_ev, xOr_ev, xChain_ev, andD_ev, orD_ev, i_and, i_or, i_ff, lim_if, lim_if2, lim_ifL, xOwn_nil, Nat.reduceAdd, Nat.reduceSub, Int.reduceEq, Int.reduceLT, Int.reduceLE, Nat.reduceLT, Nat.reduceLeDiff, Nat.zero_add, Bool.false_eq_true, decide_false, decide_true, reduceCtorEq,  i_andP, i_orP, i_ok, i_pv, t_ii, t_ib, t_il, t_it, t_bi, t_bb, t_bl, t_bt, t_li, t_lb, t_ll, t_lt, t_ti, t_tb, t_tl, t_tt, sRet, sNil, sDrop, sAsg, sRaise, xIf, x2, x1, xN, xCall, xSl, oEv, xLc, wipeZ, iOf, iOf2, xB, bAnd, bOr, bNot, bYes, lNil, lCons, sSet, xV, sFrz, sPar2, sPar3, r_bind, r_bindX, r_bindB, r_calm, r_opt, r_optB, r_int, r_bl, r_non, xVar, e_eq, e_ne, e_add, e_sub, e_cat, e_mul, e_div, e_mod, e_neg, e_not, e_lt, e_le, e_gt, e_ge, e_isB, e_asB, e_truB, e_truI, e_asI, e_oInt, e_asP, e_listOf0, e_lstOf, sExt, sApp, sFor, e_isiI, e_isiB, e_isiL, e_isiP, e_len, e_lenP, e_sum, e_max, e_min, e_max2, e_min2, e_min3, e_all, e_anyI, e_anyB, e_l1, e_l2, e_l3, e_t2, keepD_pv, keepD_p, tzD_some, e_t3, e_asPp, e_zT3, e_listL, e_ix, e_ixP0, e_ixP1, e_sl, e_rev, e_in, e_seq, e_rg, e_en, e_zp, e_zN, e_zT, e_zCons, e_zNil, e_pl, e_noObj, e_noObjP, lift_ev, liftD_ok, liftD_exc, List.all_cons, List.all_nil, iOwn, lcGo_map, lcS_pure, lcS_filt, Option.bind_some, Option.map_some, List.map_cons, List.map_nil, List.length_cons, List.length_nil, List.replicate_succ, List.replicate_zero, List.cons_append, List.nil_append, List.set_cons_zero, List.set_cons_succ, List.getElem?_cons_zero, List.getElem?_cons_succ, Bool.not_true, eq_self, not_true_eq_false, not_false_eq_true, Bool.true_xor, Bool.false_xor, Bool.not_false, Bool.not_not, Bool.true_and, Bool.and_true, Bool.false_and, Bool.and_false, Bool.true_or, Bool.or_true, Bool.or_false, Bool.false_or, decide_eq_true_eq, Bool.not_eq_true', decide_eq_false_iff_not, ne_eq, if_true, if_false, reduceIte, List.getElem?_nil, List.all_map, List.any_map, Function.id_comp, Function.comp_def, id, Bool.decide_eq_false, Bool.decide_eq_true, p_is_int, decide_eq_true a1, decide_eq_true a3, b1, b2]
theorem tups_pairs : ∀ ps : List (Int × Int), tups? (ps.map Py.enc) = some (ps.map fun p => [p.1, p.2])
  | [] => rfl
  | p :: ps => by
    show ((ints? [.int p.1, .int p.2]).bind fun ns => (tups? (ps.map Py.enc)).map (ns :: ·)) = _
    rw [tups_pairs ps]; rfl
theorem e_lenSet (ps : List (Int × Int)) (nd : ps.Nodup) (hl : ps.length < 64) : gLenSet (pv ps) = some (pv (ps.length : Int)) := by
  show ((tups? (ps.map Py.enc)).bind fun ks => if ks.length < 64 then some (D.p (.int ((ddp ks).length : Int))) else none) = _
  rw [tups_pairs]
  show (if (ps.map fun p => [p.1, p.2]).length < 64 then some (D.p (.int ((ddp (ps.map fun p => [p.1, p.2])).length : Int))) else none) = _
  rw [List.length_map, if_pos hl, ddp_nodup, List.length_map]
  · rfl
  · exact List.Pairwise.map _ (fun a b (h : a ≠ b) (e : [a.1, a.2] = [b.1, b.2]) => h (by simp at e; exact Prod.ext e.1 e.2)) nd
/-- fit to be asked for -/
structure CsOk (n m : Nat) (cs : Chg) : Prop where
  nd : (cs.map (·.1)).Nodup
  ok : ∀ c ∈ cs, InR n m c.1 ∧ -999 ≤ c.2 ∧ c.2 ≤ 999
  le : cs.length ≤ 16
theorem put_sh {s : Rows} (h : Sh s) {cs : Chg} (hc : CsOk s.length (ixD s 0).length cs) : Sh (put s cs) :=
  block_put h h.rect (by have := h.n1; omega) cs (fun c hm => hc.ok c hm) (by decide) (by decide)
/-- a flow through a place, as a change -/
def mv (s : Rows) (f : (Int × Int) × Int) : (Int × Int) × Int := (f.1, get s f.1 - f.2 * sgn s.length (ixD s 0).length f.1)
theorem cMul_sgn (x : Int) (n m : Nat) (p : Int × Int) : cMul x (sgn n m p) = true := by
  unfold cMul
  rcases sgn_cases n m p with e | e <;> rw [e] <;> simp
def withinB (cs : Chg) : Bool := cs.all fun c => decide (-999 ≤ c.2) && decide (c.2 ≤ 999)
/-! # single mends -/
theorem mem_enum {g : List Int} {p : Int × Int} (h : p ∈ enum 0 g) : (0 ≤ p.1 ∧ p.1 < g.length) ∧ p.2 = ixD g p.1 := by
  rw [enum_eq] at h
  obtain ⟨k, hk, rfl⟩ := List.mem_map.mp h
  exact ⟨mem_rg.mp hk, rfl⟩
def restOf (g : List Int) (k : Int) : List Int := ((enum 0 g).filter fun p => decide ¬p.1 = k).map fun p => p.2
theorem len_restOf (g : List Int) (k : Int) : (restOf g k).length ≤ g.length := by
  unfold restOf
  rw [List.length_map]
  exact Nat.le_trans (List.length_filter_le _ _) (by rw [len_enum]; exact Nat.le_refl _)
def sCond (rows cols : List Int) (kg jf : Int × Int) : Bool := decide (kg.2 = jf.2) && (!decide (kg.2 = 0) && !(restOf rows kg.1 ++ restOf cols jf.1).any (· != 0))
def sCell (s : Rows) (rows cols : List Int) (kg jf : Int × Int) : Chg := if sCond rows cols kg jf = true then [mv s ((kg.1, jf.1), kg.2)] else []
def sRow (s : Rows) (rows cols : List Int) (kg : Int × Int) : Chg := (enum 0 cols).flatMap (sCell s rows cols kg)
def sAll (s : Rows) (rows cols : List Int) : Chg := (enum 0 rows).flatMap (sRow s rows cols)
theorem len_sCell (s : Rows) (rows cols : List Int) (kg jf : Int × Int) : (sCell s rows cols kg jf).length ≤ 1 := by unfold sCell; split <;> simp
theorem len_sRow (s : Rows) (rows cols : List Int) (kg : Int × Int) : (sRow s rows cols kg).length ≤ cols.length := by
  have := len_flat (sCell s rows cols kg) 1 (enum 0 cols) fun x _ => len_sCell _ _ _ _ _
  rw [len_enum] at this
  unfold sRow; omega
/-! # single mends: plain laws -/
theorem flat_filter {α β : Type} (p : α → Prop) [DecidablePred p] (f : α → β) : ∀ xs : List α, (xs.flatMap fun x => if p x then [f x] else []) = (xs.filter fun x => decide (p x)).map f
  | [] => rfl
  | x :: xs => by
    rw [List.flatMap_cons, flat_filter p f xs]
    by_cases h : p x
    · rw [if_pos h, List.filter_cons_of_pos (by simpa using h)]; rfl
    · rw [if_neg h, List.filter_cons_of_neg (by simpa using h)]; rfl
theorem flat_places {β : Type} (n m : Nat) (g : Int × Int → List β) : (places n m).flatMap g = (rg 0 n).flatMap fun k => (rg 0 m).flatMap fun j => g (k, j) := by
  unfold places
  rw [List.flatMap_assoc]
  congr 1
  funext k
  unfold rowPlaces
  rw [List.flatMap_map]
theorem flat_congr {α β : Type} {f g : α → List β} : ∀ {xs : List α}, (∀ x ∈ xs, f x = g x) → xs.flatMap f = xs.flatMap g
  | [], _ => rfl
  | x :: xs, h => by rw [List.flatMap_cons, List.flatMap_cons, h x List.mem_cons_self, flat_congr fun y hy => h y (List.mem_cons_of_mem _ hy)]
theorem enum_rg (n : Nat) (t : Int → Int) : enum 0 ((rg 0 n).map t) = (rg 0 n).map fun k => (k, t k) := by
  have e0 : (((rg 0 (n : Int)).map t).length : Int) = n := by rw [List.length_map, len_rg]; omega
  rw [enum_eq, e0]
  refine List.map_congr_left fun k hk => ?_
  have hk := mem_rg.mp hk
  rw [ixD_map _ _ _ (by rw [len_rg]; omega), ixD_rg _ _ _ (by omega), Int.zero_add]
/-- the one entry that mends stands at p -/
def Sg (s : Rows) (n m : Nat) (p : Int × Int) : Prop := rowT s n m p.1 = colT s n m p.2 ∧ rowT s n m p.1 ≠ 0 ∧ (∀ i : Int, (0 ≤ i ∧ i < n) → i ≠ p.1 → rowT s n m i = 0) ∧ ∀ i : Int, (0 ≤ i ∧ i < m) → i ≠ p.2 → colT s n m i = 0
theorem rest_zero (n : Nat) (t : Int → Int) (k : Int) : (restOf ((rg 0 n).map t) k).any (· != 0) = false ↔ ∀ i : Int, (0 ≤ i ∧ i < n) → i ≠ k → t i = 0 := by
  unfold restOf
  rw [enum_rg, List.any_eq_false]
  constructor
  · intro h i hi hne
    have := h (t i) (List.mem_map.mpr ⟨(i, t i), List.mem_filter.mpr ⟨List.mem_map.mpr ⟨i, mem_rg.mpr hi, rfl⟩, by simpa using hne⟩, rfl⟩)
    simpa using this
  · intro h x hx
    obtain ⟨p, hp, rfl⟩ := List.mem_map.mp hx
    obtain ⟨h1, h2⟩ := List.mem_filter.mp hp
    obtain ⟨i, hi, rfl⟩ := List.mem_map.mp h1
    have := h i (mem_rg.mp hi) (by simpa using h2)
    simpa using this
theorem sCond_iff (s : Rows) (n m : Nat) (k j : Int) : sCond ((rg 0 n).map (rowT s n m)) ((rg 0 m).map (colT s n m)) (k, rowT s n m k) (j, colT s n m j) = true ↔ Sg s n m (k, j) := by
  unfold sCond Sg
  dsimp only
  rw [List.any_append, Bool.and_eq_true, Bool.and_eq_true, Bool.not_eq_true', Bool.not_eq_true', Bool.or_eq_false_iff, rest_zero, rest_zero, decide_eq_true_eq, decide_eq_false_iff_not]
open Classical in
noncomputable def sgB (s : Rows) (n m : Nat) (p : Int × Int) : Bool := decide (Sg s n m p)
open Classical in
theorem sgB_iff {s : Rows} {n m : Nat} {p : Int × Int} : sgB s n m p = true ↔ Sg s n m p := by unfold sgB; exact decide_eq_true_iff
/-- the single mends: by the places -/
theorem sAll_eq (s : Rows) (n m : Nat) : sAll s ((rg 0 n).map (rowT s n m)) ((rg 0 m).map (colT s n m)) = ((places n m).filter (sgB s n m)).map fun p => mv s (p, rowT s n m p.1) := by
  have h1 : ((places n m).filter (sgB s n m)).map (fun p => mv s (p, rowT s n m p.1)) = (places n m).flatMap fun p => if sgB s n m p = true then [mv s (p, rowT s n m p.1)] else [] := by
    rw [flat_filter (fun p => sgB s n m p = true)]
    simp
  rw [h1, flat_places]
  unfold sAll
  rw [enum_rg, List.flatMap_map]
  refine flat_congr fun k _ => ?_
  unfold sRow
  rw [enum_rg, List.flatMap_map]
  refine flat_congr fun j _ => ?_
  unfold sCell
  have : sCond ((rg 0 (n : Int)).map (rowT s n m)) ((rg 0 (m : Int)).map (colT s n m)) (k, rowT s n m k) (j, colT s n m j) = sgB s n m (k, j) := by
    rw [Bool.eq_iff_iff, sCond_iff, sgB_iff]
  rw [this]
theorem Sg.uniq {s : Rows} {n m : Nat} {p q : Int × Int} (hp : InR n m p) (hq : InR n m q) (h1 : Sg s n m p) (h2 : Sg s n m q) : p = q := by
  obtain ⟨a1, a2, a3, a4⟩ := h1
  obtain ⟨b1, b2, b3, b4⟩ := h2
  refine Prod.ext (Classical.byContradiction fun z => ?_) (Classical.byContradiction fun z => ?_)
  · exact a2 (b3 p.1 hp.1 z)
  · exact a2 (a1.trans (b4 p.2 hp.2 z))
theorem one_of {α : Type} : ∀ {l : List α}, l.Nodup → (∀ a ∈ l, ∀ b ∈ l, a = b) → l.length ≤ 1
  | [], _, _ => by simp
  | [_], _, _ => by simp
  | a :: b :: l, nd, h => by
    have := h a (by simp) b (by simp)
    subst this
    simp at nd
theorem nodup_places (n m : Nat) : (places n m).Nodup := List.Pairwise.imp (S := (· ≠ ·)) (fun {a b} (h : ltPl a b) (e : a = b) => by subst e; unfold ltPl at h; omega) (places_sorted n m)
theorem sg_mem {s : Rows} {n m : Nat} {p : Int × Int} : p ∈ (places n m).filter (sgB s n m) ↔ InR n m p ∧ Sg s n m p := by
  rw [List.mem_filter, mem_places, sgB_iff]
theorem sg_le1 (s : Rows) (n m : Nat) : ((places n m).filter (sgB s n m)).length ≤ 1 :=
  one_of ((nodup_places n m).filter _) fun a ha b hb => Sg.uniq (sg_mem.mp ha).1 (sg_mem.mp hb).1 (sg_mem.mp ha).2 (sg_mem.mp hb).2
theorem sg_is {s : Rows} {n m : Nat} {p : Int × Int} (hp : InR n m p) (h : Sg s n m p) : (places n m).filter (sgB s n m) = [p] := by
  have h1 := sg_le1 s n m
  have h2 : p ∈ (places n m).filter (sgB s n m) := sg_mem.mpr ⟨hp, h⟩
  cases e : (places n m).filter (sgB s n m) with
  | nil => rw [e] at h2; cases h2
  | cons a l =>
    rw [e] at h1 h2
    cases l with
    | nil => rw [List.mem_singleton.mp h2]
    | cons b l => simp at h1
theorem sg_none {s : Rows} {n m : Nat} (h : Zero s n m) : (places n m).filter (sgB s n m) = [] := by
  rw [List.filter_eq_nil_iff]
  intro p hp
  have hp := mem_places.mp hp
  rw [sgB_iff]
  exact fun z => z.2.1 (h.1 p.1 hp.1)
theorem sgn_sq (n m : Nat) (p : Int × Int) (x : Int) : sgn n m p * (sgn n m p * x) = x := by
  rcases sgn_cases n m p with e | e <;> rw [e] <;> omega
/-- mended by the row's gap: right exactly if it is the one -/
theorem sg_right {s : Rows} {n m : Nat} (R : Rect s n m) (p : Int × Int) (hp : InR n m p) : Zero (setRC s p.1 p.2 (get s p - sgn n m p * rowT s n m p.1)) n m ∧ rowT s n m p.1 ≠ 0 ↔ Sg s n m p := by
  have e0 : sgn n m p * (get s p - sgn n m p * rowT s n m p.1 - get s p) = -rowT s n m p.1 := by
    have := sgn_sq n m p (rowT s n m p.1)
    have e : get s p - sgn n m p * rowT s n m p.1 - get s p = -(sgn n m p * rowT s n m p.1) := by omega
    rw [e, Int.mul_neg, this]
  unfold Zero Sg
  constructor
  · rintro ⟨⟨h1, h2⟩, h3⟩
    have g1 := h2 p.2 hp.2
    rw [colT_set R _ hp _ hp.2, if_pos rfl, e0] at g1
    refine ⟨by omega, h3, fun i hi hne => ?_, fun i hi hne => ?_⟩
    · have := h1 i hi
      rw [rowT_set R _ hp _ hi, if_neg hne] at this; omega
    · have := h2 i hi
      rw [colT_set R _ hp _ hi, if_neg hne] at this; omega
  · rintro ⟨h1, h2, h3, h4⟩
    refine ⟨⟨fun i hi => ?_, fun i hi => ?_⟩, h2⟩
    · rw [rowT_set R _ hp _ hi]
      by_cases e : i = p.1
      · subst e; rw [if_pos rfl, e0]; omega
      · rw [if_neg e, h3 i hi e]; rfl
    · rw [colT_set R _ hp _ hi]
      by_cases e : i = p.2
      · subst e; rw [if_pos rfl, e0, h1]; omega
      · rw [if_neg e, h4 i hi e]; rfl
theorem rowT_bound {s : Rows} {n m : Nat} {a : Int} (ha : 0 ≤ a) (R : Rect s n m) (hm : m ≤ 4) (h : ∀ r ∈ s, ∀ x ∈ r, -a ≤ x ∧ x ≤ a) (k : Int) (hk : 0 ≤ k ∧ k < n) : -(4 * a) ≤ rowT s n m k ∧ rowT s n m k ≤ 4 * a := by
  unfold rowT
  have := sum_bound (-a) a ((rg 0 (m : Int)).map fun j => tg s n m (k, j)) fun x hx => by
    obtain ⟨j, hj, rfl⟩ := List.mem_map.mp hx
    have g := get_en R h (p := (k, j)) ⟨hk, mem_rg.mp hj⟩
    unfold tg
    rcases sgn_cases n m (k, j) with e | e <;> rw [e] <;> omega
  rw [List.length_map, len_rg] at this
  have hm' : ((m : Int) - 0).toNat = m := by omega
  rw [hm'] at this
  have h4 : m = 0 ∨ m = 1 ∨ m = 2 ∨ m = 3 ∨ m = 4 := by omega
  rcases h4 with rfl | rfl | rfl | rfl | rfl <;> omega
/-- from equal entries to equal sums -/
theorem zero_congr {s o : Rows} {n m : Nat} (h : ∀ p, InR n m p → get s p = get o p) (hz : Zero s n m) : Zero o n m := by
  have e : ∀ p, InR n m p → tg o n m p = tg s n m p := fun p hp => by unfold tg; rw [h p hp]
  refine ⟨fun k hk => ?_, fun j hj => ?_⟩
  · have := hz.1 k hk
    unfold rowT at this ⊢
    rw [sum_congr fun j hj => e (k, j) ⟨hk, mem_rg.mp hj⟩]; exact this
  · have := hz.2 j hj
    unfold colT at this ⊢
    rw [sum_congr fun k hk => e (k, j) ⟨mem_rg.mp hk, hj⟩]; exact this
/-- the changes taken back -/
theorem put_back {g : Rows} {n m : Nat} (R : Rect g n m) (cs : Chg) (hc : ∀ c ∈ cs, InR n m c.1) (nd : (cs.map (·.1)).Nodup) (cs' : Chg) (hp : cs'.Perm cs) : ∀ q, InR n m q → get (put (put g cs) (cs'.map fun c => (c.1, get g c.1))) q = get g q := fun q hq => by
  have R1 := put_rect cs g R fun c h => (hc c h).1
  have h1 : ∀ c ∈ cs'.map (fun c : (Int × Int) × Int => (c.1, get g c.1)), InR n m c.1 := fun c h => by
    obtain ⟨d, hd, rfl⟩ := List.mem_map.mp h
    exact hc d (hp.mem_iff.mp hd)
  have e1 : (cs'.map fun c : (Int × Int) × Int => (c.1, get g c.1)).map (·.1) = cs'.map (·.1) := by rw [List.map_map]; rfl
  by_cases hm : q ∈ cs'.map (·.1)
  · obtain ⟨c, h, rfl⟩ := List.mem_map.mp hm
    have nd' : ((cs'.map fun c : (Int × Int) × Int => (c.1, get g c.1)).map (·.1)).Nodup := by rw [e1]; exact (hp.map _).nodup_iff.mpr nd
    exact get_put_yes _ _ R1 h1 nd' (c.1, get g c.1) (List.mem_map.mpr ⟨c, h, rfl⟩)
  · rw [get_put_no _ _ R1 h1 q hq (by rw [e1]; exact hm), get_put_no cs g R hc q hq (fun z => hm ((hp.map _).mem_iff.mpr z))]

/-! # the setting of the sheet laws -/
structure St (g : Rows) (cs : Chg) (n m : Nat) : Prop where
  R : Rect g n m
  n2 : 2 ≤ n
  n4 : n ≤ 4
  m2 : 2 ≤ m
  m4 : m ≤ 4
  b : IsB g 2 4 0 81
  z : Zero g n m
  nd : (cs.map (·.1)).Nodup
  ok : ∀ c ∈ cs, InR n m c.1 ∧ c.2 ≠ get g c.1 ∧ get g c.1 - 4 ≤ c.2 ∧ c.2 ≤ get g c.1 + 5
section
variable {g : Rows} {cs : Chg} {n m : Nat}
theorem St.inr (h : St g cs n m) : ∀ c ∈ cs, InR n m c.1 := fun c hc => (h.ok c hc).1
theorem St.RS (h : St g cs n m) : Rect (put g cs) n m := put_rect cs g h.R fun c hc => (h.inr c hc).1
theorem St.bS (h : St g cs n m) : IsB (put g cs) 2 4 (-86) 86 := block_put h.b h.R (by have := h.n2; omega) cs (fun c hc => by
  have k := h.ok c hc
  have := get_en h.R h.b.en k.1
  exact ⟨k.1, by omega, by omega⟩) (by decide) (by decide)
theorem St.sh (h : St g cs n m) : Sh (put g cs) := h.bS.weak (by decide) (by decide)
theorem St.shg (h : St g cs n m) : Sh g := h.b.weak (by decide) (by decide)
theorem St.ix (h : St g cs n m) : (ixD (put g cs) 0).length = m := h.RS.ix0 (by have := h.n2; omega)
theorem St.ixg (h : St g cs n m) : (ixD g 0).length = m := h.R.ix0 (by have := h.n2; omega)
theorem St.rightg (h : St g cs n m) : rightS g = true := (right_iff h.R (by have := h.n2; omega) (by have := h.m2; omega)).mpr h.z
theorem St.seen (h : St g cs n m) (h1 : cs ≠ []) (h3 : cs.length ≤ 3) : rightS (put g cs) = false := by
  have := few_seen g n m h.R (by have := h.n2; omega) (by have := h.m2; omega) h.z cs (fun c hc => ⟨(h.ok c hc).1, (h.ok c hc).2.1⟩) h.nd h1 h3
  rw [← right_iff h.RS (by have := h.n2; omega) (by have := h.m2; omega)] at this
  simpa using this
end
theorem w_set (most : Int) (hmo : 0 ≤ most ∧ most < 1000) (w : Wd) (gw : Gd w) : ∃ (g : Rows) (cs : Chg) (n m : Nat) (w' : Wd), f_Lsheet [.obj 0, pv most] w = .ok (.p (.tuple [Py.enc g, Py.enc (sortT cs), Py.enc (put g cs)])) w' ∧ St g cs n m ∧ cs.length ≤ most.toNat ∧ Gd w' := by
  obtain ⟨t, cs, w', e, ht, hc, hl, g'⟩ := w_sheet most hmo w gw
  have bG := full_block t 0 9 (by decide) (by decide) ht
  have R := bG.rect
  refine ⟨full t, cs, _, _, w', e, ⟨R, bG.n1, bG.n2, bG.m1 _ (bG.ix0 (by decide)), bG.m2 _ (bG.ix0 (by decide)), bG, ?_, hc.nd, hc.ok⟩, hl, g'⟩
  refine (right_iff R (by have := bG.n1; omega) (by have := bG.m1 _ (bG.ix0 (by decide)); omega)).mp ?_
  exact right_full t _ _ ht.rect (by have := ht.n1; omega)

end Z

set_option Elab.async false
set_option linter.all false
set_option maxRecDepth 100000
set_option maxHeartbeats 2000000
namespace Z
open PySem
/-! # ledgers -/
def encR (s : Rows) : List (List PyData) := s.map fun r => r.map Py.enc
/-- a ledger with the rows s, the entries set p -/
def LSo (s : Rows) (p : Chg) : LS := ⟨encR s, p.map Py.enc⟩
/-- one ledger in the world -/
def Wo (w : Wd) (s : Rows) (p : Chg) : LW := (w, [LSo s p])
def selfD (w : LW) (r : Res LS D) : Res LW D := match r with
  | .ok d _ => if flatD d = true then .ok d w else .bad
  | .exc m _ => .exc m w
  | .bad => .bad
theorem self_ev (f : XF LS) (δ : Ev) (w : Wd) (s : Rows) (p : Chg) : xSelf f (.v (.obj 2) :: δ) (Wo w s p) = selfD (Wo w s p) (f (.v (.obj 0) :: δ.map toS) (LSo s p)) := rfl
theorem selfD_b (w : LW) (b : Bool) (l : LS) : selfD w (.ok (pv b) l) = .ok (pv b) w := rfl
theorem selfD_i (w : LW) (b : Int) (l : LS) : selfD w (.ok (pv b) l) = .ok (pv b) w := rfl
theorem selfD_n (w : LW) (l : LS) : selfD w (.ok (.p .none) l) = .ok (.p .none) w := rfl
theorem selfD_x (w : LW) (m : Nat) (l : LS) : selfD w (.exc m l) = .exc m w := rfl
theorem toS_pv {α : Type} [Py α] (x : α) : toS (.v (pv x)) = .v (pv x) := rfl
theorem toS_no : toS .no = .no := rfl
theorem rows_ev (δ : Ev) (s : Rows) (p : Chg) : xRows (.v (.obj 0) :: δ) (LSo s p) = .ok (pv s) (LSo s p) := by
  show Res.ok (D.p (.list ((encR s).map .list))) _ = _
  unfold encR
  rw [e_frz2]
theorem past_ev (δ : Ev) (s : Rows) (p : Chg) : xPast (.v (.obj 0) :: δ) (LSo s p) = .ok (pv p) (LSo s p) := rfl
def tselfD (w : LW) (r : Res LS Bool) : Res LW Bool := match r with
  | .ok b _ => .ok b w
  | .exc m _ => .exc m w
  | .bad => .bad
theorem tself_ev (f : XB LS) (δ : Ev) (w : Wd) (s : Rows) (p : Chg) : tSelf f (.v (.obj 2) :: δ) (Wo w s p) = tselfD (Wo w s p) (f (.v (.obj 0) :: δ.map toS) (LSo s p)) := rfl
theorem tselfD_ok (w : LW) (b : Bool) (l : LS) : tselfD w (.ok b l) = .ok b w := rfl
theorem past_ok {f : XF LW} {δ : Ev} {w : Wd} {s : Rows} {p : Chg} {q : Int × Int} {v : Int} (e : f (.v (.obj 2) :: δ) (Wo w s p) = .ok (pv (q, v)) (Wo w s p)) (h : p.length < lim) : sPast f (.v (.obj 2) :: δ) (Wo w s p) = .nx (.v (.obj 2) :: δ) (Wo w s (p ++ [(q, v)])) := by
  unfold sPast
  show (match f (.v (.obj 2) :: δ) (Wo w s p) with
    | .ok (.p p) w' => (match ledOf (.v (.obj 2) :: δ) w' with
      | some (i, l) => if l.past.length < lim then SRes.nx (.v (.obj 2) :: δ) (w'.1, w'.2.set i { l with past := l.past ++ [p] }) else .bad
      | none => .bad)
    | .exc m w' => .exc m (.v (.obj 2) :: δ) w'
    | _ => .bad) = _
  rw [e]
  show (if (p.map Py.enc).length < lim then SRes.nx (.v (.obj 2) :: δ) ((w, [{ LSo s p with past := p.map Py.enc ++ [Py.enc (q, v)] }]) : LW) else .bad) = _
  rw [List.length_map, if_pos h]
  unfold Wo LSo
  rw [List.map_append]
  rfl
theorem rowset_ok {k h f : XF LS} {δ : Ev} {w : Wd} {s : Rows} {p : Chg} {n m : Nat} {a b v : Int} (R : Rect s n m) (e1 : f (.v (.obj 0) :: δ.map toS) (LSo s p) = .ok (pv v) (LSo s p)) (e2 : k (.v (.obj 0) :: δ.map toS) (LSo s p) = .ok (pv a) (LSo s p)) (e3 : h (.v (.obj 0) :: δ.map toS) (LSo s p) = .ok (pv b) (LSo s p))
    (ha : 0 ≤ a ∧ a < n) (hb : 0 ≤ b ∧ b < m) : sRowSet k h f (.v (.obj 2) :: δ) (Wo w s p) = .nx (.v (.obj 2) :: δ) (Wo w (setRC s a b v) p) := by
  have hl : a.toNat < s.length := by have := R.n; omega
  have hr := R.m _ (List.getElem_mem hl)
  have g1 : (encR s).getD a.toNat [] = s[a.toNat].map Py.enc := by
    unfold encR
    rw [List.getD_eq_getElem?_getD, List.getElem?_map, List.getElem?_eq_getElem hl]; rfl
  have g2 : s.getD a.toNat [] = s[a.toNat] := by
    rw [List.getD_eq_getElem?_getD, List.getElem?_eq_getElem hl]; rfl
  unfold sRowSet
  show (match f (.v (.obj 0) :: δ.map toS) (LSo s p), k (.v (.obj 0) :: δ.map toS) (LSo s p), h (.v (.obj 0) :: δ.map toS) (LSo s p) with
    | .ok (.p p') _, .ok (.p (.int y)) _, .ok (.p (.int z)) _ => (match L2.ixN (encR s).length y with
      | some j => (match L2.ixN ((encR s).getD j []).length z with
        | some m => if flatP p' = true then SRes.nx (.v (.obj 2) :: δ) ((w, [{ LSo s p with rows := (encR s).set j (((encR s).getD j []).set m p') }]) : LW) else .bad
        | none => .bad)
      | none => .bad)
    | _, _, _ => .bad) = _
  rw [e1, e2, e3]
  show (match L2.ixN (encR s).length a with
      | some j => (match L2.ixN ((encR s).getD j []).length b with
        | some m => SRes.nx (.v (.obj 2) :: δ) ((w, [{ LSo s p with rows := (encR s).set j (((encR s).getD j []).set m (Py.enc v)) }]) : LW)
        | none => .bad)
      | none => .bad) = _
  have e4 : L2.ixN (encR s).length a = some a.toNat := by
    unfold encR
    rw [List.length_map, R.n]
    exact ixN_of ha
  rw [e4]
  dsimp only
  rw [g1, List.length_map, hr, ixN_of hb]
  dsimp only
  unfold Wo LSo setRC encR
  rw [g2, List.map_set, List.map_set]
theorem p_enter (s : Rows) (past : Chg) (hs : Sh s) (p : Int × Int) (hp : InR s.length (ixD s 0).length p) (v : Int) (hv : -999 ≤ v ∧ v ≤ 999) (hl : past.length < lim) (w : Wd) :
    f_Ledger_enter [.obj 2, pv p, pv v] (Wo w s past) = .ok (pv (rightS (setRC s p.1 p.2 v))) (Wo w (setRC s p.1 p.2 v) (past ++ [(p, get s p)])) := by
  have R := hs.rect
  have c1 := p_check_place s hs p hp ()
  have c2 := p_is_int v (-999) 999 ()
  have hs' : Sh (setRC s p.1 p.2 v) := (block_put hs R (by have := hs.n1; omega) [(p, v)] (fun c hc => by
    rw [List.mem_singleton.mp hc]; exact ⟨hp, hv.1, hv.2⟩) (by decide) (by decide))
  have c3 := p_right (setRC s p.1 p.2 v) hs' ()
  have hd : (decide (-999 ≤ v) && decide (v ≤ 999)) = true := by simp [hv.1, hv.2]
  rw [hd] at c2
  have hpa : sPast (xN gTupD (lCons (xVar 1) (lCons (xSelf (x2 gIx (x2 gIx xRows (x2 gIx (xVar 1) (xInt 0))) (x2 gIx (xVar 1) (xInt 1)))) lNil))) [.v (.obj 2), .v (pv p), .v (pv v)] (Wo w s past) = .nx [.v (.obj 2), .v (pv p), .v (pv v)] (Wo w s (past ++ [(p, get s p)])) := by
    refine past_ok ?_ hl
    obtain ⟨⟨h1, h2⟩, h3, h4⟩ := hp
    have h5 : (ixD s p.1).length = (ixD s 0).length := R.m _ (ixD_mem (by omega))
    simp (disch := (first | assumption | decide | omega | (simp only [List.length_map, List.length_append, List.length_cons, List.length_nil, List.length_range, len_rg, len_enum, len_cut1]; first | assumption | omega) | (simp only [List.length_map, List.length_append, List.length_cons, List.length_nil, List.length_range, len_rg, len_enum, len_cut1, lim] at *; omega))) only [run_ev, runD_nx, runD_rt, runD_exc, runD_ite, sSeq_ev, seqD_nx, seqD_rt, seqD_exc, seqD_ite, sIf_ev, ifD_ev, xAnd_ev, xOr_ev, xChain_ev, andD_ev, orD_ev, i_and, i_or, i_ff, lim_if, lim_if2, lim_ifL, xOwn_nil, Nat.reduceAdd, Nat.reduceSub, Int.reduceEq, Int.reduceLT, Int.reduceLE, Nat.reduceLT, Nat.reduceLeDiff, Nat.zero_add, Bool.false_eq_true, decide_false, decide_true, reduceCtorEq,  i_andP, i_orP, i_ok, i_pv, t_ii, t_ib, t_il, t_it, t_bi, t_bb, t_bl, t_bt, t_li, t_lb, t_ll, t_lt, t_ti, t_tb, t_tl, t_tt, sRet, sNil, sDrop, sAsg, sRaise, xIf, x2, x1, xN, xCall, xSl, oEv, xLc, wipeZ, iOf, iOf2, xB, bAnd, bOr, bNot, bYes, lNil, lCons, sSet, xV, sFrz, sPar2, sPar3, r_bind, r_bindX, r_bindB, r_calm, r_opt, r_optB, r_int, r_bl, r_non, xVar, e_eq, e_ne, e_add, e_sub, e_cat, e_mul, e_div, e_mod, e_neg, e_not, e_lt, e_le, e_gt, e_ge, e_isB, e_asB, e_truB, e_truI, e_asI, e_oInt, e_asP, e_listOf0, e_lstOf, sExt, sApp, sFor, e_isiI, e_isiB, e_isiL, e_isiP, e_len, e_lenP, e_sum, e_max, e_min, e_max2, e_min2, e_min3, e_all, e_anyI, e_anyB, e_l1, e_l2, e_l3, e_t2, keepD_pv, keepD_p, tzD_some, e_t3, e_asPp, e_zT3, e_listL, e_ix, e_ixP0, e_ixP1, e_sl, e_rev, e_in, e_seq, e_rg, e_en, e_zp, e_zN, e_zT, e_zCons, e_zNil, e_pl, e_noObj, e_noObjP, lift_ev, liftD_ok, liftD_exc, List.all_cons, List.all_nil, iOwn, lcGo_map, lcS_pure, lcS_filt, Option.bind_some, Option.map_some, List.map_cons, List.map_nil, List.length_cons, List.length_nil, List.replicate_succ, List.replicate_zero, List.cons_append, List.nil_append, List.set_cons_zero, List.set_cons_succ, List.getElem?_cons_zero, List.getElem?_cons_succ, Bool.not_true, eq_self, not_true_eq_false, not_false_eq_true, Bool.true_xor, Bool.false_xor, Bool.not_false, Bool.not_not, Bool.true_and, Bool.and_true, Bool.false_and, Bool.and_false, Bool.true_or, Bool.or_true, Bool.or_false, Bool.false_or, decide_eq_true_eq, Bool.not_eq_true', decide_eq_false_iff_not, ne_eq, if_true, if_false, reduceIte, List.getElem?_nil, List.all_map, List.any_map, Function.id_comp, Function.comp_def, id, Bool.decide_eq_false, Bool.decide_eq_true, self_ev, selfD_i, toS_pv, rows_ev]
    rfl
  have hro : sRowSet (x2 gIx (xVar 1) (xInt 0)) (x2 gIx (xVar 1) (xInt 1)) (xVar 2) [.v (.obj 2), .v (pv p), .v (pv v)] (Wo w s (past ++ [(p, get s p)])) = .nx [.v (.obj 2), .v (pv p), .v (pv v)] (Wo w (setRC s p.1 p.2 v) (past ++ [(p, get s p)])) := by
    refine rowset_ok (n := s.length) (m := (ixD s 0).length) R rfl (a := p.1) (b := p.2) ?_ ?_ hp.1 hp.2
    · simp (disch := (first | assumption | decide | omega | (simp only [List.length_map, List.length_append, List.length_cons, List.length_nil, List.length_range, len_rg, len_enum, len_cut1]; first | assumption | omega) | (simp only [List.length_map, List.length_append, List.length_cons, List.length_nil, List.length_range, len_rg, len_enum, len_cut1, lim] at *; omega))) only [run_ev, runD_nx, runD_rt, runD_exc, runD_ite, sSeq_ev, seqD_nx, seqD_rt, seqD_exc, seqD_ite, sIf_ev, ifD_ev, xAnd_ev, xOr_ev, xChain_ev, andD_ev, orD_ev, i_and, i_or, i_ff, lim_if, lim_if2, lim_ifL, xOwn_nil, Nat.reduceAdd, Nat.reduceSub, Int.reduceEq, Int.reduceLT, Int.reduceLE, Nat.reduceLT, Nat.reduceLeDiff, Nat.zero_add, Bool.false_eq_true, decide_false, decide_true, reduceCtorEq,  i_andP, i_orP, i_ok, i_pv, t_ii, t_ib, t_il, t_it, t_bi, t_bb, t_bl, t_bt, t_li, t_lb, t_ll, t_lt, t_ti, t_tb, t_tl, t_tt, sRet, sNil, sDrop, sAsg, sRaise, xIf, x2, x1, xN, xCall, xSl, oEv, xLc, wipeZ, iOf, iOf2, xB, bAnd, bOr, bNot, bYes, lNil, lCons, sSet, xV, sFrz, sPar2, sPar3, r_bind, r_bindX, r_bindB, r_calm, r_opt, r_optB, r_int, r_bl, r_non, xVar, e_eq, e_ne, e_add, e_sub, e_cat, e_mul, e_div, e_mod, e_neg, e_not, e_lt, e_le, e_gt, e_ge, e_isB, e_asB, e_truB, e_truI, e_asI, e_oInt, e_asP, e_listOf0, e_lstOf, sExt, sApp, sFor, e_isiI, e_isiB, e_isiL, e_isiP, e_len, e_lenP, e_sum, e_max, e_min, e_max2, e_min2, e_min3, e_all, e_anyI, e_anyB, e_l1, e_l2, e_l3, e_t2, keepD_pv, keepD_p, tzD_some, e_t3, e_asPp, e_zT3, e_listL, e_ix, e_ixP0, e_ixP1, e_sl, e_rev, e_in, e_seq, e_rg, e_en, e_zp, e_zN, e_zT, e_zCons, e_zNil, e_pl, e_noObj, e_noObjP, lift_ev, liftD_ok, liftD_exc, List.all_cons, List.all_nil, iOwn, lcGo_map, lcS_pure, lcS_filt, Option.bind_some, Option.map_some, List.map_cons, List.map_nil, List.length_cons, List.length_nil, List.replicate_succ, List.replicate_zero, List.cons_append, List.nil_append, List.set_cons_zero, List.set_cons_succ, List.getElem?_cons_zero, List.getElem?_cons_succ, Bool.not_true, eq_self, not_true_eq_false, not_false_eq_true, Bool.true_xor, Bool.false_xor, Bool.not_false, Bool.not_not, Bool.true_and, Bool.and_true, Bool.false_and, Bool.and_false, Bool.true_or, Bool.or_true, Bool.or_false, Bool.false_or, decide_eq_true_eq, Bool.not_eq_true', decide_eq_false_iff_not, ne_eq, if_true, if_false, reduceIte, List.getElem?_nil, List.all_map, List.any_map, Function.id_comp, Function.comp_def, id, Bool.decide_eq_false, Bool.decide_eq_true, toS_pv]
    · simp (disch := (first | assumption | decide | omega | (simp only [List.length_map, List.length_append, List.length_cons, List.length_nil, List.length_range, len_rg, len_enum, len_cut1]; first | assumption | omega) | (simp only [List.length_map, List.length_append, List.length_cons, List.length_nil, List.length_range, len_rg, len_enum, len_cut1, lim] at *; omega))) only [run_ev, runD_nx, runD_rt, runD_exc, runD_ite, sSeq_ev, seqD_nx, seqD_rt, seqD_exc, seqD_ite, sIf_ev, ifD_ev, xAnd_ev, xOr_ev, xChain_ev, andD_ev, orD_ev, i_and, i_or, i_ff, lim_if, lim_if2, lim_ifL, xOwn_nil, Nat.reduceAdd, Nat.reduceSub, Int.reduceEq, Int.reduceLT, Int.reduceLE, Nat.reduceLT, Nat.reduceLeDiff, Nat.zero_add, Bool.false_eq_true, decide_false, decide_true, reduceCtorEq,  i_andP, i_orP, i_ok, i_pv, t_ii, t_ib, t_il, t_it, t_bi, t_bb, t_bl, t_bt, t_li, t_lb, t_ll, t_lt, t_ti, t_tb, t_tl, t_tt, sRet, sNil, sDrop, sAsg, sRaise, xIf, x2, x1, xN, xCall, xSl, oEv, xLc, wipeZ, iOf, iOf2, xB, bAnd, bOr, bNot, bYes, lNil, lCons, sSet, xV, sFrz, sPar2, sPar3, r_bind, r_bindX, r_bindB, r_calm, r_opt, r_optB, r_int, r_bl, r_non, xVar, e_eq, e_ne, e_add, e_sub, e_cat, e_mul, e_div, e_mod, e_neg, e_not, e_lt, e_le, e_gt, e_ge, e_isB, e_asB, e_truB, e_truI, e_asI, e_oInt, e_asP, e_listOf0, e_lstOf, sExt, sApp, sFor, e_isiI, e_isiB, e_isiL, e_isiP, e_len, e_lenP, e_sum, e_max, e_min, e_max2, e_min2, e_min3, e_all, e_anyI, e_anyB, e_l1, e_l2, e_l3, e_t2, keepD_pv, keepD_p, tzD_some, e_t3, e_asPp, e_zT3, e_listL, e_ix, e_ixP0, e_ixP1, e_sl, e_rev, e_in, e_seq, e_rg, e_en, e_zp, e_zN, e_zT, e_zCons, e_zNil, e_pl, e_noObj, e_noObjP, lift_ev, liftD_ok, liftD_exc, List.all_cons, List.all_nil, iOwn, lcGo_map, lcS_pure, lcS_filt, Option.bind_some, Option.map_some, List.map_cons, List.map_nil, List.length_cons, List.length_nil, List.replicate_succ, List.replicate_zero, List.cons_append, List.nil_append, List.set_cons_zero, List.set_cons_succ, List.getElem?_cons_zero, List.getElem?_cons_succ, Bool.not_true, eq_self, not_true_eq_false, not_false_eq_true, Bool.true_xor, Bool.false_xor, Bool.not_false, Bool.not_not, Bool.true_and, Bool.and_true, Bool.false_and, Bool.and_false, Bool.true_or, Bool.or_true, Bool.or_false, Bool.false_or, decide_eq_true_eq, Bool.not_eq_true', decide_eq_false_iff_not, ne_eq, if_true, if_false, reduceIte, List.getElem?_nil, List.all_map, List.any_map, Function.id_comp, Function.comp_def, id, Bool.decide_eq_false, Bool.decide_eq_true, toS_pv]
  unfold f_Ledger_enter b_Ledger_enter
  simp (disch := (first | assumption | decide | omega | (simp only [List.length_map, List.length_append, List.length_cons, List.length_nil, List.length_range, len_rg, len_enum, len_cut1]; first | assumption | omega) | (simp only [List.length_map, List.length_append, List.length_cons, List.length_nil, List.length_range, len_rg, len_enum, len_cut1, lim] at *; omega))) only [run_ev, runD_nx, runD_rt, runD_exc, runD_ite, sSeq_ev, seqD_nx, seqD_rt, seqD_exc, seqD_ite, sIf_ev, ifD_ev, xAnd_ev, xOr_ev, xChain_ev, andD_ev, orD_ev, i_and, i_or, i_ff, lim_if, lim_if2, lim_ifL, xOwn_nil, Nat.reduceAdd, Nat.reduceSub, Int.reduceEq, Int.reduceLT, Int.reduceLE, Nat.reduceLT, Nat.reduceLeDiff, Nat.zero_add, Bool.false_eq_true, decide_false, decide_true, reduceCtorEq,  i_andP, i_orP, i_ok, i_pv, t_ii, t_ib, t_il, t_it, t_bi, t_bb, t_bl, t_bt, t_li, t_lb, t_ll, t_lt, t_ti, t_tb, t_tl, t_tt, sRet, sNil, sDrop, sAsg, sRaise, xIf, x2, x1, xN, xCall, xSl, oEv, xLc, wipeZ, iOf, iOf2, xB, bAnd, bOr, bNot, bYes, lNil, lCons, sSet, xV, sFrz, sPar2, sPar3, r_bind, r_bindX, r_bindB, r_calm, r_opt, r_optB, r_int, r_bl, r_non, xVar, e_eq, e_ne, e_add, e_sub, e_cat, e_mul, e_div, e_mod, e_neg, e_not, e_lt, e_le, e_gt, e_ge, e_isB, e_asB, e_truB, e_truI, e_asI, e_oInt, e_asP, e_listOf0, e_lstOf, sExt, sApp, sFor, e_isiI, e_isiB, e_isiL, e_isiP, e_len, e_lenP, e_sum, e_max, e_min, e_max2, e_min2, e_min3, e_all, e_anyI, e_anyB, e_l1, e_l2, e_l3, e_t2, keepD_pv, keepD_p, tzD_some, e_t3, e_asPp, e_zT3, e_listL, e_ix, e_ixP0, e_ixP1, e_sl, e_rev, e_in, e_seq, e_rg, e_en, e_zp, e_zN, e_zT, e_zCons, e_zNil, e_pl, e_noObj, e_noObjP, lift_ev, liftD_ok, liftD_exc, List.all_cons, List.all_nil, iOwn, lcGo_map, lcS_pure, lcS_filt, Option.bind_some, Option.map_some, List.map_cons, List.map_nil, List.length_cons, List.length_nil, List.replicate_succ, List.replicate_zero, List.cons_append, List.nil_append, List.set_cons_zero, List.set_cons_succ, List.getElem?_cons_zero, List.getElem?_cons_succ, Bool.not_true, eq_self, not_true_eq_false, not_false_eq_true, Bool.true_xor, Bool.false_xor, Bool.not_false, Bool.not_not, Bool.true_and, Bool.and_true, Bool.false_and, Bool.and_false, Bool.true_or, Bool.or_true, Bool.or_false, Bool.false_or, decide_eq_true_eq, Bool.not_eq_true', decide_eq_false_iff_not, ne_eq, if_true, if_false, reduceIte, List.getElem?_nil, List.all_map, List.any_map, Function.id_comp, Function.comp_def, id, Bool.decide_eq_false, Bool.decide_eq_true, self_ev, selfD_n, selfD_b, toS_pv, rows_ev, c1, c2, c3, hpa, hro]
theorem runZ_sRet {W : Type} (n : Nat) (f : XF W) (ds : List D) (w : W) : runZ n (sRet f) ds w = f (ds.map Sl.v ++ List.replicate (n - ds.length) .no) w := by
  unfold runZ sRet
  cases f (ds.map Sl.v ++ List.replicate (n - ds.length) .no) w <;> rfl
theorem xlc_own {W : Type} {it : XI W} {tz : TZ} {t : XB W} {f : XF W} {vs : List Nat} {δ : Ev} {w w' : W} {ys : List PyData} (h : xLc it tz t f vs δ w = .ok (.p (.list ys)) w') : xLcO it tz t f vs δ w = .ok (.own ys) w' := by
  unfold xLc at h
  unfold xLcO
  cases z : it δ w with
  | bad => rw [z] at h; cases h
  | exc n w1 => rw [z] at h; cases h
  | ok items w1 =>
    rw [z] at h
    dsimp only [Res.bind] at h ⊢
    by_cases hl : items.length ≤ lim
    · rw [if_pos hl] at h ⊢
      cases z2 : lcGo tz t f (wipeZ δ vs) items w1 with
      | bad => rw [z2] at h; cases h
      | exc n w1 => rw [z2] at h; cases h
      | ok a w2 => rw [z2] at h; cases h; rfl
    · rw [if_neg hl] at h; cases h
theorem fo_rows (s : Rows) (h : Sh s) : fo_rows_of [pv s] () = .ok (.own ((rowsOf s).map Py.enc)) () := by
  have q := p_rows_of s h ()
  unfold f_rows_of b_rows_of at q
  rw [runZ_sRet] at q
  exact xlc_own q
theorem fo_columns (s : Rows) (h : Sh s) : fo_columns_of [pv s] () = .ok (.own ((columnsOf s).map Py.enc)) () := by
  have q := p_columns_of s h ()
  unfold f_columns_of b_columns_of at q
  rw [runZ_sRet] at q
  exact xlc_own q
theorem flat_ints (xs : List Int) : (xs.map Py.enc).all flatP = true := by
  rw [List.all_map]
  exact List.all_eq_true.mpr fun _ _ => rfl
theorem led0 (δ : Ev) (w : Wd) (s : Rows) (p : Chg) : ledOf (.v (.obj 2) :: δ) (Wo w s p) = some (0, LSo s p) := rfl
theorem evS0 (δ : Ev) : evS (.v (.obj 2) :: δ) = .v (.obj 0) :: δ.map toS := rfl
theorem selfX_ev {g : XS LS} {δ : Ev} {w : Wd} {s : Rows} {p : Chg} {sl : Sl} (e : g (.v (.obj 0) :: δ.map toS) (LSo s p) = .ok sl (LSo s p)) (hf : flatS sl = true) : xSelfX g (.v (.obj 2) :: δ) (Wo w s p) = .ok sl (Wo w s p) := by
  unfold xSelfX
  rw [led0]
  dsimp only
  rw [evS0, e]
  dsimp only
  rw [if_pos hf]
theorem selfO_ev {g : XS LS} {δ : Ev} {w : Wd} {s : Rows} {p : Chg} {xs : List Int} (e : g (.v (.obj 0) :: δ.map toS) (LSo s p) = .ok (.own (xs.map Py.enc)) (LSo s p)) : xFrzX (xSelfX g) (.v (.obj 2) :: δ) (Wo w s p) = .ok (pv xs) (Wo w s p) := by
  unfold xFrzX
  rw [selfX_ev e (flat_ints xs)]
  rfl
theorem selfOO_ev {g : XS LS} {δ : Ev} {w : Wd} {s : Rows} {p : Chg} {xss : Rows} (e : g (.v (.obj 0) :: δ.map toS) (LSo s p) = .ok (.own2 (encR xss)) (LSo s p)) : xFrzX (xSelfX g) (.v (.obj 2) :: δ) (Wo w s p) = .ok (pv xss) (Wo w s p) := by
  have hf : flatS (.own2 (encR xss)) = true := by
    unfold encR
    show (xss.map fun r => r.map Py.enc).all (fun xs => xs.all flatP) = true
    rw [List.all_map]
    exact List.all_eq_true.mpr fun r _ => flat_ints r
  unfold xFrzX
  rw [selfX_ev e hf]
  dsimp only
  unfold encR
  rw [← e_frz2]
theorem p_gaps (s : Rows) (past : Chg) (hs : Sh s) (w : Wd) : f_Ledger_gaps [.obj 2] (Wo w s past) = .ok (pv (rowsOf s, columnsOf s)) (Wo w s past) := by
  have c1 := fo_rows s hs
  have c2 := fo_columns s hs
  have h1 : xFrzX (xSelfX (xCallO (liftO fo_rows_of) (lCons xRows lNil))) [.v (.obj 2)] (Wo w s past) = .ok (pv (rowsOf s)) (Wo w s past) := by
    refine selfO_ev ?_
    unfold xCallO lCons lNil
    rw [rows_ev]
    dsimp only [Res.bind]
    unfold liftO
    rw [if_pos (show [pv s].all noObj = true from rfl), c1]
    rfl
  have h2 : xFrzX (xSelfX (xCallO (liftO fo_columns_of) (lCons xRows lNil))) [.v (.obj 2)] (Wo w s past) = .ok (pv (columnsOf s)) (Wo w s past) := by
    refine selfO_ev ?_
    unfold xCallO lCons lNil
    rw [rows_ev]
    dsimp only [Res.bind]
    unfold liftO
    rw [if_pos (show [pv s].all noObj = true from rfl), c2]
    rfl
  unfold f_Ledger_gaps b_Ledger_gaps
  simp (disch := (first | assumption | decide | omega | (simp only [List.length_map, List.length_append, List.length_cons, List.length_nil, List.length_range, len_rg, len_enum, len_cut1]; first | assumption | omega) | (simp only [List.length_map, List.length_append, List.length_cons, List.length_nil, List.length_range, len_rg, len_enum, len_cut1, lim] at *; omega))) only [run_ev, runD_nx, runD_rt, runD_exc, runD_ite, sSeq_ev, seqD_nx, seqD_rt, seqD_exc, seqD_ite, sIf_ev, ifD_ev, xAnd_ev, xOr_ev, xChain_ev, andD_ev, orD_ev, i_and, i_or, i_ff, lim_if, lim_if2, lim_ifL, xOwn_nil, Nat.reduceAdd, Nat.reduceSub, Int.reduceEq, Int.reduceLT, Int.reduceLE, Nat.reduceLT, Nat.reduceLeDiff, Nat.zero_add, Bool.false_eq_true, decide_false, decide_true, reduceCtorEq,  i_andP, i_orP, i_ok, i_pv, t_ii, t_ib, t_il, t_it, t_bi, t_bb, t_bl, t_bt, t_li, t_lb, t_ll, t_lt, t_ti, t_tb, t_tl, t_tt, sRet, sNil, sDrop, sAsg, sRaise, xIf, x2, x1, xN, xCall, xSl, oEv, xLc, wipeZ, iOf, iOf2, xB, bAnd, bOr, bNot, bYes, lNil, lCons, sSet, xV, sFrz, sPar2, sPar3, r_bind, r_bindX, r_bindB, r_calm, r_opt, r_optB, r_int, r_bl, r_non, xVar, e_eq, e_ne, e_add, e_sub, e_cat, e_mul, e_div, e_mod, e_neg, e_not, e_lt, e_le, e_gt, e_ge, e_isB, e_asB, e_truB, e_truI, e_asI, e_oInt, e_asP, e_listOf0, e_lstOf, sExt, sApp, sFor, e_isiI, e_isiB, e_isiL, e_isiP, e_len, e_lenP, e_sum, e_max, e_min, e_max2, e_min2, e_min3, e_all, e_anyI, e_anyB, e_l1, e_l2, e_l3, e_t2, keepD_pv, keepD_p, tzD_some, e_t3, e_asPp, e_zT3, e_listL, e_ix, e_ixP0, e_ixP1, e_sl, e_rev, e_in, e_seq, e_rg, e_en, e_zp, e_zN, e_zT, e_zCons, e_zNil, e_pl, e_noObj, e_noObjP, lift_ev, liftD_ok, liftD_exc, List.all_cons, List.all_nil, iOwn, lcGo_map, lcS_pure, lcS_filt, Option.bind_some, Option.map_some, List.map_cons, List.map_nil, List.length_cons, List.length_nil, List.replicate_succ, List.replicate_zero, List.cons_append, List.nil_append, List.set_cons_zero, List.set_cons_succ, List.getElem?_cons_zero, List.getElem?_cons_succ, Bool.not_true, eq_self, not_true_eq_false, not_false_eq_true, Bool.true_xor, Bool.false_xor, Bool.not_false, Bool.not_not, Bool.true_and, Bool.and_true, Bool.false_and, Bool.and_false, Bool.true_or, Bool.or_true, Bool.or_false, Bool.false_or, decide_eq_true_eq, Bool.not_eq_true', decide_eq_false_iff_not, ne_eq, if_true, if_false, reduceIte, List.getElem?_nil, List.all_map, List.any_map, Function.id_comp, Function.comp_def, id, Bool.decide_eq_false, Bool.decide_eq_true, h1, h2]
theorem p_sheet (s : Rows) (past : Chg) (hs : Sh s) (w : Wd) : f_Ledger_sheet [.obj 2] (Wo w s past) = .ok (pv s) (Wo w s past) := by
  have hl : s.length ≤ lim := (hs.fit (by decide)).1
  have h1 : xFrzX (xSelfX (xLcOO (iOf seqOf xRows) (zN 1) (xListO (xVar 1)) [1])) [.v (.obj 2), .no] (Wo w s past) = .ok (pv s) (Wo w s past) := by
    refine selfOO_ev ?_
    unfold xLcOO iOf
    rw [rows_ev]
    simp (disch := (first | assumption | decide | omega | (simp only [List.length_map, List.length_append, List.length_cons, List.length_nil, List.length_range, len_rg, len_enum, len_cut1]; first | assumption | omega) | (simp only [List.length_map, List.length_append, List.length_cons, List.length_nil, List.length_range, len_rg, len_enum, len_cut1, lim] at *; omega))) only [run_ev, runD_nx, runD_rt, runD_exc, runD_ite, sSeq_ev, seqD_nx, seqD_rt, seqD_exc, seqD_ite, sIf_ev, ifD_ev, xAnd_ev, xOr_ev, xChain_ev, andD_ev, orD_ev, i_and, i_or, i_ff, lim_if, lim_if2, lim_ifL, xOwn_nil, Nat.reduceAdd, Nat.reduceSub, Int.reduceEq, Int.reduceLT, Int.reduceLE, Nat.reduceLT, Nat.reduceLeDiff, Nat.zero_add, Bool.false_eq_true, decide_false, decide_true, reduceCtorEq,  i_andP, i_orP, i_ok, i_pv, t_ii, t_ib, t_il, t_it, t_bi, t_bb, t_bl, t_bt, t_li, t_lb, t_ll, t_lt, t_ti, t_tb, t_tl, t_tt, sRet, sNil, sDrop, sAsg, sRaise, xIf, x2, x1, xN, xCall, xSl, oEv, xLc, wipeZ, iOf, iOf2, xB, bAnd, bOr, bNot, bYes, lNil, lCons, sSet, xV, sFrz, sPar2, sPar3, r_bind, r_bindX, r_bindB, r_calm, r_opt, r_optB, r_int, r_bl, r_non, xVar, e_eq, e_ne, e_add, e_sub, e_cat, e_mul, e_div, e_mod, e_neg, e_not, e_lt, e_le, e_gt, e_ge, e_isB, e_asB, e_truB, e_truI, e_asI, e_oInt, e_asP, e_listOf0, e_lstOf, sExt, sApp, sFor, e_isiI, e_isiB, e_isiL, e_isiP, e_len, e_lenP, e_sum, e_max, e_min, e_max2, e_min2, e_min3, e_all, e_anyI, e_anyB, e_l1, e_l2, e_l3, e_t2, keepD_pv, keepD_p, tzD_some, e_t3, e_asPp, e_zT3, e_listL, e_ix, e_ixP0, e_ixP1, e_sl, e_rev, e_in, e_seq, e_rg, e_en, e_zp, e_zN, e_zT, e_zCons, e_zNil, e_pl, e_noObj, e_noObjP, lift_ev, liftD_ok, liftD_exc, List.all_cons, List.all_nil, iOwn, lcGo_map, lcS_pure, lcS_filt, Option.bind_some, Option.map_some, List.map_cons, List.map_nil, List.length_cons, List.length_nil, List.replicate_succ, List.replicate_zero, List.cons_append, List.nil_append, List.set_cons_zero, List.set_cons_succ, List.getElem?_cons_zero, List.getElem?_cons_succ, Bool.not_true, eq_self, not_true_eq_false, not_false_eq_true, Bool.true_xor, Bool.false_xor, Bool.not_false, Bool.not_not, Bool.true_and, Bool.and_true, Bool.false_and, Bool.and_false, Bool.true_or, Bool.or_true, Bool.or_false, Bool.false_or, decide_eq_true_eq, Bool.not_eq_true', decide_eq_false_iff_not, ne_eq, if_true, if_false, reduceIte, List.getElem?_nil, List.all_map, List.any_map, Function.id_comp, Function.comp_def, id, Bool.decide_eq_false, Bool.decide_eq_true, lcGoO_rows, toS_no]
    rfl
  unfold f_Ledger_sheet b_Ledger_sheet
  simp (disch := (first | assumption | decide | omega | (simp only [List.length_map, List.length_append, List.length_cons, List.length_nil, List.length_range, len_rg, len_enum, len_cut1]; first | assumption | omega) | (simp only [List.length_map, List.length_append, List.length_cons, List.length_nil, List.length_range, len_rg, len_enum, len_cut1, lim] at *; omega))) only [run_ev, runD_nx, runD_rt, runD_exc, runD_ite, sSeq_ev, seqD_nx, seqD_rt, seqD_exc, seqD_ite, sIf_ev, ifD_ev, xAnd_ev, xOr_ev, xChain_ev, andD_ev, orD_ev, i_and, i_or, i_ff, lim_if, lim_if2, lim_ifL, xOwn_nil, Nat.reduceAdd, Nat.reduceSub, Int.reduceEq, Int.reduceLT, Int.reduceLE, Nat.reduceLT, Nat.reduceLeDiff, Nat.zero_add, Bool.false_eq_true, decide_false, decide_true, reduceCtorEq,  i_andP, i_orP, i_ok, i_pv, t_ii, t_ib, t_il, t_it, t_bi, t_bb, t_bl, t_bt, t_li, t_lb, t_ll, t_lt, t_ti, t_tb, t_tl, t_tt, sRet, sNil, sDrop, sAsg, sRaise, xIf, x2, x1, xN, xCall, xSl, oEv, xLc, wipeZ, iOf, iOf2, xB, bAnd, bOr, bNot, bYes, lNil, lCons, sSet, xV, sFrz, sPar2, sPar3, r_bind, r_bindX, r_bindB, r_calm, r_opt, r_optB, r_int, r_bl, r_non, xVar, e_eq, e_ne, e_add, e_sub, e_cat, e_mul, e_div, e_mod, e_neg, e_not, e_lt, e_le, e_gt, e_ge, e_isB, e_asB, e_truB, e_truI, e_asI, e_oInt, e_asP, e_listOf0, e_lstOf, sExt, sApp, sFor, e_isiI, e_isiB, e_isiL, e_isiP, e_len, e_lenP, e_sum, e_max, e_min, e_max2, e_min2, e_min3, e_all, e_anyI, e_anyB, e_l1, e_l2, e_l3, e_t2, keepD_pv, keepD_p, tzD_some, e_t3, e_asPp, e_zT3, e_listL, e_ix, e_ixP0, e_ixP1, e_sl, e_rev, e_in, e_seq, e_rg, e_en, e_zp, e_zN, e_zT, e_zCons, e_zNil, e_pl, e_noObj, e_noObjP, lift_ev, liftD_ok, liftD_exc, List.all_cons, List.all_nil, iOwn, lcGo_map, lcS_pure, lcS_filt, Option.bind_some, Option.map_some, List.map_cons, List.map_nil, List.length_cons, List.length_nil, List.replicate_succ, List.replicate_zero, List.cons_append, List.nil_append, List.set_cons_zero, List.set_cons_succ, List.getElem?_cons_zero, List.getElem?_cons_succ, Bool.not_true, eq_self, not_true_eq_false, not_false_eq_true, Bool.true_xor, Bool.false_xor, Bool.not_false, Bool.not_not, Bool.true_and, Bool.and_true, Bool.false_and, Bool.and_false, Bool.true_or, Bool.or_true, Bool.or_false, Bool.false_or, decide_eq_true_eq, Bool.not_eq_true', decide_eq_false_iff_not, ne_eq, if_true, if_false, reduceIte, List.getElem?_nil, List.all_map, List.any_map, Function.id_comp, Function.comp_def, id, Bool.decide_eq_false, Bool.decide_eq_true, h1]
theorem p_len (s : Rows) (past : Chg) (w : Wd) : f_Ledger___len__ [.obj 2] (Wo w s past) = .ok (pv (past.length : Int)) (Wo w s past) := by
  unfold f_Ledger___len__ b_Ledger___len__
  simp (disch := (first | assumption | decide | omega | (simp only [List.length_map, List.length_append, List.length_cons, List.length_nil, List.length_range, len_rg, len_enum, len_cut1]; first | assumption | omega) | (simp only [List.length_map, List.length_append, List.length_cons, List.length_nil, List.length_range, len_rg, len_enum, len_cut1, lim] at *; omega))) only [run_ev, runD_nx, runD_rt, runD_exc, runD_ite, sSeq_ev, seqD_nx, seqD_rt, seqD_exc, seqD_ite, sIf_ev, ifD_ev, xAnd_ev, xOr_ev, xChain_ev, andD_ev, orD_ev, i_and, i_or, i_ff, lim_if, lim_if2, lim_ifL, xOwn_nil, Nat.reduceAdd, Nat.reduceSub, Int.reduceEq, Int.reduceLT, Int.reduceLE, Nat.reduceLT, Nat.reduceLeDiff, Nat.zero_add, Bool.false_eq_true, decide_false, decide_true, reduceCtorEq,  i_andP, i_orP, i_ok, i_pv, t_ii, t_ib, t_il, t_it, t_bi, t_bb, t_bl, t_bt, t_li, t_lb, t_ll, t_lt, t_ti, t_tb, t_tl, t_tt, sRet, sNil, sDrop, sAsg, sRaise, xIf, x2, x1, xN, xCall, xSl, oEv, xLc, wipeZ, iOf, iOf2, xB, bAnd, bOr, bNot, bYes, lNil, lCons, sSet, xV, sFrz, sPar2, sPar3, r_bind, r_bindX, r_bindB, r_calm, r_opt, r_optB, r_int, r_bl, r_non, xVar, e_eq, e_ne, e_add, e_sub, e_cat, e_mul, e_div, e_mod, e_neg, e_not, e_lt, e_le, e_gt, e_ge, e_isB, e_asB, e_truB, e_truI, e_asI, e_oInt, e_asP, e_listOf0, e_lstOf, sExt, sApp, sFor, e_isiI, e_isiB, e_isiL, e_isiP, e_len, e_lenP, e_sum, e_max, e_min, e_max2, e_min2, e_min3, e_all, e_anyI, e_anyB, e_l1, e_l2, e_l3, e_t2, keepD_pv, keepD_p, tzD_some, e_t3, e_asPp, e_zT3, e_listL, e_ix, e_ixP0, e_ixP1, e_sl, e_rev, e_in, e_seq, e_rg, e_en, e_zp, e_zN, e_zT, e_zCons, e_zNil, e_pl, e_noObj, e_noObjP, lift_ev, liftD_ok, liftD_exc, List.all_cons, List.all_nil, iOwn, lcGo_map, lcS_pure, lcS_filt, Option.bind_some, Option.map_some, List.map_cons, List.map_nil, List.length_cons, List.length_nil, List.replicate_succ, List.replicate_zero, List.cons_append, List.nil_append, List.set_cons_zero, List.set_cons_succ, List.getElem?_cons_zero, List.getElem?_cons_succ, Bool.not_true, eq_self, not_true_eq_false, not_false_eq_true, Bool.true_xor, Bool.false_xor, Bool.not_false, Bool.not_not, Bool.true_and, Bool.and_true, Bool.false_and, Bool.and_false, Bool.true_or, Bool.or_true, Bool.or_false, Bool.false_or, decide_eq_true_eq, Bool.not_eq_true', decide_eq_false_iff_not, ne_eq, if_true, if_false, reduceIte, List.getElem?_nil, List.all_map, List.any_map, Function.id_comp, Function.comp_def, id, Bool.decide_eq_false, Bool.decide_eq_true, self_ev, selfD_i, past_ev]
theorem p_undo0 (s : Rows) (w : Wd) : f_Ledger_undo [.obj 2] (Wo w s []) = .exc 6 (Wo w s []) := by
  kernel_rfl
theorem xpop_ev (δ : Ev) (w : Wd) (s : Rows) (p : Chg) (c : (Int × Int) × Int) : xPop (.v (.obj 2) :: δ) (Wo w s (p ++ [c])) = .ok (pv c) (Wo w s p) := by
  unfold xPop
  rw [led0]
  dsimp only
  have e1 : (LSo s (p ++ [c])).past = p.map Py.enc ++ [Py.enc c] := by
    show (p ++ [c]).map Py.enc = _
    rw [List.map_append]; rfl
  rw [e1, List.length_append, List.length_singleton, Nat.add_sub_cancel, List.getElem?_concat_length, List.dropLast_concat]
  rfl
theorem e_eqC (p : Chg) : gEq (pv p) (.p (.list [])) = some (pv (decide (p = []))) := e_eq p ([] : Chg)
theorem p_undo (s : Rows) (past : Chg) (hs : Sh s) (q : Int × Int) (hq : InR s.length (ixD s 0).length q) (v : Int) (hl : past.length ≤ 100) (w : Wd) : f_Ledger_undo [.obj 2] (Wo w s (past ++ [(q, v)])) = .ok (pv q) (Wo w (setRC s q.1 q.2 v) past) := by
  have R := hs.rect
  have hro : sRowSet (x2 gIx (xVar 1) (xInt 0)) (x2 gIx (xVar 1) (xInt 1)) (xVar 2) [.v (.obj 2), .v (pv q), .v (pv v)] (Wo w s past) = .nx [.v (.obj 2), .v (pv q), .v (pv v)] (Wo w (setRC s q.1 q.2 v) past) := by
    refine rowset_ok (n := s.length) (m := (ixD s 0).length) R rfl (a := q.1) (b := q.2) ?_ ?_ hq.1 hq.2
    · simp (disch := (first | assumption | decide | omega | (simp only [List.length_map, List.length_append, List.length_cons, List.length_nil, List.length_range, len_rg, len_enum, len_cut1]; first | assumption | omega) | (simp only [List.length_map, List.length_append, List.length_cons, List.length_nil, List.length_range, len_rg, len_enum, len_cut1, lim] at *; omega))) only [run_ev, runD_nx, runD_rt, runD_exc, runD_ite, sSeq_ev, seqD_nx, seqD_rt, seqD_exc, seqD_ite, sIf_ev, ifD_ev, xAnd_ev, xOr_ev, xChain_ev, andD_ev, orD_ev, i_and, i_or, i_ff, lim_if, lim_if2, lim_ifL, xOwn_nil, Nat.reduceAdd, Nat.reduceSub, Int.reduceEq, Int.reduceLT, Int.reduceLE, Nat.reduceLT, Nat.reduceLeDiff, Nat.zero_add, Bool.false_eq_true, decide_false, decide_true, reduceCtorEq,  i_andP, i_orP, i_ok, i_pv, t_ii, t_ib, t_il, t_it, t_bi, t_bb, t_bl, t_bt, t_li, t_lb, t_ll, t_lt, t_ti, t_tb, t_tl, t_tt, sRet, sNil, sDrop, sAsg, sRaise, xIf, x2, x1, xN, xCall, xSl, oEv, xLc, wipeZ, iOf, iOf2, xB, bAnd, bOr, bNot, bYes, lNil, lCons, sSet, xV, sFrz, sPar2, sPar3, r_bind, r_bindX, r_bindB, r_calm, r_opt, r_optB, r_int, r_bl, r_non, xVar, e_eq, e_ne, e_add, e_sub, e_cat, e_mul, e_div, e_mod, e_neg, e_not, e_lt, e_le, e_gt, e_ge, e_isB, e_asB, e_truB, e_truI, e_asI, e_oInt, e_asP, e_listOf0, e_lstOf, sExt, sApp, sFor, e_isiI, e_isiB, e_isiL, e_isiP, e_len, e_lenP, e_sum, e_max, e_min, e_max2, e_min2, e_min3, e_all, e_anyI, e_anyB, e_l1, e_l2, e_l3, e_t2, keepD_pv, keepD_p, tzD_some, e_t3, e_asPp, e_zT3, e_listL, e_ix, e_ixP0, e_ixP1, e_sl, e_rev, e_in, e_seq, e_rg, e_en, e_zp, e_zN, e_zT, e_zCons, e_zNil, e_pl, e_noObj, e_noObjP, lift_ev, liftD_ok, liftD_exc, List.all_cons, List.all_nil, iOwn, lcGo_map, lcS_pure, lcS_filt, Option.bind_some, Option.map_some, List.map_cons, List.map_nil, List.length_cons, List.length_nil, List.replicate_succ, List.replicate_zero, List.cons_append, List.nil_append, List.set_cons_zero, List.set_cons_succ, List.getElem?_cons_zero, List.getElem?_cons_succ, Bool.not_true, eq_self, not_true_eq_false, not_false_eq_true, Bool.true_xor, Bool.false_xor, Bool.not_false, Bool.not_not, Bool.true_and, Bool.and_true, Bool.false_and, Bool.and_false, Bool.true_or, Bool.or_true, Bool.or_false, Bool.false_or, decide_eq_true_eq, Bool.not_eq_true', decide_eq_false_iff_not, ne_eq, if_true, if_false, reduceIte, List.getElem?_nil, List.all_map, List.any_map, Function.id_comp, Function.comp_def, id, Bool.decide_eq_false, Bool.decide_eq_true, toS_pv]
    · simp (disch := (first | assumption | decide | omega | (simp only [List.length_map, List.length_append, List.length_cons, List.length_nil, List.length_range, len_rg, len_enum, len_cut1]; first | assumption | omega) | (simp only [List.length_map, List.length_append, List.length_cons, List.length_nil, List.length_range, len_rg, len_enum, len_cut1, lim] at *; omega))) only [run_ev, runD_nx, runD_rt, runD_exc, runD_ite, sSeq_ev, seqD_nx, seqD_rt, seqD_exc, seqD_ite, sIf_ev, ifD_ev, xAnd_ev, xOr_ev, xChain_ev, andD_ev, orD_ev, i_and, i_or, i_ff, lim_if, lim_if2, lim_ifL, xOwn_nil, Nat.reduceAdd, Nat.reduceSub, Int.reduceEq, Int.reduceLT, Int.reduceLE, Nat.reduceLT, Nat.reduceLeDiff, Nat.zero_add, Bool.false_eq_true, decide_false, decide_true, reduceCtorEq,  i_andP, i_orP, i_ok, i_pv, t_ii, t_ib, t_il, t_it, t_bi, t_bb, t_bl, t_bt, t_li, t_lb, t_ll, t_lt, t_ti, t_tb, t_tl, t_tt, sRet, sNil, sDrop, sAsg, sRaise, xIf, x2, x1, xN, xCall, xSl, oEv, xLc, wipeZ, iOf, iOf2, xB, bAnd, bOr, bNot, bYes, lNil, lCons, sSet, xV, sFrz, sPar2, sPar3, r_bind, r_bindX, r_bindB, r_calm, r_opt, r_optB, r_int, r_bl, r_non, xVar, e_eq, e_ne, e_add, e_sub, e_cat, e_mul, e_div, e_mod, e_neg, e_not, e_lt, e_le, e_gt, e_ge, e_isB, e_asB, e_truB, e_truI, e_asI, e_oInt, e_asP, e_listOf0, e_lstOf, sExt, sApp, sFor, e_isiI, e_isiB, e_isiL, e_isiP, e_len, e_lenP, e_sum, e_max, e_min, e_max2, e_min2, e_min3, e_all, e_anyI, e_anyB, e_l1, e_l2, e_l3, e_t2, keepD_pv, keepD_p, tzD_some, e_t3, e_asPp, e_zT3, e_listL, e_ix, e_ixP0, e_ixP1, e_sl, e_rev, e_in, e_seq, e_rg, e_en, e_zp, e_zN, e_zT, e_zCons, e_zNil, e_pl, e_noObj, e_noObjP, lift_ev, liftD_ok, liftD_exc, List.all_cons, List.all_nil, iOwn, lcGo_map, lcS_pure, lcS_filt, Option.bind_some, Option.map_some, List.map_cons, List.map_nil, List.length_cons, List.length_nil, List.replicate_succ, List.replicate_zero, List.cons_append, List.nil_append, List.set_cons_zero, List.set_cons_succ, List.getElem?_cons_zero, List.getElem?_cons_succ, Bool.not_true, eq_self, not_true_eq_false, not_false_eq_true, Bool.true_xor, Bool.false_xor, Bool.not_false, Bool.not_not, Bool.true_and, Bool.and_true, Bool.false_and, Bool.and_false, Bool.true_or, Bool.or_true, Bool.or_false, Bool.false_or, decide_eq_true_eq, Bool.not_eq_true', decide_eq_false_iff_not, ne_eq, if_true, if_false, reduceIte, List.getElem?_nil, List.all_map, List.any_map, Function.id_comp, Function.comp_def, id, Bool.decide_eq_false, Bool.decide_eq_true, toS_pv]
  have hne : ¬(past ++ [(q, v)] = []) := by simp
  unfold f_Ledger_undo b_Ledger_undo
  simp (disch := (first | assumption | decide | omega | (simp only [List.length_map, List.length_append, List.length_cons, List.length_nil, List.length_range, len_rg, len_enum, len_cut1]; first | assumption | omega) | (simp only [List.length_map, List.length_append, List.length_cons, List.length_nil, List.length_range, len_rg, len_enum, len_cut1, lim] at *; omega))) only [run_ev, runD_nx, runD_rt, runD_exc, runD_ite, sSeq_ev, seqD_nx, seqD_rt, seqD_exc, seqD_ite, sIf_ev, ifD_ev, xAnd_ev, xOr_ev, xChain_ev, andD_ev, orD_ev, i_and, i_or, i_ff, lim_if, lim_if2, lim_ifL, xOwn_nil, Nat.reduceAdd, Nat.reduceSub, Int.reduceEq, Int.reduceLT, Int.reduceLE, Nat.reduceLT, Nat.reduceLeDiff, Nat.zero_add, Bool.false_eq_true, decide_false, decide_true, reduceCtorEq,  i_andP, i_orP, i_ok, i_pv, t_ii, t_ib, t_il, t_it, t_bi, t_bb, t_bl, t_bt, t_li, t_lb, t_ll, t_lt, t_ti, t_tb, t_tl, t_tt, sRet, sNil, sDrop, sAsg, sRaise, xIf, x2, x1, xN, xCall, xSl, oEv, xLc, wipeZ, iOf, iOf2, xB, bAnd, bOr, bNot, bYes, lNil, lCons, sSet, xV, sFrz, sPar2, sPar3, r_bind, r_bindX, r_bindB, r_calm, r_opt, r_optB, r_int, r_bl, r_non, xVar, e_eq, e_ne, e_add, e_sub, e_cat, e_mul, e_div, e_mod, e_neg, e_not, e_lt, e_le, e_gt, e_ge, e_isB, e_asB, e_truB, e_truI, e_asI, e_oInt, e_asP, e_listOf0, e_lstOf, sExt, sApp, sFor, e_isiI, e_isiB, e_isiL, e_isiP, e_len, e_lenP, e_sum, e_max, e_min, e_max2, e_min2, e_min3, e_all, e_anyI, e_anyB, e_l1, e_l2, e_l3, e_t2, keepD_pv, keepD_p, tzD_some, e_t3, e_asPp, e_zT3, e_listL, e_ix, e_ixP0, e_ixP1, e_sl, e_rev, e_in, e_seq, e_rg, e_en, e_zp, e_zN, e_zT, e_zCons, e_zNil, e_pl, e_noObj, e_noObjP, lift_ev, liftD_ok, liftD_exc, List.all_cons, List.all_nil, iOwn, lcGo_map, lcS_pure, lcS_filt, Option.bind_some, Option.map_some, List.map_cons, List.map_nil, List.length_cons, List.length_nil, List.replicate_succ, List.replicate_zero, List.cons_append, List.nil_append, List.set_cons_zero, List.set_cons_succ, List.getElem?_cons_zero, List.getElem?_cons_succ, Bool.not_true, eq_self, not_true_eq_false, not_false_eq_true, Bool.true_xor, Bool.false_xor, Bool.not_false, Bool.not_not, Bool.true_and, Bool.and_true, Bool.false_and, Bool.and_false, Bool.true_or, Bool.or_true, Bool.or_false, Bool.false_or, decide_eq_true_eq, Bool.not_eq_true', decide_eq_false_iff_not, ne_eq, if_true, if_false, reduceIte, List.getElem?_nil, List.all_map, List.any_map, Function.id_comp, Function.comp_def, id, Bool.decide_eq_false, Bool.decide_eq_true, tself_ev, tselfD_ok, past_ev, e_nil, e_eqC, hne, xpop_ev, hro]
theorem lerr3 (w : Unit) : f_Lerror [.exc 3] w = .ok (.p (.str "number")) w := by kernel_rfl
theorem lerr6 (w : Unit) : f_Lerror [.exc 6] w = .ok (.p (.str "none")) w := by kernel_rfl

end Z

set_option Elab.async false
set_option linter.all false
set_option maxRecDepth 100000
set_option maxHeartbeats 2000000
namespace Z
open PySem
/-! # ledger calls -/
theorem isLed_wo (w : Wd) (s : Rows) (p : Chg) : isLed (.obj 2) (Wo w s p) = true := rfl
theorem p_check_bad (s : Rows) (h : Sh s) (w : Unit) : f_check_place [pv s, pv ((4 : Int), (0 : Int))] w = .exc 3 w := by
  have h1 := h.n1
  have h2 := h.n2
  have b1 : decide ((4 : Int) ≤ (s.length : Int) - 1) = false := decide_eq_false (by omega)
  unfold f_check_place b_check_place
  simp (disch := (first | assumption | decide | omega | (simp only [List.length_map, List.length_append, List.length_cons, List.length_nil, List.length_range, len_rg, len_enum, len_cut1]; first | assumption | omega) | (simp only [List.length_map, List.length_append, List.length_cons, List.length_nil, List.length_range, len_rg, len_enum, len_cut1, lim] at *; omega))) only [run_ev, runD_nx, runD_rt, runD_exc, runD_ite, sSeq_ev, seqD_nx, seqD_rt, seqD_exc, seqD_ite, sIf_ev, ifD_ev, xAnd_ev, xOr_ev, xChain_ev, andD_ev, orD_ev, i_and, i_or, i_ff, lim_if, lim_if2, lim_ifL, xOwn_nil, Nat.reduceAdd, Nat.reduceSub, Int.reduceEq, Int.reduceLT, Int.reduceLE, Nat.reduceLT, Nat.reduceLeDiff, Nat.zero_add, Bool.false_eq_true, decide_false, decide_true, reduceCtorEq,  i_andP, i_orP, i_ok, i_pv, t_ii, t_ib, t_il, t_it, t_bi, t_bb, t_bl, t_bt, t_li, t_lb, t_ll, t_lt, t_ti, t_tb, t_tl, t_tt, sRet, sNil, sDrop, sAsg, sRaise, xIf, x2, x1, xN, xCall, xSl, oEv, xLc, wipeZ, iOf, iOf2, xB, bAnd, bOr, bNot, bYes, lNil, lCons, sSet, xV, sFrz, sPar2, sPar3, r_bind, r_bindX, r_bindB, r_calm, r_opt, r_optB, r_int, r_bl, r_non, xVar, e_eq, e_ne, e_add, e_sub, e_cat, e_mul, e_div, e_mod, e_neg, e_not, e_lt, e_le, e_gt, e_ge, e_isB, e_asB, e_truB, e_truI, e_asI, e_oInt, e_asP, e_listOf0, e_lstOf, sExt, sApp, sFor, e_isiI, e_isiB, e_isiL, e_isiP, e_len, e_lenP, e_sum, e_max, e_min, e_max2, e_min2, e_min3, e_all, e_anyI, e_anyB, e_l1, e_l2, e_l3, e_t2, keepD_pv, keepD_p, tzD_some, e_t3, e_asPp, e_zT3, e_listL, e_ix, e_ixP0, e_ixP1, e_sl, e_rev, e_in, e_seq, e_rg, e_en, e_zp, e_zN, e_zT, e_zCons, e_zNil, e_pl, e_noObj, e_noObjP, lift_ev, liftD_ok, liftD_exc, List.all_cons, List.all_nil, iOwn, lcGo_map, lcS_pure, lcS_filt, Option.bind_some, Option.map_some, List.map_cons, List.map_nil, List.length_cons, List.length_nil, List.replicate_succ, List.replicate_zero, List.cons_append, List.nil_append, List.set_cons_zero, List.set_cons_succ, List.getElem?_cons_zero, List.getElem?_cons_succ, Bool.not_true, eq_self, not_true_eq_false, not_false_eq_true, Bool.true_xor, Bool.false_xor, Bool.not_false, Bool.not_not, Bool.true_and, Bool.and_true, Bool.false_and, Bool.and_false, Bool.true_or, Bool.or_true, Bool.or_false, Bool.false_or, decide_eq_true_eq, Bool.not_eq_true', decide_eq_false_iff_not, ne_eq, if_true, if_false, reduceIte, List.getElem?_nil, List.all_map, List.any_map, Function.id_comp, Function.comp_def, id, Bool.decide_eq_false, Bool.decide_eq_true, p_is_int, b1]
theorem call_enter (s : Rows) (past : Chg) (hs : Sh s) (p : Int × Int) (hp : InR s.length (ixD s 0).length p) (v : Int) (hv : -999 ≤ v ∧ v ≤ 999) (hl : past.length < lim) (w : Wd) :
    f_Lcall [.obj 2, pv (0 : Int), pv p, pv v] (Wo w s past) = .ok (pv (rightS (setRC s p.1 p.2 v))) (Wo w (setRC s p.1 p.2 v) (past ++ [(p, get s p)])) := by
  have e := p_enter s past hs p hp v hv hl w
  unfold f_Lcall b_Lcall
  simp (disch := (first | assumption | decide | omega | (simp only [List.length_map, List.length_append, List.length_cons, List.length_nil, List.length_range, len_rg, len_enum, len_cut1]; first | assumption | omega) | (simp only [List.length_map, List.length_append, List.length_cons, List.length_nil, List.length_range, len_rg, len_enum, len_cut1, lim] at *; omega))) only [run_ev, runD_nx, runD_rt, runD_exc, runD_ite, sSeq_ev, seqD_nx, seqD_rt, seqD_exc, seqD_ite, sIf_ev, ifD_ev, xAnd_ev, xOr_ev, xChain_ev, andD_ev, orD_ev, i_and, i_or, i_ff, lim_if, lim_if2, lim_ifL, xOwn_nil, Nat.reduceAdd, Nat.reduceSub, Int.reduceEq, Int.reduceLT, Int.reduceLE, Nat.reduceLT, Nat.reduceLeDiff, Nat.zero_add, Bool.false_eq_true, decide_false, decide_true, reduceCtorEq,  i_andP, i_orP, i_ok, i_pv, t_ii, t_ib, t_il, t_it, t_bi, t_bb, t_bl, t_bt, t_li, t_lb, t_ll, t_lt, t_ti, t_tb, t_tl, t_tt, sRet, sNil, sDrop, sAsg, sRaise, xIf, x2, x1, xN, xCall, xSl, oEv, xLc, wipeZ, iOf, iOf2, xB, bAnd, bOr, bNot, bYes, lNil, lCons, sSet, xV, sFrz, sPar2, sPar3, r_bind, r_bindX, r_bindB, r_calm, r_opt, r_optB, r_int, r_bl, r_non, xVar, e_eq, e_ne, e_add, e_sub, e_cat, e_mul, e_div, e_mod, e_neg, e_not, e_lt, e_le, e_gt, e_ge, e_isB, e_asB, e_truB, e_truI, e_asI, e_oInt, e_asP, e_listOf0, e_lstOf, sExt, sApp, sFor, e_isiI, e_isiB, e_isiL, e_isiP, e_len, e_lenP, e_sum, e_max, e_min, e_max2, e_min2, e_min3, e_all, e_anyI, e_anyB, e_l1, e_l2, e_l3, e_t2, keepD_pv, keepD_p, tzD_some, e_t3, e_asPp, e_zT3, e_listL, e_ix, e_ixP0, e_ixP1, e_sl, e_rev, e_in, e_seq, e_rg, e_en, e_zp, e_zN, e_zT, e_zCons, e_zNil, e_pl, e_noObj, e_noObjP, lift_ev, liftD_ok, liftD_exc, List.all_cons, List.all_nil, iOwn, lcGo_map, lcS_pure, lcS_filt, Option.bind_some, Option.map_some, List.map_cons, List.map_nil, List.length_cons, List.length_nil, List.replicate_succ, List.replicate_zero, List.cons_append, List.nil_append, List.set_cons_zero, List.set_cons_succ, List.getElem?_cons_zero, List.getElem?_cons_succ, Bool.not_true, eq_self, not_true_eq_false, not_false_eq_true, Bool.true_xor, Bool.false_xor, Bool.not_false, Bool.not_not, Bool.true_and, Bool.and_true, Bool.false_and, Bool.and_false, Bool.true_or, Bool.or_true, Bool.or_false, Bool.false_or, decide_eq_true_eq, Bool.not_eq_true', decide_eq_false_iff_not, ne_eq, if_true, if_false, reduceIte, List.getElem?_nil, List.all_map, List.any_map, Function.id_comp, Function.comp_def, id, Bool.decide_eq_false, Bool.decide_eq_true, xMeth, isLed_wo, e, sHold]
  rfl
theorem call_undo0 (s : Rows) (w : Wd) : f_Lcall [.obj 2, pv (1 : Int), pv (0 : Int), pv (0 : Int)] (Wo w s []) = .ok (.p (.str "none")) (Wo w s []) := by
  kernel_rfl
theorem call_undo (s : Rows) (past : Chg) (hs : Sh s) (q : Int × Int) (hq : InR s.length (ixD s 0).length q) (v : Int) (hl : past.length ≤ 100) (w : Wd) : f_Lcall [.obj 2, pv (1 : Int), pv (0 : Int), pv (0 : Int)] (Wo w s (past ++ [(q, v)])) = .ok (pv q) (Wo w (setRC s q.1 q.2 v) past) := by
  have e := p_undo s past hs q hq v hl w
  unfold f_Lcall b_Lcall
  simp (disch := (first | assumption | decide | omega | (simp only [List.length_map, List.length_append, List.length_cons, List.length_nil, List.length_range, len_rg, len_enum, len_cut1]; first | assumption | omega) | (simp only [List.length_map, List.length_append, List.length_cons, List.length_nil, List.length_range, len_rg, len_enum, len_cut1, lim] at *; omega))) only [run_ev, runD_nx, runD_rt, runD_exc, runD_ite, sSeq_ev, seqD_nx, seqD_rt, seqD_exc, seqD_ite, sIf_ev, ifD_ev, xAnd_ev, xOr_ev, xChain_ev, andD_ev, orD_ev, i_and, i_or, i_ff, lim_if, lim_if2, lim_ifL, xOwn_nil, Nat.reduceAdd, Nat.reduceSub, Int.reduceEq, Int.reduceLT, Int.reduceLE, Nat.reduceLT, Nat.reduceLeDiff, Nat.zero_add, Bool.false_eq_true, decide_false, decide_true, reduceCtorEq,  i_andP, i_orP, i_ok, i_pv, t_ii, t_ib, t_il, t_it, t_bi, t_bb, t_bl, t_bt, t_li, t_lb, t_ll, t_lt, t_ti, t_tb, t_tl, t_tt, sRet, sNil, sDrop, sAsg, sRaise, xIf, x2, x1, xN, xCall, xSl, oEv, xLc, wipeZ, iOf, iOf2, xB, bAnd, bOr, bNot, bYes, lNil, lCons, sSet, xV, sFrz, sPar2, sPar3, r_bind, r_bindX, r_bindB, r_calm, r_opt, r_optB, r_int, r_bl, r_non, xVar, e_eq, e_ne, e_add, e_sub, e_cat, e_mul, e_div, e_mod, e_neg, e_not, e_lt, e_le, e_gt, e_ge, e_isB, e_asB, e_truB, e_truI, e_asI, e_oInt, e_asP, e_listOf0, e_lstOf, sExt, sApp, sFor, e_isiI, e_isiB, e_isiL, e_isiP, e_len, e_lenP, e_sum, e_max, e_min, e_max2, e_min2, e_min3, e_all, e_anyI, e_anyB, e_l1, e_l2, e_l3, e_t2, keepD_pv, keepD_p, tzD_some, e_t3, e_asPp, e_zT3, e_listL, e_ix, e_ixP0, e_ixP1, e_sl, e_rev, e_in, e_seq, e_rg, e_en, e_zp, e_zN, e_zT, e_zCons, e_zNil, e_pl, e_noObj, e_noObjP, lift_ev, liftD_ok, liftD_exc, List.all_cons, List.all_nil, iOwn, lcGo_map, lcS_pure, lcS_filt, Option.bind_some, Option.map_some, List.map_cons, List.map_nil, List.length_cons, List.length_nil, List.replicate_succ, List.replicate_zero, List.cons_append, List.nil_append, List.set_cons_zero, List.set_cons_succ, List.getElem?_cons_zero, List.getElem?_cons_succ, Bool.not_true, eq_self, not_true_eq_false, not_false_eq_true, Bool.true_xor, Bool.false_xor, Bool.not_false, Bool.not_not, Bool.true_and, Bool.and_true, Bool.false_and, Bool.and_false, Bool.true_or, Bool.or_true, Bool.or_false, Bool.false_or, decide_eq_true_eq, Bool.not_eq_true', decide_eq_false_iff_not, ne_eq, if_true, if_false, reduceIte, List.getElem?_nil, List.all_map, List.any_map, Function.id_comp, Function.comp_def, id, Bool.decide_eq_false, Bool.decide_eq_true, xMeth0, isLed_wo, e, sHold]
  rfl
theorem enter_bad1 (s : Rows) (past : Chg) (hs : Sh s) (v : Int) (w : Wd) : f_Ledger_enter [.obj 2, pv ((4 : Int), (0 : Int)), pv v] (Wo w s past) = .exc 3 (Wo w s past) := by
  have c1 := p_check_bad s hs ()
  unfold f_Ledger_enter b_Ledger_enter
  simp (disch := (first | assumption | decide | omega | (simp only [List.length_map, List.length_append, List.length_cons, List.length_nil, List.length_range, len_rg, len_enum, len_cut1]; first | assumption | omega) | (simp only [List.length_map, List.length_append, List.length_cons, List.length_nil, List.length_range, len_rg, len_enum, len_cut1, lim] at *; omega))) only [run_ev, runD_nx, runD_rt, runD_exc, runD_ite, sSeq_ev, seqD_nx, seqD_rt, seqD_exc, seqD_ite, sIf_ev, ifD_ev, xAnd_ev, xOr_ev, xChain_ev, andD_ev, orD_ev, i_and, i_or, i_ff, lim_if, lim_if2, lim_ifL, xOwn_nil, Nat.reduceAdd, Nat.reduceSub, Int.reduceEq, Int.reduceLT, Int.reduceLE, Nat.reduceLT, Nat.reduceLeDiff, Nat.zero_add, Bool.false_eq_true, decide_false, decide_true, reduceCtorEq,  i_andP, i_orP, i_ok, i_pv, t_ii, t_ib, t_il, t_it, t_bi, t_bb, t_bl, t_bt, t_li, t_lb, t_ll, t_lt, t_ti, t_tb, t_tl, t_tt, sRet, sNil, sDrop, sAsg, sRaise, xIf, x2, x1, xN, xCall, xSl, oEv, xLc, wipeZ, iOf, iOf2, xB, bAnd, bOr, bNot, bYes, lNil, lCons, sSet, xV, sFrz, sPar2, sPar3, r_bind, r_bindX, r_bindB, r_calm, r_opt, r_optB, r_int, r_bl, r_non, xVar, e_eq, e_ne, e_add, e_sub, e_cat, e_mul, e_div, e_mod, e_neg, e_not, e_lt, e_le, e_gt, e_ge, e_isB, e_asB, e_truB, e_truI, e_asI, e_oInt, e_asP, e_listOf0, e_lstOf, sExt, sApp, sFor, e_isiI, e_isiB, e_isiL, e_isiP, e_len, e_lenP, e_sum, e_max, e_min, e_max2, e_min2, e_min3, e_all, e_anyI, e_anyB, e_l1, e_l2, e_l3, e_t2, keepD_pv, keepD_p, tzD_some, e_t3, e_asPp, e_zT3, e_listL, e_ix, e_ixP0, e_ixP1, e_sl, e_rev, e_in, e_seq, e_rg, e_en, e_zp, e_zN, e_zT, e_zCons, e_zNil, e_pl, e_noObj, e_noObjP, lift_ev, liftD_ok, liftD_exc, List.all_cons, List.all_nil, iOwn, lcGo_map, lcS_pure, lcS_filt, Option.bind_some, Option.map_some, List.map_cons, List.map_nil, List.length_cons, List.length_nil, List.replicate_succ, List.replicate_zero, List.cons_append, List.nil_append, List.set_cons_zero, List.set_cons_succ, List.getElem?_cons_zero, List.getElem?_cons_succ, Bool.not_true, eq_self, not_true_eq_false, not_false_eq_true, Bool.true_xor, Bool.false_xor, Bool.not_false, Bool.not_not, Bool.true_and, Bool.and_true, Bool.false_and, Bool.and_false, Bool.true_or, Bool.or_true, Bool.or_false, Bool.false_or, decide_eq_true_eq, Bool.not_eq_true', decide_eq_false_iff_not, ne_eq, if_true, if_false, reduceIte, List.getElem?_nil, List.all_map, List.any_map, Function.id_comp, Function.comp_def, id, Bool.decide_eq_false, Bool.decide_eq_true, self_ev, selfD_x, toS_pv, rows_ev, c1]
theorem enter_bad2 (s : Rows) (past : Chg) (hs : Sh s) (w : Wd) : f_Ledger_enter [.obj 2, pv ((0 : Int), (0 : Int)), pv (1000 : Int)] (Wo w s past) = .exc 3 (Wo w s past) := by
  have h1 := hs.n1
  have h3 := hs.m1 _ (hs.ix0 (by decide))
  have c1 := p_check_place s hs (0, 0) ⟨⟨by decide, by show (0 : Int) < _; omega⟩, by decide, by show (0 : Int) < _; omega⟩ ()
  have c2 := p_is_int 1000 (-999) 999 ()
  have hd : (decide ((-999 : Int) ≤ 1000) && decide ((1000 : Int) ≤ 999)) = false := by decide
  rw [hd] at c2
  unfold f_Ledger_enter b_Ledger_enter
  simp (disch := (first | assumption | decide | omega | (simp only [List.length_map, List.length_append, List.length_cons, List.length_nil, List.length_range, len_rg, len_enum, len_cut1]; first | assumption | omega) | (simp only [List.length_map, List.length_append, List.length_cons, List.length_nil, List.length_range, len_rg, len_enum, len_cut1, lim] at *; omega))) only [run_ev, runD_nx, runD_rt, runD_exc, runD_ite, sSeq_ev, seqD_nx, seqD_rt, seqD_exc, seqD_ite, sIf_ev, ifD_ev, xAnd_ev, xOr_ev, xChain_ev, andD_ev, orD_ev, i_and, i_or, i_ff, lim_if, lim_if2, lim_ifL, xOwn_nil, Nat.reduceAdd, Nat.reduceSub, Int.reduceEq, Int.reduceLT, Int.reduceLE, Nat.reduceLT, Nat.reduceLeDiff, Nat.zero_add, Bool.false_eq_true, decide_false, decide_true, reduceCtorEq,  i_andP, i_orP, i_ok, i_pv, t_ii, t_ib, t_il, t_it, t_bi, t_bb, t_bl, t_bt, t_li, t_lb, t_ll, t_lt, t_ti, t_tb, t_tl, t_tt, sRet, sNil, sDrop, sAsg, sRaise, xIf, x2, x1, xN, xCall, xSl, oEv, xLc, wipeZ, iOf, iOf2, xB, bAnd, bOr, bNot, bYes, lNil, lCons, sSet, xV, sFrz, sPar2, sPar3, r_bind, r_bindX, r_bindB, r_calm, r_opt, r_optB, r_int, r_bl, r_non, xVar, e_eq, e_ne, e_add, e_sub, e_cat, e_mul, e_div, e_mod, e_neg, e_not, e_lt, e_le, e_gt, e_ge, e_isB, e_asB, e_truB, e_truI, e_asI, e_oInt, e_asP, e_listOf0, e_lstOf, sExt, sApp, sFor, e_isiI, e_isiB, e_isiL, e_isiP, e_len, e_lenP, e_sum, e_max, e_min, e_max2, e_min2, e_min3, e_all, e_anyI, e_anyB, e_l1, e_l2, e_l3, e_t2, keepD_pv, keepD_p, tzD_some, e_t3, e_asPp, e_zT3, e_listL, e_ix, e_ixP0, e_ixP1, e_sl, e_rev, e_in, e_seq, e_rg, e_en, e_zp, e_zN, e_zT, e_zCons, e_zNil, e_pl, e_noObj, e_noObjP, lift_ev, liftD_ok, liftD_exc, List.all_cons, List.all_nil, iOwn, lcGo_map, lcS_pure, lcS_filt, Option.bind_some, Option.map_some, List.map_cons, List.map_nil, List.length_cons, List.length_nil, List.replicate_succ, List.replicate_zero, List.cons_append, List.nil_append, List.set_cons_zero, List.set_cons_succ, List.getElem?_cons_zero, List.getElem?_cons_succ, Bool.not_true, eq_self, not_true_eq_false, not_false_eq_true, Bool.true_xor, Bool.false_xor, Bool.not_false, Bool.not_not, Bool.true_and, Bool.and_true, Bool.false_and, Bool.and_false, Bool.true_or, Bool.or_true, Bool.or_false, Bool.false_or, decide_eq_true_eq, Bool.not_eq_true', decide_eq_false_iff_not, ne_eq, if_true, if_false, reduceIte, List.getElem?_nil, List.all_map, List.any_map, Function.id_comp, Function.comp_def, id, Bool.decide_eq_false, Bool.decide_eq_true, self_ev, selfD_n, toS_pv, rows_ev, c1, c2]
theorem call_bad1 (s : Rows) (past : Chg) (hs : Sh s) (w : Wd) : f_Lcall [.obj 2, pv (0 : Int), pv ((4 : Int), (0 : Int)), pv (0 : Int)] (Wo w s past) = .ok (.p (.str "number")) (Wo w s past) := by
  have e := enter_bad1 s past hs 0 w
  unfold f_Lcall b_Lcall
  simp (disch := (first | assumption | decide | omega | (simp only [List.length_map, List.length_append, List.length_cons, List.length_nil, List.length_range, len_rg, len_enum, len_cut1]; first | assumption | omega) | (simp only [List.length_map, List.length_append, List.length_cons, List.length_nil, List.length_range, len_rg, len_enum, len_cut1, lim] at *; omega))) only [run_ev, runD_nx, runD_rt, runD_exc, runD_ite, sSeq_ev, seqD_nx, seqD_rt, seqD_exc, seqD_ite, sIf_ev, ifD_ev, xAnd_ev, xOr_ev, xChain_ev, andD_ev, orD_ev, i_and, i_or, i_ff, lim_if, lim_if2, lim_ifL, xOwn_nil, Nat.reduceAdd, Nat.reduceSub, Int.reduceEq, Int.reduceLT, Int.reduceLE, Nat.reduceLT, Nat.reduceLeDiff, Nat.zero_add, Bool.false_eq_true, decide_false, decide_true, reduceCtorEq,  i_andP, i_orP, i_ok, i_pv, t_ii, t_ib, t_il, t_it, t_bi, t_bb, t_bl, t_bt, t_li, t_lb, t_ll, t_lt, t_ti, t_tb, t_tl, t_tt, sRet, sNil, sDrop, sAsg, sRaise, xIf, x2, x1, xN, xCall, xSl, oEv, xLc, wipeZ, iOf, iOf2, xB, bAnd, bOr, bNot, bYes, lNil, lCons, sSet, xV, sFrz, sPar2, sPar3, r_bind, r_bindX, r_bindB, r_calm, r_opt, r_optB, r_int, r_bl, r_non, xVar, e_eq, e_ne, e_add, e_sub, e_cat, e_mul, e_div, e_mod, e_neg, e_not, e_lt, e_le, e_gt, e_ge, e_isB, e_asB, e_truB, e_truI, e_asI, e_oInt, e_asP, e_listOf0, e_lstOf, sExt, sApp, sFor, e_isiI, e_isiB, e_isiL, e_isiP, e_len, e_lenP, e_sum, e_max, e_min, e_max2, e_min2, e_min3, e_all, e_anyI, e_anyB, e_l1, e_l2, e_l3, e_t2, keepD_pv, keepD_p, tzD_some, e_t3, e_asPp, e_zT3, e_listL, e_ix, e_ixP0, e_ixP1, e_sl, e_rev, e_in, e_seq, e_rg, e_en, e_zp, e_zN, e_zT, e_zCons, e_zNil, e_pl, e_noObj, e_noObjP, lift_ev, liftD_ok, liftD_exc, List.all_cons, List.all_nil, iOwn, lcGo_map, lcS_pure, lcS_filt, Option.bind_some, Option.map_some, List.map_cons, List.map_nil, List.length_cons, List.length_nil, List.replicate_succ, List.replicate_zero, List.cons_append, List.nil_append, List.set_cons_zero, List.set_cons_succ, List.getElem?_cons_zero, List.getElem?_cons_succ, Bool.not_true, eq_self, not_true_eq_false, not_false_eq_true, Bool.true_xor, Bool.false_xor, Bool.not_false, Bool.not_not, Bool.true_and, Bool.and_true, Bool.false_and, Bool.and_false, Bool.true_or, Bool.or_true, Bool.or_false, Bool.false_or, decide_eq_true_eq, Bool.not_eq_true', decide_eq_false_iff_not, ne_eq, if_true, if_false, reduceIte, List.getElem?_nil, List.all_map, List.any_map, Function.id_comp, Function.comp_def, id, Bool.decide_eq_false, Bool.decide_eq_true, xMeth, isLed_wo, e, sHold, lerr3]
  rfl
theorem call_bad2 (s : Rows) (past : Chg) (hs : Sh s) (w : Wd) : f_Lcall [.obj 2, pv (0 : Int), pv ((0 : Int), (0 : Int)), pv (1000 : Int)] (Wo w s past) = .ok (.p (.str "number")) (Wo w s past) := by
  have e := enter_bad2 s past hs w
  unfold f_Lcall b_Lcall
  simp (disch := (first | assumption | decide | omega | (simp only [List.length_map, List.length_append, List.length_cons, List.length_nil, List.length_range, len_rg, len_enum, len_cut1]; first | assumption | omega) | (simp only [List.length_map, List.length_append, List.length_cons, List.length_nil, List.length_range, len_rg, len_enum, len_cut1, lim] at *; omega))) only [run_ev, runD_nx, runD_rt, runD_exc, runD_ite, sSeq_ev, seqD_nx, seqD_rt, seqD_exc, seqD_ite, sIf_ev, ifD_ev, xAnd_ev, xOr_ev, xChain_ev, andD_ev, orD_ev, i_and, i_or, i_ff, lim_if, lim_if2, lim_ifL, xOwn_nil, Nat.reduceAdd, Nat.reduceSub, Int.reduceEq, Int.reduceLT, Int.reduceLE, Nat.reduceLT, Nat.reduceLeDiff, Nat.zero_add, Bool.false_eq_true, decide_false, decide_true, reduceCtorEq,  i_andP, i_orP, i_ok, i_pv, t_ii, t_ib, t_il, t_it, t_bi, t_bb, t_bl, t_bt, t_li, t_lb, t_ll, t_lt, t_ti, t_tb, t_tl, t_tt, sRet, sNil, sDrop, sAsg, sRaise, xIf, x2, x1, xN, xCall, xSl, oEv, xLc, wipeZ, iOf, iOf2, xB, bAnd, bOr, bNot, bYes, lNil, lCons, sSet, xV, sFrz, sPar2, sPar3, r_bind, r_bindX, r_bindB, r_calm, r_opt, r_optB, r_int, r_bl, r_non, xVar, e_eq, e_ne, e_add, e_sub, e_cat, e_mul, e_div, e_mod, e_neg, e_not, e_lt, e_le, e_gt, e_ge, e_isB, e_asB, e_truB, e_truI, e_asI, e_oInt, e_asP, e_listOf0, e_lstOf, sExt, sApp, sFor, e_isiI, e_isiB, e_isiL, e_isiP, e_len, e_lenP, e_sum, e_max, e_min, e_max2, e_min2, e_min3, e_all, e_anyI, e_anyB, e_l1, e_l2, e_l3, e_t2, keepD_pv, keepD_p, tzD_some, e_t3, e_asPp, e_zT3, e_listL, e_ix, e_ixP0, e_ixP1, e_sl, e_rev, e_in, e_seq, e_rg, e_en, e_zp, e_zN, e_zT, e_zCons, e_zNil, e_pl, e_noObj, e_noObjP, lift_ev, liftD_ok, liftD_exc, List.all_cons, List.all_nil, iOwn, lcGo_map, lcS_pure, lcS_filt, Option.bind_some, Option.map_some, List.map_cons, List.map_nil, List.length_cons, List.length_nil, List.replicate_succ, List.replicate_zero, List.cons_append, List.nil_append, List.set_cons_zero, List.set_cons_succ, List.getElem?_cons_zero, List.getElem?_cons_succ, Bool.not_true, eq_self, not_true_eq_false, not_false_eq_true, Bool.true_xor, Bool.false_xor, Bool.not_false, Bool.not_not, Bool.true_and, Bool.and_true, Bool.false_and, Bool.and_false, Bool.true_or, Bool.or_true, Bool.or_false, Bool.false_or, decide_eq_true_eq, Bool.not_eq_true', decide_eq_false_iff_not, ne_eq, if_true, if_false, reduceIte, List.getElem?_nil, List.all_map, List.any_map, Function.id_comp, Function.comp_def, id, Bool.decide_eq_false, Bool.decide_eq_true, xMeth, isLed_wo, e, sHold, lerr3]
  rfl

end Z

set_option Elab.async false
set_option linter.all false
set_option maxRecDepth 100000
set_option maxHeartbeats 2000000
namespace Z
open PySem
/-! # the law k09 -/
theorem p_init (s : Rows) (h : Sh s) (w : Wd) : f_Ledger___init__ (pv s) ((w, []) : LW) = .ok (.obj 2) (Wo w s []) := by
  have c1 := p_check_sheet s h ()
  have hl : s.length ≤ lim := (h.fit (by decide)).1
  have h1 : xCall (liftZ f_check_sheet) (lCons (xVar 1) lNil) [.v .opq, .v (pv s), .no] ((w, []) : LW) = .ok (.p .none) (w, []) := by
    simp (disch := (first | assumption | decide | omega | (simp only [List.length_map, List.length_append, List.length_cons, List.length_nil, List.length_range, len_rg, len_enum, len_cut1]; first | assumption | omega) | (simp only [List.length_map, List.length_append, List.length_cons, List.length_nil, List.length_range, len_rg, len_enum, len_cut1, lim] at *; omega))) only [run_ev, runD_nx, runD_rt, runD_exc, runD_ite, sSeq_ev, seqD_nx, seqD_rt, seqD_exc, seqD_ite, sIf_ev, ifD_ev, xAnd_ev, xOr_ev, xChain_ev, andD_ev, orD_ev, i_and, i_or, i_ff, lim_if, lim_if2, lim_ifL, xOwn_nil, Nat.reduceAdd, Nat.reduceSub, Int.reduceEq, Int.reduceLT, Int.reduceLE, Nat.reduceLT, Nat.reduceLeDiff, Nat.zero_add, Bool.false_eq_true, decide_false, decide_true, reduceCtorEq,  i_andP, i_orP, i_ok, i_pv, t_ii, t_ib, t_il, t_it, t_bi, t_bb, t_bl, t_bt, t_li, t_lb, t_ll, t_lt, t_ti, t_tb, t_tl, t_tt, sRet, sNil, sDrop, sAsg, sRaise, xIf, x2, x1, xN, xCall, xSl, oEv, xLc, wipeZ, iOf, iOf2, xB, bAnd, bOr, bNot, bYes, lNil, lCons, sSet, xV, sFrz, sPar2, sPar3, r_bind, r_bindX, r_bindB, r_calm, r_opt, r_optB, r_int, r_bl, r_non, xVar, e_eq, e_ne, e_add, e_sub, e_cat, e_mul, e_div, e_mod, e_neg, e_not, e_lt, e_le, e_gt, e_ge, e_isB, e_asB, e_truB, e_truI, e_asI, e_oInt, e_asP, e_listOf0, e_lstOf, sExt, sApp, sFor, e_isiI, e_isiB, e_isiL, e_isiP, e_len, e_lenP, e_sum, e_max, e_min, e_max2, e_min2, e_min3, e_all, e_anyI, e_anyB, e_l1, e_l2, e_l3, e_t2, keepD_pv, keepD_p, tzD_some, e_t3, e_asPp, e_zT3, e_listL, e_ix, e_ixP0, e_ixP1, e_sl, e_rev, e_in, e_seq, e_rg, e_en, e_zp, e_zN, e_zT, e_zCons, e_zNil, e_pl, e_noObj, e_noObjP, lift_ev, liftD_ok, liftD_exc, List.all_cons, List.all_nil, iOwn, lcGo_map, lcS_pure, lcS_filt, Option.bind_some, Option.map_some, List.map_cons, List.map_nil, List.length_cons, List.length_nil, List.replicate_succ, List.replicate_zero, List.cons_append, List.nil_append, List.set_cons_zero, List.set_cons_succ, List.getElem?_cons_zero, List.getElem?_cons_succ, Bool.not_true, eq_self, not_true_eq_false, not_false_eq_true, Bool.true_xor, Bool.false_xor, Bool.not_false, Bool.not_not, Bool.true_and, Bool.and_true, Bool.false_and, Bool.and_false, Bool.true_or, Bool.or_true, Bool.or_false, Bool.false_or, decide_eq_true_eq, Bool.not_eq_true', decide_eq_false_iff_not, ne_eq, if_true, if_false, reduceIte, List.getElem?_nil, List.all_map, List.any_map, Function.id_comp, Function.comp_def, id, Bool.decide_eq_false, Bool.decide_eq_true, c1]
  have h2 : xLcOO (iOf seqOf (xVar 1)) (zN 2) (xListO (xVar 2)) [2] [.v .opq, .v (pv s), .no] ((w, []) : LW) = .ok (.own2 (encR s)) (w, []) := by
    simp (disch := (first | assumption | decide | omega | (simp only [List.length_map, List.length_append, List.length_cons, List.length_nil, List.length_range, len_rg, len_enum, len_cut1]; first | assumption | omega) | (simp only [List.length_map, List.length_append, List.length_cons, List.length_nil, List.length_range, len_rg, len_enum, len_cut1, lim] at *; omega))) only [run_ev, runD_nx, runD_rt, runD_exc, runD_ite, sSeq_ev, seqD_nx, seqD_rt, seqD_exc, seqD_ite, sIf_ev, ifD_ev, xAnd_ev, xOr_ev, xChain_ev, andD_ev, orD_ev, i_and, i_or, i_ff, lim_if, lim_if2, lim_ifL, xOwn_nil, Nat.reduceAdd, Nat.reduceSub, Int.reduceEq, Int.reduceLT, Int.reduceLE, Nat.reduceLT, Nat.reduceLeDiff, Nat.zero_add, Bool.false_eq_true, decide_false, decide_true, reduceCtorEq,  i_andP, i_orP, i_ok, i_pv, t_ii, t_ib, t_il, t_it, t_bi, t_bb, t_bl, t_bt, t_li, t_lb, t_ll, t_lt, t_ti, t_tb, t_tl, t_tt, sRet, sNil, sDrop, sAsg, sRaise, xIf, x2, x1, xN, xCall, xSl, oEv, xLc, wipeZ, iOf, iOf2, xB, bAnd, bOr, bNot, bYes, lNil, lCons, sSet, xV, sFrz, sPar2, sPar3, r_bind, r_bindX, r_bindB, r_calm, r_opt, r_optB, r_int, r_bl, r_non, xVar, e_eq, e_ne, e_add, e_sub, e_cat, e_mul, e_div, e_mod, e_neg, e_not, e_lt, e_le, e_gt, e_ge, e_isB, e_asB, e_truB, e_truI, e_asI, e_oInt, e_asP, e_listOf0, e_lstOf, sExt, sApp, sFor, e_isiI, e_isiB, e_isiL, e_isiP, e_len, e_lenP, e_sum, e_max, e_min, e_max2, e_min2, e_min3, e_all, e_anyI, e_anyB, e_l1, e_l2, e_l3, e_t2, keepD_pv, keepD_p, tzD_some, e_t3, e_asPp, e_zT3, e_listL, e_ix, e_ixP0, e_ixP1, e_sl, e_rev, e_in, e_seq, e_rg, e_en, e_zp, e_zN, e_zT, e_zCons, e_zNil, e_pl, e_noObj, e_noObjP, lift_ev, liftD_ok, liftD_exc, List.all_cons, List.all_nil, iOwn, lcGo_map, lcS_pure, lcS_filt, Option.bind_some, Option.map_some, List.map_cons, List.map_nil, List.length_cons, List.length_nil, List.replicate_succ, List.replicate_zero, List.cons_append, List.nil_append, List.set_cons_zero, List.set_cons_succ, List.getElem?_cons_zero, List.getElem?_cons_succ, Bool.not_true, eq_self, not_true_eq_false, not_false_eq_true, Bool.true_xor, Bool.false_xor, Bool.not_false, Bool.not_not, Bool.true_and, Bool.and_true, Bool.false_and, Bool.and_false, Bool.true_or, Bool.or_true, Bool.or_false, Bool.false_or, decide_eq_true_eq, Bool.not_eq_true', decide_eq_false_iff_not, ne_eq, if_true, if_false, reduceIte, List.getElem?_nil, List.all_map, List.any_map, Function.id_comp, Function.comp_def, id, Bool.decide_eq_false, Bool.decide_eq_true, xLcOO, lcGoO_rows]
    rfl
  unfold f_Ledger___init__ fInit
  show (match xCall (liftZ f_check_sheet) (lCons (xVar 1) lNil) [.v .opq, .v (pv s), .no] ((w, []) : LW) with
    | .ok _ w1 => (match xLcOO (iOf seqOf (xVar 1)) (zN 2) (xListO (xVar 2)) [2] [.v .opq, .v (pv s), .no] w1 with
      | .ok (.own2 xss) w2 => Res.ok (D.obj (2 * w2.2.length + 2)) ((w2.1, w2.2 ++ [(⟨xss, []⟩ : LS)]) : LW)
      | .exc m w2 => .exc m w2
      | _ => .bad)
    | .exc m w' => .exc m w'
    | .bad => .bad) = _
  rw [h1]
  dsimp only
  rw [h2]
  rfl
theorem rows_ext {a b : Rows} {n m : Nat} (ha : Rect a n m) (hb : Rect b n m) (h : ∀ p, InR n m p → get a p = get b p) : a = b := by
  refine List.ext_getElem (ha.n.trans hb.n.symm) fun i h1 h2 => ?_
  have l1 := ha.m _ (List.getElem_mem h1)
  have l2 := hb.m _ (List.getElem_mem h2)
  refine List.ext_getElem (l1.trans l2.symm) fun j g1 g2 => ?_
  have := h ((i : Int), (j : Int)) ⟨⟨by show (0 : Int) ≤ i; omega, by show (i : Int) < n; have := ha.n; omega⟩, by show (0 : Int) ≤ j; omega, by show (j : Int) < m; omega⟩
  unfold get at this
  dsimp only at this
  rw [ixD_nat a i (by omega), ixD_nat b i (by omega)] at this
  have e1 : a[(i : Int).toNat]'(by omega) = a[i] := by congr 1
  have e2 : b[(i : Int).toNat]'(by omega) = b[i] := by congr 1
  rw [e1, e2, ixD_nat _ j (by omega), ixD_nat _ j (by omega)] at this
  exact this
structure POk (n m : Nat) (past : Chg) : Prop where
  ok : ∀ c ∈ past, InR n m c.1 ∧ -999 ≤ c.2 ∧ c.2 ≤ 999
theorem POk.app {n m : Nat} {past : Chg} (h : POk n m past) {c : (Int × Int) × Int} (hc : InR n m c.1 ∧ -999 ≤ c.2 ∧ c.2 ≤ 999) : POk n m (past ++ [c]) := ⟨fun x hx => by
  rcases List.mem_append.mp hx with hx | hx
  · exact h.ok x hx
  · rw [List.mem_singleton.mp hx]; exact hc⟩
theorem sh_set {s : Rows} {n m : Nat} (h : Sh s) (R : Rect s n m) (hn : 0 < n) (p : Int × Int) (hp : InR n m p) (v : Int) (hv : -999 ≤ v ∧ v ≤ 999) : Sh (setRC s p.1 p.2 v) :=
  block_put h R hn [(p, v)] (fun c hc => by rw [List.mem_singleton.mp hc]; exact ⟨hp, hv.1, hv.2⟩) (by decide) (by decide)
section
variable {g : Rows} {cs : Chg} {n m : Nat}
theorem l09_a (ns : List Int) (h : St g cs n m) (h3 : cs.length ≤ 3) (wd : Wd) : ∃ a b past, POk n m past ∧ past.length = cs.length ∧
    forGo (zT 2 (zCons (zN 8) (zCons (zN 9) zNil))) b_law_4 ((sortT cs).map Py.enc) [.v (.scr ns), .v (.obj 0), .v (pv g), .v (pv (sortT cs)), .v (pv (put g cs)), .v (.obj 2), .v (pv (put g cs)), .v (pv ([] : Chg)), .no, .no, .no, .no] (Wo wd (put g cs) []) =
      .nx [.v (.scr ns), .v (.obj 0), .v (pv g), .v (pv (sortT cs)), .v (pv (put g cs)), .v (.obj 2), .v (pv g), .v (pv past), a, b, .no, .no] (Wo wd g past) := by
  have n0 := h.n2
  have m0 := h.m2
  have n4 := h.n4
  have hperm := sortT_perm cs
  let bk : Chg → Chg := fun p => p.map fun c => (c.1, get g c.1)
  have hin : ∀ c ∈ sortT cs, InR n m c.1 := fun c hc => h.inr c (hperm.mem_iff.mp hc)
  have hbk : ∀ p : Chg, (∀ c ∈ p, InR n m c.1) → ∀ c ∈ bk p, InR n m c.1 ∧ -999 ≤ c.2 ∧ c.2 ≤ 999 := fun p hp c hc => by
    obtain ⟨d, hd, rfl⟩ := List.mem_map.mp hc
    have := get_en h.R h.b.en (hp d hd)
    exact ⟨hp d hd, by dsimp only; omega, by dsimp only; omega⟩
  have hgood : put (put g cs) (bk (sortT cs)) = g := by
    have R1 : Rect (put (put g cs) (bk (sortT cs))) n m := put_rect _ _ h.RS fun c hc => (hbk _ hin c hc).1.1
    refine rows_ext R1 h.R fun p hp => ?_
    have nd : ((bk (sortT cs)).map (·.1)).Nodup := by
      show (((sortT cs).map fun c => (c.1, get g c.1)).map (·.1)).Nodup
      rw [List.map_map]
      exact (hperm.map (·.1)).nodup_iff.mpr h.nd
    by_cases hm : p ∈ (bk (sortT cs)).map (·.1)
    · obtain ⟨c, hc, rfl⟩ := List.mem_map.mp hm
      rw [get_put_yes _ _ h.RS (fun c hc => (hbk _ hin c hc).1) nd c hc]
      obtain ⟨d, hd, rfl⟩ := List.mem_map.mp hc
      rfl
    · rw [get_put_no _ _ h.RS (fun c hc => (hbk _ hin c hc).1) p hp hm]
      refine get_put_no _ _ h.R h.inr p hp fun z => hm ?_
      show p ∈ ((sortT cs).map fun c => (c.1, get g c.1)).map (·.1)
      rw [List.map_map]
      exact (hperm.map (·.1)).mem_iff.mpr z
  have key := forGo_preW (W := LW) (tz := zT 2 (zCons (zN 8) (zCons (zN 9) zNil))) (body := b_law_4)
    (fun p δ w => ∃ a b past, POk n m past ∧ past.length = p.length ∧ δ = [.v (.scr ns), .v (.obj 0), .v (pv g), .v (pv (sortT cs)), .v (pv (put g cs)), .v (.obj 2), .v (pv (put (put g cs) (bk p))), .v (pv past), a, b, .no, .no] ∧ w = Wo wd (put (put g cs) (bk p)) past)
    (sortT cs) [] (fun p x r ex δ w ⟨a, b, past, hpo, hpl, hd, hw⟩ => by
      subst hd hw
      have ex : sortT cs = p ++ x :: r := ex
      have hp : ∀ c ∈ p, InR n m c.1 := fun c hc => hin c (by rw [ex]; simp [hc])
      have hx := hin x (by rw [ex]; simp)
      have hgx := get_en h.R h.b.en hx
      have Rp : Rect (put (put g cs) (bk p)) n m := put_rect _ _ h.RS fun c hc => (hbk _ hp c hc).1.1
      have shp : Sh (put (put g cs) (bk p)) := block_put h.sh h.RS (by omega) _ (hbk p hp) (by decide) (by decide)
      have hlen : p.length ≤ 3 := by
        have := congrArg List.length ex
        rw [hperm.length_eq] at this
        simp at this
        omega
      generalize hrow : put (put g cs) (bk p) = row at *
      have hnext : put (put g cs) (bk (p ++ [x])) = setRC row x.1.1 x.1.2 (get g x.1) := by
        show put (put g cs) ((p ++ [x]).map fun c => (c.1, get g c.1)) = _
        rw [List.map_append, List.map_singleton, put_snoc]
        rw [← hrow]
      rw [hnext]
      have hn := Rp.n
      have hm := Rp.ix0 (by omega)
      have hx' : InR row.length (ixD row 0).length x.1 := by rw [hn, hm]; exact hx
      have hrx := get_en Rp (a := -999) (b := 999) (fun r hr y hy => shp.en r hr y hy) hx
      have sh' := sh_set shp Rp (by omega) x.1 hx (get g x.1) (by omega)
      have q1 := call_enter row past shp x.1 hx' (get g x.1) (by omega) (by unfold lim; omega) wd
      have q2 : f_Lput [pv row, pv [(x.1, get g x.1)]] () = .ok (pv (setRC row x.1.1 x.1.2 (get g x.1))) () := p_Lput row [(x.1, get g x.1)] n m Rp (by omega) (fun c hc => by rw [List.mem_singleton.mp hc]; exact hx) ()
      have q3 := p_Lis_right (setRC row x.1.1 x.1.2 (get g x.1)) sh' ()
      rw [right_law] at q3
      obtain ⟨⟨i1, i2⟩, i3, i4⟩ := hx
      have g1 : (ixD row x.1.1).length = m := Rp.m _ (ixD_mem (by omega))
      have g2 : (ixD g x.1.1).length = m := h.R.m _ (ixD_mem (by have := h.R.n; omega))
      have g3 := h.R.n
      have e1 : ixD (ixD row x.1.1) x.1.2 = get row x.1 := rfl
      have e2 : ixD (ixD g x.1.1) x.1.2 = get g x.1 := rfl
      refine ⟨[.v (.scr ns), .v (.obj 0), .v (pv g), .v (pv (sortT cs)), .v (pv (put g cs)), .v (.obj 2), .v (pv row), .v (pv past), .v (pv x.1), .v (pv x.2), .no, .no], rfl,
        [.v (.scr ns), .v (.obj 0), .v (pv g), .v (pv (sortT cs)), .v (pv (put g cs)), .v (.obj 2), .v (pv (setRC row x.1.1 x.1.2 (get g x.1))), .v (pv (past ++ [(x.1, get row x.1)])), .v (pv x.1), .v (pv x.2), .no, .no], Wo wd (setRC row x.1.1 x.1.2 (get g x.1)) (past ++ [(x.1, get row x.1)]), .inl ?_, _, _, _, hpo.app (c := (x.1, get row x.1)) ⟨⟨⟨i1, i2⟩, i3, i4⟩, hrx⟩, by simp [hpl], rfl, rfl⟩
      unfold b_law_4 b_law_5 b_law_6
      simp (disch := (first | assumption | decide | omega | (simp only [List.length_map, List.length_append, List.length_cons, List.length_nil, List.length_range, len_rg, len_enum, len_cut1]; first | assumption | omega) | (simp only [List.length_map, List.length_append, List.length_cons, List.length_nil, List.length_range, len_rg, len_enum, len_cut1, lim] at *; omega))) only [run_ev, runD_nx, runD_rt, runD_exc, runD_ite, sSeq_ev, seqD_nx, seqD_rt, seqD_exc, seqD_ite, sIf_ev, ifD_ev, xAnd_ev, xOr_ev, xChain_ev, andD_ev, orD_ev, i_and, i_or, i_ff, lim_if, lim_if2, lim_ifL, xOwn_nil, Nat.reduceAdd, Nat.reduceSub, Int.reduceEq, Int.reduceLT, Int.reduceLE, Nat.reduceLT, Nat.reduceLeDiff, Nat.zero_add, Bool.false_eq_true, decide_false, decide_true, reduceCtorEq,  i_andP, i_orP, i_ok, i_pv, t_ii, t_ib, t_il, t_it, t_bi, t_bb, t_bl, t_bt, t_li, t_lb, t_ll, t_lt, t_ti, t_tb, t_tl, t_tt, sRet, sNil, sDrop, sAsg, sRaise, xIf, x2, x1, xN, xCall, xSl, oEv, xLc, wipeZ, iOf, iOf2, xB, bAnd, bOr, bNot, bYes, lNil, lCons, sSet, xV, sFrz, sPar2, sPar3, r_bind, r_bindX, r_bindB, r_calm, r_opt, r_optB, r_int, r_bl, r_non, xVar, e_eq, e_ne, e_add, e_sub, e_cat, e_mul, e_div, e_mod, e_neg, e_not, e_lt, e_le, e_gt, e_ge, e_isB, e_asB, e_truB, e_truI, e_asI, e_oInt, e_asP, e_listOf0, e_lstOf, sExt, sApp, sFor, e_isiI, e_isiB, e_isiL, e_isiP, e_len, e_lenP, e_sum, e_max, e_min, e_max2, e_min2, e_min3, e_all, e_anyI, e_anyB, e_l1, e_l2, e_l3, e_t2, keepD_pv, keepD_p, tzD_some, e_t3, e_asPp, e_zT3, e_listL, e_ix, e_ixP0, e_ixP1, e_sl, e_rev, e_in, e_seq, e_rg, e_en, e_zp, e_zN, e_zT, e_zCons, e_zNil, e_pl, e_noObj, e_noObjP, lift_ev, liftD_ok, liftD_exc, List.all_cons, List.all_nil, iOwn, lcGo_map, lcS_pure, lcS_filt, Option.bind_some, Option.map_some, List.map_cons, List.map_nil, List.length_cons, List.length_nil, List.replicate_succ, List.replicate_zero, List.cons_append, List.nil_append, List.set_cons_zero, List.set_cons_succ, List.getElem?_cons_zero, List.getElem?_cons_succ, Bool.not_true, eq_self, not_true_eq_false, not_false_eq_true, Bool.true_xor, Bool.false_xor, Bool.not_false, Bool.not_not, Bool.true_and, Bool.and_true, Bool.false_and, Bool.and_false, Bool.true_or, Bool.or_true, Bool.or_false, Bool.false_or, decide_eq_true_eq, Bool.not_eq_true', decide_eq_false_iff_not, ne_eq, if_true, if_false, reduceIte, List.getElem?_nil, List.all_map, List.any_map, Function.id_comp, Function.comp_def, id, Bool.decide_eq_false, Bool.decide_eq_true, e1, e2, q1, q2, q3, p_Ltrue]) [.v (.scr ns), .v (.obj 0), .v (pv g), .v (pv (sortT cs)), .v (pv (put g cs)), .v (.obj 2), .v (pv (put g cs)), .v (pv ([] : Chg)), .no, .no, .no, .no] (Wo wd (put g cs) []) ⟨_, _, [], ⟨fun _ h => by cases h⟩, rfl, rfl, rfl⟩
  obtain ⟨δ', w', e, a, b, past, h1, h2, hd, hw⟩ := key
  subst hd hw
  have hgood : put (put g cs) (bk ([] ++ sortT cs)) = g := hgood
  rw [hgood] at e
  exact ⟨a, b, past, h1, by rw [h2]; simp [hperm.length_eq], e⟩
end

end Z

set_option Elab.async false
set_option linter.all false
set_option maxRecDepth 100000
set_option maxHeartbeats 0
namespace Z
open PySem PySem.Spec PyProof.Rows L2
def zFn : List He.FnD := [⟨("is_int", none), "is_int", "is_int", defArgs s_is_int, defBody s_is_int, defScope s_is_int⟩,
  ⟨("is_block", none), "is_block", "is_block", defArgs s_is_block, defBody s_is_block, defScope s_is_block⟩,
  ⟨("is_sheet", none), "is_sheet", "is_sheet", defArgs s_is_sheet, defBody s_is_sheet, defScope s_is_sheet⟩,
  ⟨("check_sheet", none), "check_sheet", "check_sheet", defArgs s_check_sheet, defBody s_check_sheet, defScope s_check_sheet⟩,
  ⟨("row_gap", none), "row_gap", "row_gap", defArgs s_row_gap, defBody s_row_gap, defScope s_row_gap⟩,
  ⟨("rows_of", none), "rows_of", "rows_of", defArgs s_rows_of, defBody s_rows_of, defScope s_rows_of⟩,
  ⟨("columns_of", none), "columns_of", "columns_of", defArgs s_columns_of, defBody s_columns_of, defScope s_columns_of⟩,
  ⟨("_law_start", none), "_law_start", "_law_start", defArgs s_Lstart, defBody s_Lstart, defScope s_Lstart⟩,
  ⟨("_law_draw", none), "_law_draw", "_law_draw", defArgs s_Ldraw, defBody s_Ldraw, defScope s_Ldraw⟩,
  ⟨("_law_pick", none), "_law_pick", "_law_pick", defArgs s_Lpick, defBody s_Lpick, defScope s_Lpick⟩,
  ⟨("_law_true", none), "_law_true", "_law_true", defArgs s_Ltrue, defBody s_Ltrue, defScope s_Ltrue⟩,
  ⟨("_law_gaps", none), "_law_gaps", "_law_gaps", defArgs s_Lgaps, defBody s_Lgaps, defScope s_Lgaps⟩,
  ⟨("_law_is_right", none), "_law_is_right", "_law_is_right", defArgs s_Lis_right, defBody s_Lis_right, defScope s_Lis_right⟩,
  ⟨("_law_all", none), "_law_all", "_law_all", defArgs s_Lall, defBody s_Lall, defScope s_Lall⟩,
  ⟨("_law_put", none), "_law_put", "_law_put", defArgs s_Lput, defBody s_Lput, defScope s_Lput⟩,
  ⟨("_law_table", none), "_law_table", "_law_table", defArgs s_Ltable, defBody s_Ltable, defScope s_Ltable⟩,
  ⟨("_law_full", none), "_law_full", "_law_full", defArgs s_Lfull, defBody s_Lfull, defScope s_Lfull⟩,
  ⟨("_law_sheet", none), "_law_sheet", "_law_sheet", defArgs s_Lsheet, defBody s_Lsheet, defScope s_Lsheet⟩,
  ⟨("check_place", none), "check_place", "check_place", defArgs s_check_place, defBody s_check_place, defScope s_check_place⟩,
  ⟨("right", none), "right", "right", defArgs s_right, defBody s_right, defScope s_right⟩,
  ⟨("_law_error", none), "_law_error", "_law_error", defArgs s_Lerror, defBody s_Lerror, defScope s_Lerror⟩,
  ⟨("_law_call", none), "_law_call", "_law_call", defArgs s_Lcall, defBody s_Lcall, defScope s_Lcall⟩,
  ⟨("law", none), "law", "law", defArgs s_law, defBody s_law, defScope s_law⟩,
  ⟨("Ledger", some "__init__"), "__init__", "Ledger.__init__", defArgs s_Ledger___init__, defBody s_Ledger___init__, defScope s_Ledger___init__⟩,
  ⟨("Ledger", some "__len__"), "__len__", "Ledger.__len__", defArgs s_Ledger___len__, defBody s_Ledger___len__, defScope s_Ledger___len__⟩,
  ⟨("Ledger", some "gaps"), "gaps", "Ledger.gaps", defArgs s_Ledger_gaps, defBody s_Ledger_gaps, defScope s_Ledger_gaps⟩,
  ⟨("Ledger", some "sheet"), "sheet", "Ledger.sheet", defArgs s_Ledger_sheet, defBody s_Ledger_sheet, defScope s_Ledger_sheet⟩,
  ⟨("Ledger", some "enter"), "enter", "Ledger.enter", defArgs s_Ledger_enter, defBody s_Ledger_enter, defScope s_Ledger_enter⟩,
  ⟨("Ledger", some "undo"), "undo", "Ledger.undo", defArgs s_Ledger_undo, defBody s_Ledger_undo, defScope s_Ledger_undo⟩]
def zFa1 : List He.Fa := [.glo "is_int", .glo "is_block", .glo "is_sheet", .glo "check_sheet", .glo "row_gap", .glo "rows_of", .glo "columns_of", .glo "_law_start", .glo "_law_draw", .glo "_law_pick", .glo "_law_true", .glo "_law_gaps", .glo "_law_is_right", .glo "_law_all", .glo "_law_put", .glo "_law_table", .glo "_law_full", .glo "_law_sheet", .glo "check_place", .glo "right", .glo "_law_error", .glo "_law_call", .glo "law"]
def zFa2 : List He.Fa := [.keep "is_int", .keep "is_block", .keep "is_sheet", .keep "check_sheet", .keep "row_gap", .keep "rows_of", .keep "columns_of", .keep "_law_start", .keep "_law_draw", .keep "_law_pick", .keep "_law_true", .keep "_law_gaps", .keep "_law_is_right", .keep "_law_all", .keep "_law_put", .keep "_law_table", .keep "_law_full", .keep "_law_sheet", .keep "check_place", .keep "right", .keep "_law_error", .keep "_law_call", .keep "law"]
def zFa3 : List He.Fa := [.int "MOST_ENTRY" 999, .glo "BadSheet", .exc "BadSheet", .glo "BadNumber", .exc "BadNumber", .glo "NotFound", .exc "NotFound", .glo "BadSums", .exc "BadSums", .glo "BadTable", .exc "BadTable", .glo "BadChanges", .exc "BadChanges", .glo "BadText", .exc "BadText", .glo "SheetError", .exc "SheetError", .glo "Ledger", .cls "Ledger", .noat "Ledger" "rows", .noat "Ledger" "past", .mkr "Ledger", .meth "Ledger" "__init__", .meth "Ledger" "__len__", .meth "Ledger" "gaps", .meth "Ledger" "sheet", .meth "Ledger" "enter", .meth "Ledger" "undo"]
def zFa : List He.Fa := zFa1 ++ (zFa2 ++ (zBt.map He.Fa.free ++ zFa3))
def zL0 : List Str := ["SheetError", "BadSheet", "BadTable", "BadSums", "BadNumber", "BadChanges", "BadText", "NotFound", "MOST_ENTRY", "is_int", "is_block", "is_sheet", "check_sheet", "check_place", "row_gap", "rows_of", "columns_of", "right", "Ledger", "_law_start", "_law_draw", "_law_pick", "_law_error", "_law_true", "_law_table", "_law_full", "_law_gaps", "_law_is_right", "_law_all", "_law_put"]
def zL1 : List Str := ["_law_sheet", "_law_call"]
def zLoose : List Str := zL0 ++ zL1
abbrev zR : PySem.W.OpenRow := PySem.W.OpenLaw.row PySem.Challenge.rw_crosssums_k09_whole_ledgers
def zCk (K : PySem.W.Frag) : Bool := exChk K (zCls K)
abbrev zHk : PySem.W.Hook := hookX 5 zFa zFn zCk
def zOb (s : PySem.W.SharedT) : He.Al × Bool := obsX 5 zFa zFn zCk (HandSHeadRun.getT s)
theorem zOb_eq (s : PySem.W.SharedT) : zOb s = zHk.obs s.abs := obsX_eq (HandSHeadRun.getT_eq s)
theorem zRun (w : World) : HandSHeadRun.RunEq zR (PySem.W.view zR.prog [36]) zHk zOb 3000 zLoose w := by
  intro os
  kernel_rfl
theorem zFacts {P : Program} {w : World} {K : PySem.W.Frag} {h : Heap} {mg : Str → Option Value} {f : Addr} (X : K.In h) (G : h.Ns mainGlobals mg) (hfa : mg ("law" : Str) = some (.ref f)) (c : He.SaysE zFa zFn K) (hx : exChk K (zCls K) = true) :
    ∃ fd : FuncData, (∀ (s : Shared) (v : Value), BindsTo s fd ⟨[v], []⟩ [("_law_script", v)]) ∧ ∀ base : Heap, K.In base → base.Ns mainGlobals mg → FnOk P w K mg base (L2.CX P w) 8 f fd ["_law_script"] (spZ (zCls K) K (WL (He.ga K "Ledger")) 1 f_law) := by
  have B : Bt mg := bt_of X G fun x hx => fact_of c (List.mem_append_right _ (List.mem_append_right _ (List.mem_append_left _ (List.mem_map.mpr ⟨x, hx, rfl⟩))))
  have F_x := exF_of hx
  have TL : LedC K (He.ga K "Ledger") := ⟨He.cls_ok (c.fact 82 (f := .cls "Ledger") rfl), He.noat_ok (c.fact 83 (f := .noat "Ledger" "rows") rfl), He.noat_ok (c.fact 84 (f := .noat "Ledger" "past") rfl)⟩
  obtain ⟨_, _, _, _, _, _, _, _, _, li1, li2⟩ := c.def_ 23 rfl
  have FI := fun_mk (x := "__init__") (st := s_Ledger___init__) li1 li2 (He.meth_ok (c.fact 86 (f := .meth "Ledger" "__init__") rfl)).kp
  have MI := He.mkr_ok (c.fact 85 (f := .mkr "Ledger") rfl)
  have GI := He.glo_ok X G (c.fact 81 (f := .glo "Ledger") rfl)
  have d_Ledger___len__ : DfM K (He.ga K "Ledger") "__len__" "Ledger.__len__" s_Ledger___len__ := dfM_of (c.fact 87 (f := .meth "Ledger" "__len__") rfl) (c.def_ 24 rfl)
  have d_Ledger_gaps : DfM K (He.ga K "Ledger") "gaps" "Ledger.gaps" s_Ledger_gaps := dfM_of (c.fact 88 (f := .meth "Ledger" "gaps") rfl) (c.def_ 25 rfl)
  have d_Ledger_sheet : DfM K (He.ga K "Ledger") "sheet" "Ledger.sheet" s_Ledger_sheet := dfM_of (c.fact 89 (f := .meth "Ledger" "sheet") rfl) (c.def_ 26 rfl)
  have d_Ledger_enter : DfM K (He.ga K "Ledger") "enter" "Ledger.enter" s_Ledger_enter := dfM_of (c.fact 90 (f := .meth "Ledger" "enter") rfl) (c.def_ 27 rfl)
  have d_Ledger_undo : DfM K (He.ga K "Ledger") "undo" "Ledger.undo" s_Ledger_undo := dfM_of (c.fact 91 (f := .meth "Ledger" "undo") rfl) (c.def_ 28 rfl)
  obtain ⟨t_MOST_ENTRY, c_MOST_ENTRY⟩ := He.int_ok X G (c.fact 64 (f := .int "MOST_ENTRY" 999) rfl)
  have E_BadSheet : ExC K mg "BadSheet" (zCls K 0) := exC_of X G (c.fact 65 (f := .glo "BadSheet") rfl) (c.fact 66 (f := .exc "BadSheet") rfl)
  have E_BadNumber : ExC K mg "BadNumber" (zCls K 3) := exC_of X G (c.fact 67 (f := .glo "BadNumber") rfl) (c.fact 68 (f := .exc "BadNumber") rfl)
  have E_NotFound : ExC K mg "NotFound" (zCls K 6) := exC_of X G (c.fact 69 (f := .glo "NotFound") rfl) (c.fact 70 (f := .exc "NotFound") rfl)
  have E_BadSums : ExC K mg "BadSums" (zCls K 2) := exC_of X G (c.fact 71 (f := .glo "BadSums") rfl) (c.fact 72 (f := .exc "BadSums") rfl)
  have E_BadTable : ExC K mg "BadTable" (zCls K 1) := exC_of X G (c.fact 73 (f := .glo "BadTable") rfl) (c.fact 74 (f := .exc "BadTable") rfl)
  have E_BadChanges : ExC K mg "BadChanges" (zCls K 4) := exC_of X G (c.fact 75 (f := .glo "BadChanges") rfl) (c.fact 76 (f := .exc "BadChanges") rfl)
  have E_BadText : ExC K mg "BadText" (zCls K 5) := exC_of X G (c.fact 77 (f := .glo "BadText") rfl) (c.fact 78 (f := .exc "BadText") rfl)
  have E_SheetError : ExC K mg "SheetError" (zCls K 7) := exC_of X G (c.fact 79 (f := .glo "SheetError") rfl) (c.fact 80 (f := .exc "SheetError") rfl)
  have d_is_int : Df K mg "is_int" s_is_int := df_of X G (c.fact 0 (f := .glo "is_int") rfl) (c.fact 23 (f := .keep "is_int") rfl) (c.def_ 0 rfl)
  have d_is_block : Df K mg "is_block" s_is_block := df_of X G (c.fact 1 (f := .glo "is_block") rfl) (c.fact 24 (f := .keep "is_block") rfl) (c.def_ 1 rfl)
  have d_is_sheet : Df K mg "is_sheet" s_is_sheet := df_of X G (c.fact 2 (f := .glo "is_sheet") rfl) (c.fact 25 (f := .keep "is_sheet") rfl) (c.def_ 2 rfl)
  have d_check_sheet : Df K mg "check_sheet" s_check_sheet := df_of X G (c.fact 3 (f := .glo "check_sheet") rfl) (c.fact 26 (f := .keep "check_sheet") rfl) (c.def_ 3 rfl)
  have d_row_gap : Df K mg "row_gap" s_row_gap := df_of X G (c.fact 4 (f := .glo "row_gap") rfl) (c.fact 27 (f := .keep "row_gap") rfl) (c.def_ 4 rfl)
  have d_rows_of : Df K mg "rows_of" s_rows_of := df_of X G (c.fact 5 (f := .glo "rows_of") rfl) (c.fact 28 (f := .keep "rows_of") rfl) (c.def_ 5 rfl)
  have d_columns_of : Df K mg "columns_of" s_columns_of := df_of X G (c.fact 6 (f := .glo "columns_of") rfl) (c.fact 29 (f := .keep "columns_of") rfl) (c.def_ 6 rfl)
  have d_Lstart : Df K mg "_law_start" s_Lstart := df_of X G (c.fact 7 (f := .glo "_law_start") rfl) (c.fact 30 (f := .keep "_law_start") rfl) (c.def_ 7 rfl)
  have d_Ldraw : Df K mg "_law_draw" s_Ldraw := df_of X G (c.fact 8 (f := .glo "_law_draw") rfl) (c.fact 31 (f := .keep "_law_draw") rfl) (c.def_ 8 rfl)
  have d_Lpick : Df K mg "_law_pick" s_Lpick := df_of X G (c.fact 9 (f := .glo "_law_pick") rfl) (c.fact 32 (f := .keep "_law_pick") rfl) (c.def_ 9 rfl)
  have d_Ltrue : Df K mg "_law_true" s_Ltrue := df_of X G (c.fact 10 (f := .glo "_law_true") rfl) (c.fact 33 (f := .keep "_law_true") rfl) (c.def_ 10 rfl)
  have d_Lgaps : Df K mg "_law_gaps" s_Lgaps := df_of X G (c.fact 11 (f := .glo "_law_gaps") rfl) (c.fact 34 (f := .keep "_law_gaps") rfl) (c.def_ 11 rfl)
  have d_Lis_right : Df K mg "_law_is_right" s_Lis_right := df_of X G (c.fact 12 (f := .glo "_law_is_right") rfl) (c.fact 35 (f := .keep "_law_is_right") rfl) (c.def_ 12 rfl)
  have d_Lall : Df K mg "_law_all" s_Lall := df_of X G (c.fact 13 (f := .glo "_law_all") rfl) (c.fact 36 (f := .keep "_law_all") rfl) (c.def_ 13 rfl)
  have d_Lput : Df K mg "_law_put" s_Lput := df_of X G (c.fact 14 (f := .glo "_law_put") rfl) (c.fact 37 (f := .keep "_law_put") rfl) (c.def_ 14 rfl)
  have d_Ltable : Df K mg "_law_table" s_Ltable := df_of X G (c.fact 15 (f := .glo "_law_table") rfl) (c.fact 38 (f := .keep "_law_table") rfl) (c.def_ 15 rfl)
  have d_Lfull : Df K mg "_law_full" s_Lfull := df_of X G (c.fact 16 (f := .glo "_law_full") rfl) (c.fact 39 (f := .keep "_law_full") rfl) (c.def_ 16 rfl)
  have d_Lsheet : Df K mg "_law_sheet" s_Lsheet := df_of X G (c.fact 17 (f := .glo "_law_sheet") rfl) (c.fact 40 (f := .keep "_law_sheet") rfl) (c.def_ 17 rfl)
  have d_check_place : Df K mg "check_place" s_check_place := df_of X G (c.fact 18 (f := .glo "check_place") rfl) (c.fact 41 (f := .keep "check_place") rfl) (c.def_ 18 rfl)
  have d_right : Df K mg "right" s_right := df_of X G (c.fact 19 (f := .glo "right") rfl) (c.fact 42 (f := .keep "right") rfl) (c.def_ 19 rfl)
  have d_Lerror : Df K mg "_law_error" s_Lerror := df_of X G (c.fact 20 (f := .glo "_law_error") rfl) (c.fact 43 (f := .keep "_law_error") rfl) (c.def_ 20 rfl)
  have d_Lcall : Df K mg "_law_call" s_Lcall := df_of X G (c.fact 21 (f := .glo "_law_call") rfl) (c.fact 44 (f := .keep "_law_call") rfl) (c.def_ 21 rfl)
  have e := hfa.symm.trans (He.glo_ok X G (c.fact 22 (f := .glo "law") rfl))
  cases e
  obtain ⟨oc, od, osl, kV, doc, pm, an, cdv, ct, l1, l2⟩ := c.def_ 22 rfl
  have F := fun_mk (x := "law") (st := s_law) l1 l2 (He.keep_ok (c.fact 45 (f := .keep "law") rfl))
  refine ⟨PySem.W.fnOf "law" "law" (defArgs s_law) (defBody s_law) (defScope s_law) .none kV doc pm an cdv ct, fun s v => .of_eq rfl, fun base _ _ => ?_⟩
  have h_is_int := k_is_int (P := P) (w := w) (base := base) (cls := zCls K) d_is_int B
  have h_is_block := k_is_block (P := P) (w := w) (base := base) (cls := zCls K) d_is_block B h_is_int
  have h_is_sheet := k_is_sheet (P := P) (w := w) (base := base) (cls := zCls K) d_is_sheet B h_is_block c_MOST_ENTRY
  have h_check_sheet := k_check_sheet (P := P) (w := w) (base := base) (cls := zCls K) d_check_sheet B h_is_sheet E_BadSheet
  have hi_Ledger := k_Ledger___init__ (P := P) (w := w) (base := base) (cls := zCls K) FI GI MI B h_check_sheet TL
  have hm___len__ := k_Ledger___len__ (P := P) (w := w) (base := base) (cls := zCls K) d_Ledger___len__ B TL
  have h_row_gap := k_row_gap (P := P) (w := w) (base := base) (cls := zCls K) d_row_gap B
  have h_rows_of := k_rows_of (P := P) (w := w) (base := base) (cls := zCls K) d_rows_of B h_row_gap
  have ho_rows_of := ko_rows_of (P := P) (w := w) (base := base) (cls := zCls K) d_rows_of B h_row_gap
  have h_columns_of := k_columns_of (P := P) (w := w) (base := base) (cls := zCls K) d_columns_of B h_row_gap
  have ho_columns_of := ko_columns_of (P := P) (w := w) (base := base) (cls := zCls K) d_columns_of B h_row_gap
  have hm_gaps := k_Ledger_gaps (P := P) (w := w) (base := base) (cls := zCls K) d_Ledger_gaps B ho_columns_of ho_rows_of TL
  have hm_sheet := k_Ledger_sheet (P := P) (w := w) (base := base) (cls := zCls K) d_Ledger_sheet B TL
  have h_Lstart := k_Lstart (P := P) (w := w) (base := base) (cls := zCls K) d_Lstart B
  have h_Ldraw := k_Ldraw (P := P) (w := w) (base := base) (cls := zCls K) d_Ldraw B
  have h_Lpick := k_Lpick (P := P) (w := w) (base := base) (cls := zCls K) d_Lpick B h_Ldraw
  have h_Ltrue := k_Ltrue (P := P) (w := w) (base := base) (cls := zCls K) d_Ltrue B
  have h_Lgaps := k_Lgaps (P := P) (w := w) (base := base) (cls := zCls K) d_Lgaps B
  have h_Lis_right := k_Lis_right (P := P) (w := w) (base := base) (cls := zCls K) d_Lis_right B h_Lgaps
  have h_Lall := k_Lall (P := P) (w := w) (base := base) (cls := zCls K) d_Lall B
  have h_Lput := k_Lput (P := P) (w := w) (base := base) (cls := zCls K) d_Lput B
  have h_Ltable := k_Ltable (P := P) (w := w) (base := base) (cls := zCls K) d_Ltable B h_Lpick h_Ldraw
  have h_Lfull := k_Lfull (P := P) (w := w) (base := base) (cls := zCls K) d_Lfull B
  have h_Lsheet := k_Lsheet (P := P) (w := w) (base := base) (cls := zCls K) d_Lsheet B h_Lfull h_Ltable h_Ldraw h_Lpick h_Lall h_Lput
  have h_check_place := k_check_place (P := P) (w := w) (base := base) (cls := zCls K) d_check_place B h_is_int E_BadNumber
  have h_right := k_right (P := P) (w := w) (base := base) (cls := zCls K) d_right B h_rows_of h_columns_of
  have hm_enter := k_Ledger_enter (P := P) (w := w) (base := base) (cls := zCls K) d_Ledger_enter B h_check_place h_is_int h_right TL E_BadNumber
  have hm_undo := k_Ledger_undo (P := P) (w := w) (base := base) (cls := zCls K) d_Ledger_undo B TL E_NotFound
  have h_Lerror := k_Lerror (P := P) (w := w) (base := base) (cls := zCls K) d_Lerror B F_x E_BadSums E_BadTable E_BadSheet E_BadChanges E_BadNumber E_NotFound E_BadText E_SheetError
  have h_Lcall := k_Lcall (P := P) (w := w) (base := base) (cls := zCls K) d_Lcall B h_Lerror hm_enter hm_undo TL F_x E_SheetError
  exact fn_law F B h_Lstart h_Lsheet h_Lput h_Ltrue h_Lis_right h_Lcall h_Lgaps h_Lpick h_Lall h_Ldraw h_is_sheet hi_Ledger hm_sheet hm_gaps hm___len__ TL
end Z

set_option Elab.async false
set_option linter.all false
set_option maxRecDepth 100000
set_option maxHeartbeats 2000000
namespace Z
open PySem
theorem small63 (k : Nat) (h : k ≤ 50) : (0 : Int) ≤ (k : Int) ∧ (k : Int) < 2 ^ 63 := ⟨by omega, Int.lt_of_le_of_lt (b := 50) (by omega) (by decide)⟩
theorem xlen_ok {fz : FZ LW} {f : XF LW} {δ : Ev} {w w1 w2 : LW} {d : D} {m : Int} (e : f δ w = .ok d w1) (hL : isLed d w1 = true) (q : fz [d] w1 = .ok (.p (.int m)) w2) (hb : 0 ≤ m ∧ m < 2 ^ 63) : xLenL fz f δ w = .ok (.p (.int m)) w2 := by
  unfold xLenL
  rw [e]
  dsimp only [Res.bind]
  rw [if_pos hL, q]
  dsimp only
  rw [if_pos hb]
theorem e_neN : gNe (.p (.str "number")) (.p (.str "number")) = some (pv false) := by kernel_rfl
theorem e_neO : gNe (.p (.str "none")) (.p (.str "none")) = some (pv false) := by kernel_rfl
section
variable {g : Rows} {cs : Chg} {n m : Nat}
theorem l09_len (A B C D' E' a b c d : Sl) (row : Rows) (past : Chg) (hl : past.length ≤ 50) (wd : Wd) : xLenL f_Ledger___len__ (xVar 5) [A, B, C, D', E', .v (.obj 2), .v (pv row), .v (pv past), a, b, c, d] (Wo wd row past) = .ok (pv (past.length : Int)) (Wo wd row past) :=
  xlen_ok rfl (isLed_wo wd row past) (p_len row past wd) (small63 past.length hl)
theorem l09_t1 (A B C D' E' : Sl) (row : Rows) (past : Chg) (hs : Sh row) (wd : Wd) (a b c d : Sl) :
    b_law_12 [A, B, C, D', E', .v (.obj 2), .v (pv row), .v (pv past), a, b, c, d] (Wo wd row past) = .nx [A, B, C, D', E', .v (.obj 2), .v (pv row), .v (pv past), a, b, c, d] (Wo wd row past) := by
  have q5 := call_bad1 row past hs wd
  have q6 := call_bad2 row past hs wd
  unfold b_law_12
  simp (disch := (first | assumption | decide | omega | (simp only [List.length_map, List.length_append, List.length_cons, List.length_nil, List.length_range, len_rg, len_enum, len_cut1]; first | assumption | omega) | (simp only [List.length_map, List.length_append, List.length_cons, List.length_nil, List.length_range, len_rg, len_enum, len_cut1, lim] at *; omega))) only [run_ev, runD_nx, runD_rt, runD_exc, runD_ite, sSeq_ev, seqD_nx, seqD_rt, seqD_exc, seqD_ite, sIf_ev, ifD_ev, xAnd_ev, xOr_ev, xChain_ev, andD_ev, orD_ev, i_and, i_or, i_ff, lim_if, lim_if2, lim_ifL, xOwn_nil, Nat.reduceAdd, Nat.reduceSub, Int.reduceEq, Int.reduceLT, Int.reduceLE, Nat.reduceLT, Nat.reduceLeDiff, Nat.zero_add, Bool.false_eq_true, decide_false, decide_true, reduceCtorEq,  i_andP, i_orP, i_ok, i_pv, t_ii, t_ib, t_il, t_it, t_bi, t_bb, t_bl, t_bt, t_li, t_lb, t_ll, t_lt, t_ti, t_tb, t_tl, t_tt, sRet, sNil, sDrop, sAsg, sRaise, xIf, x2, x1, xN, xCall, xSl, oEv, xLc, wipeZ, iOf, iOf2, xB, bAnd, bOr, bNot, bYes, lNil, lCons, sSet, xV, sFrz, sPar2, sPar3, r_bind, r_bindX, r_bindB, r_calm, r_opt, r_optB, r_int, r_bl, r_non, xVar, e_eq, e_ne, e_add, e_sub, e_cat, e_mul, e_div, e_mod, e_neg, e_not, e_lt, e_le, e_gt, e_ge, e_isB, e_asB, e_truB, e_truI, e_asI, e_oInt, e_asP, e_listOf0, e_lstOf, sExt, sApp, sFor, e_isiI, e_isiB, e_isiL, e_isiP, e_len, e_lenP, e_sum, e_max, e_min, e_max2, e_min2, e_min3, e_all, e_anyI, e_anyB, e_l1, e_l2, e_l3, e_t2, keepD_pv, keepD_p, tzD_some, e_t3, e_asPp, e_zT3, e_listL, e_ix, e_ixP0, e_ixP1, e_sl, e_rev, e_in, e_seq, e_rg, e_en, e_zp, e_zN, e_zT, e_zCons, e_zNil, e_pl, e_noObj, e_noObjP, lift_ev, liftD_ok, liftD_exc, List.all_cons, List.all_nil, iOwn, lcGo_map, lcS_pure, lcS_filt, Option.bind_some, Option.map_some, List.map_cons, List.map_nil, List.length_cons, List.length_nil, List.replicate_succ, List.replicate_zero, List.cons_append, List.nil_append, List.set_cons_zero, List.set_cons_succ, List.getElem?_cons_zero, List.getElem?_cons_succ, Bool.not_true, eq_self, not_true_eq_false, not_false_eq_true, Bool.true_xor, Bool.false_xor, Bool.not_false, Bool.not_not, Bool.true_and, Bool.and_true, Bool.false_and, Bool.and_false, Bool.true_or, Bool.or_true, Bool.or_false, Bool.false_or, decide_eq_true_eq, Bool.not_eq_true', decide_eq_false_iff_not, ne_eq, if_true, if_false, reduceIte, List.getElem?_nil, List.all_map, List.any_map, Function.id_comp, Function.comp_def, id, Bool.decide_eq_false, Bool.decide_eq_true, q5, q6, xStr, xC, e_neN]
theorem bOr_f {W : Type} {p q : XB W} {δ : Ev} {w w1 : W} {r : Res W Bool} (h1 : p δ w = .ok false w1) (h2 : q δ w1 = r) : bOr p q δ w = r := by
  unfold bOr
  rw [h1]
  exact h2
theorem l09_t2 (A B C D' E' a b c d : Sl) (row : Rows) (past : Chg) (hs : Sh row) (wd : Wd) : (xB asB (x2 gNe (xMeth0 f_Ledger_sheet (xVar 5)) (xVar 6))) [A, B, C, D', E', .v (.obj 2), .v (pv row), .v (pv past), a, b, c, d] (Wo wd row past) = .ok false (Wo wd row past) := by
  have q1 := p_sheet row past hs wd
  simp (disch := (first | assumption | decide | omega | (simp only [List.length_map, List.length_append, List.length_cons, List.length_nil, List.length_range, len_rg, len_enum, len_cut1]; first | assumption | omega) | (simp only [List.length_map, List.length_append, List.length_cons, List.length_nil, List.length_range, len_rg, len_enum, len_cut1, lim] at *; omega))) only [run_ev, runD_nx, runD_rt, runD_exc, runD_ite, sSeq_ev, seqD_nx, seqD_rt, seqD_exc, seqD_ite, sIf_ev, ifD_ev, xAnd_ev, xOr_ev, xChain_ev, andD_ev, orD_ev, i_and, i_or, i_ff, lim_if, lim_if2, lim_ifL, xOwn_nil, Nat.reduceAdd, Nat.reduceSub, Int.reduceEq, Int.reduceLT, Int.reduceLE, Nat.reduceLT, Nat.reduceLeDiff, Nat.zero_add, Bool.false_eq_true, decide_false, decide_true, reduceCtorEq,  i_andP, i_orP, i_ok, i_pv, t_ii, t_ib, t_il, t_it, t_bi, t_bb, t_bl, t_bt, t_li, t_lb, t_ll, t_lt, t_ti, t_tb, t_tl, t_tt, sRet, sNil, sDrop, sAsg, sRaise, xIf, x2, x1, xN, xCall, xSl, oEv, xLc, wipeZ, iOf, iOf2, xB, bAnd, bOr, bNot, bYes, lNil, lCons, sSet, xV, sFrz, sPar2, sPar3, r_bind, r_bindX, r_bindB, r_calm, r_opt, r_optB, r_int, r_bl, r_non, xVar, e_eq, e_ne, e_add, e_sub, e_cat, e_mul, e_div, e_mod, e_neg, e_not, e_lt, e_le, e_gt, e_ge, e_isB, e_asB, e_truB, e_truI, e_asI, e_oInt, e_asP, e_listOf0, e_lstOf, sExt, sApp, sFor, e_isiI, e_isiB, e_isiL, e_isiP, e_len, e_lenP, e_sum, e_max, e_min, e_max2, e_min2, e_min3, e_all, e_anyI, e_anyB, e_l1, e_l2, e_l3, e_t2, keepD_pv, keepD_p, tzD_some, e_t3, e_asPp, e_zT3, e_listL, e_ix, e_ixP0, e_ixP1, e_sl, e_rev, e_in, e_seq, e_rg, e_en, e_zp, e_zN, e_zT, e_zCons, e_zNil, e_pl, e_noObj, e_noObjP, lift_ev, liftD_ok, liftD_exc, List.all_cons, List.all_nil, iOwn, lcGo_map, lcS_pure, lcS_filt, Option.bind_some, Option.map_some, List.map_cons, List.map_nil, List.length_cons, List.length_nil, List.replicate_succ, List.replicate_zero, List.cons_append, List.nil_append, List.set_cons_zero, List.set_cons_succ, List.getElem?_cons_zero, List.getElem?_cons_succ, Bool.not_true, eq_self, not_true_eq_false, not_false_eq_true, Bool.true_xor, Bool.false_xor, Bool.not_false, Bool.not_not, Bool.true_and, Bool.and_true, Bool.false_and, Bool.and_false, Bool.true_or, Bool.or_true, Bool.or_false, Bool.false_or, decide_eq_true_eq, Bool.not_eq_true', decide_eq_false_iff_not, ne_eq, if_true, if_false, reduceIte, List.getElem?_nil, List.all_map, List.any_map, Function.id_comp, Function.comp_def, id, Bool.decide_eq_false, Bool.decide_eq_true, xMeth0, isLed_wo, q1]
theorem l09_t3 (A B C D' E' a b c d : Sl) (row : Rows) (past : Chg) (hs : Sh row) (wd : Wd) : (xB asB (x2 gNe (xMeth0 f_Ledger_gaps (xVar 5)) (xCall (liftZ f_Lgaps) (lCons (xVar 6) lNil)))) [A, B, C, D', E', .v (.obj 2), .v (pv row), .v (pv past), a, b, c, d] (Wo wd row past) = .ok false (Wo wd row past) := by
  have q2 := p_gaps row past hs wd
  have q4 := p_Lgaps row hs ()
  simp (disch := (first | assumption | decide | omega | (simp only [List.length_map, List.length_append, List.length_cons, List.length_nil, List.length_range, len_rg, len_enum, len_cut1]; first | assumption | omega) | (simp only [List.length_map, List.length_append, List.length_cons, List.length_nil, List.length_range, len_rg, len_enum, len_cut1, lim] at *; omega))) only [run_ev, runD_nx, runD_rt, runD_exc, runD_ite, sSeq_ev, seqD_nx, seqD_rt, seqD_exc, seqD_ite, sIf_ev, ifD_ev, xAnd_ev, xOr_ev, xChain_ev, andD_ev, orD_ev, i_and, i_or, i_ff, lim_if, lim_if2, lim_ifL, xOwn_nil, Nat.reduceAdd, Nat.reduceSub, Int.reduceEq, Int.reduceLT, Int.reduceLE, Nat.reduceLT, Nat.reduceLeDiff, Nat.zero_add, Bool.false_eq_true, decide_false, decide_true, reduceCtorEq,  i_andP, i_orP, i_ok, i_pv, t_ii, t_ib, t_il, t_it, t_bi, t_bb, t_bl, t_bt, t_li, t_lb, t_ll, t_lt, t_ti, t_tb, t_tl, t_tt, sRet, sNil, sDrop, sAsg, sRaise, xIf, x2, x1, xN, xCall, xSl, oEv, xLc, wipeZ, iOf, iOf2, xB, bAnd, bOr, bNot, bYes, lNil, lCons, sSet, xV, sFrz, sPar2, sPar3, r_bind, r_bindX, r_bindB, r_calm, r_opt, r_optB, r_int, r_bl, r_non, xVar, e_eq, e_ne, e_add, e_sub, e_cat, e_mul, e_div, e_mod, e_neg, e_not, e_lt, e_le, e_gt, e_ge, e_isB, e_asB, e_truB, e_truI, e_asI, e_oInt, e_asP, e_listOf0, e_lstOf, sExt, sApp, sFor, e_isiI, e_isiB, e_isiL, e_isiP, e_len, e_lenP, e_sum, e_max, e_min, e_max2, e_min2, e_min3, e_all, e_anyI, e_anyB, e_l1, e_l2, e_l3, e_t2, keepD_pv, keepD_p, tzD_some, e_t3, e_asPp, e_zT3, e_listL, e_ix, e_ixP0, e_ixP1, e_sl, e_rev, e_in, e_seq, e_rg, e_en, e_zp, e_zN, e_zT, e_zCons, e_zNil, e_pl, e_noObj, e_noObjP, lift_ev, liftD_ok, liftD_exc, List.all_cons, List.all_nil, iOwn, lcGo_map, lcS_pure, lcS_filt, Option.bind_some, Option.map_some, List.map_cons, List.map_nil, List.length_cons, List.length_nil, List.replicate_succ, List.replicate_zero, List.cons_append, List.nil_append, List.set_cons_zero, List.set_cons_succ, List.getElem?_cons_zero, List.getElem?_cons_succ, Bool.not_true, eq_self, not_true_eq_false, not_false_eq_true, Bool.true_xor, Bool.false_xor, Bool.not_false, Bool.not_not, Bool.true_and, Bool.and_true, Bool.false_and, Bool.and_false, Bool.true_or, Bool.or_true, Bool.or_false, Bool.false_or, decide_eq_true_eq, Bool.not_eq_true', decide_eq_false_iff_not, ne_eq, if_true, if_false, reduceIte, List.getElem?_nil, List.all_map, List.any_map, Function.id_comp, Function.comp_def, id, Bool.decide_eq_false, Bool.decide_eq_true, xMeth0, isLed_wo, q2, q4]
theorem l09_t4 (A B C D' E' a b c d : Sl) (row : Rows) (past : Chg) (hl : past.length ≤ 50) (wd : Wd) : (xB asB (x2 gNe (xLenL f_Ledger___len__ (xVar 5)) (xN gLen (lCons (xVar 7) lNil)))) [A, B, C, D', E', .v (.obj 2), .v (pv row), .v (pv past), a, b, c, d] (Wo wd row past) = .ok false (Wo wd row past) := by
  have q7 := l09_len A B C D' E' a b c d row past hl wd
  simp (disch := (first | assumption | decide | omega | (simp only [List.length_map, List.length_append, List.length_cons, List.length_nil, List.length_range, len_rg, len_enum, len_cut1]; first | assumption | omega) | (simp only [List.length_map, List.length_append, List.length_cons, List.length_nil, List.length_range, len_rg, len_enum, len_cut1, lim] at *; omega))) only [run_ev, runD_nx, runD_rt, runD_exc, runD_ite, sSeq_ev, seqD_nx, seqD_rt, seqD_exc, seqD_ite, sIf_ev, ifD_ev, xAnd_ev, xOr_ev, xChain_ev, andD_ev, orD_ev, i_and, i_or, i_ff, lim_if, lim_if2, lim_ifL, xOwn_nil, Nat.reduceAdd, Nat.reduceSub, Int.reduceEq, Int.reduceLT, Int.reduceLE, Nat.reduceLT, Nat.reduceLeDiff, Nat.zero_add, Bool.false_eq_true, decide_false, decide_true, reduceCtorEq,  i_andP, i_orP, i_ok, i_pv, t_ii, t_ib, t_il, t_it, t_bi, t_bb, t_bl, t_bt, t_li, t_lb, t_ll, t_lt, t_ti, t_tb, t_tl, t_tt, sRet, sNil, sDrop, sAsg, sRaise, xIf, x2, x1, xN, xCall, xSl, oEv, xLc, wipeZ, iOf, iOf2, xB, bAnd, bOr, bNot, bYes, lNil, lCons, sSet, xV, sFrz, sPar2, sPar3, r_bind, r_bindX, r_bindB, r_calm, r_opt, r_optB, r_int, r_bl, r_non, xVar, e_eq, e_ne, e_add, e_sub, e_cat, e_mul, e_div, e_mod, e_neg, e_not, e_lt, e_le, e_gt, e_ge, e_isB, e_asB, e_truB, e_truI, e_asI, e_oInt, e_asP, e_listOf0, e_lstOf, sExt, sApp, sFor, e_isiI, e_isiB, e_isiL, e_isiP, e_len, e_lenP, e_sum, e_max, e_min, e_max2, e_min2, e_min3, e_all, e_anyI, e_anyB, e_l1, e_l2, e_l3, e_t2, keepD_pv, keepD_p, tzD_some, e_t3, e_asPp, e_zT3, e_listL, e_ix, e_ixP0, e_ixP1, e_sl, e_rev, e_in, e_seq, e_rg, e_en, e_zp, e_zN, e_zT, e_zCons, e_zNil, e_pl, e_noObj, e_noObjP, lift_ev, liftD_ok, liftD_exc, List.all_cons, List.all_nil, iOwn, lcGo_map, lcS_pure, lcS_filt, Option.bind_some, Option.map_some, List.map_cons, List.map_nil, List.length_cons, List.length_nil, List.replicate_succ, List.replicate_zero, List.cons_append, List.nil_append, List.set_cons_zero, List.set_cons_succ, List.getElem?_cons_zero, List.getElem?_cons_succ, Bool.not_true, eq_self, not_true_eq_false, not_false_eq_true, Bool.true_xor, Bool.false_xor, Bool.not_false, Bool.not_not, Bool.true_and, Bool.and_true, Bool.false_and, Bool.and_false, Bool.true_or, Bool.or_true, Bool.or_false, Bool.false_or, decide_eq_true_eq, Bool.not_eq_true', decide_eq_false_iff_not, ne_eq, if_true, if_false, reduceIte, List.getElem?_nil, List.all_map, List.any_map, Function.id_comp, Function.comp_def, id, Bool.decide_eq_false, Bool.decide_eq_true, q7]
/-- one turn's questions -/
theorem l09_t (A B C D' E' : Sl) (row : Rows) (past : Chg) (hs : Sh row) (hl : past.length ≤ 50) (wd : Wd) (a b c d : Sl) :
    b_law_11 [A, B, C, D', E', .v (.obj 2), .v (pv row), .v (pv past), a, b, c, d] (Wo wd row past) = .nx [A, B, C, D', E', .v (.obj 2), .v (pv row), .v (pv past), a, b, c, d] (Wo wd row past) := by
  have t := bOr_f (l09_t2 A B C D' E' a b c d row past hs wd) (bOr_f (l09_t3 A B C D' E' a b c d row past hs wd) (l09_t4 A B C D' E' a b c d row past hl wd))
  unfold b_law_11
  rw [sSeq_ev, sIf_ev, t]
  exact l09_t1 A B C D' E' row past hs wd a b c d
theorem l09_b (ns : List Int) (h : St g cs n m) (row : Rows) (past : Chg) (R : Rect row n m) (hs : Sh row) (hpo : POk n m past) (hl : past.length ≤ 40) (wd : Wd) (gd : Gd wd) (a b c : Sl) :
    ∃ row' past' wd' a' b', Rect row' n m ∧ Sh row' ∧ POk n m past' ∧ past'.length ≤ past.length + 1 ∧ Gd wd' ∧
      b_law_9 [.v (.scr ns), .v (.obj 0), .v (pv g), .v (pv (sortT cs)), .v (pv (put g cs)), .v (.obj 2), .v (pv row), .v (pv past), a, b, c, .no] (Wo wd row past) =
        .nx [.v (.scr ns), .v (.obj 0), .v (pv g), .v (pv (sortT cs)), .v (pv (put g cs)), .v (.obj 2), .v (pv row'), .v (pv past'), a', b', c, .no] (Wo wd' row' past') := by
  have n0 := h.n2
  have m0 := h.m2
  have n4 := h.n4
  have m4 := h.m4
  have hn := R.n
  have hm := R.ix0 (by omega)
  have hpl : 0 < (places n m).length := List.length_pos_of_mem (mem_places.mpr ⟨⟨by show (0 : Int) ≤ 0; omega, by show (0 : Int) < n; omega⟩, by show (0 : Int) ≤ 0; omega, by show (0 : Int) < m; omega⟩ : ((0 : Int), (0 : Int)) ∈ places n m)
  have hpl2 : (places n m).length < 1000000 := by
    have := len_flat (rowPlaces m) 4 (rg 0 n) fun x _ => by rw [len_rowPlaces]; exact m4
    rw [len_rg] at this
    unfold places
    omega
  have q0 := p_Lall (put g cs) h.sh ()
  rw [h.RS.n, h.ix] at q0
  obtain ⟨p, w1, e1, hp, g1⟩ := w_pick (places n m) hpl hpl2 wd gd
  obtain ⟨r, w2, e2, hr, g2⟩ := w_draw 40 (by decide) (by decide) w1 g1
  obtain ⟨t, w3, e3, ht, g3⟩ := w_draw 3 (by decide) (by decide) w2 g2
  have s1 : liftL f_Lpick [.obj 0, pv (places n m)] (Wo wd row past) = .ok (pv p) (Wo w1 row past) := liftL_ok e1 rfl rfl
  have s2 : liftL f_Ldraw [.obj 0, pv (40 : Int)] (Wo w1 row past) = .ok (pv r) (Wo w2 row past) := liftL_ok e2 rfl rfl
  have s3 : liftL f_Ldraw [.obj 0, pv (3 : Int)] (Wo w2 row past) = .ok (pv t) (Wo w3 row past) := liftL_ok e3 rfl rfl
  have hp := mem_places.mp hp
  have hx' : InR row.length (ixD row 0).length p := by rw [hn, hm]; exact hp
  have hrx := get_en R (a := -999) (b := 999) (fun r hr y hy => hs.en r hr y hy) hp
  by_cases hc : 0 < t
  · have sh' := sh_set hs R (by omega) p hp (r - 20) (by omega)
    have q1 := call_enter row past hs p hx' (r - 20) (by omega) (by unfold lim; omega) w3
    have q2 : f_Lput [pv row, pv [(p, r - 20)]] () = .ok (pv (setRC row p.1 p.2 (r - 20))) () := p_Lput row [(p, r - 20)] n m R (by omega) (fun c hc => by rw [List.mem_singleton.mp hc]; exact hp) ()
    have q3 := p_Lis_right (setRC row p.1 p.2 (r - 20)) sh' ()
    rw [right_law] at q3
    have q4 := l09_t (.v (.scr ns)) (.v (.obj 0)) (.v (pv g)) (.v (pv (sortT cs))) (.v (pv (put g cs))) (setRC row p.1 p.2 (r - 20)) (past ++ [(p, get row p)]) sh' (by simp; omega) w3 (.v (pv p)) (.v (pv (r - 20))) c .no
    obtain ⟨⟨i1, i2⟩, i3, i4⟩ := hp
    have g1 : (ixD row p.1).length = m := R.m _ (ixD_mem (by omega))
    have e1 : ixD (ixD row p.1) p.2 = get row p := rfl
    refine ⟨setRC row p.1 p.2 (r - 20), past ++ [(p, get row p)], w3, .v (pv p), .v (pv (r - 20)), setRC_rect R _ _ _ ⟨i1, i2⟩, sh', hpo.app (c := (p, get row p)) ⟨⟨⟨i1, i2⟩, i3, i4⟩, hrx⟩, by simp, g3, ?_⟩
    unfold b_law_9 b_law_10
    simp (disch := (first | assumption | decide | omega | (simp only [List.length_map, List.length_append, List.length_cons, List.length_nil, List.length_range, len_rg, len_enum, len_cut1]; first | assumption | omega) | (simp only [List.length_map, List.length_append, List.length_cons, List.length_nil, List.length_range, len_rg, len_enum, len_cut1, lim] at *; omega))) only [run_ev, runD_nx, runD_rt, runD_exc, runD_ite, sSeq_ev, seqD_nx, seqD_rt, seqD_exc, seqD_ite, sIf_ev, ifD_ev, xAnd_ev, xOr_ev, xChain_ev, andD_ev, orD_ev, i_and, i_or, i_ff, lim_if, lim_if2, lim_ifL, xOwn_nil, Nat.reduceAdd, Nat.reduceSub, Int.reduceEq, Int.reduceLT, Int.reduceLE, Nat.reduceLT, Nat.reduceLeDiff, Nat.zero_add, Bool.false_eq_true, decide_false, decide_true, reduceCtorEq,  i_andP, i_orP, i_ok, i_pv, t_ii, t_ib, t_il, t_it, t_bi, t_bb, t_bl, t_bt, t_li, t_lb, t_ll, t_lt, t_ti, t_tb, t_tl, t_tt, sRet, sNil, sDrop, sAsg, sRaise, xIf, x2, x1, xN, xCall, xSl, oEv, xLc, wipeZ, iOf, iOf2, xB, bAnd, bOr, bNot, bYes, lNil, lCons, sSet, xV, sFrz, sPar2, sPar3, r_bind, r_bindX, r_bindB, r_calm, r_opt, r_optB, r_int, r_bl, r_non, xVar, e_eq, e_ne, e_add, e_sub, e_cat, e_mul, e_div, e_mod, e_neg, e_not, e_lt, e_le, e_gt, e_ge, e_isB, e_asB, e_truB, e_truI, e_asI, e_oInt, e_asP, e_listOf0, e_lstOf, sExt, sApp, sFor, e_isiI, e_isiB, e_isiL, e_isiP, e_len, e_lenP, e_sum, e_max, e_min, e_max2, e_min2, e_min3, e_all, e_anyI, e_anyB, e_l1, e_l2, e_l3, e_t2, keepD_pv, keepD_p, tzD_some, e_t3, e_asPp, e_zT3, e_listL, e_ix, e_ixP0, e_ixP1, e_sl, e_rev, e_in, e_seq, e_rg, e_en, e_zp, e_zN, e_zT, e_zCons, e_zNil, e_pl, e_noObj, e_noObjP, lift_ev, liftD_ok, liftD_exc, List.all_cons, List.all_nil, iOwn, lcGo_map, lcS_pure, lcS_filt, Option.bind_some, Option.map_some, List.map_cons, List.map_nil, List.length_cons, List.length_nil, List.replicate_succ, List.replicate_zero, List.cons_append, List.nil_append, List.set_cons_zero, List.set_cons_succ, List.getElem?_cons_zero, List.getElem?_cons_succ, Bool.not_true, eq_self, not_true_eq_false, not_false_eq_true, Bool.true_xor, Bool.false_xor, Bool.not_false, Bool.not_not, Bool.true_and, Bool.and_true, Bool.false_and, Bool.and_false, Bool.true_or, Bool.or_true, Bool.or_false, Bool.false_or, decide_eq_true_eq, Bool.not_eq_true', decide_eq_false_iff_not, ne_eq, if_true, if_false, reduceIte, List.getElem?_nil, List.all_map, List.any_map, Function.id_comp, Function.comp_def, id, Bool.decide_eq_false, Bool.decide_eq_true, s1, s2, s3, q0, q1, q2, q3, q4, hc, e1, p_Ltrue, and_self]
  · rcases List.eq_nil_or_concat past with hnil | ⟨past', ⟨q, v⟩, hcon⟩
    · subst hnil
      have q1 := call_undo0 row w3
      have q4 := l09_t (.v (.scr ns)) (.v (.obj 0)) (.v (pv g)) (.v (pv (sortT cs))) (.v (pv (put g cs))) row [] hs (by simp) w3 (.v (pv p)) (.v (pv (r - 20))) c .no
      refine ⟨row, [], w3, .v (pv p), .v (pv (r - 20)), R, hs, hpo, by simp, g3, ?_⟩
      unfold b_law_9 b_law_10
      simp (disch := (first | assumption | decide | omega | (simp only [List.length_map, List.length_append, List.length_cons, List.length_nil, List.length_range, len_rg, len_enum, len_cut1]; first | assumption | omega) | (simp only [List.length_map, List.length_append, List.length_cons, List.length_nil, List.length_range, len_rg, len_enum, len_cut1, lim] at *; omega))) only [run_ev, runD_nx, runD_rt, runD_exc, runD_ite, sSeq_ev, seqD_nx, seqD_rt, seqD_exc, seqD_ite, sIf_ev, ifD_ev, xAnd_ev, xOr_ev, xChain_ev, andD_ev, orD_ev, i_and, i_or, i_ff, lim_if, lim_if2, lim_ifL, xOwn_nil, Nat.reduceAdd, Nat.reduceSub, Int.reduceEq, Int.reduceLT, Int.reduceLE, Nat.reduceLT, Nat.reduceLeDiff, Nat.zero_add, Bool.false_eq_true, decide_false, decide_true, reduceCtorEq,  i_andP, i_orP, i_ok, i_pv, t_ii, t_ib, t_il, t_it, t_bi, t_bb, t_bl, t_bt, t_li, t_lb, t_ll, t_lt, t_ti, t_tb, t_tl, t_tt, sRet, sNil, sDrop, sAsg, sRaise, xIf, x2, x1, xN, xCall, xSl, oEv, xLc, wipeZ, iOf, iOf2, xB, bAnd, bOr, bNot, bYes, lNil, lCons, sSet, xV, sFrz, sPar2, sPar3, r_bind, r_bindX, r_bindB, r_calm, r_opt, r_optB, r_int, r_bl, r_non, xVar, e_eq, e_ne, e_add, e_sub, e_cat, e_mul, e_div, e_mod, e_neg, e_not, e_lt, e_le, e_gt, e_ge, e_isB, e_asB, e_truB, e_truI, e_asI, e_oInt, e_asP, e_listOf0, e_lstOf, sExt, sApp, sFor, e_isiI, e_isiB, e_isiL, e_isiP, e_len, e_lenP, e_sum, e_max, e_min, e_max2, e_min2, e_min3, e_all, e_anyI, e_anyB, e_l1, e_l2, e_l3, e_t2, keepD_pv, keepD_p, tzD_some, e_t3, e_asPp, e_zT3, e_listL, e_ix, e_ixP0, e_ixP1, e_sl, e_rev, e_in, e_seq, e_rg, e_en, e_zp, e_zN, e_zT, e_zCons, e_zNil, e_pl, e_noObj, e_noObjP, lift_ev, liftD_ok, liftD_exc, List.all_cons, List.all_nil, iOwn, lcGo_map, lcS_pure, lcS_filt, Option.bind_some, Option.map_some, List.map_cons, List.map_nil, List.length_cons, List.length_nil, List.replicate_succ, List.replicate_zero, List.cons_append, List.nil_append, List.set_cons_zero, List.set_cons_succ, List.getElem?_cons_zero, List.getElem?_cons_succ, Bool.not_true, eq_self, not_true_eq_false, not_false_eq_true, Bool.true_xor, Bool.false_xor, Bool.not_false, Bool.not_not, Bool.true_and, Bool.and_true, Bool.false_and, Bool.and_false, Bool.true_or, Bool.or_true, Bool.or_false, Bool.false_or, decide_eq_true_eq, Bool.not_eq_true', decide_eq_false_iff_not, ne_eq, if_true, if_false, reduceIte, List.getElem?_nil, List.all_map, List.any_map, Function.id_comp, Function.comp_def, id, Bool.decide_eq_false, Bool.decide_eq_true, s1, s2, s3, q0, q1, q4, hc, e_eqC, e_nil, xStr, xC, e_neO, and_self]
    · rw [List.concat_eq_append] at hcon
      subst hcon
      have hq := hpo.ok (q, v) (by simp)
      have hl' : past'.length ≤ 100 := by simp at hl; omega
      have sh' := sh_set hs R (by omega) q hq.1 v hq.2
      have q1 := call_undo row past' hs q (by rw [hn, hm]; exact hq.1) v hl' w3
      have q2 : f_Lput [pv row, pv [(q, v)]] () = .ok (pv (setRC row q.1 q.2 v)) () := p_Lput row [(q, v)] n m R (by omega) (fun c hc => by rw [List.mem_singleton.mp hc]; exact hq.1) ()
      have q4 := l09_t (.v (.scr ns)) (.v (.obj 0)) (.v (pv g)) (.v (pv (sortT cs))) (.v (pv (put g cs))) (setRC row q.1 q.2 v) past' sh' (by simp at hl; omega) w3 (.v (pv p)) (.v (pv (r - 20))) c .no
      have hne : ¬(past' ++ [(q, v)] = []) := by simp
      have e5 : ixD (past' ++ [(q, v)]) (-1) = (q, v) := ixD_last _ _
      have e6 : cut (past' ++ [(q, v)]) none (some (-1)) = past' := cut1_snoc _ _
      refine ⟨setRC row q.1 q.2 v, past', w3, .v (pv p), .v (pv (r - 20)), setRC_rect R _ _ _ hq.1.1, sh', ⟨fun x hx => hpo.ok x (by simp [hx])⟩, by simp; omega, g3, ?_⟩
      unfold b_law_9 b_law_10
      simp (disch := (first | assumption | decide | omega | (simp only [List.length_map, List.length_append, List.length_cons, List.length_nil, List.length_range, len_rg, len_enum, len_cut1]; first | assumption | omega) | (simp only [List.length_map, List.length_append, List.length_cons, List.length_nil, List.length_range, len_rg, len_enum, len_cut1, lim] at *; omega))) only [run_ev, runD_nx, runD_rt, runD_exc, runD_ite, sSeq_ev, seqD_nx, seqD_rt, seqD_exc, seqD_ite, sIf_ev, ifD_ev, xAnd_ev, xOr_ev, xChain_ev, andD_ev, orD_ev, i_and, i_or, i_ff, lim_if, lim_if2, lim_ifL, xOwn_nil, Nat.reduceAdd, Nat.reduceSub, Int.reduceEq, Int.reduceLT, Int.reduceLE, Nat.reduceLT, Nat.reduceLeDiff, Nat.zero_add, Bool.false_eq_true, decide_false, decide_true, reduceCtorEq,  i_andP, i_orP, i_ok, i_pv, t_ii, t_ib, t_il, t_it, t_bi, t_bb, t_bl, t_bt, t_li, t_lb, t_ll, t_lt, t_ti, t_tb, t_tl, t_tt, sRet, sNil, sDrop, sAsg, sRaise, xIf, x2, x1, xN, xCall, xSl, oEv, xLc, wipeZ, iOf, iOf2, xB, bAnd, bOr, bNot, bYes, lNil, lCons, sSet, xV, sFrz, sPar2, sPar3, r_bind, r_bindX, r_bindB, r_calm, r_opt, r_optB, r_int, r_bl, r_non, xVar, e_eq, e_ne, e_add, e_sub, e_cat, e_mul, e_div, e_mod, e_neg, e_not, e_lt, e_le, e_gt, e_ge, e_isB, e_asB, e_truB, e_truI, e_asI, e_oInt, e_asP, e_listOf0, e_lstOf, sExt, sApp, sFor, e_isiI, e_isiB, e_isiL, e_isiP, e_len, e_lenP, e_sum, e_max, e_min, e_max2, e_min2, e_min3, e_all, e_anyI, e_anyB, e_l1, e_l2, e_l3, e_t2, keepD_pv, keepD_p, tzD_some, e_t3, e_asPp, e_zT3, e_listL, e_ix, e_ixP0, e_ixP1, e_sl, e_rev, e_in, e_seq, e_rg, e_en, e_zp, e_zN, e_zT, e_zCons, e_zNil, e_pl, e_noObj, e_noObjP, lift_ev, liftD_ok, liftD_exc, List.all_cons, List.all_nil, iOwn, lcGo_map, lcS_pure, lcS_filt, Option.bind_some, Option.map_some, List.map_cons, List.map_nil, List.length_cons, List.length_nil, List.replicate_succ, List.replicate_zero, List.cons_append, List.nil_append, List.set_cons_zero, List.set_cons_succ, List.getElem?_cons_zero, List.getElem?_cons_succ, Bool.not_true, eq_self, not_true_eq_false, not_false_eq_true, Bool.true_xor, Bool.false_xor, Bool.not_false, Bool.not_not, Bool.true_and, Bool.and_true, Bool.false_and, Bool.and_false, Bool.true_or, Bool.or_true, Bool.or_false, Bool.false_or, decide_eq_true_eq, Bool.not_eq_true', decide_eq_false_iff_not, ne_eq, if_true, if_false, reduceIte, List.getElem?_nil, List.all_map, List.any_map, Function.id_comp, Function.comp_def, id, Bool.decide_eq_false, Bool.decide_eq_true, s1, s2, s3, q0, q1, q2, q4, hc, e_eqC, e_nil, hne, e5, e6, and_self]
end
theorem f_law_true : ∀ ns : List Int, ns.length ≤ 63 → ∃ w', f_law [.scr ns] (none, []) = .ok (.p (.bool true)) w' := by
  intro ns _
  obtain ⟨w1, e1, g1⟩ := w_start ns
  obtain ⟨g, cs, n, m, w2, e2, h, hl, g2⟩ := w_set 3 (by decide) w1 g1
  have hl : cs.length ≤ 3 := hl
  have n0 := h.n2
  have m0 := h.m2
  have n4 := h.n4
  have s1 : liftL f_Lstart [.scr ns] (none, []) = .ok (.obj 0) (w1, []) := liftL_ok e1 rfl rfl
  have s2 : liftL f_Lsheet [.obj 0, pv (3 : Int)] (w1, []) = .ok (.p (.tuple [Py.enc g, Py.enc (sortT cs), Py.enc (put g cs)])) (w2, []) := liftL_ok e2 rfl rfl
  have s3 := p_init (put g cs) h.sh w2
  obtain ⟨a, b, past, hpo, hpl, e3⟩ := l09_a ns h hl w2
  have q1 := p_sheet g past h.shg w2
  have q2 := p_gaps g past h.shg w2
  have q4 := p_Lgaps g h.shg ()
  obtain ⟨δ', w', e4, row, past', wd, a', b', c', R, hs, gd, hd, hw⟩ : ∃ δ' w', forGo (zN 10) b_law_9 ((rg 0 10).map Py.enc) [.v (.scr ns), .v (.obj 0), .v (pv g), .v (pv (sortT cs)), .v (pv (put g cs)), .v (.obj 2), .v (pv g), .v (pv past), a, b, .no, .no] (Wo w2 g past) = .nx δ' w' ∧
      ∃ row past' wd a' b' c', Rect row n m ∧ Sh row ∧ Gd wd ∧ δ' = [.v (.scr ns), .v (.obj 0), .v (pv g), .v (pv (sortT cs)), .v (pv (put g cs)), .v (.obj 2), .v (pv row), .v (pv past'), a', b', c', .no] ∧ w' = Wo wd row past' := by
    obtain ⟨δ', w', e, row, past', wd, a', b', c', h1, h2, h3, h4, h5, hd, hw⟩ := forGo_preW (W := LW) (tz := zN 10) (body := b_law_9)
      (fun p δ w => ∃ row past' wd a' b' c', Rect row n m ∧ Sh row ∧ POk n m past' ∧ past'.length ≤ 3 + p.length ∧ Gd wd ∧ δ = [.v (.scr ns), .v (.obj 0), .v (pv g), .v (pv (sortT cs)), .v (pv (put g cs)), .v (.obj 2), .v (pv row), .v (pv past'), a', b', c', .no] ∧ w = Wo wd row past')
      (rg 0 10) [] (fun p x r ex δ w ⟨row, past', wd, a', b', c', h1, h2, h3, h4, h5, hd, hw⟩ => by
        subst hd hw
        have hp : p.length ≤ 10 := by
          have := congrArg List.length ex
          simp [len_rg] at this
          omega
        obtain ⟨row2, past2, wd2, a2, b2, k1, k2, k3, k4, k5, k6⟩ := l09_b ns h row past' h1 h2 h3 (by omega) wd h5 a' b' (.v (pv x))
        exact ⟨[.v (.scr ns), .v (.obj 0), .v (pv g), .v (pv (sortT cs)), .v (pv (put g cs)), .v (.obj 2), .v (pv row), .v (pv past'), a', b', .v (pv x), .no], rfl, _, _, .inl k6, row2, past2, wd2, a2, b2, _, k1, k2, k3, by simp; omega, k5, rfl, rfl⟩)
      [.v (.scr ns), .v (.obj 0), .v (pv g), .v (pv (sortT cs)), .v (pv (put g cs)), .v (.obj 2), .v (pv g), .v (pv past), a, b, .no, .no] (Wo w2 g past) ⟨g, past, w2, a, b, _, h.R, h.shg, hpo, by simp; omega, g2, rfl, rfl⟩
    exact ⟨δ', w', e, row, past', wd, a', b', c', h1, h2, h5, hd, hw⟩
  subst hd hw
  have q5 := p_sheet row past' hs wd
  have q6 := p_is_sheet row (hs.fit (by decide)) ()
  have q7 : isSheet row = true := (isSheet_iff row).mpr hs
  rw [q7] at q6
  have lS : (put g cs).length ≤ 4 := by rw [h.RS.n]; exact n4
  refine ⟨Wo wd row past', runZ_rt ?_⟩
  show b_law [.v (.scr ns), .no, .no, .no, .no, .no, .no, .no, .no, .no, .no, .no] (none, []) = _
  unfold b_law b_law_0 b_law_1 b_law_2
  simp (disch := (first | assumption | decide | omega | (simp only [List.length_map, List.length_append, List.length_cons, List.length_nil, List.length_range, len_rg, len_enum, len_cut1]; first | assumption | omega) | (simp only [List.length_map, List.length_append, List.length_cons, List.length_nil, List.length_range, len_rg, len_enum, len_cut1, lim] at *; omega))) only [run_ev, runD_nx, runD_rt, runD_exc, runD_ite, sSeq_ev, seqD_nx, seqD_rt, seqD_exc, seqD_ite, sIf_ev, ifD_ev, xAnd_ev, xOr_ev, xChain_ev, andD_ev, orD_ev, i_and, i_or, i_ff, lim_if, lim_if2, lim_ifL, xOwn_nil, Nat.reduceAdd, Nat.reduceSub, Int.reduceEq, Int.reduceLT, Int.reduceLE, Nat.reduceLT, Nat.reduceLeDiff, Nat.zero_add, Bool.false_eq_true, decide_false, decide_true, reduceCtorEq,  i_andP, i_orP, i_ok, i_pv, t_ii, t_ib, t_il, t_it, t_bi, t_bb, t_bl, t_bt, t_li, t_lb, t_ll, t_lt, t_ti, t_tb, t_tl, t_tt, sRet, sNil, sDrop, sAsg, sRaise, xIf, x2, x1, xN, xCall, xSl, oEv, xLc, wipeZ, iOf, iOf2, xB, bAnd, bOr, bNot, bYes, lNil, lCons, sSet, xV, sFrz, sPar2, sPar3, r_bind, r_bindX, r_bindB, r_calm, r_opt, r_optB, r_int, r_bl, r_non, xVar, e_eq, e_ne, e_add, e_sub, e_cat, e_mul, e_div, e_mod, e_neg, e_not, e_lt, e_le, e_gt, e_ge, e_isB, e_asB, e_truB, e_truI, e_asI, e_oInt, e_asP, e_listOf0, e_lstOf, sExt, sApp, sFor, e_isiI, e_isiB, e_isiL, e_isiP, e_len, e_lenP, e_sum, e_max, e_min, e_max2, e_min2, e_min3, e_all, e_anyI, e_anyB, e_l1, e_l2, e_l3, e_t2, keepD_pv, keepD_p, tzD_some, e_t3, e_asPp, e_zT3, e_listL, e_ix, e_ixP0, e_ixP1, e_sl, e_rev, e_in, e_seq, e_rg, e_en, e_zp, e_zN, e_zT, e_zCons, e_zNil, e_pl, e_noObj, e_noObjP, lift_ev, liftD_ok, liftD_exc, List.all_cons, List.all_nil, iOwn, lcGo_map, lcS_pure, lcS_filt, Option.bind_some, Option.map_some, List.map_cons, List.map_nil, List.length_cons, List.length_nil, List.replicate_succ, List.replicate_zero, List.cons_append, List.nil_append, List.set_cons_zero, List.set_cons_succ, List.getElem?_cons_zero, List.getElem?_cons_succ, Bool.not_true, eq_self, not_true_eq_false, not_false_eq_true, Bool.true_xor, Bool.false_xor, Bool.not_false, Bool.not_not, Bool.true_and, Bool.and_true, Bool.false_and, Bool.and_false, Bool.true_or, Bool.or_true, Bool.or_false, Bool.false_or, decide_eq_true_eq, Bool.not_eq_true', decide_eq_false_iff_not, ne_eq, if_true, if_false, reduceIte, List.getElem?_nil, List.all_map, List.any_map, Function.id_comp, Function.comp_def, id, Bool.decide_eq_false, Bool.decide_eq_true, s1, s2, s3, xMake, e_nil]
  rw [if_pos ⟨trivial, trivial, trivial⟩, List.map_id']
  have i3 : iOf seqOf (xVar 3) [.v (.scr ns), .v (.obj 0), .v (pv g), .v (pv (sortT cs)), .v (pv (put g cs)), .v (.obj 2), .v (pv (put g cs)), .v (pv ([] : Chg)), .no, .no, .no, .no] (Wo w2 (put g cs) []) = .ok ((sortT cs).map Py.enc) (Wo w2 (put g cs) []) := rfl
  have f3 : sFor (iOf seqOf (xVar 3)) (zT 2 (zCons (zN 8) (zCons (zN 9) zNil))) b_law_4 [.v (.scr ns), .v (.obj 0), .v (pv g), .v (pv (sortT cs)), .v (pv (put g cs)), .v (.obj 2), .v (pv (put g cs)), .v (pv ([] : Chg)), .no, .no, .no, .no] (Wo w2 (put g cs) []) =
      .nx [.v (.scr ns), .v (.obj 0), .v (pv g), .v (pv (sortT cs)), .v (pv (put g cs)), .v (.obj 2), .v (pv g), .v (pv past), a, b, .no, .no] (Wo w2 g past) := by
    unfold sFor
    rw [i3]
    exact e3
  have t1 : (xB asB (x2 gNe (xMeth0 f_Ledger_sheet (xVar 5)) (xVar 2))) [.v (.scr ns), .v (.obj 0), .v (pv g), .v (pv (sortT cs)), .v (pv (put g cs)), .v (.obj 2), .v (pv g), .v (pv past), a, b, .no, .no] (Wo w2 g past) = .ok false (Wo w2 g past) := by
    simp (disch := (first | assumption | decide | omega | (simp only [List.length_map, List.length_append, List.length_cons, List.length_nil, List.length_range, len_rg, len_enum, len_cut1]; first | assumption | omega) | (simp only [List.length_map, List.length_append, List.length_cons, List.length_nil, List.length_range, len_rg, len_enum, len_cut1, lim] at *; omega))) only [run_ev, runD_nx, runD_rt, runD_exc, runD_ite, sSeq_ev, seqD_nx, seqD_rt, seqD_exc, seqD_ite, sIf_ev, ifD_ev, xAnd_ev, xOr_ev, xChain_ev, andD_ev, orD_ev, i_and, i_or, i_ff, lim_if, lim_if2, lim_ifL, xOwn_nil, Nat.reduceAdd, Nat.reduceSub, Int.reduceEq, Int.reduceLT, Int.reduceLE, Nat.reduceLT, Nat.reduceLeDiff, Nat.zero_add, Bool.false_eq_true, decide_false, decide_true, reduceCtorEq,  i_andP, i_orP, i_ok, i_pv, t_ii, t_ib, t_il, t_it, t_bi, t_bb, t_bl, t_bt, t_li, t_lb, t_ll, t_lt, t_ti, t_tb, t_tl, t_tt, sRet, sNil, sDrop, sAsg, sRaise, xIf, x2, x1, xN, xCall, xSl, oEv, xLc, wipeZ, iOf, iOf2, xB, bAnd, bOr, bNot, bYes, lNil, lCons, sSet, xV, sFrz, sPar2, sPar3, r_bind, r_bindX, r_bindB, r_calm, r_opt, r_optB, r_int, r_bl, r_non, xVar, e_eq, e_ne, e_add, e_sub, e_cat, e_mul, e_div, e_mod, e_neg, e_not, e_lt, e_le, e_gt, e_ge, e_isB, e_asB, e_truB, e_truI, e_asI, e_oInt, e_asP, e_listOf0, e_lstOf, sExt, sApp, sFor, e_isiI, e_isiB, e_isiL, e_isiP, e_len, e_lenP, e_sum, e_max, e_min, e_max2, e_min2, e_min3, e_all, e_anyI, e_anyB, e_l1, e_l2, e_l3, e_t2, keepD_pv, keepD_p, tzD_some, e_t3, e_asPp, e_zT3, e_listL, e_ix, e_ixP0, e_ixP1, e_sl, e_rev, e_in, e_seq, e_rg, e_en, e_zp, e_zN, e_zT, e_zCons, e_zNil, e_pl, e_noObj, e_noObjP, lift_ev, liftD_ok, liftD_exc, List.all_cons, List.all_nil, iOwn, lcGo_map, lcS_pure, lcS_filt, Option.bind_some, Option.map_some, List.map_cons, List.map_nil, List.length_cons, List.length_nil, List.replicate_succ, List.replicate_zero, List.cons_append, List.nil_append, List.set_cons_zero, List.set_cons_succ, List.getElem?_cons_zero, List.getElem?_cons_succ, Bool.not_true, eq_self, not_true_eq_false, not_false_eq_true, Bool.true_xor, Bool.false_xor, Bool.not_false, Bool.not_not, Bool.true_and, Bool.and_true, Bool.false_and, Bool.and_false, Bool.true_or, Bool.or_true, Bool.or_false, Bool.false_or, decide_eq_true_eq, Bool.not_eq_true', decide_eq_false_iff_not, ne_eq, if_true, if_false, reduceIte, List.getElem?_nil, List.all_map, List.any_map, Function.id_comp, Function.comp_def, id, Bool.decide_eq_false, Bool.decide_eq_true, xMeth0, isLed_wo, q1]
  have t2 : (xB asB (x2 gNe (xCall (liftZ f_Lgaps) (lCons (xMeth0 f_Ledger_sheet (xVar 5)) lNil)) (xMeth0 f_Ledger_gaps (xVar 5)))) [.v (.scr ns), .v (.obj 0), .v (pv g), .v (pv (sortT cs)), .v (pv (put g cs)), .v (.obj 2), .v (pv g), .v (pv past), a, b, .no, .no] (Wo w2 g past) = .ok false (Wo w2 g past) := by
    simp (disch := (first | assumption | decide | omega | (simp only [List.length_map, List.length_append, List.length_cons, List.length_nil, List.length_range, len_rg, len_enum, len_cut1]; first | assumption | omega) | (simp only [List.length_map, List.length_append, List.length_cons, List.length_nil, List.length_range, len_rg, len_enum, len_cut1, lim] at *; omega))) only [run_ev, runD_nx, runD_rt, runD_exc, runD_ite, sSeq_ev, seqD_nx, seqD_rt, seqD_exc, seqD_ite, sIf_ev, ifD_ev, xAnd_ev, xOr_ev, xChain_ev, andD_ev, orD_ev, i_and, i_or, i_ff, lim_if, lim_if2, lim_ifL, xOwn_nil, Nat.reduceAdd, Nat.reduceSub, Int.reduceEq, Int.reduceLT, Int.reduceLE, Nat.reduceLT, Nat.reduceLeDiff, Nat.zero_add, Bool.false_eq_true, decide_false, decide_true, reduceCtorEq,  i_andP, i_orP, i_ok, i_pv, t_ii, t_ib, t_il, t_it, t_bi, t_bb, t_bl, t_bt, t_li, t_lb, t_ll, t_lt, t_ti, t_tb, t_tl, t_tt, sRet, sNil, sDrop, sAsg, sRaise, xIf, x2, x1, xN, xCall, xSl, oEv, xLc, wipeZ, iOf, iOf2, xB, bAnd, bOr, bNot, bYes, lNil, lCons, sSet, xV, sFrz, sPar2, sPar3, r_bind, r_bindX, r_bindB, r_calm, r_opt, r_optB, r_int, r_bl, r_non, xVar, e_eq, e_ne, e_add, e_sub, e_cat, e_mul, e_div, e_mod, e_neg, e_not, e_lt, e_le, e_gt, e_ge, e_isB, e_asB, e_truB, e_truI, e_asI, e_oInt, e_asP, e_listOf0, e_lstOf, sExt, sApp, sFor, e_isiI, e_isiB, e_isiL, e_isiP, e_len, e_lenP, e_sum, e_max, e_min, e_max2, e_min2, e_min3, e_all, e_anyI, e_anyB, e_l1, e_l2, e_l3, e_t2, keepD_pv, keepD_p, tzD_some, e_t3, e_asPp, e_zT3, e_listL, e_ix, e_ixP0, e_ixP1, e_sl, e_rev, e_in, e_seq, e_rg, e_en, e_zp, e_zN, e_zT, e_zCons, e_zNil, e_pl, e_noObj, e_noObjP, lift_ev, liftD_ok, liftD_exc, List.all_cons, List.all_nil, iOwn, lcGo_map, lcS_pure, lcS_filt, Option.bind_some, Option.map_some, List.map_cons, List.map_nil, List.length_cons, List.length_nil, List.replicate_succ, List.replicate_zero, List.cons_append, List.nil_append, List.set_cons_zero, List.set_cons_succ, List.getElem?_cons_zero, List.getElem?_cons_succ, Bool.not_true, eq_self, not_true_eq_false, not_false_eq_true, Bool.true_xor, Bool.false_xor, Bool.not_false, Bool.not_not, Bool.true_and, Bool.and_true, Bool.false_and, Bool.and_false, Bool.true_or, Bool.or_true, Bool.or_false, Bool.false_or, decide_eq_true_eq, Bool.not_eq_true', decide_eq_false_iff_not, ne_eq, if_true, if_false, reduceIte, List.getElem?_nil, List.all_map, List.any_map, Function.id_comp, Function.comp_def, id, Bool.decide_eq_false, Bool.decide_eq_true, xMeth0, isLed_wo, q1, q2, q4]
  have i8 : iOf rgOf1 (xInt 10) [.v (.scr ns), .v (.obj 0), .v (pv g), .v (pv (sortT cs)), .v (pv (put g cs)), .v (.obj 2), .v (pv g), .v (pv past), a, b, .no, .no] (Wo w2 g past) = .ok ((rg 0 10).map Py.enc) (Wo w2 g past) := by
    simp (disch := (first | assumption | decide | omega | (simp only [List.length_map, List.length_append, List.length_cons, List.length_nil, List.length_range, len_rg, len_enum, len_cut1]; first | assumption | omega) | (simp only [List.length_map, List.length_append, List.length_cons, List.length_nil, List.length_range, len_rg, len_enum, len_cut1, lim] at *; omega))) only [run_ev, runD_nx, runD_rt, runD_exc, runD_ite, sSeq_ev, seqD_nx, seqD_rt, seqD_exc, seqD_ite, sIf_ev, ifD_ev, xAnd_ev, xOr_ev, xChain_ev, andD_ev, orD_ev, i_and, i_or, i_ff, lim_if, lim_if2, lim_ifL, xOwn_nil, Nat.reduceAdd, Nat.reduceSub, Int.reduceEq, Int.reduceLT, Int.reduceLE, Nat.reduceLT, Nat.reduceLeDiff, Nat.zero_add, Bool.false_eq_true, decide_false, decide_true, reduceCtorEq,  i_andP, i_orP, i_ok, i_pv, t_ii, t_ib, t_il, t_it, t_bi, t_bb, t_bl, t_bt, t_li, t_lb, t_ll, t_lt, t_ti, t_tb, t_tl, t_tt, sRet, sNil, sDrop, sAsg, sRaise, xIf, x2, x1, xN, xCall, xSl, oEv, xLc, wipeZ, iOf, iOf2, xB, bAnd, bOr, bNot, bYes, lNil, lCons, sSet, xV, sFrz, sPar2, sPar3, r_bind, r_bindX, r_bindB, r_calm, r_opt, r_optB, r_int, r_bl, r_non, xVar, e_eq, e_ne, e_add, e_sub, e_cat, e_mul, e_div, e_mod, e_neg, e_not, e_lt, e_le, e_gt, e_ge, e_isB, e_asB, e_truB, e_truI, e_asI, e_oInt, e_asP, e_listOf0, e_lstOf, sExt, sApp, sFor, e_isiI, e_isiB, e_isiL, e_isiP, e_len, e_lenP, e_sum, e_max, e_min, e_max2, e_min2, e_min3, e_all, e_anyI, e_anyB, e_l1, e_l2, e_l3, e_t2, keepD_pv, keepD_p, tzD_some, e_t3, e_asPp, e_zT3, e_listL, e_ix, e_ixP0, e_ixP1, e_sl, e_rev, e_in, e_seq, e_rg, e_en, e_zp, e_zN, e_zT, e_zCons, e_zNil, e_pl, e_noObj, e_noObjP, lift_ev, liftD_ok, liftD_exc, List.all_cons, List.all_nil, iOwn, lcGo_map, lcS_pure, lcS_filt, Option.bind_some, Option.map_some, List.map_cons, List.map_nil, List.length_cons, List.length_nil, List.replicate_succ, List.replicate_zero, List.cons_append, List.nil_append, List.set_cons_zero, List.set_cons_succ, List.getElem?_cons_zero, List.getElem?_cons_succ, Bool.not_true, eq_self, not_true_eq_false, not_false_eq_true, Bool.true_xor, Bool.false_xor, Bool.not_false, Bool.not_not, Bool.true_and, Bool.and_true, Bool.false_and, Bool.and_false, Bool.true_or, Bool.or_true, Bool.or_false, Bool.false_or, decide_eq_true_eq, Bool.not_eq_true', decide_eq_false_iff_not, ne_eq, if_true, if_false, reduceIte, List.getElem?_nil, List.all_map, List.any_map, Function.id_comp, Function.comp_def, id, Bool.decide_eq_false, Bool.decide_eq_true]
  have f8 : sFor (iOf rgOf1 (xInt 10)) (zN 10) b_law_9 [.v (.scr ns), .v (.obj 0), .v (pv g), .v (pv (sortT cs)), .v (pv (put g cs)), .v (.obj 2), .v (pv g), .v (pv past), a, b, .no, .no] (Wo w2 g past) =
      .nx [.v (.scr ns), .v (.obj 0), .v (pv g), .v (pv (sortT cs)), .v (pv (put g cs)), .v (.obj 2), .v (pv row), .v (pv past'), a', b', c', .no] (Wo wd row past') := by
    unfold sFor
    rw [i8]
    exact e4
  show b_law_3 [.v (.scr ns), .v (.obj 0), .v (pv g), .v (pv (sortT cs)), .v (pv (put g cs)), .v (.obj 2), .v (pv (put g cs)), .v (pv ([] : Chg)), .no, .no, .no, .no] (Wo w2 (put g cs) []) = _
  unfold b_law_3
  rw [sSeq_ev, f3]
  show b_law_7 _ _ = _
  unfold b_law_7
  rw [sSeq_ev, sIf_ev, bOr_f t1 t2]
  show b_law_8 _ _ = _
  unfold b_law_8
  rw [sSeq_ev, f8]
  show b_law_13 _ _ = _
  unfold b_law_13
  simp (disch := (first | assumption | decide | omega | (simp only [List.length_map, List.length_append, List.length_cons, List.length_nil, List.length_range, len_rg, len_enum, len_cut1]; first | assumption | omega) | (simp only [List.length_map, List.length_append, List.length_cons, List.length_nil, List.length_range, len_rg, len_enum, len_cut1, lim] at *; omega))) only [run_ev, runD_nx, runD_rt, runD_exc, runD_ite, sSeq_ev, seqD_nx, seqD_rt, seqD_exc, seqD_ite, sIf_ev, ifD_ev, xAnd_ev, xOr_ev, xChain_ev, andD_ev, orD_ev, i_and, i_or, i_ff, lim_if, lim_if2, lim_ifL, xOwn_nil, Nat.reduceAdd, Nat.reduceSub, Int.reduceEq, Int.reduceLT, Int.reduceLE, Nat.reduceLT, Nat.reduceLeDiff, Nat.zero_add, Bool.false_eq_true, decide_false, decide_true, reduceCtorEq,  i_andP, i_orP, i_ok, i_pv, t_ii, t_ib, t_il, t_it, t_bi, t_bb, t_bl, t_bt, t_li, t_lb, t_ll, t_lt, t_ti, t_tb, t_tl, t_tt, sRet, sNil, sDrop, sAsg, sRaise, xIf, x2, x1, xN, xCall, xSl, oEv, xLc, wipeZ, iOf, iOf2, xB, bAnd, bOr, bNot, bYes, lNil, lCons, sSet, xV, sFrz, sPar2, sPar3, r_bind, r_bindX, r_bindB, r_calm, r_opt, r_optB, r_int, r_bl, r_non, xVar, e_eq, e_ne, e_add, e_sub, e_cat, e_mul, e_div, e_mod, e_neg, e_not, e_lt, e_le, e_gt, e_ge, e_isB, e_asB, e_truB, e_truI, e_asI, e_oInt, e_asP, e_listOf0, e_lstOf, sExt, sApp, sFor, e_isiI, e_isiB, e_isiL, e_isiP, e_len, e_lenP, e_sum, e_max, e_min, e_max2, e_min2, e_min3, e_all, e_anyI, e_anyB, e_l1, e_l2, e_l3, e_t2, keepD_pv, keepD_p, tzD_some, e_t3, e_asPp, e_zT3, e_listL, e_ix, e_ixP0, e_ixP1, e_sl, e_rev, e_in, e_seq, e_rg, e_en, e_zp, e_zN, e_zT, e_zCons, e_zNil, e_pl, e_noObj, e_noObjP, lift_ev, liftD_ok, liftD_exc, List.all_cons, List.all_nil, iOwn, lcGo_map, lcS_pure, lcS_filt, Option.bind_some, Option.map_some, List.map_cons, List.map_nil, List.length_cons, List.length_nil, List.replicate_succ, List.replicate_zero, List.cons_append, List.nil_append, List.set_cons_zero, List.set_cons_succ, List.getElem?_cons_zero, List.getElem?_cons_succ, Bool.not_true, eq_self, not_true_eq_false, not_false_eq_true, Bool.true_xor, Bool.false_xor, Bool.not_false, Bool.not_not, Bool.true_and, Bool.and_true, Bool.false_and, Bool.and_false, Bool.true_or, Bool.or_true, Bool.or_false, Bool.false_or, decide_eq_true_eq, Bool.not_eq_true', decide_eq_false_iff_not, ne_eq, if_true, if_false, reduceIte, List.getElem?_nil, List.all_map, List.any_map, Function.id_comp, Function.comp_def, id, Bool.decide_eq_false, Bool.decide_eq_true, xMeth0, isLed_wo, q5, q6]
  rfl

end Z

open PySem PySem.W PySem.Calls PyProof.Rows
theorem PySem.Challenge.cw_crosssums_k09_whole_ledgers_holds : PySem.Challenge.rw_crosssums_k09_whole_ledgers.Holds := by
  w_on; o_law
  refine HandSHeadRun.head_any (r := OpenLaw.row PySem.Challenge.rw_crosssums_k09_whole_ledgers) (q := view (OpenLaw.row PySem.Challenge.rw_crosssums_k09_whole_ledgers).prog [36]) (H := Z.zHk) (ob := Z.zOb) (M := 3000) (loose := Z.zLoose) (d := HandSHeadRun.topDef (OpenLaw.row PySem.Challenge.rw_crosssums_k09_whole_ledgers).prog 36) (kwd := []) Z.zOb_eq
    (by kernel_rfl) (fun s => by kernel_rfl) Z.zRun (by kernel_rfl) (by kernel_rfl) (by kernel_rfl) (by rfl) (by first | assumption | decide +kernel) (by decide +kernel) ⟨rfl, rfl, rfl, rfl, rfl, by decide +kernel⟩ ?hw ?hc
  case hw => w_witness2
  case hc =>
    refine Z.walk_ZL (l := PySem.Challenge.rw_crosssums_k09_whole_ledgers) (k := 8) (fz := Z.f_law) rfl (by kernel_rfl) ⟨rfl, by decide, by decide⟩ ?F Z.f_law_true
    intro w mg fa h Y G hmg0
    obtain ⟨K, KX, c, hx⟩ := Y
    have hmg : mg ("law" : PySem.Str) = some (.ref fa) := by
      have e : (HandSHeadRun.topDef (OpenLaw.row PySem.Challenge.rw_crosssums_k09_whole_ledgers).prog 36).name = ("law" : PySem.Str) := by kernel_rfl
      rw [← e]
      exact hmg0
    obtain ⟨fd, hb, hF⟩ := Z.zFacts (P := (PySem.Challenge.rw_crosssums_k09_whole_ledgers).prog) (w := w) KX G hmg c hx
    exact ⟨K, He.ga K "Ledger", Z.zCls K, fd, KX, hb, hF⟩

