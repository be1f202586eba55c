import PyProof.Rows.All
import Wide.All
import OpenK.AllK
import Wide.FinOn
import HandS.ForMost
import HandS.ForExc
import HandS.IsInst
import HandS.Wide
import HandS.Lambda
import HandS.TupAny
import HandS.TupMul
import HandS.TupLe
import HandS.Style
import HandS.Zip
import HandS.Defaults
import KE.KExcSuper
import HandS.ExcField
import HandS.ExcSuper
import HandS.TryMany
import HandS.Strs
import HandS.More
import HandS.MapJoin
import HandS.RaiseMore
import KE.KRevSl
import HandS.Head0
import HandS.Head1
import HandS.Head2
import HandS.HeadEnd
import HandS.HeadHook1
import HandS.HeadHook2
import HandS.HeadHook3
import HandS.HeadHook4
import HandS.HeadWalk
import PySem.Challenge.RW_heldshares_k01_whole_kinds
set_option Elab.async false
set_option linter.all false
section
set_option maxRecDepth 100000
set_option maxHeartbeats 4000000
/-! # The data layer: what a piece of the program computes over plain data, the heap met once, here. -/
namespace DL
open PySem PySem.Spec PyProof.Rows L2

/-! ### 1. Data, slots, the world -/
/-- what a slot holds: data, the deal, any other value -/
inductive Sl where
  | d (x : PyData) | deal | raw (v : V) | exc (C : Addr) (x : PyData) | scr (ns : List Int)
/-- the deal: the great cells left, the blend -/
structure Deal where
  cells : List Int
  blend : Int
/-- the frozen part of the heap; where the deal and its list of cells stand; the caught error: where it stands, its class, its dict -/
structure Bs where
  H : Hp
  dl : Option (Addr × Addr)
  x : Option (Addr × Addr × Addr)
  tb : List (Addr × Str)
structure Bs.le (B B' : Bs) : Prop where
  h : ∀ a o, B.H a = some o → B'.H a = some o
  d : ∀ p, B.dl = some p → B'.dl = some p
  e : ∀ p, B.x = some p → B'.x = some p
  b : B'.tb = B.tb
theorem Bs.le.refl (B : Bs) : B.le B := ⟨fun _ _ h => h, fun _ h => h, fun _ h => h, rfl⟩
theorem Bs.le.trans {A B C : Bs} (x : A.le B) (y : B.le C) : A.le C := ⟨fun a o h => y.h a o (x.h a o h), fun p h => y.d p (x.d p h), fun p h => y.e p (x.e p h), y.b.trans x.b⟩
def DealAt (G : Hp) (B : Bs) (H : Hp) : Option (Addr × Addr) → Option Deal → Prop
  | some (da, l), some t => H da = some (.lst [.ref l, .int t.blend]) ∧ H l = some (.lst (t.cells.map V.int)) ∧ B.H da = none ∧ B.H l = none ∧ G da = none ∧ G l = none ∧ da ≠ l ∧ t.cells.length ≤ 1000
  | none, none => True
  | _, _ => False
/-- the tables of code objects: known, and neither frozen nor foreign -/
structure TbOk (G : Hp) (B : Bs) (H : Hp) : Prop where
  tabs : LamX.Tabs B.tb H
  nB : ∀ a ps, B.H a ≠ some (.tbl ps)
  nG : ∀ a ps, G a ≠ some (.tbl ps)
theorem tabs_lay {T : List (Addr × Str)} {H : Hp} {p : Addr} {o : HO} (t : LamX.Tabs T H) (h : H p = none) : LamX.Tabs T (upd H p o) :=
  t.ext fun b u e => by rw [upd_ne (ne_of_none e h)]; exact e
theorem tabs_chg {T : List (Addr × Str)} {H : Hp} {p : Addr} {o : HO} {vs : List V} (t : LamX.Tabs T H) (h : H p = some (.lst vs)) : LamX.Tabs T (upd H p o) := fun q hq => by
  obtain ⟨ps, h1, h2, h3⟩ := t q hq
  have n1 : q.1 ≠ p := fun z => by rw [z, h] at h1; cases h1
  refine ⟨ps, by rw [upd_ne n1]; exact h1, h2, fun pos cv hc => ?_⟩
  obtain ⟨c, e1, e2⟩ := h3 pos cv hc
  have n2 : c ≠ p := fun z => by
    rw [z, h] at e2
    unfold LamX.CodeO at e2
    cases e2
  exact ⟨c, e1, by rw [upd_ne n2]; exact e2⟩
/-- G: what is foreign and stays; B: what is frozen; H: the heap -/
structure Wd (G : Hp) (B : Bs) (H : Hp) (t : Option Deal) : Prop where
  sub : ∀ a o, B.H a = some o → H a = some o
  fgn : ∀ a o, G a = some o → H a = some o ∧ B.H a = none
  deal : DealAt G B H B.dl t
  tb : TbOk G B H

/-! data that stands in the heap: lists are tracked ones -/
mutual
inductive Dq (K : PySem.W.Frag) (H : Hp) : V → PyData → Prop
  | non : Dq K H .non .none
  | bl (b : Bool) : Dq K H (.bl b) (.bool b)
  | int (i : Int) : Dq K H (.int i) (.int i)
  | str (x : Str) : Dq K H (.str x) (.str x)
  | lst {a : Addr} {xs : List V} {ds : List PyData} : H a = some (.lst xs) → DqAll K H xs ds → Dq K H (.ref a) (.list ds)
  | tup {a : Addr} {xs : List V} {ds : List PyData} : SqT K H a xs → DqAll K H xs ds → Dq K H (.ref a) (.tuple ds)
inductive DqAll (K : PySem.W.Frag) (H : Hp) : List V → List PyData → Prop
  | nil : DqAll K H [] []
  | cons {v : V} {vs : List V} {d : PyData} {ds : List PyData} : Dq K H v d → DqAll K H vs ds → DqAll K H (v :: vs) (d :: ds)
end
mutual
theorem Dq.dp {K : PySem.W.Frag} {H : Hp} : ∀ {v : V} {x : PyData}, Dq K H v x → Dp K H v x
  | _, _, .non => .non
  | _, _, .bl b => .bl b
  | _, _, .int i => .int i
  | _, _, .str s => .str s
  | _, _, .lst h r => .lst (SqL.of h) (DqAll.dp r)
  | _, _, .tup h r => .tup h (DqAll.dp r)
theorem DqAll.dp {K : PySem.W.Frag} {H : Hp} : ∀ {vs : List V} {xs : List PyData}, DqAll K H vs xs → DpAll K H vs xs
  | _, _, .nil => .nil
  | _, _, .cons h r => .cons (Dq.dp h) (DqAll.dp r)
end
/-! data: monotone in the frozen heap -/
theorem rd_mono {H H' : Hp} (e : ∀ a o, H a = some o → H' a = some o) {a : Addr} {u : HO} (h : Rd H a u) : Rd H' a u := by
  rcases h with h | ⟨o, h⟩
  · exact .inl (e _ _ h)
  · exact .inr ⟨o, e _ _ h⟩
theorem sql_mono {K : PySem.W.Frag} {H H' : Hp} (e : ∀ a o, H a = some o → H' a = some o) {a : Addr} {xs : List V} (h : SqL K H a xs) : SqL K H' a xs := h.imp (rd_mono e) id
theorem sqt_mono {K : PySem.W.Frag} {H H' : Hp} (e : ∀ a o, H a = some o → H' a = some o) {a : Addr} {xs : List V} (h : SqT K H a xs) : SqT K H' a xs := h.imp (rd_mono e) id
mutual
theorem dp_mono {K : PySem.W.Frag} {H H' : Hp} (e : ∀ a o, H a = some o → H' a = some o) : ∀ {v : V} {x : PyData}, Dq K H v x → Dq K H' v x
  | _, _, .non => .non
  | _, _, .bl b => .bl b
  | _, _, .int i => .int i
  | _, _, .str s => .str s
  | _, _, .lst h r => .lst (e _ _ h) (dpa_mono e r)
  | _, _, .tup h r => .tup (sqt_mono e h) (dpa_mono e r)
theorem dpa_mono {K : PySem.W.Frag} {H H' : Hp} (e : ∀ a o, H a = some o → H' a = some o) : ∀ {vs : List V} {xs : List PyData}, DqAll K H vs xs → DqAll K H' vs xs
  | _, _, .nil => .nil
  | _, _, .cons h r => .cons (dp_mono e h) (dpa_mono e r)
end
def Sv (K : PySem.W.Frag) (B : Bs) (v : V) : Sl → Prop
  | .d x => Dq K B.H v x
  | .deal => ∃ da l, B.dl = some (da, l) ∧ v = .ref da
  | .raw u => v = u
  | .exc C x => ∃ a dd u, B.x = some (a, C, dd) ∧ v = .ref a ∧ B.H dd = some (.xd [(("at" : Str), u)]) ∧ Dq K B.H u x
  | .scr ns => ∃ a, v = .ref a ∧ SqL K B.H a (ns.map V.int)
theorem Sv.mono {K : PySem.W.Frag} {B B' : Bs} (e : B.le B') {v : V} : ∀ {x : Sl}, Sv K B v x → Sv K B' v x
  | .d _, h => dp_mono e.h h
  | .deal, ⟨da, l, h, q⟩ => ⟨da, l, e.d _ h, q⟩
  | .raw _, h => h
  | .exc _ _, ⟨a, dd, u, h1, h2, h3, h4⟩ => ⟨a, dd, u, e.e _ h1, h2, e.h _ _ h3, dp_mono e.h h4⟩
  | .scr _, ⟨a, h1, h2⟩ => ⟨a, h1, sql_mono e.h h2⟩
theorem DqAll.len {K : PySem.W.Frag} {H : Hp} : ∀ {vs : List V} {xs : List PyData}, DqAll K H vs xs → vs.length = xs.length
  | _, _, .nil => rfl
  | _, _, .cons _ r => by simp [DqAll.len r]
theorem DqAll.app {K : PySem.W.Frag} {H : Hp} : ∀ {vs ws : List V} {xs ys : List PyData}, DqAll K H vs xs → DqAll K H ws ys → DqAll K H (vs ++ ws) (xs ++ ys)
  | _, _, _, _, .nil, s => s
  | _, _, _, _, .cons h r, s => .cons h (DqAll.app r s)
theorem DqAll.get {K : PySem.W.Frag} {H : Hp} : ∀ {vs : List V} {xs : List PyData} {i : Nat} {x : PyData}, DqAll K H vs xs → xs[i]? = some x → ∃ v, vs[i]? = some v ∧ Dq K H v x
  | _, _, i, _, .nil, e => by simp at e
  | _, _, 0, _, .cons h _, e => by simp at e; subst e; exact ⟨_, rfl, h⟩
  | _, _, i + 1, _, .cons _ r, e => by
    obtain ⟨v, h1, h2⟩ := DqAll.get (i := i) r (by simpa using e)
    exact ⟨v, by simpa using h1, h2⟩
theorem DqAll.getV {K : PySem.W.Frag} {H : Hp} : ∀ {vs : List V} {xs : List PyData} {i : Nat} {v : V}, DqAll K H vs xs → vs[i]? = some v → ∃ x, xs[i]? = some x ∧ Dq K H v x
  | _, _, i, _, .nil, e => by simp at e
  | _, _, 0, _, .cons h _, e => by simp at e; subst e; exact ⟨_, rfl, h⟩
  | _, _, i + 1, _, .cons _ r, e => by
    obtain ⟨v, h1, h2⟩ := DqAll.getV (i := i) r (by simpa using e)
    exact ⟨v, by simpa using h1, h2⟩
theorem DqAll.take {K : PySem.W.Frag} {H : Hp} : ∀ {vs : List V} {xs : List PyData} (n : Nat), DqAll K H vs xs → DqAll K H (vs.take n) (xs.take n)
  | _, _, 0, _ => .nil
  | _, _, _ + 1, .nil => .nil
  | _, _, n + 1, .cons h r => .cons h (DqAll.take n r)
theorem DqAll.drop {K : PySem.W.Frag} {H : Hp} : ∀ {vs : List V} {xs : List PyData} (n : Nat), DqAll K H vs xs → DqAll K H (vs.drop n) (xs.drop n)
  | _, _, 0, r => r
  | _, _, _ + 1, .nil => .nil
  | _, _, n + 1, .cons _ r => DqAll.drop n r
theorem DqAll.rev {K : PySem.W.Frag} {H : Hp} : ∀ {vs : List V} {xs : List PyData}, DqAll K H vs xs → DqAll K H vs.reverse xs.reverse
  | _, _, .nil => .nil
  | _, _, .cons h r => by
    rw [List.reverse_cons, List.reverse_cons]
    exact DqAll.app (DqAll.rev r) (.cons h .nil)
theorem DqAll.eraseIdx {K : PySem.W.Frag} {H : Hp} : ∀ {vs : List V} {xs : List PyData} (n : Nat), DqAll K H vs xs → DqAll K H (vs.eraseIdx n) (xs.eraseIdx n)
  | _, _, _, .nil => .nil
  | _, _, 0, .cons _ r => r
  | _, _, n + 1, .cons h r => .cons h (DqAll.eraseIdx n r)
theorem DqAll.set {K : PySem.W.Frag} {H : Hp} {v : V} {x : PyData} (q : Dq K H v x) : ∀ {vs : List V} {xs : List PyData} (n : Nat), DqAll K H vs xs → DqAll K H (vs.set n v) (xs.set n x)
  | _, _, _, .nil => .nil
  | _, _, 0, .cons _ r => .cons q r
  | _, _, n + 1, .cons h r => .cons h (DqAll.set q n r)
theorem dpa_ints {K : PySem.W.Frag} {H : Hp} : ∀ {vs : List V} {ns : List Int}, DqAll K H vs (ns.map PyData.int) → vs = ns.map V.int
  | _, [], .nil => rfl
  | _, n :: ns, .cons h r => by
    cases h
    rw [dpa_ints r] <;> rfl
theorem dpa_bls {K : PySem.W.Frag} {H : Hp} : ∀ {vs : List V} {ns : List Bool}, DqAll K H vs (ns.map PyData.bool) → vs = ns.map V.bl
  | _, [], .nil => rfl
  | _, n :: ns, .cons h r => by
    cases h
    rw [dpa_bls r] <;> rfl
theorem dpa_strs {K : PySem.W.Frag} {H : Hp} : ∀ {vs : List V} {ns : List Str}, DqAll K H vs (ns.map PyData.str) → vs = ns.map V.str
  | _, [], .nil => rfl
  | _, n :: ns, .cons h r => by
    cases h
    rw [dpa_strs r] <;> rfl
theorem dpa_of_strs {K : PySem.W.Frag} {H : Hp} : ∀ (ns : List Str), DqAll K H (ns.map V.str) (ns.map PyData.str)
  | [] => .nil
  | n :: ns => .cons (.str n) (dpa_of_strs ns)
theorem dpa_of_ints {K : PySem.W.Frag} {H : Hp} : ∀ (ns : List Int), DqAll K H (ns.map V.int) (ns.map PyData.int)
  | [] => .nil
  | n :: ns => .cons (.int n) (dpa_of_ints ns)

/-! worlds: adding -/
def Bs.add (B : Bs) (p : Addr) (o : HO) : Bs := ⟨upd B.H p o, B.dl, B.x, B.tb⟩
theorem Bs.le_add {B : Bs} {p : Addr} {o : HO} (h : B.H p = none) : B.le (B.add p o) :=
  ⟨fun a u e => by show upd B.H p o a = _; rw [upd_ne (ne_of_none e h)]; exact e, fun _ e => e, fun _ e => e, rfl⟩
section
variable {G : Hp} {B : Bs} {H : Hp} {t : Option Deal} {p : Addr} {o : HO}
theorem Wd.nb (w : Wd G B H t) (h : H p = none) : B.H p = none := by
  cases q : B.H p with
  | none => rfl
  | some u => rw [w.sub _ _ q] at h; cases h
theorem Wd.ng (w : Wd G B H t) (h : H p = none) : G p = none := by
  cases q : G p with
  | none => rfl
  | some u => rw [(w.fgn _ _ q).1] at h; cases h
/-- p is none of the deal's -/
def Ndl (B : Bs) (p : Addr) : Prop := ∀ da l, B.dl = some (da, l) → p ≠ da ∧ p ≠ l
theorem Wd.nd (w : Wd G B H t) (h : H p = none) : Ndl B p := fun da l e => by
  have d := w.deal
  rw [e] at d
  cases t with
  | none => exact d.elim
  | some t =>
    obtain ⟨h1, h2, _⟩ := d
    exact ⟨fun z => (by rw [z, h1] at h; cases h), fun z => (by rw [z, h2] at h; cases h)⟩
/-- a new object, frozen at once -/
theorem upd_nt {B : Hp} {p : Addr} {o : HO} (h : ∀ a ps, B a ≠ some (.tbl ps)) (ho : ∀ ps, o ≠ HO.tbl ps) : ∀ a ps, upd B p o a ≠ some (.tbl ps) := fun a ps e => by
  by_cases q : a = p
  · rw [q, upd_same] at e; injection e with e; exact ho _ e
  · rw [upd_ne q] at e; exact h _ _ e
theorem Wd.new (w : Wd G B H t) (h : H p = none) (ho : ∀ ps, o ≠ HO.tbl ps := by intro _ h; cases h) : Wd G (B.add p o) (upd H p o) t := by
  have nb := w.nb h
  have ng := w.ng h
  have nd := w.nd h
  refine ⟨fun a u e => ?_, fun a u e => ?_, ?_, ⟨tabs_lay w.tb.tabs h, upd_nt w.tb.nB ho, w.tb.nG⟩⟩
  · by_cases q : a = p
    · subst q
      have e' : upd B.H a o a = some u := e
      rw [upd_same] at e'
      rw [upd_same]; exact e'
    · have e' : upd B.H p o a = some u := e
      rw [upd_ne q] at e'
      rw [upd_ne q]; exact w.sub _ _ e'
  · have q : a ≠ p := fun z => by rw [z, ng] at e; cases e
    obtain ⟨e1, e2⟩ := w.fgn _ _ e
    exact ⟨by rw [upd_ne q]; exact e1, by show upd B.H p o a = none; rw [upd_ne q]; exact e2⟩
  · have d := w.deal
    show DealAt G (B.add p o) (upd H p o) B.dl t
    cases hd : B.dl with
    | none => rw [hd] at d; cases t <;> exact d
    | some q =>
      obtain ⟨da, l⟩ := q
      rw [hd] at d
      cases t with
      | none => exact d.elim
      | some t =>
        obtain ⟨h1, h2, h3, h4, h5⟩ := d
        obtain ⟨n1, n2⟩ := nd da l hd
        exact ⟨by rw [upd_ne n1.symm]; exact h1, by rw [upd_ne n2.symm]; exact h2, by show upd B.H p o da = none; rw [upd_ne n1.symm]; exact h3, by show upd B.H p o l = none; rw [upd_ne n2.symm]; exact h4, h5⟩
/-- a new object, not frozen -/
theorem Wd.lay (w : Wd G B H t) (h : H p = none) : Wd G B (upd H p o) t := by
  have nb := w.nb h
  have ng := w.ng h
  have nd := w.nd h
  refine ⟨fun a u e => ?_, fun a u e => ?_, ?_, ⟨tabs_lay w.tb.tabs h, w.tb.nB, w.tb.nG⟩⟩
  · rw [upd_ne (ne_of_none e nb)]
    exact w.sub _ _ e
  · obtain ⟨e1, e2⟩ := w.fgn _ _ e
    exact ⟨by rw [upd_ne (ne_of_none e ng)]; exact e1, e2⟩
  · have d := w.deal
    cases hd : B.dl with
    | none => rw [hd] at d; cases t <;> exact d
    | some q =>
      obtain ⟨da, l⟩ := q
      rw [hd] at d
      cases t with
      | none => exact d.elim
      | some t =>
        obtain ⟨h1, h2, h5⟩ := d
        obtain ⟨n1, n2⟩ := nd da l hd
        exact ⟨by rw [upd_ne n1.symm]; exact h1, by rw [upd_ne n2.symm]; exact h2, h5⟩
/-- an object that is neither foreign nor frozen nor the deal's is changed -/
theorem Wd.chg {vs : List V} (w : Wd G B H t) (hl : H p = some (.lst vs)) (nb : B.H p = none) (ng : G p = none) (nd : Ndl B p) : Wd G B (upd H p o) t := by
  refine ⟨fun a u e => ?_, fun a u e => ?_, ?_, ⟨tabs_chg w.tb.tabs hl, w.tb.nB, w.tb.nG⟩⟩
  · rw [upd_ne (ne_of_none e nb)]
    exact w.sub _ _ e
  · obtain ⟨e1, e2⟩ := w.fgn _ _ e
    exact ⟨by rw [upd_ne (ne_of_none e ng)]; exact e1, e2⟩
  · have d := w.deal
    cases hd : B.dl with
    | none => rw [hd] at d; cases t <;> exact d
    | some q =>
      obtain ⟨da, l⟩ := q
      rw [hd] at d
      cases t with
      | none => exact d.elim
      | some t =>
        obtain ⟨h1, h2, h5⟩ := d
        obtain ⟨n1, n2⟩ := nd da l hd
        exact ⟨by rw [upd_ne n1.symm]; exact h1, by rw [upd_ne n2.symm]; exact h2, h5⟩
/-- an object that stands unfrozen is frozen -/
theorem Wd.frz (w : Wd G B H t) (h : H p = some o) (nb : B.H p = none) (ng : G p = none) (nd : Ndl B p) (ho : ∀ ps, o ≠ HO.tbl ps := by intro _ h; cases h) : Wd G (B.add p o) H t := by
  refine ⟨fun a u e => ?_, fun a u e => ?_, ?_, ⟨w.tb.tabs, upd_nt w.tb.nB ho, w.tb.nG⟩⟩
  · by_cases q : a = p
    · subst q
      have e' : upd B.H a o a = some u := e
      rw [upd_same] at e'
      rw [h]; exact e'
    · have e' : upd B.H p o a = some u := e
      rw [upd_ne q] at e'
      exact w.sub _ _ e'
  · have q : a ≠ p := fun z => by rw [z, ng] at e; cases e
    obtain ⟨e1, e2⟩ := w.fgn _ _ e
    exact ⟨e1, by show upd B.H p o a = none; rw [upd_ne q]; exact e2⟩
  · have d := w.deal
    show DealAt G (B.add p o) H B.dl t
    cases hd : B.dl with
    | none => rw [hd] at d; cases t <;> exact d
    | some q =>
      obtain ⟨da, l⟩ := q
      rw [hd] at d
      cases t with
      | none => exact d.elim
      | some t =>
        obtain ⟨h1, h2, h3, h4, h5⟩ := d
        obtain ⟨n1, n2⟩ := nd da l hd
        exact ⟨h1, h2, by show upd B.H p o da = none; rw [upd_ne n1.symm]; exact h3, by show upd B.H p o l = none; rw [upd_ne n2.symm]; exact h4, h5⟩
/-- less is foreign -/
theorem Wd.less {G' : Hp} (w : Wd G' B H t) (h : ∀ a o, G a = some o → G' a = some o) : Wd G B H t := by
  refine ⟨w.sub, fun a u e => w.fgn _ _ (h _ _ e), ?_, ⟨w.tb.tabs, w.tb.nB, fun a ps e => w.tb.nG a ps (h _ _ e)⟩⟩
  have d := w.deal
  have hn : ∀ a, G' a = none → G a = none := fun a n => by
    cases q : G a with
    | none => rfl
    | some u => rw [h _ _ q] at n; cases n
  cases hd : B.dl with
  | none => rw [hd] at d; cases t <;> exact d
  | some q =>
    obtain ⟨da, l⟩ := q
    rw [hd] at d
    cases t with
    | none => exact d.elim
    | some t =>
      obtain ⟨h1, h2, h3, h4, h5, h6, h7⟩ := d
      exact ⟨h1, h2, h3, h4, hn _ h5, hn _ h6, h7⟩
/-- one more is foreign -/
theorem Wd.more (w : Wd G B H t) (h : H p = some o) (nb : B.H p = none) (nd : Ndl B p) (ho : ∀ ps, o ≠ HO.tbl ps := by intro _ h; cases h) : Wd (upd G p o) B H t := by
  refine ⟨w.sub, fun a u e => ?_, ?_, ⟨w.tb.tabs, w.tb.nB, upd_nt w.tb.nG ho⟩⟩
  · by_cases q : a = p
    · subst q
      rw [upd_same] at e
      rw [h, e]
      exact ⟨rfl, nb⟩
    · rw [upd_ne q] at e
      exact w.fgn _ _ e
  · have d := w.deal
    cases hd : B.dl with
    | none => rw [hd] at d; cases t <;> exact d
    | some q =>
      obtain ⟨da, l⟩ := q
      rw [hd] at d
      cases t with
      | none => exact d.elim
      | some t =>
        obtain ⟨h1, h2, h3, h4, h5, h6, h7⟩ := d
        obtain ⟨n1, n2⟩ := nd da l hd
        exact ⟨h1, h2, h3, h4, by rw [upd_ne n1.symm]; exact h5, by rw [upd_ne n2.symm]; exact h6, h7⟩
/-- the deal is none of the foreign -/
theorem Wd.ndg (w : Wd G B H t) (h : G p = some o) : Ndl B p := fun da l e => by
  have d := w.deal
  rw [e] at d
  cases t with
  | none => exact d.elim
  | some t =>
    obtain ⟨_, _, _, _, h5, h6, _⟩ := d
    exact ⟨fun z => (by rw [z, h5] at h; cases h), fun z => (by rw [z, h6] at h; cases h)⟩
end
end DL
end
section
set_option maxRecDepth 100000
set_option maxHeartbeats 4000000
namespace DL
open PySem PySem.Spec PyProof.Rows L2

/-! ### 2. What a piece computes -/
/-- what an expression hands on: a value that stays, or «the list that slot i owns, as it will be when it is read» -/
inductive Tk where
  | v (x : Sl) | o (i : Nat)
abbrev Rho := List (Option Sl)
inductive Out (α : Type) where
  | ok (a : α) (r : Rho) (t : Option Deal)
  | ex (c : Str) (x : PyData) (t : Option Deal)
  | st
def M (α : Type) := Rho → Option Deal → Out α
def M.ret {α : Type} (a : α) : M α := fun r t => .ok a r t
def M.bind {α β : Type} (m : M α) (f : α → M β) : M β := fun r t => match m r t with
  | .ok a r' t' => f a r' t'
  | .ex c x t' => .ex c x t'
  | .st => .st
def M.st {α : Type} : M α := fun _ _ => .st
def Out.post {α : Type} (o : Out α) (Q : α → Rho → Option Deal → Prop) (XP : Str → PyData → Option Deal → Prop) : Prop := match o with
  | .ok a r t => Q a r t
  | .ex c x t => XP c x t
  | .st => False
theorem post_bind {α β : Type} {m : M α} {f : α → M β} {r : Rho} {t : Option Deal} {Q : β → Rho → Option Deal → Prop} {XP : Str → PyData → Option Deal → Prop} :
    (M.bind m f r t).post Q XP ↔ (m r t).post (fun a r' t' => (f a r' t').post Q XP) XP := by
  unfold M.bind
  cases m r t <;> exact Iff.rfl
theorem post_mono {α : Type} {o : Out α} {Q Q' : α → Rho → Option Deal → Prop} {XP : Str → PyData → Option Deal → Prop} (h : o.post Q XP) (f : ∀ a r t, Q a r t → Q' a r t) : o.post Q' XP := by
  cases o with
  | ok a r t => exact f _ _ _ h
  | ex c x t => exact h
  | st => exact h

/-! the slots -/
def Live (r : Rho) (i : Nat) : Prop := ∃ x, r[i]? = some (some x)
structure Sls (K : PySem.W.Frag) (ow : List Nat) (G : Hp) (B : Bs) (H : Hp) (σ : L2.St) (r : Rho) : Prop where
  len : σ.length = r.length
  var : ∀ i x, r[i]? = some (some x) → i ∉ ow → ∃ v, σ[i]? = some (some v) ∧ Sv K B v x
  own : ∀ i x, r[i]? = some (some x) → i ∈ ow → ∃ (ds : List PyData) (p : Addr) (vs : List V), x = .d (.list ds) ∧ σ[i]? = some (some (.ref p)) ∧ H p = some (.lst vs) ∧ DqAll K B.H vs ds ∧ B.H p = none ∧ G p = none ∧ Ndl B p
  dis : ∀ i j p, i ∈ ow → j ∈ ow → i ≠ j → Live r i → Live r j → σ[i]? = some (some (.ref p)) → σ[j]? ≠ some (some (.ref p))
def Tv (K : PySem.W.Frag) (B : Bs) (ow : List Nat) (σ : L2.St) (v : V) : Tk → Prop
  | .v x => Sv K B v x
  | .o i => i ∈ ow ∧ σ[i]? = some (some v)
theorem Tv.mono {K : PySem.W.Frag} {B B' : Bs} {ow : List Nat} {σ : L2.St} (e : B.le B') {v : V} : ∀ {x : Tk}, Tv K B ow σ v x → Tv K B' ow σ v x
  | .v _, h => Sv.mono e h
  | .o _, h => h
/-- what the whole text tells: the errors' classes by name; the tables of code objects -/
structure Ec where
  f : Str → Option Addr
  tb : List (Addr × Str)
/-- an error of the class named c, its «at» being x -/
def XOk (K : PySem.W.Frag) (ec : Ec) (G : Hp) (B : Bs) (E : XK) (XP : Str → PyData → Option Deal → Prop) : Prop :=
  B.tb = ec.tb ∧ ∀ (c : Str) (x : PyData) (t : Option Deal) (B' : Bs) (H' : Hp) (C dd : Addr) (v : V), XP c x t → B.le B' → Wd G B' H' t → ec.f c = some C → B'.H dd = some (.xd [(("at" : Str), v)]) → Dq K B'.H v x → E (.ref C) (some dd) H'
theorem XOk.mono {K : PySem.W.Frag} {ec : Ec} {G : Hp} {B B' : Bs} {E : XK} {XP : Str → PyData → Option Deal → Prop} (e : B.le B') (h : XOk K ec G B E XP) : XOk K ec G B' E XP :=
  ⟨e.b.trans h.1, fun c x t B2 H2 C dd v a b d f g i => h.2 c x t B2 H2 C dd v a (e.trans b) d f g i⟩
theorem XOk.less {K : PySem.W.Frag} {ec : Ec} {G G' : Hp} {B : Bs} {E : XK} {XP : Str → PyData → Option Deal → Prop} (e : ∀ a o, G a = some o → G' a = some o) (h : XOk K ec G B E XP) : XOk K ec G' B E XP :=
  ⟨h.1, fun c x t B2 H2 C dd v a b d f g i => h.2 c x t B2 H2 C dd v a b (d.less e) f g i⟩
/-- the owned lists pushed among the foreign -/
theorem Sls.push {K : PySem.W.Frag} {ow : List Nat} {G : Hp} {B : Bs} {H : Hp} {σ : L2.St} {r : Rho} {t : Option Deal} (w : Wd G B H t) (s : Sls K ow G B H σ r) :
    ∃ G' : Hp, Wd G' B H t ∧ (∀ a o, G a = some o → G' a = some o) ∧ (∀ i p, i ∈ ow → Live r i → σ[i]? = some (some (.ref p)) → G' p = H p) ∧
      (∀ (B' : Bs) (H' : Hp) (t' : Option Deal), B.le B' → Wd G' B' H' t' → Wd G B' H' t' ∧ Sls K ow G B' H' σ r) := by
  classical
  let own : Addr → Prop := fun a => ∃ i, i ∈ ow ∧ Live r i ∧ σ[i]? = some (some (.ref a))
  have hown : ∀ a, own a → ∃ (ds : List PyData) (vs : List V), H a = some (.lst vs) ∧ DqAll K B.H vs ds ∧ B.H a = none ∧ G a = none ∧ Ndl B a := fun a ⟨i, hi, ⟨x, hx⟩, hs⟩ => by
    obtain ⟨ds, p, vs, _, h2, h3, h4, h5, h6, h7⟩ := s.own i x hx hi
    rw [hs] at h2
    have e : a = p := by injection h2 with h2; injection h2 with h2; injection h2
    subst e
    exact ⟨ds, vs, h3, h4, h5, h6, h7⟩
  let G' : Hp := fun a => if own a then H a else G a
  have gG : ∀ a o, G a = some o → G' a = some o := fun a o e => by
    have n : ¬ own a := fun q => by
      obtain ⟨_, _, _, _, _, z, _⟩ := hown a q
      rw [z] at e; cases e
    show (if own a then H a else G a) = some o
    rw [if_neg n]; exact e
  have gO : ∀ a, own a → G' a = H a := fun a q => if_pos q
  have w' : Wd G' B H t := by
    refine ⟨w.sub, fun a u e => ?_, ?_, ⟨w.tb.tabs, w.tb.nB, fun a ps e => ?_⟩⟩
    rotate_left 2
    · by_cases q : own a
      · rw [gO a q] at e
        obtain ⟨_, _, z, _⟩ := hown a q
        rw [z] at e; cases e
      · have e' : (if own a then H a else G a) = some (.tbl ps) := e
        rw [if_neg q] at e'
        exact w.tb.nG _ _ e'
    · by_cases q : own a
      · rw [gO a q] at e
        obtain ⟨_, _, _, _, z, _⟩ := hown a q
        exact ⟨e, z⟩
      · have e' : (if own a then H a else G a) = some u := e
        rw [if_neg q] at e'
        exact w.fgn _ _ e'
    · have d := w.deal
      have hn : ∀ a, G a = none → ¬ own a → G' a = none := fun a n q => by
        show (if own a then H a else G a) = none
        rw [if_neg q]; exact n
      cases hd : B.dl with
      | none => rw [hd] at d; cases t <;> exact d
      | some q =>
        obtain ⟨da, l⟩ := q
        rw [hd] at d
        cases t with
        | none => exact d.elim
        | some t =>
          obtain ⟨h1, h2, h3, h4, h5, h6, h7⟩ := d
          refine ⟨h1, h2, h3, h4, hn _ h5 fun q => ?_, hn _ h6 fun q => ?_, h7⟩
          · obtain ⟨_, _, _, _, _, _, z⟩ := hown _ q
            exact (z da l hd).1 rfl
          · obtain ⟨_, _, _, _, _, _, z⟩ := hown _ q
            exact (z da l hd).2 rfl
  refine ⟨G', w', gG, fun i p hi hl hs => gO p ⟨i, hi, hl, hs⟩, fun B' H' t' le w2 => ⟨w2.less gG, s.len, fun i x hx hi => ?_, fun i x hx hi => ?_, s.dis⟩⟩
  · obtain ⟨v, h1, h2⟩ := s.var i x hx hi
    exact ⟨v, h1, h2.mono le⟩
  · obtain ⟨ds, p, vs, h1, h2, h3, h4, h5, h6, h7⟩ := s.own i x hx hi
    have g : G' p = some (.lst vs) := by rw [gO p ⟨i, hi, ⟨x, hx⟩, h2⟩]; exact h3
    obtain ⟨a1, a2⟩ := w2.fgn _ _ g
    exact ⟨ds, p, vs, h1, h2, a1, dpa_mono le.h h4, a2, h6, w2.ndg g⟩

/-- what the layer knows of the text: the errors' classes by name; the slots that own their lists; what is wished of an error -/
structure Cd where
  ec : Ec
  ow : List Nat
  E : XK
abbrev XQ := Str → PyData → Option Deal → Prop

def RfE (K : PySem.W.Frag) (c : Cd) (te : TE) (m : M Tk) : Prop := ∀ (G : Hp) (B : Bs) (H : Hp) (σ : L2.St) (r : Rho) (t : Option Deal) (Q : VK) (XP : XQ), Wd G B H t → Sls K c.ow G B H σ r → XOk K c.ec G B c.E XP →
  (m r t).post (fun x r' t' => ∀ (v : V) (B' : Bs) (H' : Hp), B.le B' → Wd G B' H' t' → Sls K c.ow G B' H' σ r' → Tv K B' c.ow σ v x → Q v H') XP → te σ H Q
def RfT (K : PySem.W.Frag) (c : Cd) (tt : TT) (m : M Bool) : Prop := ∀ (G : Hp) (B : Bs) (H : Hp) (σ : L2.St) (r : Rho) (t : Option Deal) (Q : Bool → Hp → Prop) (XP : XQ), Wd G B H t → Sls K c.ow G B H σ r → XOk K c.ec G B c.E XP →
  (m r t).post (fun b r' t' => ∀ (B' : Bs) (H' : Hp), B.le B' → Wd G B' H' t' → Sls K c.ow G B' H' σ r' → Q b H') XP → tt σ H Q
def TvA (K : PySem.W.Frag) (B : Bs) (ow : List Nat) (σ : L2.St) : List V → List Tk → Prop
  | [], [] => True
  | v :: vs, x :: xs => Tv K B ow σ v x ∧ TvA K B ow σ vs xs
  | _, _ => False
theorem TvA.mono {K : PySem.W.Frag} {B B' : Bs} {ow : List Nat} {σ : L2.St} (e : B.le B') : ∀ {vs : List V} {xs : List Tk}, TvA K B ow σ vs xs → TvA K B' ow σ vs xs
  | [], [], _ => True.intro
  | _ :: _, _ :: _, h => ⟨h.1.mono e, TvA.mono e h.2⟩
  | [], _ :: _, h => h
  | _ :: _, [], h => h
def RfA (K : PySem.W.Frag) (c : Cd) (ta : TA) (m : M (List Tk)) : Prop := ∀ (G : Hp) (B : Bs) (H : Hp) (σ : L2.St) (r : Rho) (t : Option Deal) (Q : List V → Hp → Prop) (XP : XQ), Wd G B H t → Sls K c.ow G B H σ r → XOk K c.ec G B c.E XP →
  (m r t).post (fun xs r' t' => ∀ (vs : List V) (B' : Bs) (H' : Hp), B.le B' → Wd G B' H' t' → Sls K c.ow G B' H' σ r' → TvA K B' c.ow σ vs xs → Q vs H') XP → ta σ H Q
/-- how a statement ends -/
inductive Fl where
  | nx | bk | ct | rt (x : Sl)
def EndOk (K : PySem.W.Frag) (ow : List Nat) (G : Hp) (B : Bs) (D : Ends) (r' : Rho) (t' : Option Deal) : Fl → Prop
  | .nx => ∀ (σ' : L2.St) (B' : Bs) (H' : Hp), B.le B' → Wd G B' H' t' → Sls K ow G B' H' σ' r' → D.nx σ' H'
  | .bk => ∀ (σ' : L2.St) (B' : Bs) (H' : Hp), B.le B' → Wd G B' H' t' → Sls K ow G B' H' σ' r' → D.bk σ' H'
  | .ct => ∀ (σ' : L2.St) (B' : Bs) (H' : Hp), B.le B' → Wd G B' H' t' → Sls K ow G B' H' σ' r' → D.ct σ' H'
  | .rt x => ∀ (v : V) (B' : Bs) (H' : Hp), B.le B' → Wd G B' H' t' → Sv K B' v x → D.rt v H'
def RfS (K : PySem.W.Frag) (c : Cd) (ts : TS) (m : M Fl) : Prop := ∀ (G : Hp) (B : Bs) (H : Hp) (σ : L2.St) (r : Rho) (t : Option Deal) (D : Ends) (XP : XQ), Wd G B H t → Sls K c.ow G B H σ r → XOk K c.ec G B c.E XP →
  (m r t).post (fun f r' t' => EndOk K c.ow G B D r' t' f) XP → ts D σ H
theorem EndOk.mono {K : PySem.W.Frag} {ow : List Nat} {G : Hp} {B B' : Bs} {D : Ends} {r' : Rho} {t' : Option Deal} (e : B.le B') : ∀ {f : Fl}, EndOk K ow G B D r' t' f → EndOk K ow G B' D r' t' f
  | .nx, h => fun σ' B2 H' a => h σ' B2 H' (e.trans a)
  | .bk, h => fun σ' B2 H' a => h σ' B2 H' (e.trans a)
  | .ct, h => fun σ' B2 H' a => h σ' B2 H' (e.trans a)
  | .rt x, h => fun v B2 H' a => h v B2 H' (e.trans a)

/-! with the text -/
structure PED (X : Cx) (c : Cd) (e : Expr) (te : TE) (m : M Tk) : Prop where
  p : PE X e te
  k : RfE X.K c te m
structure PTD (X : Cx) (c : Cd) (e : Expr) (tt : TT) (m : M Bool) : Prop where
  p : PT X e tt
  k : RfT X.K c tt m
structure PAD (X : Cx) (c : Cd) (es : List Expr) (ta : TA) (m : M (List Tk)) : Prop where
  p : PA X es ta
  k : RfA X.K c ta m
structure PSD (X : Cx) (c : Cd) (s : Stmt) (ts : TS) (m : M Fl) : Prop where
  p : PS X s ts
  k : RfS X.K c ts m
structure PSsD (X : Cx) (c : Cd) (s : List Stmt) (ts : TS) (m : M Fl) : Prop where
  p : PSs X s ts
  k : RfS X.K c ts m

/-! ### 3. Names, constants, reading a token -/
section
variable {X : Cx} {c : Cd}
def mVar (ow : List Nat) (i : Nat) : M Tk := fun r t => match r[i]? with
  | some (some x) => if i ∈ ow then .ok (.o i) r t else .ok (.v x) r t
  | _ => .st
def mK (x : Sl) : M Tk := M.ret (.v x)
theorem rf_var {K : PySem.W.Frag} {i : Nat} : RfE K c (tVar i) (mVar c.ow i) := by
  intro G B H σ r t Q XP w s _ p
  unfold mVar at p
  cases h : r[i]? with
  | none => rw [h] at p; exact p.elim
  | some o =>
    cases o with
    | none => rw [h] at p; exact p.elim
    | some x =>
      rw [h] at p
      simp only at p
      by_cases q : i ∈ c.ow
      · rw [if_pos q] at p
        obtain ⟨ds, a, vs, _, h2, _⟩ := s.own i x h q
        exact ⟨_, h2, p _ B H (Bs.le.refl B) w s ⟨q, h2⟩⟩
      · rw [if_neg q] at p
        obtain ⟨v, h1, h2⟩ := s.var i x h q
        exact ⟨v, h1, p v B H (Bs.le.refl B) w s h2⟩
theorem rf_c {K : PySem.W.Frag} {v : V} {x : Sl} (h : ∀ B, Sv K B v x) : RfE K c (tC v) (mK x) := fun G B H σ r t Q XP w s _ p => p v B H (Bs.le.refl B) w s (h B)
theorem pd_var (i : Nat) {x : Str} {pos : Pos} (hN : X.N[i]? = some x := by rfl) (hv : Vis X.env.scope x := by first | exact Or.inl rfl | exact Or.inr (Or.inl rfl) | exact Or.inr (Or.inr rfl)) (hd : (x == ("__debug__" : Str)) = false := by decide)
    (hcd : (x == ("__classdict__" : Str)) = false := by decide) : PED X c (.Name x pos) (tVar i) (mVar c.ow i) := ⟨pe_var hN hv hd hcd, rf_var⟩
theorem pd_int {i : Int} {j : Nat} {pos : Pos} : PED X c (.Constant (.int i) j pos) (tC (.int i)) (mK (.d (.int i))) := ⟨pe_int, rf_c fun _ => .int i⟩
theorem pd_bl {b : Bool} {j : Nat} {pos : Pos} : PED X c (.Constant (.bool b) j pos) (tC (.bl b)) (mK (.d (.bool b))) := ⟨pe_bl, rf_c fun _ => .bl b⟩
theorem pd_non {j : Nat} {pos : Pos} : PED X c (.Constant .none j pos) (tC .non) (mK (.d .none)) := ⟨pe_non, rf_c fun _ => .non⟩
theorem pd_str {z : Str} {j : Nat} {pos : Pos} : PED X c (.Constant (.str z) j pos) (tC (.str z)) (mK (.d (.str z))) := ⟨pe_str, rf_c fun _ => .str z⟩
/-- a module's constant: written data -/
theorem pd_glob {x : Str} {v : V} {u : Value} {d : PyData} {pos : Pos} (hg : Gl X x) (hm : X.mg x = some u) (r : RelV v u) (hd : ∀ H, Dq X.K H v d) (hdb : (x == ("__debug__" : Str)) = false := by decide) : PED X c (.Name x pos) (tC v) (mK (.d d)) :=
  ⟨pe_glob hg hm r hdb, rf_c fun B => hd B.H⟩
/-- a class, a def, as a value -/
theorem pd_globR {x : Str} {v : V} {u : Value} {pos : Pos} (hg : Gl X x) (hm : X.mg x = some u) (r : RelV v u) (hdb : (x == ("__debug__" : Str)) = false := by decide) : PED X c (.Name x pos) (tC v) (mK (.raw v)) :=
  ⟨pe_glob hg hm r hdb, rf_c fun _ => rfl⟩
theorem pd_blt {x : Str} {v : V} {u : Value} {pos : Pos} (hg : Gl X x) (hm : X.mg x = none) (hv : bootBuiltins x = some u) (r : RelV v u) (hn : x ≠ "__name__" := by decide) (hdb : (x == ("__debug__" : Str)) = false := by decide) : PED X c (.Name x pos) (tC v) (mK (.raw v)) :=
  ⟨pe_bltn hg hm hv r hn hdb, rf_c fun _ => rfl⟩

/-- what is read now -/
def use (k : Tk) : M Sl := fun r t => match k with
  | .v x => .ok x r t
  | .o i => match r[i]? with
    | some (some x) => .ok x r t
    | _ => .st
/-- what is kept: no owned list -/
def keep (k : Tk) : M Sl := fun r t => match k with
  | .v x => .ok x r t
  | .o _ => .st
/-- the content of a value as it stands in H -/
def Bw (K : PySem.W.Frag) (B : Bs) (H : Hp) (v : V) (x : Sl) : Prop :=
  Sv K B v x ∨ ∃ (p : Addr) (vs : List V) (ds : List PyData), v = .ref p ∧ x = .d (.list ds) ∧ H p = some (.lst vs) ∧ DqAll K B.H vs ds
/-- a token's content, all owned lists being foreign -/
theorem use_ok {K : PySem.W.Frag} {ow : List Nat} {G : Hp} {B : Bs} {H : Hp} {σ : L2.St} {r : Rho} {t : Option Deal} {v : V} {k : Tk} {Q : Sl → Rho → Option Deal → Prop} {XP : XQ} (s : Sls K ow G B H σ r) (h : Tv K B ow σ v k) (p : (use k r t).post Q XP) :
    ∃ x, Bw K B H v x ∧ Q x r t := by
  cases k with
  | v x => exact ⟨x, .inl h, p⟩
  | o i =>
    obtain ⟨hi, hs⟩ := h
    unfold use at p
    simp only at p
    cases hr : r[i]? with
    | none => rw [hr] at p; exact p.elim
    | some o =>
      cases o with
      | none => rw [hr] at p; exact p.elim
      | some x =>
        rw [hr] at p
        obtain ⟨ds, a, vs, h1, h2, h3, h4, _⟩ := s.own i x hr hi
        rw [hs] at h2
        have e : v = .ref a := by injection h2 with h2; injection h2
        exact ⟨x, .inr ⟨a, vs, ds, e, h1, h3, h4⟩, p⟩
theorem keep_ok {K : PySem.W.Frag} {ow : List Nat} {B : Bs} {σ : L2.St} {r : Rho} {t : Option Deal} {v : V} {k : Tk} {Q : Sl → Rho → Option Deal → Prop} {XP : XQ} (h : Tv K B ow σ v k) (p : (keep k r t).post Q XP) :
    ∃ x, Sv K B v x ∧ Q x r t := by
  cases k with
  | v x => exact ⟨x, h, p⟩
  | o i => exact p.elim
end
end DL
end
section
set_option maxRecDepth 100000
set_option maxHeartbeats 4000000
/-! # tuple * k, k = 1 (the same object) and up to 100,000 -/
namespace DL
open PySem PySem.Spec PyProof.Rows L2
theorem tuple_mul1 (l : Addr) (items : Array Value) (n : Nat) (u : Tok) (dd : Option Addr) (sl : Array (Option Value)) (h0 : items.isEmpty = false) :
    Meets (Builtin.«tuple.__mul__» ⟨[.ref l, .int 1 u], []⟩) (fun _ R s => s.heap.get? l = some { cls := .type "tuple", dict := dd, data := .seq items n, slots := sl } ∧
      R (.ok (.ret (Value.ref l))) s) :=
  .of_wp fun prog w A R s h => by
    obtain ⟨hp, g, d, tk, os⟩ := s
    obtain ⟨hl, h⟩ := h
    have f1 := AutoSeq1.idx_int
    wp_walk using wpAny_loadPart' hl
    repeat (first
      | (refine wpAny_ite_false (decide_eq_false (by decide)) ?_; wp_walk using wpAny_loadPart' hl)
      | (refine wpAny_ite_true (decide_eq_true (by simp)) ?_; wp_walk using wpAny_loadPart' hl))
    exact ⟨_, rfl, h⟩
def rRepT2 (K : PySem.W.Frag) : R2 := fun x y H Q => ∃ l k xs, x = .ref l ∧ y = .int k ∧ SqT K H l xs ∧ xs ≠ [] ∧ 1 ≤ k ∧ k ≤ 100000 ∧ xs.length * k.toNat ≤ 1000000 ∧ (k = 1 → Q (.ref l) H) ∧ (k ≠ 1 → ∀ p, H p = none → Q (.ref p) (upd H p (.tup (List.replicate k.toNat xs).flatten)))
theorem op_repT2 {X : Cx} : OpR X (binaryOp .Mult) (rRepT2 X.K) := by
  intro pins s σ H x y v u Q I rx ry h
  obtain ⟨l, k, xs, rfl, rfl, hT, hne, h1, h2, hz, q1, q2⟩ := h
  cases rx
  obtain ⟨t, rfl⟩ := ry
  obtain ⟨its, r, ⟨⟨cls, dd, data, sl⟩, ho, hc, n, hd⟩, hs⟩ := I.tuple hT
  simp only at hc hd
  subst hc hd
  have hle : its.length = xs.length := r.length.symm
  have hn : its ≠ [] := fun e => hne (by
    rw [e] at hle
    exact List.eq_nil_of_length_eq_zero hle.symm)
  have hi : its.toArray.isEmpty = false := by
    cases its with
    | nil => exact absurd rfl hn
    | cons a b => rfl
  have hfs := F.fills_int_mul
  by_cases hk : k = 1
  · subst hk
    refine wpAny_binaryOp_repeat_ref (T := "tuple") (U := "int") (by decide) ⟨_, ho, rfl⟩ (fun s' => typeIs_int s' 1 t) noFill_tuple_mul F.fills_int_mul F.slot_int_rmul repeat_tuple F.slot_int_index.lookup
      (call_meets F.slot_int_rmul (typeIs_int s 1 t) F.entry_int_rmul (F.args_int_rmul_2 _ _) (int_rmul_tuple 1 t l its.toArray n dd sl)
        ⟨ho, rfl, ⟨_, ho, rfl⟩, call_meets F.slot_tuple_mul ⟨_, ho, rfl⟩ F.entry_tuple_mul (F.args_tuple_mul_2 _ _) (tuple_mul1 l its.toArray n t dd sl hi) ⟨ho, ?_⟩⟩)
    exact ⟨.ref l, H, I, rfl, q1 rfl⟩
  · have hsz0 : its.toArray.size = xs.length := by rw [List.size_toArray, hle]
    have hkn : ((k.toNat : Nat) : Int) = k := Int.toNat_of_nonneg (by omega)
    have hm : ((its.toArray.size : Nat) : Int) * k ≤ 1000000 := by
      rw [hsz0, ← hkn, ← Int.natCast_mul]
      omega
    have c0 : (decide (k < -(2 ^ 63)) || decide (k ≥ 2 ^ 63)) = false := by
      rw [decide_eq_false (by omega), decide_eq_false (by omega)] <;> rfl
    have c1 : (its.toArray.isEmpty || k == 1) = false := by
      rw [hi, Bool.false_or]
      exact beq_eq_false_iff_ne.mpr hk
    have c2 : (decide (k ≤ 0) || its.toArray.isEmpty) = false := by
      rw [hi, Bool.or_false]
      exact decide_eq_false (by omega)
    have c4 : Builtin.Tuple.tupleTooMany (((its.toArray.size : Nat) : Int) * k) = false := by
      unfold Builtin.Tuple.tupleTooMany
      rw [sizeLine_eq]
      exact decide_eq_false (by omega)
    have fl : (List.replicate k.toNat xs).flatten.length ≤ sizeLine := by
      rw [PyProof.Rows.lm_len_rep_flat, sizeLine_eq, Nat.mul_comm]
      omega
    have flen : (List.replicate k.toNat its).flatten.length ≤ sizeLine := by
      rw [PyProof.Rows.lm_len_rep_flat, hle, sizeLine_eq, Nat.mul_comm]
      omega
    refine wpAny_binaryOp_repeat_ref (T := "tuple") (U := "int") (by decide) ⟨_, ho, rfl⟩ (fun s' => typeIs_int s' k t) noFill_tuple_mul F.fills_int_mul F.slot_int_rmul repeat_tuple F.slot_int_index.lookup
      (call_meets F.slot_int_rmul (typeIs_int s k t) F.entry_int_rmul (F.args_int_rmul_2 _ _) (int_rmul_tuple k t l its.toArray n dd sl)
        ⟨ho, rfl, ⟨_, ho, rfl⟩, call_meets F.slot_tuple_mul ⟨_, ho, rfl⟩ F.entry_tuple_mul (F.args_tuple_mul_2 _ _) (tuple_mulW l its.toArray n dd sl k t c0 c1 c2 (by omega) c4 (by rw [size_rep, List.size_toArray]; exact flen)) ⟨ho, ?_⟩⟩)
    rw [size_rep]
    refine ⟨.ref s.heap.objs.size, _, I.laid (t' := s.toks) (o := .tup (List.replicate k.toNat xs).flatten) (fun b ob q => Heap.get?_push_of_some _ q) (Nat.le_refl _) ?_, rfl, q2 hk _ (I.hok.fresh (Nat.le_refl _))⟩
    exact ⟨fl, _, r.rep k.toNat, IsTup.new _ _⟩
end DL
end
section
set_option maxRecDepth 100000
set_option maxHeartbeats 4000000
namespace DL
open PySem PySem.Spec PyProof.Rows L2

/-! ### 4. Operators -/
section
variable {K : PySem.W.Frag} {G : Hp} {B : Bs} {H : Hp} {t : Option Deal} {v : V}
theorem Bw.int {i : Int} : Bw K B H v (.d (.int i)) → v = .int i
  | .inl h => by cases (show Dq K B.H v (.int i) from h); rfl
  | .inr ⟨_, _, _, _, e, _⟩ => by cases e
theorem Bw.str {i : Str} : Bw K B H v (.d (.str i)) → v = .str i
  | .inl h => by cases (show Dq K B.H v (.str i) from h); rfl
  | .inr ⟨_, _, _, _, e, _⟩ => by cases e
theorem Bw.bl {i : Bool} : Bw K B H v (.d (.bool i)) → v = .bl i
  | .inl h => by cases (show Dq K B.H v (.bool i) from h); rfl
  | .inr ⟨_, _, _, _, e, _⟩ => by cases e
theorem Bw.non : Bw K B H v (.d .none) → v = .non
  | .inl h => by cases (show Dq K B.H v .none from h); rfl
  | .inr ⟨_, _, _, _, e, _⟩ => by cases e
theorem Bw.lst {ds : List PyData} (w : Wd G B H t) : Bw K B H v (.d (.list ds)) → ∃ (a : Addr) (vs : List V), v = .ref a ∧ H a = some (.lst vs) ∧ DqAll K B.H vs ds
  | .inl h => by
    cases (show Dq K B.H v (.list ds) from h) with
    | @lst a xs _ h1 h2 => exact ⟨a, xs, rfl, w.sub _ _ h1, h2⟩
  | .inr ⟨p, vs, _, e1, e, h1, h2⟩ => by
    injection e with e
    injection e with e
    subst e
    exact ⟨p, vs, e1, h1, h2⟩
theorem Bw.tup {ds : List PyData} : Bw K B H v (.d (.tuple ds)) → ∃ (a : Addr) (vs : List V), v = .ref a ∧ SqT K B.H a vs ∧ DqAll K B.H vs ds
  | .inl h => by
    cases (show Dq K B.H v (.tuple ds) from h) with
    | @tup a xs _ h1 h2 => exact ⟨a, xs, rfl, h1, h2⟩
  | .inr ⟨_, _, _, _, e, _⟩ => by cases e
theorem Bw.dp {x : PyData} (w : Wd G B H t) : Bw K B H v (.d x) → Dp K H v x
  | .inl h => (dp_mono w.sub (show Dq K B.H v x from h)).dp
  | .inr ⟨p, vs, ds, e1, e, h1, h2⟩ => by
    injection e with e
    subst e1 e
    exact .lst (SqL.of h1) (dpa_mono w.sub h2).dp
theorem Bw.raw {u : V} : Bw K B H v (.raw u) → v = u
  | .inl h => h
  | .inr ⟨_, _, _, _, e, _⟩ => by cases e

/-- an operator on values computes f -/
def OpD (K : PySem.W.Frag) (r : R2) (f : Sl → Sl → Option Sl) : Prop := ∀ (G : Hp) (B : Bs) (H : Hp) (t : Option Deal) (x y : V) (a b z : Sl) (Q : VK), Wd G B H t → Bw K B H x a → Bw K B H y b → f a b = some z →
  (∀ (v : V) (B' : Bs) (H' : Hp), B.le B' → Wd G B' H' t → Sv K B' v z → Q v H') → r x y H Q
theorem OpD.or {r r' : R2} {f f' : Sl → Sl → Option Sl} (h : OpD K r f) (h' : OpD K r' f') : OpD K (fun x y H Q => r x y H Q ∨ r' x y H Q) (fun a b => (f a b).or (f' a b)) := by
  intro G B H t x y a b z Q w ha hb e q
  cases e1 : f a b with
  | some z1 =>
    simp only [e1, Option.some_or] at e
    cases e
    exact .inl (h G B H t x y a b _ Q w ha hb e1 q)
  | none =>
    simp only [e1, Option.none_or] at e
    exact .inr (h' G B H t x y a b z Q w ha hb e q)
end
def lft (o : Option Sl) : M Tk := fun r t => match o with
  | some z => .ok (.v z) r t
  | none => .st
def mOp (f : Sl → Sl → Option Sl) (ma mb : M Tk) : M Tk := ma.bind fun a => mb.bind fun b => (use a).bind fun x => (use b).bind fun y => lft (f x y)
theorem rf_op {K : PySem.W.Frag} {c : Cd} {r : R2} {f : Sl → Sl → Option Sl} {ta tb : TE} {ma mb : M Tk} (ho : OpD K r f) (ha : RfE K c ta ma) (hb : RfE K c tb mb) : RfE K c (tOp r ta tb) (mOp f ma mb) := by
  intro G B H σ rr t Q XP w s hx p
  unfold mOp at p
  rw [post_bind] at p
  refine ha G B H σ rr t _ XP w s hx (post_mono p fun a r1 t1 p => fun v1 B1 H1 l1 w1 s1 v1a => ?_)
  rw [post_bind] at p
  refine hb G B1 H1 σ r1 t1 _ XP w1 s1 (hx.mono l1) (post_mono p fun b r2 t2 p => fun v2 B2 H2 l2 w2 s2 v2b => ?_)
  rw [post_bind] at p
  obtain ⟨x, bx, p⟩ := use_ok s2 (v1a.mono l2) p
  rw [post_bind] at p
  obtain ⟨y, by_, p⟩ := use_ok s2 v2b p
  obtain ⟨G', w', gg, _, back⟩ := Sls.push w2 s2
  cases e : f x y with
  | none => rw [e] at p; exact p.elim
  | some z =>
    rw [e] at p
    refine ho G' B2 H2 t2 v1 v2 x y z Q w' bx by_ e fun v B' H' l w3 sv => ?_
    obtain ⟨w4, s4⟩ := back B' H' t2 l w3
    exact p v B' H' ((l1.trans l2).trans l) w4 s4 sv

/-! the operators -/
def addF : Sl → Sl → Option Sl
  | .d (.int i), .d (.int j) => some (.d (.int (i + j)))
  | .d (.str i), .d (.str j) => if i.length + j.length ≤ 16777216 then some (.d (.str (i ++ j))) else none
  | .d (.list xs), .d (.list ys) => if xs.length + ys.length ≤ 16777216 then some (.d (.list (xs ++ ys))) else none
  | .d (.tuple xs), .d (.tuple ys) => if xs.length + ys.length ≤ 16777216 then some (.d (.tuple (xs ++ ys))) else none
  | _, _ => none
theorem size_ok {n : Nat} (h : n ≤ 16777216) : n ≤ sizeLine := by rw [sizeLine_eq]; exact h
theorem size_lt {n : Nat} (h : n < 16777216) : n < sizeLine := by rw [sizeLine_eq]; exact h
def rAddS : R2 := fun x y H Q => ∃ i j, x = .str i ∧ y = .str j ∧ i.length + j.length ≤ sizeLine ∧ Q (.str (i ++ j)) H
def rAddA (K : PySem.W.Frag) : R2 := fun x y H Q => ((rI0 fun i j => .int (i + j)) x y H Q ∨ rAddS x y H Q) ∨ (rCat x y H Q ∨ rCatA K x y H Q)
theorem op_addA {X : Cx} : OpR X (binaryOp .Add) (rAddA X.K) := OpR.or (OpR.or op_add op_add_str) (OpR.or op_cat op_catA)
section
variable {K : PySem.W.Frag} {G : Hp} {B : Bs} {H : Hp} {t : Option Deal}
/-- a new list, frozen at once, reaches Q -/
theorem new_list {p : Addr} {vs : List V} {ds : List PyData} {Q : VK} (w : Wd G B H t) (h : H p = none) (r : DqAll K B.H vs ds) (q : ∀ (v : V) (B' : Bs) (H' : Hp), B.le B' → Wd G B' H' t → Sv K B' v (.d (.list ds)) → Q v H') : Q (.ref p) (upd H p (.lst vs)) :=
  q _ (B.add p (.lst vs)) _ (Bs.le_add (w.nb h)) (w.new h) (Dq.lst (show upd B.H p (.lst vs) p = _ from upd_same) (dpa_mono (Bs.le_add (o := .lst vs) (w.nb h)).h r))
theorem new_tup {p : Addr} {vs : List V} {ds : List PyData} {Q : VK} (w : Wd G B H t) (h : H p = none) (r : DqAll K B.H vs ds) (q : ∀ (v : V) (B' : Bs) (H' : Hp), B.le B' → Wd G B' H' t → Sv K B' v (.d (.tuple ds)) → Q v H') : Q (.ref p) (upd H p (.tup vs)) :=
  q _ (B.add p (.tup vs)) _ (Bs.le_add (w.nb h)) (w.new h) (Dq.tup (SqT.of (show upd B.H p (.tup vs) p = _ from upd_same)) (dpa_mono (Bs.le_add (o := .tup vs) (w.nb h)).h r))
theorem dq_nil {vs : List V} {ds : List PyData} (r : DqAll K H vs ds) : vs = [] ↔ ds = [] := by
  have e := r.len
  constructor
  · rintro rfl; exact List.eq_nil_of_length_eq_zero e.symm
  · rintro rfl; exact List.eq_nil_of_length_eq_zero e
theorem opd_add : OpD K (rAddA K) addF := by
  intro G B H t x y a b z Q w ha hb e q
  unfold addF at e
  split at e
  · cases e
    cases ha.int; cases hb.int
    exact .inl (.inl ⟨_, _, rfl, rfl, q _ B H (Bs.le.refl B) w (.int _)⟩)
  · split at e
    · rename_i hz
      cases e
      cases ha.str; cases hb.str
      exact .inl (.inr ⟨_, _, rfl, rfl, size_ok hz, q _ B H (Bs.le.refl B) w (.str _)⟩)
    · cases e
  · split at e
    · rename_i xs ys hz
      cases e
      obtain ⟨p1, vs1, rfl, h1, r1⟩ := ha.lst w
      obtain ⟨p2, vs2, rfl, h2, r2⟩ := hb.lst w
      exact .inr (.inl ⟨p1, p2, vs1, vs2, rfl, rfl, h1, h2, size_ok (by rw [r1.len, r2.len]; exact hz), fun p np => new_list w np (r1.app r2) q⟩)
    · cases e
  · split at e
    · rename_i xs ys hz
      cases e
      obtain ⟨p1, vs1, rfl, h1, r1⟩ := ha.tup
      obtain ⟨p2, vs2, rfl, h2, r2⟩ := hb.tup
      refine .inr (.inr ⟨p1, p2, vs1, vs2, rfl, rfl, sqt_mono w.sub h1, sqt_mono w.sub h2, size_ok (by rw [r1.len, r2.len]; exact hz), fun n1 => ?_, fun n1 n2 => ?_, fun n1 n2 p np => new_tup w np (r1.app r2) q⟩)
      · have n := (dq_nil r1).mp n1
        subst n
        exact q _ B H (Bs.le.refl B) w (Dq.tup h2 r2)
      · have n := (dq_nil r2).mp n2
        subst n
        rw [List.append_nil] at q
        exact q _ B H (Bs.le.refl B) w (Dq.tup h1 r1)
    · cases e
  · cases e
def subF : Sl → Sl → Option Sl
  | .d (.int i), .d (.int j) => some (.d (.int (i - j)))
  | _, _ => none
theorem opd_sub : OpD K (rI0 fun i j => .int (i - j)) subF := by
  intro G B H t x y a b z Q w ha hb e q
  unfold subF at e
  split at e
  · cases e
    cases ha.int; cases hb.int
    exact ⟨_, _, rfl, rfl, q _ B H (Bs.le.refl B) w (.int _)⟩
  · cases e
/-- sizes of factors -/
def mulF : Sl → Sl → Option Sl
  | .d (.int i), .d (.int j) => if i.natAbs.log2 + j.natAbs.log2 < 1000000 then some (.d (.int (i * j))) else none
  | .d (.list xs), .d (.int k) => if k ≤ 1000000 ∧ -1000000 ≤ k ∧ xs.length * k.toNat ≤ 16777216 then some (.d (.list (List.replicate k.toNat xs).flatten)) else none
  | .d (.tuple xs), .d (.int k) => if 1 ≤ k ∧ k ≤ 100000 ∧ xs.length * k.toNat ≤ 1000000 ∧ xs ≠ [] then some (.d (.tuple (List.replicate k.toNat xs).flatten)) else none
  | _, _ => none
def rMulA (K : PySem.W.Frag) : R2 := fun x y H Q => (rI CMulW fun i j => .int (i * j)) x y H Q ∨ (rRep x y H Q ∨ rRepT2 K x y H Q)
theorem op_mulA {X : Cx} : OpR X (binaryOp .Mult) (rMulA X.K) := OpR.or op_mulW (OpR.or op_rep op_repT2)
theorem dq_rep {vs : List V} {ds : List PyData} (r : DqAll K H vs ds) : ∀ n : Nat, DqAll K H (List.replicate n vs).flatten (List.replicate n ds).flatten
  | 0 => .nil
  | n + 1 => by
    rw [List.replicate_succ, List.replicate_succ, List.flatten_cons, List.flatten_cons]
    exact r.app (dq_rep r n)
theorem opd_mul : OpD K (rMulA K) mulF := by
  intro G B H t x y a b z Q w ha hb e q
  unfold mulF at e
  split at e
  · split at e
    · rename_i hz
      cases e
      cases ha.int; cases hb.int
      exact .inl ⟨_, _, rfl, rfl, hz, q _ B H (Bs.le.refl B) w (.int _)⟩
    · cases e
  · split at e
    · rename_i xs k hz
      cases e
      obtain ⟨p1, vs1, rfl, h1, r1⟩ := ha.lst w
      cases hb.int
      exact .inr (.inl ⟨p1, k, vs1, rfl, rfl, h1, by omega, by omega, size_ok (by rw [r1.len]; exact hz.2.2), fun p np => new_list w np (dq_rep r1 _) q⟩)
    · cases e
  · split at e
    · rename_i xs k hz
      cases e
      obtain ⟨p1, vs1, rfl, h1, r1⟩ := ha.tup
      cases hb.int
      exact .inr (.inr ⟨p1, k, vs1, rfl, rfl, sqt_mono w.sub h1, fun n => hz.2.2.2 ((dq_nil r1).mp n), hz.1, hz.2.1, by rw [r1.len]; exact hz.2.2.1, fun k1 => by
        subst k1
        have e1 : (List.replicate (1 : Int).toNat xs).flatten = xs := by simp
        rw [e1] at q
        exact q _ B H (Bs.le.refl B) w (.tup h1 r1), fun _ p np => new_tup w np (dq_rep r1 _) q⟩)
    · cases e
  · cases e
def fdivF : Sl → Sl → Option Sl
  | .d (.int i), .d (.int j) => if 0 < j ∧ j.natAbs.log2 < 9000 then some (.d (.int (i / j))) else none
  | _, _ => none
theorem opd_fdiv : OpD K (rI CDivW fun i j => .int (i / j)) fdivF := by
  intro G B H t x y a b z Q w ha hb e q
  unfold fdivF at e
  split at e
  · split at e
    · rename_i hz
      cases e
      cases ha.int; cases hb.int
      exact ⟨_, _, rfl, rfl, hz, q _ B H (Bs.le.refl B) w (.int _)⟩
    · cases e
  · cases e
def modF : Sl → Sl → Option Sl
  | .d (.int i), .d (.int j) => if 0 < j then some (.d (.int (i % j))) else none
  | _, _ => none
theorem opd_mod : OpD K (rI (fun _ j => 0 < j) fun i j => .int (i % j)) modF := by
  intro G B H t x y a b z Q w ha hb e q
  unfold modF at e
  split at e
  · split at e
    · rename_i hz
      cases e
      cases ha.int; cases hb.int
      exact ⟨_, _, rfl, rfl, hz, q _ B H (Bs.le.refl B) w (.int _)⟩
    · cases e
  · cases e
def powF : Sl → Sl → Option Sl
  | .d (.int i), .d (.int j) => if 0 ≤ j ∧ j ≤ 1000000 ∧ i.natAbs < 2 ^ 64 then some (.d (.int (i ^ j.toNat))) else none
  | _, _ => none
theorem opd_pow : OpD K (rI CPow fun i j => .int (i ^ j.toNat)) powF := by
  intro G B H t x y a b z Q w ha hb e q
  unfold powF at e
  split at e
  · split at e
    · rename_i hz
      cases e
      cases ha.int; cases hb.int
      exact ⟨_, _, rfl, rfl, hz, q _ B H (Bs.le.refl B) w (.int _)⟩
    · cases e
  · cases e
/-! comparisons -/
def ltF : Sl → Sl → Option Sl
  | .d (.int i), .d (.int j) => some (.d (.bool (decide (i < j))))
  | .d (.str i), .d (.str j) => some (.d (.bool (decide (i.cps.toList < j.cps.toList))))
  | _, _ => none
def rLtA : R2 := fun x y H Q => (rI0 fun i j => .bl (decide (i < j))) x y H Q ∨ (fun x y H (Q : VK) => ∃ i j, x = V.str i ∧ y = V.str j ∧ Q (.bl (decide (i.cps.toList < j.cps.toList))) H) x y H Q
theorem op_ltA {X : Cx} : OpR X (compareOp .Lt) rLtA := OpR.or op_lt op_lt_str
theorem opd_lt : OpD K rLtA ltF := by
  intro G B H t x y a b z Q w ha hb e q
  unfold ltF at e
  split at e
  · cases e
    cases ha.int; cases hb.int
    exact .inl ⟨_, _, rfl, rfl, q _ B H (Bs.le.refl B) w (.bl _)⟩
  · cases e
    cases ha.str; cases hb.str
    exact .inr ⟨_, _, rfl, rfl, q _ B H (Bs.le.refl B) w (.bl _)⟩
  · cases e
def cmpF (f : Int → Int → Bool) : Sl → Sl → Option Sl
  | .d (.int i), .d (.int j) => some (.d (.bool (f i j)))
  | _, _ => none
theorem opd_cmp {f : Int → Int → Bool} : OpD K (rI0 fun i j => .bl (f i j)) (cmpF f) := by
  intro G B H t x y a b z Q w ha hb e q
  unfold cmpF at e
  split at e
  · cases e
    cases ha.int; cases hb.int
    exact ⟨_, _, rfl, rfl, q _ B H (Bs.le.refl B) w (.bl _)⟩
  · cases e
/-- the scalars that == tells apart as data does -/
def scalD : PyData → PyData → Bool
  | .none, .none => true | .none, .int _ => true | .int _, .none => true | .none, .bool _ => true | .bool _, .none => true | .none, .str _ => true | .str _, .none => true
  | .int _, .int _ => true | .bool _, .bool _ => true | .str _, .str _ => true
  | .int _, .str _ => true | .str _, .int _ => true | .bool _, .str _ => true | .str _, .bool _ => true
  | _, _ => false
def eqOk (x y : PyData) : Bool := scalD x y || (SeqAt.shaped x && SeqAt.shaped y)
def eqF : Sl → Sl → Option Sl
  | .d x, .d y => if eqOk x y then some (.d (.bool (PyData.eqv x y))) else none
  | _, _ => none
def neF : Sl → Sl → Option Sl
  | .d x, .d y => if eqOk x y then some (.d (.bool (!PyData.eqv x y))) else none
  | _, _ => none
def rEqA (K : PySem.W.Frag) : R2 := fun x y H Q => rEq x y H Q ∨ rEqD K x y H Q
def rNeA (K : PySem.W.Frag) : R2 := fun x y H Q => rNe x y H Q ∨ rNeD K x y H Q
theorem op_eqA {X : Cx} (hu : X.A.units + 64 < cLine) : OpR X (compareOp .Eq) (rEqA X.K) := OpR.or op_eq (op_eqD hu)
theorem op_neA {X : Cx} (hu : X.A.units + 64 < cLine) : OpR X (compareOp .NotEq) (rNeA X.K) := OpR.or op_ne (op_neD hu)
theorem scal_eq {x y : V} {a b : PyData} (h : scalD a b = true) (ha : Dp K H x a) (hb : Dp K H y b) : scal x y = true ∧ decide (x = y) = PyData.eqv a b := by
  cases ha <;> cases hb <;> first | (cases h; done) | (refine ⟨rfl, ?_⟩; simp [PyData.eqv, Bool.beq_eq_decide_eq]; done) | exact ⟨rfl, by first | rfl | (rw [PyData.eqv]; simp) | decide⟩
theorem opd_eq : OpD K (rEqA K) eqF := by
  intro G B H t x y a b z Q w ha hb e q
  unfold eqF at e
  split at e
  · split at e
    · rename_i a b hz
      cases e
      have da := ha.dp w
      have db := hb.dp w
      unfold eqOk at hz
      rw [Bool.or_eq_true] at hz
      rcases hz with hz | hz
      · obtain ⟨s1, s2⟩ := scal_eq hz da db
        exact .inl ⟨s1, by rw [s2]; exact q _ B H (Bs.le.refl B) w (.bl _)⟩
      · rw [Bool.and_eq_true] at hz
        exact .inr ⟨_, _, da, db, hz.1, hz.2, q _ B H (Bs.le.refl B) w (.bl _)⟩
    · cases e
  · cases e
theorem opd_ne : OpD K (rNeA K) neF := by
  intro G B H t x y a b z Q w ha hb e q
  unfold neF at e
  split at e
  · split at e
    · rename_i a b hz
      cases e
      have da := ha.dp w
      have db := hb.dp w
      unfold eqOk at hz
      rw [Bool.or_eq_true] at hz
      rcases hz with hz | hz
      · obtain ⟨s1, s2⟩ := scal_eq hz da db
        exact .inl ⟨s1, by rw [s2]; exact q _ B H (Bs.le.refl B) w (.bl _)⟩
      · rw [Bool.and_eq_true] at hz
        exact .inr ⟨_, _, da, db, hz.1, hz.2, q _ B H (Bs.le.refl B) w (.bl _)⟩
    · cases e
  · cases e
end
end DL
end
section
set_option maxRecDepth 100000
set_option maxHeartbeats 4000000
namespace DL
open PySem PySem.Spec PyProof.Rows L2

/-! ### 5. in, is; subscripts -/
def flatD : PyData → Bool
  | .none => true | .bool _ => true | .int _ => true | .str _ => true | _ => false
def inD (x : PyData) (ds : List PyData) : Bool := ds.any fun y => PyData.eqv y x
theorem flat_v {K : PySem.W.Frag} {H : Hp} {v : V} {x : PyData} (h : Dq K H v x) (f : flatD x = true) : flatV v = true := by
  cases h <;> first | rfl | cases f
theorem flat_all {K : PySem.W.Frag} {H : Hp} : ∀ {vs : List V} {xs : List PyData}, DqAll K H vs xs → xs.all flatD = true → vs.all flatV = true
  | _, _, .nil, _ => rfl
  | _, _, .cons h r, f => by
    rw [List.all_cons, Bool.and_eq_true] at f ⊢
    exact ⟨flat_v h f.1, flat_all r f.2⟩
theorem eqv_flat {K : PySem.W.Frag} {H : Hp} {v u : V} {x y : PyData} (h : Dq K H v x) (k : Dq K H u y) (f : flatD x = true) (g : flatD y = true) : eqV v u = PyData.eqv x y := by
  cases h <;> first | (cases f; done) | (cases k <;> first | (cases g; done) | rfl | (simp [eqV, PyData.eqv]; done))
theorem any_flat {K : PySem.W.Frag} {H : Hp} {u : V} {y : PyData} (k : Dq K H u y) (g : flatD y = true) : ∀ {vs : List V} {xs : List PyData}, DqAll K H vs xs → xs.all flatD = true → inV u vs = inD y xs
  | _, _, .nil, _ => rfl
  | _, _, .cons h r, f => by
    rw [List.all_cons, Bool.and_eq_true] at f
    have e := any_flat k g r f.2
    unfold inV at e
    unfold inD at e
    unfold inV inD
    rw [List.any_cons, List.any_cons, e, eqv_flat h k f.1 g]
/-- the one sign of a text of one sign -/
def signOf (x : Str) : Option Nat := match x.cps.toList with
  | [c] => some c
  | _ => none
theorem signOf_ok {x : Str} {c : Nat} (h : signOf x = some c) : x = ⟨#[c]⟩ := by
  obtain ⟨cps⟩ := x
  unfold signOf at h
  split at h
  · rename_i c' hc
    cases h
    have hc : cps.toList = [c] := hc
    have : cps = #[c] := by rw [← Array.toArray_toList (xs := cps), hc]
    rw [this]
  · cases h
def inF (neg : Bool) : Sl → Sl → Option Sl
  | .d x, .d (.list ds) => if flatD x && ds.all flatD then some (.d (.bool (if neg then !inD x ds else inD x ds))) else none
  | .d x, .d (.tuple ds) => if flatD x && ds.all flatD then some (.d (.bool (if neg then !inD x ds else inD x ds))) else none
  | .d (.str x), .d (.str z) => (signOf x).map fun c => .d (.bool (if neg then !decide (c ∈ z.cps.toList) else decide (c ∈ z.cps.toList)))
  | _, _ => none
def rInSign (neg : Bool) : R2 := fun x y H Q => ∃ (c : Nat) (z : Str), x = .str ⟨#[c]⟩ ∧ y = .str z ∧ Q (.bl (if neg then !decide (c ∈ z.cps.toList) else decide (c ∈ z.cps.toList))) H
def rInA (K : PySem.W.Frag) (neg : Bool) : R2 := fun x y H Q => rIn K neg x y H Q ∨ rInSign neg x y H Q
theorem op_inA {X : Cx} : OpR X (compareOp .In) (rInA X.K false) := OpR.or op_in_seq op_in_sign
theorem op_notInA {X : Cx} : OpR X (compareOp .NotIn) (rInA X.K true) := OpR.or op_notIn_seq op_notIn_sign
section
variable {K : PySem.W.Frag} {G : Hp} {B : Bs} {H : Hp} {t : Option Deal}
theorem Bw.flat {v : V} {x : PyData} (h : Bw K B H v (.d x)) (f : flatD x = true) : Dq K B.H v x := by
  rcases h with h | ⟨_, _, _, _, e, _⟩
  · exact h
  · cases e; cases f
theorem opd_in {neg : Bool} : OpD K (rInA K neg) (inF neg) := by
  intro G B H t x y a b z Q w ha hb e q
  unfold inF at e
  split at e
  · split at e
    · rename_i x' ds hz
      cases e
      rw [Bool.and_eq_true] at hz
      have hx := ha.flat hz.1
      obtain ⟨p, vs, rfl, h1, r1⟩ := hb.lst w
      exact .inl ⟨p, vs, rfl, .inl (SqL.of h1), flat_v hx hz.1, flat_all r1 hz.2, by rw [any_flat hx hz.1 r1 hz.2]; exact q _ B H (Bs.le.refl B) w (.bl _)⟩
    · cases e
  · split at e
    · rename_i x' ds hz
      cases e
      rw [Bool.and_eq_true] at hz
      have hx := ha.flat hz.1
      obtain ⟨p, vs, rfl, h1, r1⟩ := hb.tup
      exact .inl ⟨p, vs, rfl, .inr (sqt_mono w.sub h1), flat_v hx hz.1, flat_all r1 hz.2, by rw [any_flat hx hz.1 r1 hz.2]; exact q _ B H (Bs.le.refl B) w (.bl _)⟩
    · cases e
  · rename_i xx zz
    cases hc : signOf xx with
    | none => rw [hc] at e; cases e
    | some c =>
      rw [hc] at e
      cases e
      cases ha.str; cases hb.str
      cases signOf_ok hc
      exact .inr ⟨c, zz, rfl, rfl, q _ B H (Bs.le.refl B) w (.bl _)⟩
  · cases e
/-! is, of None, True, False -/
def isNoneD : PyData → Bool
  | .none => true | _ => false
def isBoolD (b : Bool) : PyData → Bool
  | .bool a => a == b | _ => false
def isF (neg : Bool) : Sl → Sl → Option Sl
  | .d x, .d .none => some (.d (.bool (xor neg (isNoneD x))))
  | .d x, .d (.bool b) => some (.d (.bool (xor neg (isBoolD b x))))
  | _, _ => none
def bIs : V → Bool → Bool
  | .bl a, b => a == b
  | _, _ => false
def rIsA (neg : Bool) : R2 := fun x y H Q => (y = .non ∧ Q (.bl (xor neg (decide (x = .non)))) H) ∨ ∃ b, y = .bl b ∧ (match x with | .ty _ => False | .flt _ => False | .byt _ => False | _ => True) ∧ Q (.bl (xor neg (bIs x b))) H
theorem op_isA {X : Cx} : OpR X (compareOp .Is) (rIsA false) := by
  intro pins s σ H x y v u Q I rx ry h
  rcases h with ⟨e, q⟩ | ⟨b, e, hx, q⟩
  · exact op_isN pins s σ H x y v u Q I rx ry ⟨e, by simpa using q⟩
  · subst e
    cases (show u = Value.bool b from ry)
    have q' : Q (.bl (bIs x b)) H := by simpa using q
    cases x with
    | non => cases rx; exact wpAny_pure ⟨.bl _, H, I, rfl, q'⟩
    | bl a =>
      cases (show v = Value.bool a from rx)
      exact PyProof.Rows.is_bool (by exact ⟨.bl _, H, I, rfl, q'⟩)
    | int i => obtain ⟨t, rfl⟩ := rx; exact wpAny_pure ⟨.bl _, H, I, rfl, q'⟩
    | str i => obtain ⟨t, rfl⟩ := rx; exact wpAny_pure ⟨.bl _, H, I, rfl, q'⟩
    | ref a => cases rx; exact wpAny_pure ⟨.bl _, H, I, rfl, q'⟩
    | ty _ => exact hx.elim
    | flt _ => exact hx.elim
    | byt _ => exact hx.elim
theorem op_isNotA {X : Cx} : OpR X (compareOp .IsNot) (rIsA true) := by
  intro pins s σ H x y v u Q I rx ry h
  rcases h with ⟨e, q⟩ | ⟨b, e, hx, q⟩
  · exact op_notN pins s σ H x y v u Q I rx ry ⟨e, by simpa using q⟩
  · subst e
    cases (show u = Value.bool b from ry)
    have q' : Q (.bl (!bIs x b)) H := by simpa using q
    cases x with
    | non => cases rx; exact wpAny_pure ⟨.bl _, H, I, rfl, q'⟩
    | bl a =>
      cases (show v = Value.bool a from rx)
      refine PyProof.Rows.isnot_bool ⟨.bl _, H, I, ?_, q'⟩
      show _ = _
      cases a <;> cases b <;> rfl
    | int i => obtain ⟨t, rfl⟩ := rx; exact wpAny_pure ⟨.bl _, H, I, rfl, q'⟩
    | str i => obtain ⟨t, rfl⟩ := rx; exact wpAny_pure ⟨.bl _, H, I, rfl, q'⟩
    | ref a => cases rx; exact wpAny_pure ⟨.bl _, H, I, rfl, q'⟩
    | ty _ => exact hx.elim
    | flt _ => exact hx.elim
    | byt _ => exact hx.elim
theorem opd_is {neg : Bool} : OpD K (rIsA neg) (isF neg) := by
  intro G B H t x y a b z Q w ha hb e q
  unfold isF at e
  split at e
  · rename_i xd
    cases e
    cases hb.non
    refine .inl ⟨rfl, ?_⟩
    have ee : decide (x = .non) = isNoneD xd := by
      have d := ha.dp w
      cases d <;> rfl
    rw [ee]
    exact q _ B H (Bs.le.refl B) w (.bl _)
  · rename_i xd bb
    cases e
    cases hb.bl
    have d := ha.dp w
    refine .inr ⟨bb, rfl, by cases d <;> exact True.intro, ?_⟩
    have ee : bIs x bb = isBoolD bb xd := by
      cases d <;> rfl
    rw [ee]
    exact q _ B H (Bs.le.refl B) w (.bl _)
  · cases e
/-! x[i] -/
def atF : Sl → Sl → Option Sl
  | .d (.list ds), .d (.int i) => (atI ds i).map .d
  | .d (.tuple ds), .d (.int i) => (atI ds i).map .d
  | .d (.str z), .d (.int i) => if z.length ≤ 16777216 then (atI z.cps.toList i).map fun c => .d (.str ⟨#[c]⟩) else none
  | _, _ => none
def rAtA (K : PySem.W.Frag) : R2 := fun x y H Q => rIxL K x y H Q ∨ (rIxT K x y H Q ∨ rIxS x y H Q)
theorem IxR.or {X : Cx} {r r' : R2} (h : IxR X r) (h' : IxR X r') : IxR X (fun x y H Q => r x y H Q ∨ r' x y H Q) := fun value slice pins s σ H x y v u Q I rx ry q hs => by
  rcases q with q | q
  · exact h value slice pins s σ H x y v u Q I rx ry q hs
  · exact h' value slice pins s σ H x y v u Q I rx ry q hs
theorem ix_A {X : Cx} : IxR X (rAtA X.K) := IxR.or ix_list (IxR.or ix_tup ix_str)
theorem atI_dq {vs : List V} {ds : List PyData} {i : Int} {d : PyData} (r : DqAll K H vs ds) (h : atI ds i = some d) : ∃ v, atI vs i = some v ∧ Dq K H v d := by
  unfold atI at h ⊢
  rw [r.len]
  cases e : ixN ds.length i with
  | none => rw [e] at h; cases h
  | some j =>
    rw [e, Option.bind_some] at h
    obtain ⟨v, h1, h2⟩ := r.get h
    exact ⟨v, h1, h2⟩
theorem opd_at : OpD K (rAtA K) atF := by
  intro G B H t x y a b z Q w ha hb e q
  unfold atF at e
  split at e
  · rename_i ds i
    cases h : atI ds i with
    | none => rw [h] at e; cases e
    | some d =>
      rw [h] at e
      cases e
      obtain ⟨p, vs, rfl, h1, r1⟩ := ha.lst w
      cases hb.int
      obtain ⟨v, e1, e2⟩ := atI_dq r1 h
      exact .inl ⟨p, vs, i, v, rfl, rfl, SqL.of h1, e1, q v B H (Bs.le.refl B) w e2⟩
  · rename_i ds i
    cases h : atI ds i with
    | none => rw [h] at e; cases e
    | some d =>
      rw [h] at e
      cases e
      obtain ⟨p, vs, rfl, h1, r1⟩ := ha.tup
      cases hb.int
      obtain ⟨v, e1, e2⟩ := atI_dq r1 h
      exact .inr (.inl ⟨p, vs, i, v, rfl, rfl, sqt_mono w.sub h1, e1, q v B H (Bs.le.refl B) w e2⟩)
  · split at e
    · rename_i zz i hz
      cases h : atI zz.cps.toList i with
      | none => rw [h] at e; cases e
      | some d =>
        rw [h] at e
        cases e
        cases ha.str; cases hb.int
        exact .inr (.inr ⟨zz, i, d, rfl, rfl, size_ok hz, h, q _ B H (Bs.le.refl B) w (.str _)⟩)
    · cases e
  · cases e
end

/-! ### 6. Expressions over the text -/
section
variable {X : Cx} {c : Cd} {a b e : Expr} {ma mb me : M Tk} {ta tb te : TE} {pos : Pos}
theorem pd_op {op : Operator} {r : R2} {f : Sl → Sl → Option Sl} (ho : OpR X (binaryOp op) r) (hd : OpD X.K r f) (ha : PED X c a ta ma) (hb : PED X c b tb mb) : PED X c (.BinOp a op b pos) (tOp r ta tb) (mOp f ma mb) := by
  obtain ⟨h1, k1⟩ := ha
  obtain ⟨h2, k2⟩ := hb
  exact ⟨pe_op ho h1 h2, rf_op hd k1 k2⟩
theorem pd_add (ha : PED X c a ta ma) (hb : PED X c b tb mb) : PED X c (.BinOp a .Add b pos) (tOp (rAddA X.K) ta tb) (mOp addF ma mb) := pd_op op_addA opd_add ha hb
theorem pd_sub (ha : PED X c a ta ma) (hb : PED X c b tb mb) : PED X c (.BinOp a .Sub b pos) (tOp (rI0 fun i j => .int (i - j)) ta tb) (mOp subF ma mb) := pd_op op_sub opd_sub ha hb
theorem pd_mul (ha : PED X c a ta ma) (hb : PED X c b tb mb) : PED X c (.BinOp a .Mult b pos) (tOp (rMulA X.K) ta tb) (mOp mulF ma mb) := pd_op op_mulA opd_mul ha hb
theorem pd_fdiv (ha : PED X c a ta ma) (hb : PED X c b tb mb) : PED X c (.BinOp a .FloorDiv b pos) (tOp (rI CDivW fun i j => .int (i / j)) ta tb) (mOp fdivF ma mb) := pd_op op_fdivW opd_fdiv ha hb
theorem pd_mod (ha : PED X c a ta ma) (hb : PED X c b tb mb) : PED X c (.BinOp a .Mod b pos) (tOp (rI (fun _ j => 0 < j) fun i j => .int (i % j)) ta tb) (mOp modF ma mb) := pd_op op_mod opd_mod ha hb
theorem pd_pow (ha : PED X c a ta ma) (hb : PED X c b tb mb) : PED X c (.BinOp a .Pow b pos) (tOp (rI CPow fun i j => .int (i ^ j.toNat)) ta tb) (mOp powF ma mb) := pd_op op_pow opd_pow ha hb
theorem pd_cmp {op : CmpOp} {r : R2} {f : Sl → Sl → Option Sl} (ho : OpR X (compareOp op) r) (hd : OpD X.K r f) (ha : PED X c a ta ma) (hb : PED X c b tb mb) (hm : behindInMarks op b = false) : PED X c (.Compare a [op] [b] pos) (tOp r ta tb) (mOp f ma mb) := by
  obtain ⟨h1, k1⟩ := ha
  obtain ⟨h2, k2⟩ := hb
  exact ⟨pe_cmpR ho h1 h2 hm, rf_op hd k1 k2⟩
theorem pd_lt (ha : PED X c a ta ma) (hb : PED X c b tb mb) : PED X c (.Compare a [.Lt] [b] pos) (tOp rLtA ta tb) (mOp ltF ma mb) := pd_cmp op_ltA opd_lt ha hb (nomark _)
abbrev leF := cmpF fun i j => decide (i ≤ j)
abbrev gtF := cmpF fun i j => decide (j < i)
abbrev geF := cmpF fun i j => decide (j ≤ i)
theorem pd_le (ha : PED X c a ta ma) (hb : PED X c b tb mb) : PED X c (.Compare a [.LtE] [b] pos) (tOp (rI0 fun i j => .bl (decide (i ≤ j))) ta tb) (mOp leF ma mb) := pd_cmp op_le opd_cmp ha hb (nomark _)
theorem pd_gt (ha : PED X c a ta ma) (hb : PED X c b tb mb) : PED X c (.Compare a [.Gt] [b] pos) (tOp (rI0 fun i j => .bl (decide (j < i))) ta tb) (mOp gtF ma mb) := pd_cmp op_gt opd_cmp ha hb (nomark _)
theorem pd_ge (ha : PED X c a ta ma) (hb : PED X c b tb mb) : PED X c (.Compare a [.GtE] [b] pos) (tOp (rI0 fun i j => .bl (decide (j ≤ i))) ta tb) (mOp geF ma mb) := pd_cmp op_ge opd_cmp ha hb (nomark _)
theorem pd_eq (hu : X.A.units + 64 < cLine) (ha : PED X c a ta ma) (hb : PED X c b tb mb) : PED X c (.Compare a [.Eq] [b] pos) (tOp (rEqA X.K) ta tb) (mOp eqF ma mb) := pd_cmp (op_eqA hu) opd_eq ha hb (nomark _)
theorem pd_ne (hu : X.A.units + 64 < cLine) (ha : PED X c a ta ma) (hb : PED X c b tb mb) : PED X c (.Compare a [.NotEq] [b] pos) (tOp (rNeA X.K) ta tb) (mOp neF ma mb) := pd_cmp (op_neA hu) opd_ne ha hb (nomark _)
theorem pd_in (ha : PED X c a ta ma) (hb : PED X c b tb mb) (hm : behindInMarks .In b = false := by rfl) : PED X c (.Compare a [.In] [b] pos) (tOp (rInA X.K false) ta tb) (mOp (inF false) ma mb) := pd_cmp op_inA opd_in ha hb hm
theorem pd_notin (ha : PED X c a ta ma) (hb : PED X c b tb mb) (hm : behindInMarks .NotIn b = false := by rfl) : PED X c (.Compare a [.NotIn] [b] pos) (tOp (rInA X.K true) ta tb) (mOp (inF true) ma mb) := pd_cmp op_notInA opd_in ha hb hm
theorem pd_is (ha : PED X c a ta ma) (hb : PED X c b tb mb) : PED X c (.Compare a [.Is] [b] pos) (tOp (rIsA false) ta tb) (mOp (isF false) ma mb) := pd_cmp op_isA opd_is ha hb (nomark _)
theorem pd_isnot (ha : PED X c a ta ma) (hb : PED X c b tb mb) : PED X c (.Compare a [.IsNot] [b] pos) (tOp (rIsA true) ta tb) (mOp (isF true) ma mb) := pd_cmp op_isNotA opd_is ha hb (nomark _)
theorem pd_at (ha : PED X c a ta ma) (hb : PED X c b tb mb) (hs : PlainIx b := by exact fun _ _ => rfl) : PED X c (.Subscript a b pos) (tOp (rAtA X.K) ta tb) (mOp atF ma mb) := by
  obtain ⟨h1, k1⟩ := ha
  obtain ⟨h2, k2⟩ := hb
  exact ⟨pe_ix ix_A h1 h2 hs, rf_op opd_at k1 k2⟩
/-! a < b < c -/
def boolOf (k : Tk) : M Bool := fun r t => match k with
  | .v (.d (.bool b)) => .ok b r t
  | _ => .st
def mChain (f g : Sl → Sl → Option Sl) (ma mb mc : M Tk) : M Tk := ma.bind fun a => mb.bind fun b => (use a).bind fun x => (use b).bind fun y => (lft (f x y)).bind fun k => (boolOf k).bind fun k => if k then mc.bind fun z => (use b).bind fun y => (use z).bind fun z => lft (g y z) else M.ret (.v (.d (.bool false)))
theorem boolOf_ok {K : PySem.W.Frag} {ow : List Nat} {B : Bs} {σ : L2.St} {r : Rho} {t : Option Deal} {v : V} {k : Tk} {Q : Bool → Rho → Option Deal → Prop} {XP : XQ} (h : Tv K B ow σ v k) (p : (boolOf k r t).post Q XP) : ∃ b, v = .bl b ∧ Q b r t := by
  cases k with
  | o i => exact p.elim
  | v x =>
    cases x with
    | deal => exact p.elim
    | raw _ => exact p.elim
    | exc _ _ => exact p.elim
    | scr _ => exact p.elim
    | d x =>
      cases x with
      | bool b =>
        cases (show Dq K B.H v (.bool b) from h)
        exact ⟨b, rfl, p⟩
      | _ => exact p.elim
end
end DL
end
section
set_option maxRecDepth 100000
set_option maxHeartbeats 4000000
namespace DL
open PySem PySem.Spec PyProof.Rows L2

/-! ### 7. Chains, and | or | not, tests, conditional expressions -/
section
variable {X : Cx} {c : Cd} {a b e d : Expr} {ma mb me mc : M Tk} {ta tb te tc : TE} {tt tu : TT} {pos : Pos} {K : PySem.W.Frag}
theorem rf_chain {r r' : R2} {f g : Sl → Sl → Option Sl} (hr : OpD K r f) (hr' : OpD K r' g) (ha : RfE K c ta ma) (hb : RfE K c tb mb) (hc : RfE K c tc mc) : RfE K c (tChain r r' ta tb tc) (mChain f g ma mb mc) := by
  intro G B H σ rr t Q XP w s hx p
  unfold mChain at p
  rw [post_bind] at p
  refine ha G B H σ rr t _ XP w s hx (post_mono p fun a r1 t1 p => fun v1 B1 H1 l1 w1 s1 v1a => ?_)
  rw [post_bind] at p
  refine hb G B1 H1 σ r1 t1 _ XP w1 s1 (hx.mono l1) (post_mono p fun b r2 t2 p => fun v2 B2 H2 l2 w2 s2 v2b => ?_)
  rw [post_bind] at p
  obtain ⟨x, bx, p⟩ := use_ok s2 (v1a.mono l2) p
  rw [post_bind] at p
  obtain ⟨y, by_, p⟩ := use_ok s2 v2b p
  obtain ⟨G', w', gg, _, back⟩ := Sls.push w2 s2
  cases e : f x y with
  | none => rw [e] at p; exact p.elim
  | some z =>
    rw [e] at p
    refine hr G' B2 H2 t2 v1 v2 x y z _ w' bx by_ e fun v3 B3 H3 l3 w3 sv => ?_
    obtain ⟨w3, s3⟩ := back B3 H3 t2 l3 w3
    rw [post_bind] at p
    have p : ((boolOf (.v z)).bind _ r2 t2).post _ _ := p
    rw [post_bind] at p
    obtain ⟨k, ek, p⟩ := boolOf_ok (K := K) (B := B3) (ow := c.ow) (σ := σ) (v := v3) (k := .v z) sv p
    refine ⟨k, ek, ?_⟩
    cases k with
    | false =>
      rw [if_neg Bool.false_ne_true]
      exact p _ B3 H3 ((l1.trans l2).trans l3) w3 s3 (Dq.bl false)
    | true =>
      rw [if_pos rfl]
      have p : (mc.bind _ r2 t2).post _ _ := p
      rw [post_bind] at p
      refine hc G B3 H3 σ r2 t2 _ XP w3 s3 (hx.mono ((l1.trans l2).trans l3)) (post_mono p fun z4 r4 t4 p => fun v4 B4 H4 l4 w4 s4 v4z => ?_)
      rw [post_bind] at p
      obtain ⟨y', by', p⟩ := use_ok s4 (v2b.mono (l3.trans l4)) p
      rw [post_bind] at p
      obtain ⟨z', bz', p⟩ := use_ok s4 v4z p
      obtain ⟨G5, w5, _, _, back5⟩ := Sls.push w4 s4
      cases e5 : g y' z' with
      | none => rw [e5] at p; exact p.elim
      | some z5 =>
        rw [e5] at p
        refine hr' G5 B4 H4 t4 v2 v4 y' z' z5 Q w5 by' bz' e5 fun v6 B6 H6 l6 w6 sv6 => ?_
        obtain ⟨w7, s7⟩ := back5 B6 H6 t4 l6 w6
        exact p v6 B6 H6 ((((l1.trans l2).trans l3).trans l4).trans l6) w7 s7 sv6
theorem pd_chain {op op' : CmpOp} {r r' : R2} {f g : Sl → Sl → Option Sl} (ho : OpR X (compareOp op) r) (ho' : OpR X (compareOp op') r') (hd : OpD X.K r f) (hd' : OpD X.K r' g) (ha : PED X c a ta ma) (hb : PED X c b tb mb) (hc : PED X c d tc mc)
    (hp : ∀ {ta tb tc : TE}, PE X a ta → PE X b tb → PE X d tc → PE X (.Compare a [op, op'] [b, d] pos) (tChain r r' ta tb tc)) : PED X c (.Compare a [op, op'] [b, d] pos) (tChain r r' ta tb tc) (mChain f g ma mb mc) := by
  obtain ⟨h1, k1⟩ := ha
  obtain ⟨h2, k2⟩ := hb
  obtain ⟨h3, k3⟩ := hc
  exact ⟨hp h1 h2 h3, rf_chain hd hd' k1 k2 k3⟩
/-- a value as a test: a bool -/
def mT (m : M Tk) : M Bool := m.bind boolOf
theorem rf_T {te : TE} {m : M Tk} (h : RfE K c te m) : RfT K c (tTest te) (mT m) := by
  intro G B H σ rr t Q XP w s hx p
  unfold mT at p
  rw [post_bind] at p
  refine h G B H σ rr t _ XP w s hx (post_mono p fun a r1 t1 p => fun v1 B1 H1 l1 w1 s1 v1a => ?_)
  obtain ⟨k, ek, p⟩ := boolOf_ok v1a p
  exact ⟨k, ek, p B1 H1 l1 w1 s1⟩
theorem ptd_cmp {op : CmpOp} {r : R2} {f : Sl → Sl → Option Sl} (ho : OpR X (compareOp op) r) (hd : OpD X.K r f) (ha : PED X c a ta ma) (hb : PED X c b tb mb) (hm : behindInMarks op b = false) : PTD X c (.Compare a [op] [b] pos) (tTest (tOp r ta tb)) (mT (mOp f ma mb)) := by
  obtain ⟨h1, k1⟩ := ha
  obtain ⟨h2, k2⟩ := hb
  exact ⟨pt_cmpR ho h1 h2 hm, rf_T (rf_op hd k1 k2)⟩
theorem ptd_lt (ha : PED X c a ta ma) (hb : PED X c b tb mb) : PTD X c (.Compare a [.Lt] [b] pos) (tTest (tOp rLtA ta tb)) (mT (mOp ltF ma mb)) := ptd_cmp op_ltA opd_lt ha hb (nomark _)
theorem ptd_le (ha : PED X c a ta ma) (hb : PED X c b tb mb) : PTD X c (.Compare a [.LtE] [b] pos) (tTest (tOp (rI0 fun i j => .bl (decide (i ≤ j))) ta tb)) (mT (mOp leF ma mb)) := ptd_cmp op_le opd_cmp ha hb (nomark _)
theorem ptd_gt (ha : PED X c a ta ma) (hb : PED X c b tb mb) : PTD X c (.Compare a [.Gt] [b] pos) (tTest (tOp (rI0 fun i j => .bl (decide (j < i))) ta tb)) (mT (mOp gtF ma mb)) := ptd_cmp op_gt opd_cmp ha hb (nomark _)
theorem ptd_ge (ha : PED X c a ta ma) (hb : PED X c b tb mb) : PTD X c (.Compare a [.GtE] [b] pos) (tTest (tOp (rI0 fun i j => .bl (decide (j ≤ i))) ta tb)) (mT (mOp geF ma mb)) := ptd_cmp op_ge opd_cmp ha hb (nomark _)
theorem ptd_eq (hu : X.A.units + 64 < cLine) (ha : PED X c a ta ma) (hb : PED X c b tb mb) : PTD X c (.Compare a [.Eq] [b] pos) (tTest (tOp (rEqA X.K) ta tb)) (mT (mOp eqF ma mb)) := ptd_cmp (op_eqA hu) opd_eq ha hb (nomark _)
theorem ptd_ne (hu : X.A.units + 64 < cLine) (ha : PED X c a ta ma) (hb : PED X c b tb mb) : PTD X c (.Compare a [.NotEq] [b] pos) (tTest (tOp (rNeA X.K) ta tb)) (mT (mOp neF ma mb)) := ptd_cmp (op_neA hu) opd_ne ha hb (nomark _)
theorem ptd_in (ha : PED X c a ta ma) (hb : PED X c b tb mb) (hm : behindInMarks .In b = false := by rfl) : PTD X c (.Compare a [.In] [b] pos) (tTest (tOp (rInA X.K false) ta tb)) (mT (mOp (inF false) ma mb)) := ptd_cmp op_inA opd_in ha hb hm
theorem ptd_notin (ha : PED X c a ta ma) (hb : PED X c b tb mb) (hm : behindInMarks .NotIn b = false := by rfl) : PTD X c (.Compare a [.NotIn] [b] pos) (tTest (tOp (rInA X.K true) ta tb)) (mT (mOp (inF true) ma mb)) := ptd_cmp op_notInA opd_in ha hb hm
theorem ptd_is (ha : PED X c a ta ma) (hb : PED X c b tb mb) : PTD X c (.Compare a [.Is] [b] pos) (tTest (tOp (rIsA false) ta tb)) (mT (mOp (isF false) ma mb)) := ptd_cmp op_isA opd_is ha hb (nomark _)
theorem ptd_isnot (ha : PED X c a ta ma) (hb : PED X c b tb mb) : PTD X c (.Compare a [.IsNot] [b] pos) (tTest (tOp (rIsA true) ta tb)) (mT (mOp (isF true) ma mb)) := ptd_cmp op_isNotA opd_is ha hb (nomark _)
theorem ptd_chain {op op' : CmpOp} {r r' : R2} {f g : Sl → Sl → Option Sl} (hd : OpD X.K r f) (hd' : OpD X.K r' g) (ha : PED X c a ta ma) (hb : PED X c b tb mb) (hc : PED X c d tc mc)
    (hp : ∀ {ta tb tc : TE}, PE X a ta → PE X b tb → PE X d tc → PT X (.Compare a [op, op'] [b, d] pos) (tTest (tChain r r' ta tb tc))) : PTD X c (.Compare a [op, op'] [b, d] pos) (tTest (tChain r r' ta tb tc)) (mT (mChain f g ma mb mc)) := by
  obtain ⟨h1, k1⟩ := ha
  obtain ⟨h2, k2⟩ := hb
  obtain ⟨h3, k3⟩ := hc
  exact ⟨hp h1 h2 h3, rf_T (rf_chain hd hd' k1 k2 k3)⟩
def optM {α : Type} (o : Option α) : M α := fun r t => match o with
  | some a => .ok a r t
  | none => .st
theorem optM_ok {α : Type} {o : Option α} {r : Rho} {t : Option Deal} {Q : α → Rho → Option Deal → Prop} {XP : XQ} (p : (optM o r t).post Q XP) : ∃ a, o = some a ∧ Q a r t := by
  cases o with
  | none => exact p.elim
  | some a => exact ⟨a, rfl, p⟩
/-- a value's truth -/
def truD : PyData → Option Bool
  | .none => some false
  | .bool b => some b
  | .int i => some (i != 0)
  | .str z => if z.length ≤ 16777216 then some ((z.length : Int) != 0) else none
  | .list ds => some (!ds.isEmpty)
  | .tuple ds => some (!ds.isEmpty)
  | .dict _ => none
def truS : Sl → Option Bool
  | .d x => truD x
  | _ => none
def mTru (m : M Tk) : M Bool := m.bind fun k => (use k).bind fun x => optM (truS x)
theorem isE {vs : List V} {ds : List PyData} {H : Hp} (r : DqAll K H vs ds) : vs.isEmpty = ds.isEmpty := by
  cases r <;> rfl
theorem rf_tru {te : TE} {m : M Tk} (h : RfE K c te m) : RfT K c (fun σ H Q => te σ H fun x H' => ∃ k, TruV K x H' k ∧ Q k H') (mTru m) := by
  intro G B H σ rr t Q XP w s hx p
  unfold mTru at p
  rw [post_bind] at p
  refine h G B H σ rr t _ XP w s hx (post_mono p fun a r1 t1 p => fun v1 B1 H1 l1 w1 s1 v1a => ?_)
  rw [post_bind] at p
  obtain ⟨x, bx, p⟩ := use_ok s1 v1a p
  obtain ⟨b, ht, p⟩ := optM_ok p
  refine ⟨b, ?_, p B1 H1 l1 w1 s1⟩
  cases x with
  | deal => cases ht
  | raw _ => cases ht
  | exc _ _ => cases ht
  | scr _ => cases ht
  | d x =>
      have ht : truD x = some b := ht
      cases x with
      | none => cases bx.non; cases ht; rfl
      | bool y => cases bx.bl; cases ht; rfl
      | int y => cases bx.int; cases ht; rfl
      | str y =>
        cases bx.str
        have ht : (if y.length ≤ 16777216 then some ((y.length : Int) != 0) else none) = some b := ht
        by_cases hz : y.length ≤ 16777216
        · rw [if_pos hz] at ht
          cases ht
          exact ⟨size_ok hz, rfl⟩
        · rw [if_neg hz] at ht
          cases ht
      | list ds =>
        obtain ⟨p1, vs1, rfl, h1, r1⟩ := bx.lst w1
        cases ht
        exact .inl ⟨vs1, SqL.of h1, by rw [isE r1]⟩
      | tuple ds =>
        obtain ⟨p1, vs1, rfl, h1, r1⟩ := bx.tup
        cases ht
        exact .inr (.inl ⟨vs1, sqt_mono w1.sub h1, by rw [isE r1]⟩)
      | dict _ => cases ht
theorem ptd_tru (h : PED X c e te me) (he : ∀ whole, isTrue e X.env whole = (do let v ← whole; standAt e.pos; holding [v] (truthy v)) := by intro _; rfl) : PTD X c e (fun σ H Q => te σ H fun x H' => ∃ k, TruV X.K x H' k ∧ Q k H') (mTru me) := by
  obtain ⟨h1, k1⟩ := h
  exact ⟨pt_truth h1 he, rf_tru k1⟩
/-! and, or, not as tests -/
structure PWD (X : Cx) (c : Cd) (e : Expr) (tt : TT) (m : M Bool) : Prop where
  p : PW X e tt
  k : RfT X.K c tt m
def mAnd (m n : M Bool) : M Bool := m.bind fun b => if b then n else M.ret false
def mOr (m n : M Bool) : M Bool := m.bind fun b => if b then M.ret true else n
def mNot (m : M Bool) : M Bool := m.bind fun b => M.ret (!b)
variable {m n : M Bool} {rest : List Expr}
theorem rf_and (h1 : RfT K c tt m) (h2 : RfT K c tu n) : RfT K c (tAnd tt tu) (mAnd m n) := by
  intro G B H σ rr t Q XP w s hx p
  unfold mAnd at p
  rw [post_bind] at p
  refine h1 G B H σ rr t _ XP w s hx (post_mono p fun b r1 t1 p => fun B1 H1 l1 w1 s1 => ?_)
  cases b with
  | false => exact p B1 H1 l1 w1 s1
  | true => exact h2 G B1 H1 σ r1 t1 Q XP w1 s1 (hx.mono l1) (post_mono p fun b r2 t2 p => fun B2 H2 l2 w2 s2 => p B2 H2 (l1.trans l2) w2 s2)
theorem rf_or (h1 : RfT K c tt m) (h2 : RfT K c tu n) : RfT K c (tOr tt tu) (mOr m n) := by
  intro G B H σ rr t Q XP w s hx p
  unfold mOr at p
  rw [post_bind] at p
  refine h1 G B H σ rr t _ XP w s hx (post_mono p fun b r1 t1 p => fun B1 H1 l1 w1 s1 => ?_)
  cases b with
  | true => exact p B1 H1 l1 w1 s1
  | false => exact h2 G B1 H1 σ r1 t1 Q XP w1 s1 (hx.mono l1) (post_mono p fun b r2 t2 p => fun B2 H2 l2 w2 s2 => p B2 H2 (l1.trans l2) w2 s2)
theorem rf_not (h1 : RfT K c tt m) : RfT K c (tNot tt) (mNot m) := by
  intro G B H σ rr t Q XP w s hx p
  unfold mNot at p
  rw [post_bind] at p
  exact h1 G B H σ rr t _ XP w s hx (post_mono p fun b r1 t1 p => fun B1 H1 l1 w1 s1 => p B1 H1 l1 w1 s1)
theorem pwd_and1 (h : PTD X c a tt m) : PWD X c (.BoolOp .And [a] pos) tt m := by
  obtain ⟨h1, k1⟩ := h
  exact ⟨pw_and1 h1, k1⟩
theorem pwd_or1 (h : PTD X c a tt m) : PWD X c (.BoolOp .Or [a] pos) tt m := by
  obtain ⟨h1, k1⟩ := h
  exact ⟨pw_or1 h1, k1⟩
theorem pwd_and (h : PTD X c a tt m) (k : PWD X c (.BoolOp .And (b :: rest) pos) tu n) : PWD X c (.BoolOp .And (a :: b :: rest) pos) (tAnd tt tu) (mAnd m n) := by
  obtain ⟨h1, k1⟩ := h
  obtain ⟨h2, k2⟩ := k
  exact ⟨pw_and h1 h2, rf_and k1 k2⟩
theorem pwd_or (h : PTD X c a tt m) (k : PWD X c (.BoolOp .Or (b :: rest) pos) tu n) : PWD X c (.BoolOp .Or (a :: b :: rest) pos) (tOr tt tu) (mOr m n) := by
  obtain ⟨h1, k1⟩ := h
  obtain ⟨h2, k2⟩ := k
  exact ⟨pw_or h1 h2, rf_or k1 k2⟩
theorem ptd_w (h : PWD X c e tt m) : PTD X c e tt m := by
  obtain ⟨h1, k1⟩ := h
  exact ⟨h1.pt, k1⟩
theorem ptd_not (h : PTD X c a tt m) : PTD X c (.UnaryOp .Not a pos) (tNot tt) (mNot m) := by
  obtain ⟨h1, k1⟩ := h
  exact ⟨pt_not h1, rf_not k1⟩
/-! and, or, not as values: all but the last a bool -/
def mAndV (ma mb : M Tk) : M Tk := (mT ma).bind fun b => if b then mb else M.ret (.v (.d (.bool false)))
def mOrV (ma mb : M Tk) : M Tk := (mT ma).bind fun b => if b then M.ret (.v (.d (.bool true))) else mb
def mNotV (ma : M Tk) : M Tk := (mT ma).bind fun b => M.ret (.v (.d (.bool (!b))))
theorem rf_andV (h1 : RfE K c ta ma) (h2 : RfE K c tb mb) : RfE K c (tAndV ta tb) (mAndV ma mb) := by
  intro G B H σ rr t Q XP w s hx p
  unfold mAndV at p
  rw [post_bind] at p
  unfold mT at p
  rw [post_bind] at p
  refine h1 G B H σ rr t _ XP w s hx (post_mono p fun a r1 t1 p => fun v1 B1 H1 l1 w1 s1 v1a => ?_)
  obtain ⟨k, ek, p⟩ := boolOf_ok v1a p
  refine ⟨k, ek, ?_⟩
  cases k with
  | false => rw [if_neg Bool.false_ne_true]; exact p _ B1 H1 l1 w1 s1 (Dq.bl false)
  | true =>
    rw [if_pos rfl]
    exact h2 G B1 H1 σ r1 t1 Q XP w1 s1 (hx.mono l1) (post_mono p fun b r2 t2 p => fun v2 B2 H2 l2 w2 s2 v2b => p v2 B2 H2 (l1.trans l2) w2 s2 v2b)
theorem rf_orV (h1 : RfE K c ta ma) (h2 : RfE K c tb mb) : RfE K c (tOrV ta tb) (mOrV ma mb) := by
  intro G B H σ rr t Q XP w s hx p
  unfold mOrV at p
  rw [post_bind] at p
  unfold mT at p
  rw [post_bind] at p
  refine h1 G B H σ rr t _ XP w s hx (post_mono p fun a r1 t1 p => fun v1 B1 H1 l1 w1 s1 v1a => ?_)
  obtain ⟨k, ek, p⟩ := boolOf_ok v1a p
  refine ⟨k, ek, ?_⟩
  cases k with
  | true => rw [if_pos rfl]; exact p _ B1 H1 l1 w1 s1 (Dq.bl true)
  | false =>
    rw [if_neg Bool.false_ne_true]
    exact h2 G B1 H1 σ r1 t1 Q XP w1 s1 (hx.mono l1) (post_mono p fun b r2 t2 p => fun v2 B2 H2 l2 w2 s2 v2b => p v2 B2 H2 (l1.trans l2) w2 s2 v2b)
theorem rf_notV (h1 : RfE K c ta ma) : RfE K c (tNotV ta) (mNotV ma) := by
  intro G B H σ rr t Q XP w s hx p
  unfold mNotV at p
  rw [post_bind] at p
  unfold mT at p
  rw [post_bind] at p
  refine h1 G B H σ rr t _ XP w s hx (post_mono p fun a r1 t1 p => fun v1 B1 H1 l1 w1 s1 v1a => ?_)
  obtain ⟨k, ek, p⟩ := boolOf_ok v1a p
  exact ⟨k, ek, p _ B1 H1 l1 w1 s1 (Dq.bl _)⟩
theorem pd_one {op : BoolOp} (h : PED X c a ta ma) : PED X c (.BoolOp op [a] pos) ta ma := by
  obtain ⟨h1, k1⟩ := h
  exact ⟨pe_one h1, k1⟩
theorem pd_and (h : PED X c a ta ma) (k : PED X c (.BoolOp .And (b :: rest) pos) tb mb) : PED X c (.BoolOp .And (a :: b :: rest) pos) (tAndV ta tb) (mAndV ma mb) := by
  obtain ⟨h1, k1⟩ := h
  obtain ⟨h2, k2⟩ := k
  exact ⟨pe_and h1 h2, rf_andV k1 k2⟩
theorem pd_or (h : PED X c a ta ma) (k : PED X c (.BoolOp .Or (b :: rest) pos) tb mb) : PED X c (.BoolOp .Or (a :: b :: rest) pos) (tOrV ta tb) (mOrV ma mb) := by
  obtain ⟨h1, k1⟩ := h
  obtain ⟨h2, k2⟩ := k
  exact ⟨pe_or h1 h2, rf_orV k1 k2⟩
theorem pd_not (h : PED X c a ta ma) : PED X c (.UnaryOp .Not a pos) (tNotV ta) (mNotV ma) := by
  obtain ⟨h1, k1⟩ := h
  exact ⟨pe_not h1, rf_notV k1⟩
def mIfE (m : M Bool) (ma mb : M Tk) : M Tk := m.bind fun b => if b then ma else mb
theorem rf_ifE (h : RfT K c tt m) (h1 : RfE K c ta ma) (h2 : RfE K c tb mb) : RfE K c (tIf tt ta tb) (mIfE m ma mb) := by
  intro G B H σ rr t Q XP w s hx p
  unfold mIfE at p
  rw [post_bind] at p
  refine h G B H σ rr t _ XP w s hx (post_mono p fun b r1 t1 p => fun B1 H1 l1 w1 s1 => ?_)
  cases b with
  | true => exact h1 G B1 H1 σ r1 t1 Q XP w1 s1 (hx.mono l1) (post_mono p fun b r2 t2 p => fun v2 B2 H2 l2 w2 s2 v2b => p v2 B2 H2 (l1.trans l2) w2 s2 v2b)
  | false => exact h2 G B1 H1 σ r1 t1 Q XP w1 s1 (hx.mono l1) (post_mono p fun b r2 t2 p => fun v2 B2 H2 l2 w2 s2 v2b => p v2 B2 H2 (l1.trans l2) w2 s2 v2b)
theorem pd_ifE {cc : Expr} (h : PTD X c cc tt m) (ha : PED X c a ta ma) (hb : PED X c b tb mb) : PED X c (.IfExp cc a b pos) (tIf tt ta tb) (mIfE m ma mb) := by
  obtain ⟨h1, k1⟩ := h
  obtain ⟨h2, k2⟩ := ha
  obtain ⟨h3, k3⟩ := hb
  exact ⟨pe_ifExp h1 h2 h3, rf_ifE k1 k2 k3⟩

/-! ### 8. Arguments, displays -/
def mNil : M (List Tk) := M.ret []
def mCons (m : M Tk) (n : M (List Tk)) : M (List Tk) := m.bind fun k => n.bind fun ks => M.ret (k :: ks)
theorem rf_nil : RfA K c tNil mNil := fun G B H σ rr t Q XP w s hx p => p [] B H (Bs.le.refl B) w s True.intro
theorem rf_cons {te : TE} {tr : TA} {m : M Tk} {n : M (List Tk)} (h1 : RfE K c te m) (h2 : RfA K c tr n) : RfA K c (tCons te tr) (mCons m n) := by
  intro G B H σ rr t Q XP w s hx p
  unfold mCons at p
  rw [post_bind] at p
  refine h1 G B H σ rr t _ XP w s hx (post_mono p fun a r1 t1 p => fun v1 B1 H1 l1 w1 s1 v1a => ?_)
  rw [post_bind] at p
  exact h2 G B1 H1 σ r1 t1 _ XP w1 s1 (hx.mono l1) (post_mono p fun ks r2 t2 p => fun vs B2 H2 l2 w2 s2 v2 => p (v1 :: vs) B2 H2 (l1.trans l2) w2 s2 ⟨v1a.mono l2, v2⟩)
theorem pad_nil : PAD X c [] tNil mNil := ⟨pa_nil, rf_nil⟩
theorem pad_cons {es : List Expr} {m : M Tk} {n : M (List Tk)} {t : TA} (h1 : PED X c e te m) (h2 : PAD X c es t n) (hs : starEach (e :: es) X.env = (false, eval e X.env) :: starEach es X.env := by rfl) : PAD X c (e :: es) (tCons te t) (mCons m n) := by
  obtain ⟨h1, k1⟩ := h1
  obtain ⟨h2, k2⟩ := h2
  exact ⟨pa_cons h1 h2 hs, rf_cons k1 k2⟩
/-- data that is kept -/
def keepD : List Tk → Option (List PyData)
  | [] => some []
  | .v (.d x) :: ks => match keepD ks with
    | some xs => some (x :: xs)
    | none => none
  | _ :: _ => none
theorem keepD_ok {B : Bs} {ow : List Nat} {σ : L2.St} : ∀ {ks : List Tk} {vs : List V} {xs : List PyData}, keepD ks = some xs → TvA K B ow σ vs ks → DqAll K B.H vs xs
  | [], [], xs, e, _ => by cases e; exact .nil
  | .v (.d x) :: ks, v :: vs, xs, e, h => by
    unfold keepD at e
    cases q : keepD ks with
    | none => rw [q] at e; cases e
    | some ys =>
      rw [q] at e
      cases e
      exact .cons h.1 (keepD_ok q h.2)
  | [], _ :: _, _, _, h => h.elim
  | .v (.d _) :: _, [], _, _, h => h.elim
  | .v .deal :: _, _, _, e, _ => by cases e
  | .v (.raw _) :: _, _, _, e, _ => by cases e
  | .v (.exc _ _) :: _, _, _, e, _ => by cases e
  | .v (.scr _) :: _, _, _, e, _ => by cases e
  | .o _ :: _, _, _, e, _ => by cases e
def mTup (ma : M (List Tk)) : M Tk := ma.bind fun ks => (optM (keepD ks)).bind fun xs => if xs.length ≤ 100000 then M.ret (.v (.d (.tuple xs))) else M.st
theorem small_ok {n : Nat} (h : n ≤ 100000) : n ≤ sizeLine := by rw [sizeLine_eq]; omega
theorem rf_tup {t : TA} {m : M (List Tk)} (h : RfA K c t m) : RfE K c (tTup t) (mTup m) := by
  intro G B H σ rr dl Q XP w s hx p
  unfold mTup at p
  rw [post_bind] at p
  refine h G B H σ rr dl _ XP w s hx (post_mono p fun ks r1 t1 p => fun vs B1 H1 l1 w1 s1 v1 => ?_)
  rw [post_bind] at p
  obtain ⟨xs, q, p⟩ := optM_ok p
  have r := keepD_ok q v1
  by_cases hz : xs.length ≤ 100000
  · rw [if_pos hz] at p
    obtain ⟨G', w', gg, _, back⟩ := Sls.push w1 s1
    refine ⟨small_ok (by rw [r.len]; exact hz), fun a na => new_tup w' na r fun v B' H' l' w2 sv => ?_⟩
    obtain ⟨w3, s3⟩ := back B' H' t1 l' w2
    exact p v B' H' (l1.trans l') w3 s3 sv
  · rw [if_neg hz] at p
    exact p.elim
theorem pd_tup {es : List Expr} {x1 : Nat} {t : TA} {m : M (List Tk)} (h : PAD X c es t m) : PED X c (.Tuple es x1 pos) (tTup t) (mTup m) := by
  obtain ⟨h1, k1⟩ := h
  exact ⟨pe_tup h1, rf_tup k1⟩
end
end DL
end
section
set_option maxRecDepth 100000
set_option maxHeartbeats 4000000
namespace DL
open PySem PySem.Spec PyProof.Rows L2

/-! ### 9. The slots kept through changes -/
section
variable {K : PySem.W.Frag} {ow : List Nat} {G : Hp} {B B' : Bs} {H H' : Hp} {σ : L2.St} {r : Rho} {t : Option Deal} {p : Addr} {o : HO}
/-- p is none of the owned lists -/
def NOw (ow : List Nat) (σ : L2.St) (r : Rho) (p : Addr) : Prop := ∀ i, i ∈ ow → Live r i → σ[i]? ≠ some (some (.ref p))
theorem Sls.now (s : Sls K ow G B H σ r) (h : H p = none) : NOw ow σ r p := fun i hi ⟨x, hx⟩ e => by
  obtain ⟨ds, a, vs, _, h2, h3, _⟩ := s.own i x hx hi
  rw [e] at h2
  injection h2 with h2; injection h2 with h2; injection h2 with h2
  rw [← h2, h] at h3; cases h3
theorem Sls.lay (s : Sls K ow G B H σ r) (h : H p = none) : Sls K ow G B (upd H p o) σ r := by
  refine ⟨s.len, s.var, fun i x hx hi => ?_, s.dis⟩
  obtain ⟨ds, a, vs, h1, h2, h3, h4⟩ := s.own i x hx hi
  exact ⟨ds, a, vs, h1, h2, by rw [upd_ne (ne_of_none h3 h)]; exact h3, h4⟩
/-- an object that is none of the owned lists is changed -/
theorem Sls.chgN (s : Sls K ow G B H σ r) (n : NOw ow σ r p) : Sls K ow G B (upd H p o) σ r := by
  refine ⟨s.len, s.var, fun i x hx hi => ?_, s.dis⟩
  obtain ⟨ds, a, vs, h1, h2, h3, h4⟩ := s.own i x hx hi
  have q : a ≠ p := fun e => by subst e; exact n i hi ⟨x, hx⟩ h2
  exact ⟨ds, a, vs, h1, h2, by rw [upd_ne q]; exact h3, h4⟩
/-- an object is frozen -/
theorem Sls.frz (s : Sls K ow G B H σ r) (h : B.H p = none) (n : NOw ow σ r p) : Sls K ow G (B.add p o) H σ r := by
  have le := Bs.le_add (o := o) h
  refine ⟨s.len, fun i x hx hi => ?_, fun i x hx hi => ?_, s.dis⟩
  · obtain ⟨v, h1, h2⟩ := s.var i x hx hi
    exact ⟨v, h1, h2.mono le⟩
  · obtain ⟨ds, a, vs, h1, h2, h3, h4, h5, h6, h7⟩ := s.own i x hx hi
    have q : a ≠ p := fun e => by subst e; exact n i hi ⟨x, hx⟩ h2
    exact ⟨ds, a, vs, h1, h2, h3, dpa_mono le.h h4, by show upd B.H p o a = none; rw [upd_ne q]; exact h5, h6, h7⟩
/-- a slot that owns nothing is stored -/
theorem Sls.set (s : Sls K ow G B H σ r) {i : Nat} {v : V} {x : Sl} (hi : i ∉ ow) (hv : Sv K B v x) : Sls K ow G B H (σ.set i (some v)) (r.set i (some x)) := by
  have key : ∀ {j : Nat}, j ≠ i → (r.set i (some x))[j]? = r[j]? ∧ (σ.set i (some v))[j]? = σ[j]? := fun h => ⟨List.getElem?_set_ne (Ne.symm h), List.getElem?_set_ne (Ne.symm h)⟩
  refine ⟨by simp [s.len], fun j y hy hj => ?_, fun j y hy hj => ?_, fun j k p hj hk jk lj lk e => ?_⟩
  · by_cases q : j = i
    · subst q
      have hl : j < r.length := by
        have := (List.getElem?_eq_some_iff.mp hy).1
        simpa using this
      rw [List.getElem?_set_self hl] at hy
      cases hy
      exact ⟨v, List.getElem?_set_self (by rw [s.len]; exact hl), hv⟩
    · rw [(key q).1] at hy
      rw [(key q).2]
      exact s.var j y hy hj
  · have q : j ≠ i := fun e => hi (e ▸ hj)
    rw [(key q).1] at hy
    rw [(key q).2]
    exact s.own j y hy hj
  · have q : j ≠ i := fun e => hi (e ▸ hj)
    have q2 : k ≠ i := fun e => hi (e ▸ hk)
    unfold Live at lj lk
    rw [(key q).1] at lj
    rw [(key q2).1] at lk
    rw [(key q).2] at e
    rw [(key q2).2]
    exact s.dis j k p hj hk jk lj lk e
/-- a slot that owns its list is stored: a list that nobody else has -/
theorem Sls.setO (s : Sls K ow G B H σ r) {i : Nat} {vs : List V} {ds : List PyData} (hi : i ∈ ow) (hp : H p = some (.lst vs)) (hd : DqAll K B.H vs ds) (hb : B.H p = none) (hg : G p = none) (hn : Ndl B p) (no : NOw ow σ r p) :
    Sls K ow G B H (σ.set i (some (.ref p))) (r.set i (some (.d (.list ds)))) := by
  have key : ∀ {j : Nat}, j ≠ i → (r.set i (some (.d (.list ds))))[j]? = r[j]? ∧ (σ.set i (some (.ref p)))[j]? = σ[j]? := fun h => ⟨List.getElem?_set_ne (Ne.symm h), List.getElem?_set_ne (Ne.symm h)⟩
  refine ⟨by simp [s.len], fun j y hy hj => ?_, fun j y hy hj => ?_, fun j k a hj hk jk lj lk e => ?_⟩
  · have q : j ≠ i := fun e => hj (e ▸ hi)
    rw [(key q).1] at hy
    rw [(key q).2]
    exact s.var j y hy hj
  · by_cases q : j = i
    · subst q
      have hl : j < r.length := by
        have := (List.getElem?_eq_some_iff.mp hy).1
        simpa using this
      rw [List.getElem?_set_self hl] at hy
      cases hy
      exact ⟨ds, p, vs, rfl, List.getElem?_set_self (by rw [s.len]; exact hl), hp, hd, hb, hg, hn⟩
    · rw [(key q).1] at hy
      rw [(key q).2]
      exact s.own j y hy hj
  · by_cases q : j = i
    · subst q
      have q2 : k ≠ j := Ne.symm jk
      unfold Live at lk
      rw [(key q2).1] at lk
      rw [(key q2).2]
      intro e2
      have hl : j < r.length := by
        obtain ⟨y, hy⟩ := lj
        have := (List.getElem?_eq_some_iff.mp hy).1
        simpa using this
      rw [List.getElem?_set_self (by rw [s.len]; exact hl)] at e
      injection e with e; injection e with e; injection e with e
      subst e
      exact no k hk lk e2
    · unfold Live at lj lk
      rw [(key q).1] at lj
      rw [(key q).2] at e
      by_cases q2 : k = i
      · subst q2
        intro e2
        have hl : k < r.length := by
          obtain ⟨y, hy⟩ := lk
          have := (List.getElem?_eq_some_iff.mp hy).1
          simpa using this
        rw [List.getElem?_set_self (by rw [s.len]; exact hl)] at e2
        injection e2 with e2; injection e2 with e2; injection e2 with e2
        subst e2
        exact no j hj lj e
      · rw [(key q2).1] at lk
        rw [(key q2).2]
        exact s.dis j k a hj hk jk lj lk e
/-- an owned list is changed -/
theorem Sls.chg (s : Sls K ow G B H σ r) {i : Nat} {vs : List V} {ds : List PyData} {x : Sl} (hi : i ∈ ow) (hx : r[i]? = some (some x)) (hs : σ[i]? = some (some (.ref p))) (hd : DqAll K B.H vs ds) :
    Sls K ow G B (upd H p (.lst vs)) σ (r.set i (some (.d (.list ds)))) := by
  have hl : i < r.length := (List.getElem?_eq_some_iff.mp hx).1
  obtain ⟨ds0, a0, vs0, g1, g2, g3, g4, g5, g6, g7⟩ := s.own i x hx hi
  rw [hs] at g2
  injection g2 with g2; injection g2 with g2; injection g2 with g2
  subst g2
  have live : ∀ {j : Nat}, Live (r.set i (some (.d (.list ds)))) j → Live r j := fun {j} ⟨y, hy⟩ => by
    by_cases q : j = i
    · subst q; exact ⟨x, hx⟩
    · rw [List.getElem?_set_ne (Ne.symm q)] at hy
      exact ⟨y, hy⟩
  refine ⟨by simp [s.len], fun j y hy hj => ?_, fun j y hy hj => ?_, fun j k a hj hk jk lj lk e => s.dis j k a hj hk jk (live lj) (live lk) e⟩
  · have q : j ≠ i := fun e => hj (e ▸ hi)
    rw [List.getElem?_set_ne (Ne.symm q)] at hy
    exact s.var j y hy hj
  · by_cases q : j = i
    · subst q
      rw [List.getElem?_set_self hl] at hy
      cases hy
      exact ⟨ds, p, vs, rfl, hs, upd_same, hd, g5, g6, g7⟩
    · rw [List.getElem?_set_ne (Ne.symm q)] at hy
      obtain ⟨ds1, a1, vs1, h1, h2, h3, h4⟩ := s.own j y hy hj
      have n : a1 ≠ p := fun e => by
        subst e
        exact s.dis i j a1 hi hj (Ne.symm q) ⟨x, hx⟩ ⟨y, hy⟩ hs h2
      exact ⟨ds1, a1, vs1, h1, h2, by rw [upd_ne n]; exact h3, h4⟩
end

/-! ### 10. Fresh lists -/
/-- the list's address: nobody has it -/
structure Fr (K : PySem.W.Frag) (ow : List Nat) (G : Hp) (B : Bs) (H : Hp) (σ : L2.St) (r : Rho) (p : Addr) (ds : List PyData) : Prop where
  at_ : ∃ vs, H p = some (.lst vs) ∧ DqAll K B.H vs ds
  b : B.H p = none
  g : G p = none
  d : Ndl B p
  o : NOw ow σ r p
def RfF (K : PySem.W.Frag) (c : Cd) (te : TE) (m : M (List PyData)) : Prop := ∀ (G : Hp) (B : Bs) (H : Hp) (σ : L2.St) (r : Rho) (t : Option Deal) (Q : VK) (XP : XQ), Wd G B H t → Sls K c.ow G B H σ r → XOk K c.ec G B c.E XP →
  (m r t).post (fun ds r' t' => ∀ (p : Addr) (B' : Bs) (H' : Hp), B.le B' → Wd G B' H' t' → Sls K c.ow G B' H' σ r' → Fr K c.ow G B' H' σ r' p ds → Q (.ref p) H') XP → te σ H Q
structure PFD (X : Cx) (c : Cd) (e : Expr) (te : TE) (m : M (List PyData)) : Prop where
  p : PE X e te
  k : RfF X.K c te m
def mFz (m : M (List PyData)) : M Tk := m.bind fun ds => M.ret (.v (.d (.list ds)))
section
variable {X : Cx} {c : Cd} {a b e d : Expr} {ma mb me mc : M Tk} {ta tb te tc : TE} {tt tu : TT} {pos : Pos} {K : PySem.W.Frag}
theorem rf_fz {m : M (List PyData)} (h : RfF K c te m) : RfE K c te (mFz m) := by
  intro G B H σ rr t Q XP w s hx p
  unfold mFz at p
  rw [post_bind] at p
  refine h G B H σ rr t _ XP w s hx (post_mono p fun ds r1 t1 p => fun a B1 H1 l1 w1 s1 f => ?_)
  obtain ⟨vs, h1, h2⟩ := f.at_
  have le := Bs.le_add (o := .lst vs) f.b
  exact p (.ref a) (B1.add a (.lst vs)) H1 (l1.trans le) (w1.frz h1 f.b f.g f.d) (s1.frz f.b f.o) (Dq.lst (show upd B1.H a (.lst vs) a = _ from upd_same) (dpa_mono le.h h2))
theorem pd_fz {m : M (List PyData)} (h : PFD X c e te m) : PED X c e te (mFz m) := ⟨h.p, rf_fz h.k⟩
theorem new_fr {G : Hp} {B : Bs} {H : Hp} {σ : L2.St} {r : Rho} {t : Option Deal} {p : Addr} {vs : List V} {ds : List PyData} (w : Wd G B H t) (s : Sls K c.ow G B H σ r) (h : H p = none) (q : DqAll K B.H vs ds) :
    Wd G B (upd H p (.lst vs)) t ∧ Sls K c.ow G B (upd H p (.lst vs)) σ r ∧ Fr K c.ow G B (upd H p (.lst vs)) σ r p ds :=
  ⟨w.lay h, s.lay h, ⟨⟨vs, upd_same, q⟩, w.nb h, w.ng h, w.nd h, s.now h⟩⟩
def mLst (ma : M (List Tk)) : M (List PyData) := ma.bind fun ks => (optM (keepD ks)).bind fun xs => if xs.length ≤ 100000 then M.ret xs else M.st
theorem rf_lst {t : TA} {m : M (List Tk)} (h : RfA K c t m) : RfF K c (tLst t) (mLst m) := by
  intro G B H σ rr dl Q XP w s hx p
  unfold mLst at p
  rw [post_bind] at p
  refine h G B H σ rr dl _ XP w s hx (post_mono p fun ks r1 t1 p => fun vs B1 H1 l1 w1 s1 v1 => ?_)
  rw [post_bind] at p
  obtain ⟨xs, q, p⟩ := optM_ok p
  have r := keepD_ok q v1
  by_cases hz : xs.length ≤ 100000
  · rw [if_pos hz] at p
    refine ⟨small_ok (by rw [r.len]; exact hz), fun a na => ?_⟩
    obtain ⟨w2, s2, f2⟩ := new_fr (K := K) (c := c) w1 s1 na r
    exact p a B1 _ l1 w2 s2 f2
  · rw [if_neg hz] at p
    exact p.elim
theorem pf_lst {es : List Expr} {t : TA} {m : M (List Tk)} (h : PAD X c es t m) : PFD X c (.List es pos) (tLst t) (mLst m) := ⟨pe_lst h.p, rf_lst h.k⟩
/-- an operator that makes a new list -/
def OpF (K : PySem.W.Frag) (r : R2) (f : Sl → Sl → Option (List PyData)) : Prop := ∀ (G : Hp) (B : Bs) (H : Hp) (t : Option Deal) (x y : V) (a b : Sl) (ds : List PyData) (Q : VK), Wd G B H t → Bw K B H x a → Bw K B H y b → f a b = some ds →
  (∀ (p : Addr) (vs : List V), H p = none → DqAll K B.H vs ds → Q (.ref p) (upd H p (.lst vs))) → r x y H Q
def mOpF (f : Sl → Sl → Option (List PyData)) (ma mb : M Tk) : M (List PyData) := ma.bind fun a => mb.bind fun b => (use a).bind fun x => (use b).bind fun y => optM (f x y)
theorem rf_opF {r : R2} {f : Sl → Sl → Option (List PyData)} (ho : OpF K r f) (ha : RfE K c ta ma) (hb : RfE K c tb mb) : RfF K c (tOp r ta tb) (mOpF f ma mb) := by
  intro G B H σ rr t Q XP w s hx p
  unfold mOpF at p
  rw [post_bind] at p
  refine ha G B H σ rr t _ XP w s hx (post_mono p fun a r1 t1 p => fun v1 B1 H1 l1 w1 s1 v1a => ?_)
  rw [post_bind] at p
  refine hb G B1 H1 σ r1 t1 _ XP w1 s1 (hx.mono l1) (post_mono p fun b r2 t2 p => fun v2 B2 H2 l2 w2 s2 v2b => ?_)
  rw [post_bind] at p
  obtain ⟨x, bx, p⟩ := use_ok s2 (v1a.mono l2) p
  rw [post_bind] at p
  obtain ⟨y, by_, p⟩ := use_ok s2 v2b p
  obtain ⟨ds, e, p⟩ := optM_ok p
  refine ho G B2 H2 t2 v1 v2 x y ds Q w2 bx by_ e fun a vs na q => ?_
  obtain ⟨w3, s3, f3⟩ := new_fr (K := K) (c := c) w2 s2 na q
  exact p a B2 _ (l1.trans l2) w3 s3 f3
def catF : Sl → Sl → Option (List PyData)
  | .d (.list xs), .d (.list ys) => if xs.length + ys.length ≤ 16777216 then some (xs ++ ys) else none
  | _, _ => none
theorem opf_cat : OpF K (rAddA K) catF := by
  intro G B H t x y a b ds Q w ha hb e q
  unfold catF at e
  split at e
  · split at e
    · rename_i xs ys hz
      cases e
      obtain ⟨p1, vs1, rfl, h1, r1⟩ := ha.lst w
      obtain ⟨p2, vs2, rfl, h2, r2⟩ := hb.lst w
      exact .inr (.inl ⟨p1, p2, vs1, vs2, rfl, rfl, h1, h2, size_ok (by rw [r1.len, r2.len]; exact hz), fun p np => q p _ np (r1.app r2)⟩)
    · cases e
  · cases e
theorem pf_cat (ha : PED X c a ta ma) (hb : PED X c b tb mb) : PFD X c (.BinOp a .Add b pos) (tOp (rAddA X.K) ta tb) (mOpF catF ma mb) := ⟨pe_op op_addA ha.p hb.p, rf_opF opf_cat ha.k hb.k⟩

/-! xs[::-1] -/
def revF : Sl → Option (List PyData)
  | .d (.list xs) => some xs.reverse
  | _ => none
def mRev (m : M Tk) : M (List PyData) := m.bind fun k => (use k).bind fun x => optM (revF x)
theorem rf_rev (h : RfE K c te me) : RfF K c (tRevL K te) (mRev me) := by
  intro G B H σ rr t Q XP w s hx p
  unfold mRev at p
  rw [post_bind] at p
  refine h G B H σ rr t _ XP w s hx (post_mono p fun k r1 t1 p => fun v1 B1 H1 l1 w1 s1 v1k => ?_)
  rw [post_bind] at p
  obtain ⟨x, bx, p⟩ := use_ok s1 v1k p
  obtain ⟨ds, e, p⟩ := optM_ok p
  unfold revF at e
  split at e
  · cases e
    obtain ⟨a, vs, rfl, h1, q1⟩ := bx.lst w1
    refine ⟨a, vs, rfl, SqL.of h1, fun q nq => ?_⟩
    obtain ⟨w2, s2, f2⟩ := new_fr (K := K) (c := c) w1 s1 nq q1.rev
    exact p q B1 _ l1 w2 s2 f2
  · cases e
theorem pf_rev {k : Nat} {p1 p2 p3 : Pos} (h : PED X c e te me) : PFD X c (.Subscript e (.Slice none none (some (.UnaryOp .USub (.Constant (.int 1) k p1) p2)) p3) pos) (tRevL X.K te) (mRev me) := ⟨pe_revL h.p, rf_rev h.k⟩

/-! ### 11. Slices -/
def RfO (K : PySem.W.Frag) (c : Cd) (to : TO) (m : M (Option Int)) : Prop := ∀ (G : Hp) (B : Bs) (H : Hp) (σ : L2.St) (r : Rho) (t : Option Deal) (Q : Option Int → Hp → Prop) (XP : XQ), Wd G B H t → Sls K c.ow G B H σ r → XOk K c.ec G B c.E XP →
  (m r t).post (fun b r' t' => ∀ (B' : Bs) (H' : Hp), B.le B' → Wd G B' H' t' → Sls K c.ow G B' H' σ r' → Q b H') XP → to σ H Q
structure POD (X : Cx) (c : Cd) (e : Option Expr) (to : TO) (m : M (Option Int)) : Prop where
  p : PO X e to
  k : RfO X.K c to m
def intOf : Sl → Option Int
  | .d (.int i) => some i
  | _ => none
def mPart (m : M Tk) : M (Option Int) := m.bind fun k => (use k).bind fun x => (optM (intOf x)).bind fun i => M.ret (some i)
def mNoP : M (Option Int) := M.ret none
theorem rf_part (h : RfE K c te me) : RfO K c (tPart te) (mPart me) := by
  intro G B H σ rr t Q XP w s hx p
  unfold mPart at p
  rw [post_bind] at p
  refine h G B H σ rr t _ XP w s hx (post_mono p fun a r1 t1 p => fun v1 B1 H1 l1 w1 s1 v1a => ?_)
  rw [post_bind] at p
  obtain ⟨x, bx, p⟩ := use_ok s1 v1a p
  rw [post_bind] at p
  obtain ⟨i, e, p⟩ := optM_ok p
  unfold intOf at e
  split at e
  · cases e
    exact ⟨_, bx.int, p B1 H1 l1 w1 s1⟩
  · cases e
theorem pod_none : POD X c none tNoPart mNoP := ⟨po_none, fun G B H σ rr t Q XP w s hx p => p B H (Bs.le.refl B) w s⟩
theorem pod_some (h : PED X c e te me) : POD X c (some e) (tPart te) (mPart me) := ⟨po_some h.p, rf_part h.k⟩
def cutL {α : Type} (xs : List α) (lo hi : Option Int) : List α := (xs.drop (HT.sIx xs.length 0 lo)).take (HT.sIx xs.length xs.length hi - HT.sIx xs.length 0 lo)
def slF (lo hi : Option Int) : Sl → Option Sl
  | .d (.list ds) => some (.d (.list (cutL ds lo hi)))
  | .d (.tuple ds) => some (.d (.tuple (cutL ds lo hi)))
  | .d (.str z) => if z.length ≤ 16777216 then some (.d (.str (cutS z lo hi))) else none
  | .scr ns => some (.d (.list (cutL (ns.map PyData.int) lo hi)))
  | _ => none
def mSl (m : M Tk) (ml mh : M (Option Int)) : M Tk := m.bind fun k => ml.bind fun lo => mh.bind fun hi => (use k).bind fun x => lft (slF lo hi x)
def rSlAll (K : PySem.W.Frag) : V → Option Int → Option Int → Hp → VK → Prop := fun x lo hi H Q => rSlL K x lo hi H Q ∨ (rSlA K x lo hi H Q ∨ rSlS x lo hi H Q)
theorem SlR.or {r r' : V → Option Int → Option Int → Hp → VK → Prop} (h : SlR X r) (h' : SlR X r') : SlR X (fun x lo hi H Q => r x lo hi H Q ∨ r' x lo hi H Q) := by
  intro pins s σ H x v vl vu lo hi sl Q I rx hs pl pu q
  rcases q with q | q
  · exact h pins s σ H x v vl vu lo hi sl Q I rx hs pl pu q
  · exact h' pins s σ H x v vl vu lo hi sl Q I rx hs pl pu q
theorem sl_All : SlR X (rSlAll X.K) := SlR.or sl_list (SlR.or sl_tupA sl_str)
theorem cut_dq {H : Hp} {vs : List V} {ds : List PyData} {lo hi : Option Int} (r : DqAll K H vs ds) : DqAll K H (cutV vs lo hi) (cutL ds lo hi) := by
  unfold cutV cutL
  rw [r.len]
  exact (r.drop _).take _
theorem cut_whole {α : Type} {xs : List α} {lo hi : Option Int} (h : HT.sIx xs.length 0 lo = 0 ∧ HT.sIx xs.length xs.length hi = xs.length) : cutL xs lo hi = xs := by
  unfold cutL
  rw [h.1, h.2]
  simp
theorem rf_sl {tl th : TO} {ml mh : M (Option Int)} (h : RfE K c te me) (hl : RfO K c tl ml) (hh : RfO K c th mh) : RfE K c (tSl (rSlAll K) te tl th) (mSl me ml mh) := by
  intro G B H σ rr t Q XP w s hx p
  unfold mSl at p
  rw [post_bind] at p
  refine h G B H σ rr t _ XP w s hx (post_mono p fun k r1 t1 p => fun v1 B1 H1 l1 w1 s1 v1k => ?_)
  rw [post_bind] at p
  refine hl G B1 H1 σ r1 t1 _ XP w1 s1 (hx.mono l1) (post_mono p fun lo r2 t2 p => fun B2 H2 l2 w2 s2 => ?_)
  rw [post_bind] at p
  refine hh G B2 H2 σ r2 t2 _ XP w2 s2 (hx.mono (l1.trans l2)) (post_mono p fun hi r3 t3 p => fun B3 H3 l3 w3 s3 => ?_)
  rw [post_bind] at p
  obtain ⟨x, bx, p⟩ := use_ok s3 (v1k.mono (l2.trans l3)) p
  have l13 := (l1.trans l2).trans l3
  obtain ⟨G', w', gg, _, back⟩ := Sls.push w3 s3
  cases e : slF lo hi x with
  | none => rw [e] at p; exact p.elim
  | some z =>
    rw [e] at p
    have fin : ∀ (v : V) (B' : Bs) (H' : Hp), B3.le B' → Wd G' B' H' t3 → Sv K B' v z → Q v H' := fun v B' H' l w4 sv => by
      obtain ⟨w5, s5⟩ := back B' H' t3 l w4
      exact p v B' H' (l13.trans l) w5 s5 sv
    unfold slF at e
    split at e
    · cases e
      obtain ⟨a, vs, rfl, h1, q1⟩ := bx.lst w3
      exact .inl ⟨a, vs, rfl, SqL.of h1, fun p np => new_list w' np (cut_dq q1) fin⟩
    · rename_i ds
      cases e
      obtain ⟨a, vs, rfl, h1, q1⟩ := bx.tup
      refine .inr (.inl ⟨a, vs, rfl, sqt_mono w3.sub h1, fun hw => ?_, fun hw p np => new_tup w' np (cut_dq q1) fin⟩)
      rw [q1.len] at hw
      refine fin _ B3 H3 (Bs.le.refl B3) w' ?_
      rw [cut_whole hw]
      exact Dq.tup h1 q1
    · split at e
      · rename_i z hz
        cases e
        cases bx.str
        exact .inr (.inr ⟨z, rfl, size_ok hz, fin _ B3 H3 (Bs.le.refl B3) w' (.str _)⟩)
      · cases e
    · rename_i ns
      cases e
      rcases bx with ⟨a, rfl, hS⟩ | ⟨_, _, _, _, z, _⟩
      · exact .inl ⟨a, ns.map V.int, rfl, sql_mono w3.sub hS, fun p np => new_list w' np (cut_dq (dpa_of_ints ns)) fin⟩
      · cases z
    · cases e
theorem pd_sl {lo hi : Option Expr} {p2 : Pos} {tl th : TO} {ml mh : M (Option Int)} (h : PED X c e te me) (hl : POD X c lo tl ml) (hh : POD X c hi th mh) : PED X c (.Subscript e (.Slice lo hi none p2) pos) (tSl (rSlAll X.K) te tl th) (mSl me ml mh) :=
  ⟨pe_slice sl_All h.p hl.p hh.p, rf_sl h.k hl.k hh.k⟩
end
end DL
end
section
set_option maxRecDepth 100000
set_option maxHeartbeats 4000000
namespace DL
open PySem PySem.Spec PyProof.Rows L2

/-! ### 12. Built-ins by values -/
def useAll : List Tk → M (List Sl)
  | [] => M.ret []
  | k :: ks => (use k).bind fun x => (useAll ks).bind fun xs => M.ret (x :: xs)
def BwA (K : PySem.W.Frag) (B : Bs) (H : Hp) : List V → List Sl → Prop
  | [], [] => True
  | v :: vs, x :: xs => Bw K B H v x ∧ BwA K B H vs xs
  | _, _ => False
section
variable {X : Cx} {c : Cd} {a b e d : Expr} {ma mb me mc : M Tk} {ta tb te tc : TE} {tt tu : TT} {pos : Pos} {K : PySem.W.Frag}
theorem useAll_ok {ow : List Nat} {G : Hp} {B : Bs} {H : Hp} {σ : L2.St} {r : Rho} {t : Option Deal} {XP : XQ} (s : Sls K ow G B H σ r) : ∀ {vs : List V} {ks : List Tk} {Q : List Sl → Rho → Option Deal → Prop}, TvA K B ow σ vs ks → (useAll ks r t).post Q XP → ∃ xs, BwA K B H vs xs ∧ Q xs r t
  | [], [], Q, _, p => ⟨[], True.intro, p⟩
  | v :: vs, k :: ks, Q, h, p => by
    unfold useAll at p
    rw [post_bind] at p
    obtain ⟨x, bx, p⟩ := use_ok s h.1 p
    rw [post_bind] at p
    obtain ⟨xs, bxs, p⟩ := useAll_ok s h.2 p
    exact ⟨x :: xs, ⟨bx, bxs⟩, p⟩
  | [], _ :: _, _, h, _ => h.elim
  | _ :: _, [], _, h, _ => h.elim
def CbD (K : PySem.W.Frag) (r : List V → Hp → VK → Prop) (f : List Sl → Option Sl) : Prop := ∀ (G : Hp) (B : Bs) (H : Hp) (t : Option Deal) (vs : List V) (xs : List Sl) (z : Sl) (Q : VK), Wd G B H t → BwA K B H vs xs → f xs = some z →
  (∀ (v : V) (B' : Bs) (H' : Hp), B.le B' → Wd G B' H' t → Sv K B' v z → Q v H') → r vs H Q
def mCB (f : List Sl → Option Sl) (m : M (List Tk)) : M Tk := m.bind fun ks => (useAll ks).bind fun xs => lft (f xs)
theorem rf_cb {r : List V → Hp → VK → Prop} {f : List Sl → Option Sl} {t : TA} {m : M (List Tk)} (ho : CbD K r f) (h : RfA K c t m) : RfE K c (tCB r t) (mCB f m) := by
  intro G B H σ rr dl Q XP w s hx p
  unfold mCB at p
  rw [post_bind] at p
  refine h G B H σ rr dl _ XP w s hx (post_mono p fun ks r1 t1 p => fun vs B1 H1 l1 w1 s1 v1 => ?_)
  rw [post_bind] at p
  obtain ⟨xs, bx, p⟩ := useAll_ok s1 v1 p
  obtain ⟨G', w', gg, _, back⟩ := Sls.push w1 s1
  cases e : f xs with
  | none => rw [e] at p; exact p.elim
  | some z =>
    rw [e] at p
    refine ho G' B1 H1 t1 vs xs z Q w' bx e fun v B' H' l w3 sv => ?_
    obtain ⟨w4, s4⟩ := back B' H' t1 l w3
    exact p v B' H' (l1.trans l) w4 s4 sv
/-- f(e, ..), f a built-in -/
theorem pd_cb {x : Str} {p : Pos} {es : List Expr} {id : String} {r : List V → Hp → VK → Prop} {f : List Sl → Option Sl} {t : TA} {m : M (List Tk)} (hc : CallR X (.builtin id) r) (hd : CbD X.K r f) (hg : Gl X x) (hm : X.mg x = none) (hv : bootBuiltins x = some (.builtin id))
    (ha : PAD X c (e :: es) t m) (hp : PA X (e :: es) t → PE X (.Call (.Name x p) (e :: es) [] pos) (tCB r t)) : PED X c (.Call (.Name x p) (e :: es) [] pos) (tCB r t) (mCB f m) := ⟨hp ha.p, rf_cb hd ha.k⟩
def lenF : List Sl → Option Sl
  | [.d (.str z)] => if z.length ≤ 16777216 then some (.d (.int z.length)) else none
  | [.d (.list ds)] => some (.d (.int ds.length))
  | [.d (.tuple ds)] => some (.d (.int ds.length))
  | _ => none
def rLenA (K : PySem.W.Frag) : List V → Hp → VK → Prop := fun xs H Q => ∃ x n, xs = [x] ∧ LenV K x H n ∧ Q (.int n) H
theorem cbd_len : CbD K (rLenA K) lenF := by
  intro G B H t vs xs z Q w h e q
  unfold lenF at e
  split at e
  · split at e
    · rename_i zz hz
      cases e
      match vs, h with
      | [v], h =>
        cases h.1.str
        exact ⟨_, _, rfl, ⟨size_ok hz, rfl⟩, q _ B H (Bs.le.refl B) w (.int _)⟩
    · cases e
  · rename_i ds
    cases e
    match vs, h with
    | [v], h =>
      obtain ⟨a, ws, rfl, h1, r1⟩ := h.1.lst w
      exact ⟨_, ds.length, rfl, .inl ⟨ws, SqL.of h1, r1.len.symm⟩, q _ B H (Bs.le.refl B) w (.int _)⟩
  · rename_i ds
    cases e
    match vs, h with
    | [v], h =>
      obtain ⟨a, ws, rfl, h1, r1⟩ := h.1.tup
      exact ⟨_, ds.length, rfl, .inr ⟨ws, sqt_mono w.sub h1, r1.len.symm⟩, q _ B H (Bs.le.refl B) w (.int _)⟩
  · cases e
theorem pd_len {p : Pos} {es : List Expr} {t : TA} {m : M (List Tk)} (hg : Gl X "len") (hm : X.mg "len" = none) (ha : PAD X c (e :: es) t m)
    (he : starEach (e :: es) X.env = (false, eval e X.env) :: starEach es X.env := by rfl) (hpl : (backTo pos (starEach es X.env)).any (·.1) = false := by rfl) : PED X c (.Call (.Name "len" p) (e :: es) [] pos) (tCB (rLenA X.K) t) (mCB lenF m) :=
  ⟨pe_callB call_len hg hm boot_len ha.p (by decide) (by decide) he hpl, rf_cb cbd_len ha.k⟩
/-! all, any, sum, max, min, abs, int -/
def boolsOf : List PyData → Option (List Bool)
  | [] => some []
  | .bool b :: ds => match boolsOf ds with
    | some bs => some (b :: bs)
    | none => none
  | _ :: _ => none
def intsOf : List PyData → Option (List Int)
  | [] => some []
  | .int b :: ds => match intsOf ds with
    | some bs => some (b :: bs)
    | none => none
  | _ :: _ => none
theorem boolsOf_ok : ∀ {ds : List PyData} {bs : List Bool}, boolsOf ds = some bs → ds = bs.map PyData.bool
  | [], bs, e => by cases e; rfl
  | .bool b :: ds, bs, e => by
    unfold boolsOf at e
    cases q : boolsOf ds with
    | none => rw [q] at e; cases e
    | some cs => rw [q] at e; cases e; rw [boolsOf_ok q, List.map_cons]
  | .none :: _, _, e => by cases e
  | .int _ :: _, _, e => by cases e
  | .str _ :: _, _, e => by cases e
  | .list _ :: _, _, e => by cases e
  | .tuple _ :: _, _, e => by cases e
  | .dict _ :: _, _, e => by cases e
theorem intsOf_ok : ∀ {ds : List PyData} {bs : List Int}, intsOf ds = some bs → ds = bs.map PyData.int
  | [], bs, e => by cases e; rfl
  | .int b :: ds, bs, e => by
    unfold intsOf at e
    cases q : intsOf ds with
    | none => rw [q] at e; cases e
    | some cs => rw [q] at e; cases e; rw [intsOf_ok q, List.map_cons]
  | .none :: _, _, e => by cases e
  | .bool _ :: _, _, e => by cases e
  | .str _ :: _, _, e => by cases e
  | .list _ :: _, _, e => by cases e
  | .tuple _ :: _, _, e => by cases e
  | .dict _ :: _, _, e => by cases e
@[simp] theorem boolsOf_map : ∀ bs : List Bool, boolsOf (bs.map PyData.bool) = some bs
  | [] => rfl
  | b :: bs => by rw [List.map_cons, boolsOf, boolsOf_map bs]
@[simp] theorem intsOf_map : ∀ bs : List Int, intsOf (bs.map PyData.int) = some bs
  | [] => rfl
  | b :: bs => by rw [List.map_cons, intsOf, intsOf_map bs]
def allF : List Sl → Option Sl
  | [.d (.list ds)] => (boolsOf ds).map fun bs => .d (.bool (bs.all id))
  | _ => none
def anyF : List Sl → Option Sl
  | [.d (.list ds)] => (boolsOf ds).map fun bs => .d (.bool (bs.any id))
  | _ => none
def sumF : List Sl → Option Sl
  | [.d (.list ds)] => (intsOf ds).map fun ns => .d (.int ns.sum)
  | _ => none
theorem cbd_all : CbD K (rAll K) allF := by
  intro G B H t vs xs z Q w h e q
  unfold allF at e
  split at e
  · rename_i ds
    cases hb : boolsOf ds with
    | none => rw [hb] at e; cases e
    | some bs =>
      rw [hb] at e
      cases e
      match vs, h with
      | [v], h =>
        obtain ⟨a, ws, rfl, h1, r1⟩ := h.1.lst w
        rw [boolsOf_ok hb] at r1
        have ew := dpa_bls r1
        subst ew
        exact ⟨a, bs, rfl, SqL.of h1, q _ B H (Bs.le.refl B) w (.bl _)⟩
  · cases e
theorem cbd_any : CbD K (rAny K) anyF := by
  intro G B H t vs xs z Q w h e q
  unfold anyF at e
  split at e
  · rename_i ds
    cases hb : boolsOf ds with
    | none => rw [hb] at e; cases e
    | some bs =>
      rw [hb] at e
      cases e
      match vs, h with
      | [v], h =>
        obtain ⟨a, ws, rfl, h1, r1⟩ := h.1.lst w
        rw [boolsOf_ok hb] at r1
        have ew := dpa_bls r1
        subst ew
        exact ⟨a, bs, rfl, SqL.of h1, q _ B H (Bs.le.refl B) w (.bl _)⟩
  · cases e
theorem cbd_sum : CbD K (rSum K) sumF := by
  intro G B H t vs xs z Q w h e q
  unfold sumF at e
  split at e
  · rename_i ds
    cases hb : intsOf ds with
    | none => rw [hb] at e; cases e
    | some bs =>
      rw [hb] at e
      cases e
      match vs, h with
      | [v], h =>
        obtain ⟨a, ws, rfl, h1, r1⟩ := h.1.lst w
        rw [intsOf_ok hb] at r1
        have ew := dpa_ints r1
        subst ew
        exact ⟨a, bs, rfl, SqL.of h1, q _ B H (Bs.le.refl B) w (.int _)⟩
  · cases e
theorem pd_all {p : Pos} {es : List Expr} {t : TA} {m : M (List Tk)} (hc : X.calm = true) (hg : Gl X "all") (hm : X.mg "all" = none) (ha : PAD X c (e :: es) t m)
    (he : starEach (e :: es) X.env = (false, eval e X.env) :: starEach es X.env := by rfl) (hpl : (backTo pos (starEach es X.env)).any (·.1) = false := by rfl) : PED X c (.Call (.Name "all" p) (e :: es) [] pos) (tCB (rAll X.K) t) (mCB allF m) :=
  ⟨pe_callB (cr_all hc) hg hm (by decide +kernel) ha.p (by decide) (by decide) he hpl, rf_cb cbd_all ha.k⟩
theorem pd_any {p : Pos} {es : List Expr} {t : TA} {m : M (List Tk)} (hc : X.calm = true) (hg : Gl X "any") (hm : X.mg "any" = none) (ha : PAD X c (e :: es) t m)
    (he : starEach (e :: es) X.env = (false, eval e X.env) :: starEach es X.env := by rfl) (hpl : (backTo pos (starEach es X.env)).any (·.1) = false := by rfl) : PED X c (.Call (.Name "any" p) (e :: es) [] pos) (tCB (rAny X.K) t) (mCB anyF m) :=
  ⟨pe_callB (cr_any hc) hg hm (by decide +kernel) ha.p (by decide) (by decide) he hpl, rf_cb cbd_any ha.k⟩
theorem pd_sum {p : Pos} {es : List Expr} {t : TA} {m : M (List Tk)} (hc : X.calm = true) (hg : Gl X "sum") (hm : X.mg "sum" = none) (ha : PAD X c (e :: es) t m)
    (he : starEach (e :: es) X.env = (false, eval e X.env) :: starEach es X.env := by rfl) (hpl : (backTo pos (starEach es X.env)).any (·.1) = false := by rfl) : PED X c (.Call (.Name "sum" p) (e :: es) [] pos) (tCB (rSum X.K) t) (mCB sumF m) :=
  ⟨pe_callB (cr_sum hc) hg hm (by decide +kernel) ha.p (by decide) (by decide) he hpl, rf_cb cbd_sum ha.k⟩
/-! isinstance -/
def tyN : PyData → String
  | .none => "NoneType" | .bool _ => "bool" | .int _ => "int" | .str _ => "str" | .list _ => "list" | .tuple _ => "tuple" | .dict _ => "dict"
def isTN (T n : String) : Bool := n == T || (T == "int" && n == "bool")
def isT (T : String) (x : PyData) : Bool := isTN T (tyN x)
theorem ty_of {G : Hp} {B : Bs} {H : Hp} {t : Option Deal} {v : V} {x : PyData} (w : Wd G B H t) (h : Bw K B H v (.d x)) : TyX K H v (.type (tyN x)) := by
  cases x with
  | none => cases h.non; exact .base .non
  | bool b => cases h.bl; exact .base (.bl _)
  | int i => cases h.int; exact .base (.int _)
  | str i => cases h.str; exact .base (.str _)
  | list ds =>
    obtain ⟨a, vs, rfl, h1, _⟩ := h.lst w
    exact .base (.lst h1)
  | tuple ds =>
    obtain ⟨a, vs, rfl, h1, _⟩ := h.tup
    rcases h1 with (h1 | ⟨o, h1⟩) | ⟨o, its, n, h1, h2, _⟩
    · exact .base (.tup (w.sub _ _ h1))
    · exact .fTuple (w.sub _ _ h1)
    · exact .kTuple h1 h2
  | dict _ =>
    have := h.dp w
    cases this
def tysOf : List Sl → Option (List String)
  | [] => some []
  | .raw (.ty n) :: xs => match tysOf xs with
    | some ns => some (n :: ns)
    | none => none
  | _ :: _ => none
/-- the built-in classes that are asked for -/
def asks : List String := ["int", "str", "bool", "tuple", "list", "dict"]
def askT (T : String) : Bool := decide (T ∈ asks)
theorem kit_all : ∀ n ∈ (["NoneType", "bool", "int", "str", "list", "tuple", "dict"] : List String), ∀ T ∈ asks, kitB n T = some (isTN T n) := by decide +kernel
theorem tyN_mem (x : PyData) : tyN x ∈ (["NoneType", "bool", "int", "str", "list", "tuple", "dict"] : List String) := by
  cases x <;> simp [tyN]
theorem kit_one {T : String} {x : PyData} (h : askT T = true) : PySem.W.kitOne K (.type (tyN x)) (.type T) = some (isT T x) :=
  kit_ty (kit_all _ (tyN_mem x) _ (of_decide_eq_true h))
def isiF : List Sl → Option Sl
  | [.d x, .raw (.ty T)] => if askT T then some (.d (.bool (isT T x))) else none
  | _ => none
theorem cbd_isi : CbD K (rIsi K) isiF := by
  intro G B H t vs xs z Q w h e q
  unfold isiF at e
  split at e
  · split at e
    · rename_i x T hT
      cases e
      match vs, h with
      | [v, u], h =>
        have eu : u = .ty T := h.2.1.raw
        subst eu
        exact ⟨v, _, _, _, _, rfl, .ty T, ty_of w h.1, kit_one hT, q _ B H (Bs.le.refl B) w (.bl _)⟩
    · cases e
  · cases e
theorem pd_isi {p : Pos} {es : List Expr} {t : TA} {m : M (List Tk)} (hg : Gl X "isinstance") (hm : X.mg "isinstance" = none) (ha : PAD X c (e :: es) t m)
    (he : starEach (e :: es) X.env = (false, eval e X.env) :: starEach es X.env := by rfl) (hpl : (backTo pos (starEach es X.env)).any (·.1) = false := by rfl) : PED X c (.Call (.Name "isinstance" p) (e :: es) [] pos) (tCB (rIsi X.K) t) (mCB isiF m) :=
  ⟨pe_callB call_isi hg hm (by decide +kernel) ha.p (by decide) (by decide) he hpl, rf_cb cbd_isi ha.k⟩
end
end DL
end
section
set_option maxRecDepth 100000
set_option maxHeartbeats 4000000
namespace DL
open PySem PySem.Spec PyProof.Rows L2

section
variable {X : Cx} {c : Cd} {a b e d : Expr} {ma mb me mc : M Tk} {ta tb te tc : TE} {tt tu : TT} {pos : Pos} {K : PySem.W.Frag}
/-! isinstance(e, (T, U)) -/
def mIsi2 (T U : String) (m : M Tk) : M Tk := m.bind fun k => (use k).bind fun x => match x with
  | .d x => if askT T && askT U then M.ret (.v (.d (.bool (isT T x || isT U x)))) else M.st
  | _ => M.st
theorem kit_two {T U : String} {x : PyData} (h1 : askT T = true) (h2 : askT U = true) : PySem.W.kitAny K (.type (tyN x)) [.type T, .type U] = some (isT T x || isT U x) := by
  refine kitAny_cons (kit_one h1) (fun e => ?_) (fun e => by rw [e, Bool.true_or])
  rw [e, Bool.false_or]
  exact kitAny_cons (kit_one h2) (fun e => by rw [e]; rfl) (fun e => e)
theorem rf_isi2 {T U : String} (h : RfE K c te me) : RfE K c (tCB (rIsiT K) (tCons te (tCons (tTup (tCons (tC (.ty T)) (tCons (tC (.ty U)) tNil))) tNil))) (mIsi2 T U me) := by
  intro G B H σ rr t Q XP w s hx p
  unfold mIsi2 at p
  rw [post_bind] at p
  refine h G B H σ rr t _ XP w s hx (post_mono p fun k r1 t1 p => fun v1 B1 H1 l1 w1 s1 v1k => ?_)
  rw [post_bind] at p
  obtain ⟨x, bx, p⟩ := use_ok s1 v1k p
  cases x with
  | deal => exact p.elim
  | raw _ => exact p.elim
  | exc _ _ => exact p.elim
  | scr _ => exact p.elim
  | d x =>
    by_cases hh : (askT T && askT U) = true
    · have p : ((if (askT T && askT U) = true then M.ret (.v (.d (.bool (isT T x || isT U x)))) else M.st : M Tk) r1 t1).post _ XP := p
      rw [if_pos hh] at p
      rw [Bool.and_eq_true] at hh
      refine ⟨(by show 2 ≤ sizeLine; decide), fun q hq => ?_⟩
      obtain ⟨G', w', gg, _, back⟩ := Sls.push w1 s1
      refine ⟨v1, q, [.ty T, .ty U], .type (tyN x), [.type T, .type U], _, rfl, upd_same, .cons (.ty T) (.cons (.ty U) .nil), ?_, kit_two hh.1 hh.2, ?_⟩
      · refine ty_of (w1.lay (o := .tup [.ty T, .ty U]) hq) ?_
        rcases bx with bx | ⟨p1, vs, ds, e1, e2, e3, e4⟩
        · exact .inl bx
        · exact .inr ⟨p1, vs, ds, e1, e2, by rw [upd_ne (ne_of_none e3 hq)]; exact e3, e4⟩
      · obtain ⟨w4, s4⟩ := back B1 _ t1 (Bs.le.refl B1) (w'.lay (o := .tup [.ty T, .ty U]) hq)
        exact p _ B1 _ l1 w4 s4 (Dq.bl _)
    · have p : ((if (askT T && askT U) = true then M.ret (.v (.d (.bool (isT T x || isT U x)))) else M.st : M Tk) r1 t1).post _ XP := p
      rw [if_neg hh] at p
      exact p.elim
theorem pd_isi2 {p p1 p2 p3 : Pos} {k : Nat} {y z : Str} {T U : String} (hg : Gl X "isinstance") (hm : X.mg "isinstance" = none) (he : PED X c e te me) (hg1 : Gl X y) (hm1 : X.mg y = none) (hv1 : bootBuiltins y = some (.type T)) (hn1 : y ≠ "__name__") (hd1 : (y == ("__debug__" : Str)) = false)
    (hg2 : Gl X z) (hm2 : X.mg z = none) (hv2 : bootBuiltins z = some (.type U)) (hn2 : z ≠ "__name__") (hd2 : (z == ("__debug__" : Str)) = false)
    (hs : starEach [e, .Tuple [.Name y p1, .Name z p2] k p3] X.env = (false, eval e X.env) :: starEach [.Tuple [.Name y p1, .Name z p2] k p3] X.env := by rfl) :
    PED X c (.Call (.Name "isinstance" p) [e, .Tuple [.Name y p1, .Name z p2] k p3] [] pos) (tCB (rIsiT X.K) (tCons te (tCons (tTup (tCons (tC (.ty T)) (tCons (tC (.ty U)) tNil))) tNil))) (mIsi2 T U me) :=
  ⟨pe_callB call_isiT hg hm (by decide +kernel) (pa_cons he.p (pa_cons (pe_tup (pa_cons (pe_bltn hg1 hm1 hv1 rfl hn1 hd1) (pa_cons (pe_bltn hg2 hm2 hv2 rfl hn2 hd2) pa_nil))) pa_nil) hs) (by decide) (by decide) hs, rf_isi2 he.k⟩
/-! abs, int, tuple, list, max, min -/
def absF : List Sl → Option Sl
  | [.d (.int i)] => some (.d (.int (if i < 0 then -i else i)))
  | _ => none
def rAbs : List V → Hp → VK → Prop := fun xs H Q => ∃ i, xs = [.int i] ∧ Q (.int (if i < 0 then -i else i)) H
theorem cbd_abs : CbD K rAbs absF := by
  intro G B H t vs xs z Q w h e q
  unfold absF at e
  split at e
  · cases e
    match vs, h with
    | [v], h =>
      cases h.1.int
      exact ⟨_, rfl, q _ B H (Bs.le.refl B) w (.int _)⟩
  · cases e
def intF : List Sl → Option Sl
  | [.d (.int i)] => some (.d (.int i))
  | [.d (.bool b)] => some (.d (.int (if b then 1 else 0)))
  | _ => none
def rInt : List V → Hp → VK → Prop := fun xs H Q => (∃ i, xs = [.int i] ∧ Q (.int i) H) ∨ ∃ k, xs = [.bl k] ∧ Q (.int (if k then 1 else 0)) H
theorem cbd_int : CbD K rInt intF := by
  intro G B H t vs xs z Q w h e q
  unfold intF at e
  split at e
  · cases e
    match vs, h with
    | [v], h =>
      cases h.1.int
      exact .inl ⟨_, rfl, q _ B H (Bs.le.refl B) w (.int _)⟩
  · cases e
    match vs, h with
    | [v], h =>
      cases h.1.bl
      exact .inr ⟨_, rfl, q _ B H (Bs.le.refl B) w (.int _)⟩
  · cases e
def maxF : List Sl → Option Sl
  | [.d (.int i), .d (.int j)] => some (.d (.int (if j > i then j else i)))
  | _ => none
def minF : List Sl → Option Sl
  | [.d (.int i), .d (.int j)] => some (.d (.int (if j < i then j else i)))
  | _ => none
def rMax2' : List V → Hp → VK → Prop := fun xs H Q => ∃ i j, xs = [.int i, .int j] ∧ Q (.int (if j > i then j else i)) H
def rMin2' : List V → Hp → VK → Prop := fun xs H Q => ∃ i j, xs = [.int i, .int j] ∧ Q (.int (if j < i then j else i)) H
theorem cbd_max2 : CbD K rMax2' maxF := by
  intro G B H t vs xs z Q w h e q
  unfold maxF at e
  split at e
  · cases e
    match vs, h with
    | [v, u], h =>
      cases h.1.int
      cases h.2.1.int
      exact ⟨_, _, rfl, q _ B H (Bs.le.refl B) w (.int _)⟩
  · cases e
theorem cbd_min2 : CbD K rMin2' minF := by
  intro G B H t vs xs z Q w h e q
  unfold minF at e
  split at e
  · cases e
    match vs, h with
    | [v, u], h =>
      cases h.1.int
      cases h.2.1.int
      exact ⟨_, _, rfl, q _ B H (Bs.le.refl B) w (.int _)⟩
  · cases e
def tupF : List Sl → Option Sl
  | [.d (.list ds)] => some (.d (.tuple ds))
  | [.d (.tuple ds)] => some (.d (.tuple ds))
  | _ => none
def rTupC (K : PySem.W.Frag) : List V → Hp → VK → Prop := fun xs H Q => ∃ p ys, xs = [.ref p] ∧ ((SqL K H p ys ∧ ∀ l, H l = none → Q (.ref l) (upd H l (.tup ys))) ∨ SqT K H p ys ∧ Q (.ref p) H)
theorem cbd_tuple : CbD K (rTupC K) tupF := by
  intro G B H t vs xs z Q w h e q
  unfold tupF at e
  split at e
  · cases e
    match vs, h with
    | [v], h =>
      obtain ⟨a, ws, rfl, h1, r1⟩ := h.1.lst w
      exact ⟨a, ws, rfl, .inl ⟨SqL.of h1, fun l nl => new_tup w nl r1 q⟩⟩
  · cases e
    match vs, h with
    | [v], h =>
      obtain ⟨a, ws, rfl, h1, r1⟩ := h.1.tup
      exact ⟨a, ws, rfl, .inr ⟨sqt_mono w.sub h1, q _ B H (Bs.le.refl B) w (Dq.tup h1 r1)⟩⟩
  · cases e
section
variable {p : Pos} {es : List Expr} {t : TA} {m : M (List Tk)}
theorem pd_abs (hg : Gl X "abs") (hm : X.mg "abs" = none) (ha : PAD X c (e :: es) t m)
    (he : starEach (e :: es) X.env = (false, eval e X.env) :: starEach es X.env := by rfl) (hpl : (backTo pos (starEach es X.env)).any (·.1) = false := by rfl) : PED X c (.Call (.Name "abs" p) (e :: es) [] pos) (tCB rAbs t) (mCB absF m) :=
  ⟨pe_callB call_abs hg hm (by decide +kernel) ha.p (by decide) (by decide) he hpl, rf_cb cbd_abs ha.k⟩
theorem pd_intc (hg : Gl X "int") (hm : X.mg "int" = none) (ha : PAD X c (e :: es) t m)
    (he : starEach (e :: es) X.env = (false, eval e X.env) :: starEach es X.env := by rfl) (hpl : (backTo pos (starEach es X.env)).any (·.1) = false := by rfl) : PED X c (.Call (.Name "int" p) (e :: es) [] pos) (tCB rInt t) (mCB intF m) :=
  ⟨pe_callTy call_int1 hg hm (by decide +kernel) ha.p (by decide) (by decide) he hpl, rf_cb cbd_int ha.k⟩
theorem pd_max2 (hc : X.calm = true) (hg : Gl X "max") (hm : X.mg "max" = none) (ha : PAD X c (e :: es) t m)
    (he : starEach (e :: es) X.env = (false, eval e X.env) :: starEach es X.env := by rfl) (hpl : (backTo pos (starEach es X.env)).any (·.1) = false := by rfl) : PED X c (.Call (.Name "max" p) (e :: es) [] pos) (tCB rMax2' t) (mCB maxF m) :=
  ⟨pe_callB (call_max2 hc) hg hm (by decide +kernel) ha.p (by decide) (by decide) he hpl, rf_cb cbd_max2 ha.k⟩
theorem pd_min2 (hc : X.calm = true) (hg : Gl X "min") (hm : X.mg "min" = none) (ha : PAD X c (e :: es) t m)
    (he : starEach (e :: es) X.env = (false, eval e X.env) :: starEach es X.env := by rfl) (hpl : (backTo pos (starEach es X.env)).any (·.1) = false := by rfl) : PED X c (.Call (.Name "min" p) (e :: es) [] pos) (tCB rMin2' t) (mCB minF m) :=
  ⟨pe_callB (call_min2 hc) hg hm (by decide +kernel) ha.p (by decide) (by decide) he hpl, rf_cb cbd_min2 ha.k⟩
theorem pd_tupc (hg : Gl X "tuple") (hm : X.mg "tuple" = none) (ha : PAD X c (e :: es) t m)
    (he : starEach (e :: es) X.env = (false, eval e X.env) :: starEach es X.env := by rfl) (hpl : (backTo pos (starEach es X.env)).any (·.1) = false := by rfl) : PED X c (.Call (.Name "tuple" p) (e :: es) [] pos) (tCB (rTupC X.K) t) (mCB tupF m) :=
  ⟨pe_callTy call_tuple_of hg hm (by decide +kernel) ha.p (by decide) (by decide) he hpl, rf_cb cbd_tuple ha.k⟩
end
/-! built-ins that make a new list -/
def CbF (K : PySem.W.Frag) (r : List V → Hp → VK → Prop) (f : List Sl → Option (List PyData)) : Prop := ∀ (G : Hp) (B : Bs) (H : Hp) (t : Option Deal) (vs : List V) (xs : List Sl) (ds : List PyData) (Q : VK), Wd G B H t → BwA K B H vs xs → f xs = some ds →
  (∀ (p : Addr) (vs : List V), H p = none → DqAll K B.H vs ds → Q (.ref p) (upd H p (.lst vs))) → r vs H Q
def mCBF (f : List Sl → Option (List PyData)) (m : M (List Tk)) : M (List PyData) := m.bind fun ks => (useAll ks).bind fun xs => optM (f xs)
theorem rf_cbF {r : List V → Hp → VK → Prop} {f : List Sl → Option (List PyData)} {t : TA} {m : M (List Tk)} (ho : CbF K r f) (h : RfA K c t m) : RfF K c (tCB r t) (mCBF f m) := by
  intro G B H σ rr dl Q XP w s hx p
  unfold mCBF at p
  rw [post_bind] at p
  refine h G B H σ rr dl _ XP w s hx (post_mono p fun ks r1 t1 p => fun vs B1 H1 l1 w1 s1 v1 => ?_)
  rw [post_bind] at p
  obtain ⟨xs, bx, p⟩ := useAll_ok s1 v1 p
  obtain ⟨ds, e, p⟩ := optM_ok p
  refine ho G B1 H1 t1 vs xs ds Q w1 bx e fun a ws na q => ?_
  obtain ⟨w3, s3, f3⟩ := new_fr (K := K) (c := c) w1 s1 na q
  exact p a B1 _ l1 w3 s3 f3
def listF : List Sl → Option (List PyData)
  | [.d (.list ds)] => some ds
  | [.d (.tuple ds)] => some ds
  | _ => none
def rListC (K : PySem.W.Frag) : List V → Hp → VK → Prop := fun xs H Q => ∃ p ys, xs = [.ref p] ∧ (SqL K H p ys ∨ SqT K H p ys) ∧ ∀ l, H l = none → Q (.ref l) (upd H l (.lst ys))
theorem cbf_list : CbF K (rListC K) listF := by
  intro G B H t vs xs z Q w h e q
  unfold listF at e
  split at e
  · cases e
    match vs, h with
    | [v], h =>
      obtain ⟨a, ws, rfl, h1, r1⟩ := h.1.lst w
      exact ⟨a, ws, rfl, .inl (SqL.of h1), fun l nl => q l ws nl r1⟩
  · cases e
    match vs, h with
    | [v], h =>
      obtain ⟨a, ws, rfl, h1, r1⟩ := h.1.tup
      exact ⟨a, ws, rfl, .inr (sqt_mono w.sub h1), fun l nl => q l ws nl r1⟩
  · cases e
theorem pf_list {p : Pos} {es : List Expr} {t : TA} {m : M (List Tk)} (hg : Gl X "list") (hm : X.mg "list" = none) (ha : PAD X c (e :: es) t m)
    (he : starEach (e :: es) X.env = (false, eval e X.env) :: starEach es X.env := by rfl) (hpl : (backTo pos (starEach es X.env)).any (·.1) = false := by rfl) : PFD X c (.Call (.Name "list" p) (e :: es) [] pos) (tCB (rListC X.K) t) (mCBF listF m) :=
  ⟨pe_callTy call_list_of hg hm (by decide +kernel) ha.p (by decide) (by decide) he hpl, rf_cbF cbf_list ha.k⟩

/-! ### 13. Methods of an owned list -/
/-- the content of the list that slot i owns -/
def getO (i : Nat) : M (List PyData) := fun r t => match r[i]? with
  | some (some (.d (.list ds))) => .ok ds r t
  | _ => .st
def setO {α : Type} (i : Nat) (ds : List PyData) (a : α) : M α := fun r t => .ok a (r.set i (some (.d (.list ds)))) t
def oneD : List Tk → Option PyData
  | [.v (.d x)] => some x
  | _ => none
def mAppend (i : Nat) (m : M (List Tk)) : M Tk := m.bind fun ks => (optM (oneD ks)).bind fun x => (getO i).bind fun ds => if ds.length < 16777216 then setO i (ds ++ [x]) (.v (.d .none)) else M.st
theorem getO_ok {ow : List Nat} {G : Hp} {B : Bs} {H : Hp} {σ : L2.St} {r : Rho} {t : Option Deal} {XP : XQ} {i : Nat} {Q : List PyData → Rho → Option Deal → Prop} (s : Sls K ow G B H σ r) (hi : i ∈ ow) (p : (getO i r t).post Q XP) :
    ∃ (ds : List PyData) (a : Addr) (vs : List V), r[i]? = some (some (.d (.list ds))) ∧ σ[i]? = some (some (.ref a)) ∧ H a = some (.lst vs) ∧ DqAll K B.H vs ds ∧ B.H a = none ∧ G a = none ∧ Ndl B a ∧ Q ds r t := by
  unfold getO at p
  split at p
  · rename_i ds h
    obtain ⟨ds', a, vs, h1, h2, h3, h4, h5, h6, h7⟩ := s.own i _ h hi
    injection h1 with h1
    injection h1 with h1
    subst h1
    exact ⟨ds, a, vs, h, h2, h3, h4, h5, h6, h7, p⟩
  · exact p.elim
theorem oneD_ok {B : Bs} {ow : List Nat} {σ : L2.St} {ks : List Tk} {vs : List V} {x : PyData} (e : oneD ks = some x) (h : TvA K B ow σ vs ks) : ∃ v, vs = [v] ∧ Dq K B.H v x := by
  unfold oneD at e
  split at e
  · cases e
    match vs, h with
    | [v], h => exact ⟨v, rfl, h.1⟩
  · cases e
theorem own_var {ow : List Nat} {G : Hp} {B : Bs} {H : Hp} {σ : L2.St} {r : Rho} {i : Nat} {x : Sl} (s : Sls K ow G B H σ r) (hi : i ∈ ow) (hx : r[i]? = some (some x)) : ∃ (p : Addr) (vs : List V), σ[i]? = some (some (.ref p)) ∧ H p = some (.lst vs) := by
  obtain ⟨ds, a, vs, _, h2, h3, _⟩ := s.own i x hx hi
  exact ⟨a, vs, h2, h3⟩
/-- slot i has a list -/
def has {α : Type} (i : Nat) (m : M α) : M α := fun r t => match r[i]? with
  | some (some (.d (.list _))) => m r t
  | _ => .st
theorem rf_append {i : Nat} (hi : i ∈ c.ow) {t : TA} {m : M (List Tk)} (h : RfA K c t m) : RfE K c (tBM K "list" (fun x vs H Q => rAppend x vs H Q) (tVar i) t) (has i (mAppend i m)) := by
  intro G B H σ rr dl Q XP w s hx p
  unfold has at p
  split at p
  · rename_i d0 h0
    obtain ⟨p0, vs0, e1, e2⟩ := own_var s hi h0
    refine ⟨_, e1, .inl ⟨rfl, vs0, SqL.of e2⟩, ?_⟩
    unfold mAppend at p
    rw [post_bind] at p
    refine h G B H σ rr dl _ XP w s hx (post_mono p fun ks r1 t1 p => fun vs B1 H1 l1 w1 s1 v1 => ?_)
    rw [post_bind] at p
    obtain ⟨x, ex, p⟩ := optM_ok p
    rw [post_bind] at p
    obtain ⟨ds, a, ws, g1, g2, g3, g4, g5, g6, g7, p⟩ := getO_ok s1 hi p
    obtain ⟨v, rfl, dv⟩ := oneD_ok ex v1
    by_cases hz : ds.length < 16777216
    · rw [if_pos hz] at p
      rw [e1] at g2
      injection g2 with g2; injection g2 with g2; injection g2 with g2
      subst g2
      refine ⟨p0, ws, v, rfl, rfl, g3, size_lt (by rw [g4.len]; exact hz), ?_⟩
      exact p .non B1 _ l1 (w1.chg g3 g5 g6 g7) (s1.chg hi g1 e1 (g4.app (.cons dv .nil))) .non
    · rw [if_neg hz] at p
      exact p.elim
  · exact p.elim
theorem pd_append {i : Nat} (hi : i ∈ c.ow) {x : Str} {px apos : Pos} {es : List Expr} {t : TA} {m : M (List Tk)} (hN : X.N[i]? = some x) (hv : Vis X.env.scope x) (ha : PAD X c (e :: es) t m) (hp : PE X (.Name x px) (tVar i) → PA X (e :: es) t → PE X (.Call (.Attribute (.Name x px) "append" apos) (e :: es) [] pos) (tBM X.K "list" (fun x vs H Q => rAppend x vs H Q) (tVar i) t))
    (hd : (x == ("__debug__" : Str)) = false := by decide) (hcd : (x == ("__classdict__" : Str)) = false := by decide) :
    PED X c (.Call (.Attribute (.Name x px) "append" apos) (e :: es) [] pos) (tBM X.K "list" (fun x vs H Q => rAppend x vs H Q) (tVar i) t) (has i (mAppend i m)) := ⟨hp (pe_var hN hv hd hcd) ha.p, rf_append hi ha.k⟩
/-- pop() -/
def mPop (i : Nat) : M Tk := (getO i).bind fun ds => (optM ds.getLast?).bind fun x => setO i ds.dropLast (.v (.d x))
theorem DqAll.dropLast {H : Hp} {vs : List V} {xs : List PyData} (h : DqAll K H vs xs) : DqAll K H vs.dropLast xs.dropLast := by
  rw [List.dropLast_eq_take, List.dropLast_eq_take, h.len]
  exact h.take _
theorem rf_pop {i : Nat} (hi : i ∈ c.ow) : RfE K c (tBM0 K "list" (fun x vs H Q => rPop x vs H Q) (tVar i)) (mPop i) := by
  intro G B H σ rr dl Q XP w s hx p
  unfold mPop at p
  rw [post_bind] at p
  obtain ⟨ds, a, ws, g1, g2, g3, g4, g5, g6, g7, p⟩ := getO_ok s hi p
  rw [post_bind] at p
  obtain ⟨x, ex, p⟩ := optM_ok p
  have ex' : ds[ds.length - 1]? = some x := by rw [← List.getLast?_eq_getElem?]; exact ex
  obtain ⟨v, ev, dv⟩ := g4.get ex'
  refine ⟨_, g2, .inl ⟨rfl, ws, SqL.of g3⟩, a, ws, v, rfl, rfl, g3, by rw [g4.len]; exact ev, ?_⟩
  exact p v B _ (Bs.le.refl B) (w.chg g3 g5 g6 g7) (s.chg hi g1 g2 g4.dropLast) dv
theorem pd_pop {i : Nat} (hi : i ∈ c.ow) {x : Str} {px apos : Pos} (hN : X.N[i]? = some x) (hv : Vis X.env.scope x) (hp : PE X (.Name x px) (tVar i) → PE X (.Call (.Attribute (.Name x px) "pop" apos) [] [] pos) (tBM0 X.K "list" (fun x vs H Q => rPop x vs H Q) (tVar i)))
    (hd : (x == ("__debug__" : Str)) = false := by decide) (hcd : (x == ("__classdict__" : Str)) = false := by decide) :
    PED X c (.Call (.Attribute (.Name x px) "pop" apos) [] [] pos) (tBM0 X.K "list" (fun x vs H Q => rPop x vs H Q) (tVar i)) (mPop i) := ⟨hp (pe_var hN hv hd hcd), rf_pop hi⟩
/-- pop(k), 0 ≤ k -/
def mPopAt (i : Nat) (m : M (List Tk)) : M Tk := m.bind fun ks => (optM (oneD ks)).bind fun x => (optM (intOf (.d x))).bind fun k => (getO i).bind fun ds => if 0 ≤ k ∧ k < 1000000 then (optM ds[k.toNat]?).bind fun y => setO i (ds.eraseIdx k.toNat) (.v (.d y)) else M.st
theorem intOf_ok {x : PyData} {k : Int} (h : intOf (.d x) = some k) : x = .int k := by
  cases x with
  | int i => cases h; rfl
  | _ => cases h
theorem seqIndex_nat {k : Int} {n : Nat} (h0 : 0 ≤ k) (h : k.toNat < n) : seqIndex? k n = some k.toNat := by
  unfold seqIndex?
  have h1 : ¬ k < 0 := by omega
  have h2 : (decide (0 ≤ k) && decide (k < (n : Int))) = true := by
    rw [Bool.and_eq_true]
    exact ⟨decide_eq_true h0, decide_eq_true (by omega)⟩
  simp only [h1, if_false, h2, if_true]
theorem rf_popAt {i : Nat} (hi : i ∈ c.ow) {t : TA} {m : M (List Tk)} (h : RfA K c t m) : RfE K c (tBM K "list" (fun x vs H Q => rPopAt x vs H Q) (tVar i) t) (has i (mPopAt i m)) := by
  intro G B H σ rr dl Q XP w s hx p
  unfold has at p
  split at p
  · rename_i d0 h0
    obtain ⟨p0, vs0, e1, e2⟩ := own_var s hi h0
    refine ⟨_, e1, .inl ⟨rfl, vs0, SqL.of e2⟩, ?_⟩
    unfold mPopAt at p
    rw [post_bind] at p
    refine h G B H σ rr dl _ XP w s hx (post_mono p fun ks r1 t1 p => fun vs B1 H1 l1 w1 s1 v1 => ?_)
    rw [post_bind] at p
    obtain ⟨x, ex, p⟩ := optM_ok p
    rw [post_bind] at p
    obtain ⟨k, ek, p⟩ := optM_ok p
    rw [post_bind] at p
    obtain ⟨ds, a, ws, g1, g2, g3, g4, g5, g6, g7, p⟩ := getO_ok s1 hi p
    obtain ⟨v, rfl, dv⟩ := oneD_ok ex v1
    by_cases hz : 0 ≤ k ∧ k < 1000000
    · rw [if_pos hz, post_bind] at p
      obtain ⟨y, ey, pp⟩ := optM_ok p
      rw [e1] at g2
      injection g2 with g2; injection g2 with g2; injection g2 with g2
      subst g2
      obtain ⟨u, eu, du⟩ := g4.get ey
      have ex2 := intOf_ok ek
      subst ex2
      have ev : v = .int k := by cases dv; rfl
      subst ev
      refine ⟨p0, ws, k, k.toNat, u, rfl, rfl, g3, by omega, by omega, seqIndex_nat hz.1 (by rw [g4.len]; exact (List.getElem?_eq_some_iff.mp ey).1), eu, ?_⟩
      exact pp u B1 _ l1 (w1.chg g3 g5 g6 g7) (s1.chg hi g1 e1 (g4.eraseIdx _)) du
    · rw [if_neg hz] at p
      exact p.elim
  · exact p.elim
theorem pd_popAt {i : Nat} (hi : i ∈ c.ow) {x : Str} {px apos : Pos} {es : List Expr} {t : TA} {m : M (List Tk)} (hN : X.N[i]? = some x) (hv : Vis X.env.scope x) (ha : PAD X c (e :: es) t m) (hp : PE X (.Name x px) (tVar i) → PA X (e :: es) t → PE X (.Call (.Attribute (.Name x px) "pop" apos) (e :: es) [] pos) (tBM X.K "list" (fun x vs H Q => rPopAt x vs H Q) (tVar i) t))
    (hd : (x == ("__debug__" : Str)) = false := by decide) (hcd : (x == ("__classdict__" : Str)) = false := by decide) :
    PED X c (.Call (.Attribute (.Name x px) "pop" apos) (e :: es) [] pos) (tBM X.K "list" (fun x vs H Q => rPopAt x vs H Q) (tVar i) t) (has i (mPopAt i m)) := ⟨hp (pe_var hN hv hd hcd) ha.p, rf_popAt hi ha.k⟩
/-- extend(e) -/
def mExtend (i : Nat) (m : M (List PyData)) : M Tk := m.bind fun xs => (getO i).bind fun ds => if ds.length + xs.length ≤ 16777216 then setO i (ds ++ xs) (.v (.d .none)) else M.st
theorem rf_extend {i : Nat} (hi : i ∈ c.ow) {m : M (List PyData)} (h : RfF K c te m) : RfE K c (tBM K "list" (fun x vs H Q => rExtend x vs H Q) (tVar i) (tCons te tNil)) (has i (mExtend i m)) := by
  intro G B H σ rr dl Q XP w s hx p
  unfold has at p
  split at p
  · rename_i d0 h0
    obtain ⟨p0, vs0, e1, e2⟩ := own_var s hi h0
    refine ⟨_, e1, .inl ⟨rfl, vs0, SqL.of e2⟩, ?_⟩
    unfold mExtend at p
    rw [post_bind] at p
    refine h G B H σ rr dl _ XP w s hx (post_mono p fun xs r1 t1 p => fun a B1 H1 l1 w1 s1 f => ?_)
    rw [post_bind] at p
    obtain ⟨ds, a', ws, g1, g2, g3, g4, g5, g6, g7, p⟩ := getO_ok s1 hi p
    obtain ⟨vs, h1, h2⟩ := f.at_
    by_cases hz : ds.length + xs.length ≤ 16777216
    · rw [if_pos hz] at p
      rw [e1] at g2
      injection g2 with g2; injection g2 with g2; injection g2 with g2
      subst g2
      refine ⟨p0, a, ws, vs, rfl, rfl, g3, h1, size_ok (by rw [g4.len, h2.len]; exact hz), ?_⟩
      exact p .non B1 _ l1 (w1.chg g3 g5 g6 g7) (s1.chg hi g1 e1 (g4.app h2)) .non
    · rw [if_neg hz] at p
      exact p.elim
  · exact p.elim
theorem pd_extend {i : Nat} (hi : i ∈ c.ow) {x : Str} {px apos : Pos} {m : M (List PyData)} (hN : X.N[i]? = some x) (hv : Vis X.env.scope x) (ha : PFD X c e te m) (hp : PE X (.Name x px) (tVar i) → PA X [e] (tCons te tNil) → PE X (.Call (.Attribute (.Name x px) "extend" apos) [e] [] pos) (tBM X.K "list" (fun x vs H Q => rExtend x vs H Q) (tVar i) (tCons te tNil)))
    (hs : starEach [e] X.env = (false, eval e X.env) :: starEach [] X.env := by rfl) (hd : (x == ("__debug__" : Str)) = false := by decide) (hcd : (x == ("__classdict__" : Str)) = false := by decide) :
    PED X c (.Call (.Attribute (.Name x px) "extend" apos) [e] [] pos) (tBM X.K "list" (fun x vs H Q => rExtend x vs H Q) (tVar i) (tCons te tNil)) (has i (mExtend i m)) := ⟨hp (pe_var hN hv hd hcd) (pa_cons ha.p pa_nil hs), rf_extend hi ha.k⟩
end
end DL
end
section
set_option maxRecDepth 100000
set_option maxHeartbeats 4000000
namespace DL
open PySem PySem.Spec PyProof.Rows L2

/-! ### 14. Defs: what they compute, their promise, their calls -/
inductive Res where
  | ok (x : Sl) (t : Option Deal)
  | ex (c : Str) (x : PyData) (t : Option Deal)
  | st
abbrev FM := List Sl → Option Deal → Res
def SvA (K : PySem.W.Frag) (B : Bs) : List V → List Sl → Prop
  | [], [] => True
  | v :: vs, x :: xs => Sv K B v x ∧ SvA K B vs xs
  | _, _ => False
theorem SvA.len {K : PySem.W.Frag} {B : Bs} : ∀ {vs : List V} {xs : List Sl}, SvA K B vs xs → vs.length = xs.length
  | [], [], _ => rfl
  | _ :: _, _ :: _, h => by simp [SvA.len h.2]
  | [], _ :: _, h => h.elim
  | _ :: _, [], h => h.elim
theorem SvA.get {K : PySem.W.Frag} {B : Bs} : ∀ {vs : List V} {xs : List Sl} {i : Nat} {x : Sl}, SvA K B vs xs → xs[i]? = some x → ∃ v, vs[i]? = some v ∧ Sv K B v x
  | [], [], i, _, _, e => by simp at e
  | v :: _, _ :: _, 0, _, h, e => by simp at e; subst e; exact ⟨v, rfl, h.1⟩
  | _ :: _, _ :: _, i + 1, _, h, e => by
    obtain ⟨v, h1, h2⟩ := SvA.get (i := i) h.2 (by simpa using e)
    exact ⟨v, by simpa using h1, h2⟩
  | [], _ :: _, _, _, h, _ => h.elim
  | _ :: _, [], _, _, h, _ => h.elim
/-- the promise «computes F» of a def of n parameters -/
def spD (K : PySem.W.Frag) (ec : Ec) (n : Nat) (F : FM) : Sp := fun vs H Q E => ∃ (G : Hp) (B : Bs) (xs : List Sl) (t : Option Deal), Wd G B H t ∧ B.tb = ec.tb ∧ SvA K B vs xs ∧ xs.length = n ∧ match F xs t with
  | .ok x t' => ∀ (v : V) (B' : Bs) (H' : Hp), B.le B' → Wd G B' H' t' → Sv K B' v x → Q v H'
  | .ex c x t' => ∀ (B' : Bs) (H' : Hp) (C dd : Addr) (v : V), B.le B' → Wd G B' H' t' → ec.f c = some C → B'.H dd = some (.xd [(("at" : Str), v)]) → Dq K B'.H v x → E (.ref C) (some dd) H'
  | .st => False
theorem spD_len {K : PySem.W.Frag} {ec : Ec} {n : Nat} {F : FM} {vs : List V} {H : Hp} {Q : VK} {E : XK} (h : spD K ec n F vs H Q E) : vs.length = n := by
  obtain ⟨G, B, xs, t, _, _, h1, h2, _⟩ := h
  rw [h1.len, h2]
def keepAll : List Tk → Option (List Sl)
  | [] => some []
  | .v x :: ks => match keepAll ks with
    | some xs => some (x :: xs)
    | none => none
  | .o _ :: _ => none
def runF (F : FM) (xs : List Sl) : M Tk := fun r t => match F xs t with
  | .ok x t' => .ok (.v x) r t'
  | .ex c x t' => .ex c x t'
  | .st => .st
def mCall (n : Nat) (F : FM) (m : M (List Tk)) : M Tk := m.bind fun ks => (optM (keepAll ks)).bind fun xs => if xs.length = n then runF F xs else M.st
section
variable {X : Cx} {c : Cd} {a b e d : Expr} {ma mb me mc : M Tk} {ta tb te tc : TE} {tt tu : TT} {pos : Pos} {K : PySem.W.Frag}
theorem keepAll_ok {B : Bs} {ow : List Nat} {σ : L2.St} : ∀ {ks : List Tk} {vs : List V} {xs : List Sl}, keepAll ks = some xs → TvA K B ow σ vs ks → SvA K B vs xs
  | [], [], xs, e, _ => by cases e; exact True.intro
  | .v x :: ks, v :: vs, xs, e, h => by
    unfold keepAll at e
    cases q : keepAll ks with
    | none => rw [q] at e; cases e
    | some ys =>
      rw [q] at e
      cases e
      exact ⟨h.1, keepAll_ok q h.2⟩
  | [], _ :: _, _, _, h => h.elim
  | .v _ :: _, [], _, _, h => h.elim
  | .o _ :: _, _, _, e, _ => by cases e
theorem rf_call {n : Nat} {F : FM} {t : TA} {m : M (List Tk)} (h : RfA K c t m) : RfE K c (tCall (spD K c.ec n F) [] c.E t) (mCall n F m) := by
  intro G B H σ rr dl Q XP w s hx p
  unfold mCall at p
  rw [post_bind] at p
  refine h G B H σ rr dl _ XP w s hx (post_mono p fun ks r1 t1 p => fun vs B1 H1 l1 w1 s1 v1 => ?_)
  rw [post_bind] at p
  obtain ⟨xs, ex, p⟩ := optM_ok p
  by_cases hn : xs.length = n
  · rw [if_pos hn] at p
    obtain ⟨G', w', gg, _, back⟩ := Sls.push w1 s1
    refine ⟨G', B1, xs, t1, w', l1.b.trans hx.1, by rw [List.append_nil]; exact keepAll_ok ex v1, hn, ?_⟩
    unfold runF at p
    cases hF : F xs t1 with
    | ok x t' =>
      rw [hF] at p
      intro v B' H' l w2 sv
      obtain ⟨w3, s3⟩ := back B' H' t' l w2
      exact p v B' H' (l1.trans l) w3 s3 sv
    | ex cn x t' =>
      rw [hF] at p
      intro B' H' C dd v l w2 he hd hq
      exact hx.2 cn x t' B' H' C dd v p (l1.trans l) (w2.less gg) he hd hq
    | st => rw [hF] at p; exact p.elim
  · rw [if_neg hn] at p
    exact p.elim
/-- f(e, ..) -/
theorem pd_call {x : Str} {p : Pos} {f : Addr} {fd : FuncData} {ps : List Str} {k n : Nat} {F : FM} {es : List Expr} {t : TA} {m : M (List Tk)} {CX : CXT} (Fk : FnOk X.prog X.w X.K X.mg X.base CX k f fd ps (spD X.K c.ec n F)) (hr : Room k X.A) (hg : Gl X x) (hm : X.mg x = some (.ref f)) (hk : PySem.W.keepIn X.K (.ref f) = true)
    (hb : Binds X.K fd ps []) (hx : Passes CX X c.E) (ha : PAD X c (e :: es) t m) (hdb : (x == ("__debug__" : Str)) = false := by decide)
    (he : starEach (e :: es) X.env = (false, eval e X.env) :: starEach es X.env := by rfl) (hpl : (backTo pos (starEach es X.env)).any (·.1) = false := by rfl) :
    PED X c (.Call (.Name x p) (e :: es) [] pos) (tCall (spD X.K c.ec n F) [] c.E t) (mCall n F m) := ⟨pe_call Fk hr hg hm hk hb .nil hx ha.p hdb he hpl, rf_call ha.k⟩
/-! keyword arguments alone -/
def tCallK0 (sp : Sp) (gV : List V → List V) (E : XK) (tk : TA) : TE := fun σ H Q => tk σ H fun zs H2 => sp (gV zs) H2 Q E
theorem pe_callK0 {CX : CXT} {k : Nat} {f : Addr} {fd : FuncData} {ps ks : List Str} {sp : Sp} {E : XK} {x : Str} {p : Pos} {kws : List Keyword} {tk : TA} {g : List Value → List Value} {gV : List V → List V}
    (F : FnOk X.prog X.w X.K X.mg X.base CX k f fd ps sp) (hr : Room k X.A) (hg : Gl X x) (hm : X.mg x = some (.ref f)) (hk : PySem.W.keepIn X.K (.ref f) = true) (hx : Passes CX X E)
    (hb : ∀ (s : Shared) (ws : List Value), (g ws).length = ps.length → BindsTo s fd ⟨[], ks.zip ws⟩ (ps.zip (g ws))) (hrel : ∀ {zs : List V} {ws : List Value}, Vals zs ws → Vals (gV zs) (g ws))
    (hkw : PK X kws tk) (hall : (backToKw pos (keywordEach kws X.env)).all (·.1.isSome) = true := by rfl) (hks : (backToKw pos (keywordEach kws X.env)).filterMap (·.1) = ks := by rfl) (hdb : (x == ("__debug__" : Str)) = false := by decide)
    (hpl : ((backTo pos (starEach [] X.env)).any (·.1) || (backToKw pos (keywordEach kws X.env)).any (·.1.isNone)) = false := by rfl) :
    PE X (.Call (.Name x p) [] kws pos) (tCallK0 sp gV E tk) := by
  refine ⟨fun pins s σ H Q I h => ?_⟩
  refine wpAny_Call_Name_kw (ld_glob I hg hm ?_ hdb)
  refine PySem.W.callWith_KW0 (h₀ := X.base) I.ok.mod.kin hk hall (thn (hkw.run pos pins s σ H _ I h) fun ws s2 ⟨zs, H2, I2, rz, q2⟩ => ⟨I2.kIn, ?_⟩) hpl
  rw [hks]
  have r2 := hrel rz
  have hl : (g ws).length = ps.length := by rw [← r2.length]; exact F.len _ _ _ _ q2
  refine wpAny_call (codeAny_mono (F.run X.A X.stack s2 H2 ⟨[], ks.zip ws⟩ (g ws) (gV zs) Q E hr I2.env0 (hb s2 ws hl) r2 q2) fun r s' hq => ?_)
  cases r with
  | error e => exact hx pins σ H2 s2 e s' I2 hq
  | ok fl =>
    cases fl with
    | ret u => exact I2.after hq
    | next => exact False.elim hq
    | brk => exact False.elim hq
    | cont => exact False.elim hq
structure PKD (X : Cx) (c : Cd) (kws : List Keyword) (ta : TA) (m : M (List Tk)) : Prop where
  p : PK X kws ta
  k : RfA X.K c ta m
theorem pkd_nil : PKD X c [] tNil mNil := ⟨pk_nil, rf_nil⟩
theorem pkd_cons {kws : List Keyword} {t : TA} {n : M (List Tk)} {nm : Option Str} {kpos : Pos} (h1 : PED X c e te me) (h2 : PKD X c kws t n) : PKD X c (⟨nm, e, kpos⟩ :: kws) (tCons te t) (mCons me n) := ⟨pk_cons h1.p h2.p, rf_cons h1.k h2.k⟩
/-- in the parameters' order -/
theorem rf_callK {n : Nat} {F : FM} {t : TA} {m : M (List Tk)} (h : RfA K c t m) : RfE K c (tCallK0 (spD K c.ec n F) (fun z => z) c.E t) (mCall n F m) := by
  have q := rf_call (K := K) (c := c) (n := n) (F := F) h
  intro G B H σ rr dl Q XP w s hx p
  have z := q G B H σ rr dl Q XP w s hx p
  unfold tCall at z
  simp only [List.append_nil] at z
  exact z
theorem pd_callK {x : Str} {p : Pos} {f : Addr} {fd : FuncData} {ps : List Str} {k n : Nat} {F : FM} {kws : List Keyword} {t : TA} {m : M (List Tk)} {CX : CXT} (Fk : FnOk X.prog X.w X.K X.mg X.base CX k f fd ps (spD X.K c.ec n F)) (hr : Room k X.A) (hg : Gl X x) (hm : X.mg x = some (.ref f)) (hk : PySem.W.keepIn X.K (.ref f) = true)
    (hx : Passes CX X c.E) (hb : ∀ (s : Shared) (ws : List Value), ws.length = ps.length → BindsTo s fd ⟨[], ps.zip ws⟩ (ps.zip ws)) (ha : PKD X c kws t m)
    (hall : (backToKw pos (keywordEach kws X.env)).all (·.1.isSome) = true := by rfl) (hks : (backToKw pos (keywordEach kws X.env)).filterMap (·.1) = ps := by rfl) (hdb : (x == ("__debug__" : Str)) = false := by decide)
    (hpl : ((backTo pos (starEach [] X.env)).any (·.1) || (backToKw pos (keywordEach kws X.env)).any (·.1.isNone)) = false := by rfl) :
    PED X c (.Call (.Name x p) [] kws pos) (tCallK0 (spD X.K c.ec n F) (fun z => z) c.E t) (mCall n F m) :=
  ⟨pe_callK0 (g := fun z => z) (gV := fun z => z) Fk hr hg hm hk hx hb (fun h => h) ha.p hall hks hdb hpl, rf_callK ha.k⟩
/-! a call that is handed an owned list to read: it hands back a scalar -/
def scalS : Sl → Bool
  | .d x => flatD x
  | _ => false
def runB (F : FM) (xs : List Sl) : M Tk := fun r t => match F xs t with
  | .ok x t' => if scalS x then .ok (.v x) r t' else .st
  | .ex c x t' => if flatD x then .ex c x t' else .st
  | .st => .st
def mCallB (n : Nat) (F : FM) (m : M (List Tk)) : M Tk := m.bind fun ks => (useAll ks).bind fun xs => if xs.length = n then runB F xs else M.st
theorem sv_scal {B B' : Bs} {v : V} {x : PyData} (h : Dq K B.H v x) (f : flatD x = true) : Dq K B'.H v x := by
  cases h <;> first | (cases f; done) | constructor
theorem rf_callB {n : Nat} {F : FM} {t : TA} {m : M (List Tk)} (h : RfA K c t m) : RfE K c (tCall (spD K c.ec n F) [] c.E t) (mCallB n F m) := by
  classical
  intro G B H σ rr dl Q XP w s hx p
  unfold mCallB at p
  rw [post_bind] at p
  refine h G B H σ rr dl _ XP w s hx (post_mono p fun ks r1 t1 p => fun vs B1 H1 l1 w1 s1 v1 => ?_)
  rw [post_bind] at p
  -- all owned lists frozen for the time being
  let own : Addr → Prop := fun a => ∃ i, i ∈ c.ow ∧ Live r1 i ∧ σ[i]? = some (some (.ref a))
  have hown : ∀ a, own a → ∃ (ds : List PyData) (vs : List V), H1 a = some (.lst vs) ∧ DqAll K B1.H vs ds ∧ B1.H a = none ∧ G a = none ∧ Ndl B1 a := fun a ⟨i, hi, ⟨x, hx⟩, hs⟩ => by
    obtain ⟨ds, p, vs, _, h2, h3, h4, h5, h6, h7⟩ := s1.own i x hx hi
    rw [hs] at h2
    have e : a = p := by injection h2 with h2; injection h2 with h2; injection h2
    subst e
    exact ⟨ds, vs, h3, h4, h5, h6, h7⟩
  let B2 : Bs := ⟨fun a => if own a then H1 a else B1.H a, B1.dl, B1.x, B1.tb⟩
  have b2o : ∀ a, own a → B2.H a = H1 a := fun a q => if_pos q
  have b2n : ∀ a, ¬ own a → B2.H a = B1.H a := fun a q => if_neg q
  have l2 : B1.le B2 := ⟨fun a o e => by
    have n : ¬ own a := fun q => by
      obtain ⟨_, _, _, _, z, _⟩ := hown a q
      rw [z] at e; cases e
    rw [b2n a n]; exact e, fun _ e => e, fun _ e => e, rfl⟩
  have w2 : Wd G B2 H1 t1 := by
    refine ⟨fun a o e => ?_, fun a o e => ?_, ?_, ⟨w1.tb.tabs, fun a ps e => ?_, w1.tb.nG⟩⟩
    rotate_left 3
    · by_cases q : own a
      · rw [b2o a q] at e
        obtain ⟨_, _, z, _⟩ := hown a q
        rw [z] at e; cases e
      · rw [b2n a q] at e; exact w1.tb.nB _ _ e
    · by_cases q : own a
      · rw [b2o a q] at e; exact e
      · rw [b2n a q] at e; exact w1.sub _ _ e
    · have n : ¬ own a := fun q => by
        obtain ⟨_, _, _, _, _, z, _⟩ := hown a q
        rw [z] at e; cases e
      obtain ⟨e1, e2⟩ := w1.fgn _ _ e
      exact ⟨e1, by rw [b2n a n]; exact e2⟩
    · have dd := w1.deal
      show DealAt G B2 H1 B1.dl t1
      cases hd : B1.dl with
      | none => rw [hd] at dd; cases t1 <;> exact dd
      | some q =>
        obtain ⟨da, l⟩ := q
        rw [hd] at dd
        cases t1 with
        | none => exact dd.elim
        | some t1 =>
          obtain ⟨h1, h2, h3, h4, h5⟩ := dd
          have n1 : ¬ own da := fun q => by
            obtain ⟨_, _, _, _, _, _, z⟩ := hown _ q
            exact (z da l hd).1 rfl
          have n2 : ¬ own l := fun q => by
            obtain ⟨_, _, _, _, _, _, z⟩ := hown _ q
            exact (z da l hd).2 rfl
          exact ⟨h1, h2, by rw [b2n _ n1]; exact h3, by rw [b2n _ n2]; exact h4, h5⟩
  have args : ∀ {ks : List Tk} {vs : List V} {Q : List Sl → Rho → Option Deal → Prop}, TvA K B1 c.ow σ vs ks → (useAll ks r1 t1).post Q XP → ∃ xs, SvA K B2 vs xs ∧ Q xs r1 t1 := by
    intro ks
    induction ks with
    | nil =>
      intro vs Q h p
      cases vs with
      | nil => exact ⟨[], True.intro, p⟩
      | cons _ _ => exact h.elim
    | cons k ks ih =>
      intro vs Q h p
      cases vs with
      | nil => exact h.elim
      | cons v vs =>
        unfold useAll at p
        rw [post_bind] at p
        cases k with
        | v x =>
          have p : ((useAll ks).bind (fun xs => M.ret (x :: xs)) r1 t1).post Q XP := p
          rw [post_bind] at p
          obtain ⟨xs, hxs, p⟩ := ih h.2 p
          exact ⟨x :: xs, ⟨Sv.mono l2 h.1, hxs⟩, p⟩
        | o i =>
          obtain ⟨hi, hs⟩ := h.1
          unfold use at p
          simp only at p
          cases hr : r1[i]? with
          | none => rw [hr] at p; exact p.elim
          | some o =>
            cases o with
            | none => rw [hr] at p; exact p.elim
            | some x =>
              rw [hr] at p
              obtain ⟨ds, a, ws, h1, h2, h3, h4, _⟩ := s1.own i x hr hi
              rw [hs] at h2
              have e : v = .ref a := by injection h2 with h2; injection h2
              subst e
              subst h1
              have p : ((useAll ks).bind (fun xs => M.ret (Sl.d (.list ds) :: xs)) r1 t1).post Q XP := p
              rw [post_bind] at p
              obtain ⟨xs, hxs, p⟩ := ih h.2 p
              exact ⟨Sl.d (.list ds) :: xs, ⟨Dq.lst (show B2.H a = _ by rw [b2o a ⟨i, hi, ⟨_, hr⟩, hs⟩]; exact h3) (dpa_mono l2.h h4), hxs⟩, p⟩
  obtain ⟨xs, sxs, p⟩ := args v1 p
  by_cases hn : xs.length = n
  · rw [if_pos hn] at p
    refine ⟨G, B2, xs, t1, w2, l1.b.trans hx.1, by rw [List.append_nil]; exact sxs, hn, ?_⟩
    -- behind the call the owned lists are owned again
    have back : ∀ (B3 : Bs) (H3 : Hp) (t3 : Option Deal), B2.le B3 → Wd G B3 H3 t3 → ∃ B4 : Bs, B1.le B4 ∧ Wd G B4 H3 t3 ∧ Sls K c.ow G B4 H3 σ r1 ∧ (∀ a fs, B3.H a = some (.xd fs) → B4.H a = some (.xd fs)) := fun B3 H3 t3 l3 w3 => by
      let B4 : Bs := ⟨fun a => if own a then none else B3.H a, B3.dl, B3.x, B3.tb⟩
      have b4o : ∀ a, own a → B4.H a = none := fun a q => if_pos q
      have b4n : ∀ a, ¬ own a → B4.H a = B3.H a := fun a q => if_neg q
      have l4 : B1.le B4 := ⟨fun a o e => by
        have nn : ¬ own a := fun q => by
          obtain ⟨_, _, _, _, z, _⟩ := hown a q
          rw [z] at e; cases e
        rw [b4n a nn]; exact l3.h _ _ (l2.h _ _ e), fun p e => l3.d _ e, fun p e => l3.e _ e, l3.b⟩
      have at3 : ∀ a, own a → ∀ o, H1 a = some o → B3.H a = some o := fun a q o e => l3.h _ _ (by rw [b2o a q]; exact e)
      have nd3 : ∀ a, own a → Ndl B4 a := fun a q da l hd => by
        obtain ⟨ds, vs, z1, _⟩ := hown a q
        have z := at3 a q _ z1
        have dd := w3.deal
        have hd : B3.dl = some (da, l) := hd
        rw [hd] at dd
        cases t3 with
        | none => exact dd.elim
        | some t3 =>
          obtain ⟨_, _, g3, g4, _⟩ := dd
          exact ⟨fun e => (by rw [e, g3] at z; cases z), fun e => (by rw [e, g4] at z; cases z)⟩
      refine ⟨B4, l4, ⟨fun a o e => ?_, fun a o e => ?_, ?_, ⟨w3.tb.tabs, fun a ps e => ?_, w3.tb.nG⟩⟩, ⟨s1.len, fun i x hx hi => ?_, fun i x hx hi => ?_, s1.dis⟩, fun a fs e => ?_⟩
      rotate_left 3
      · by_cases q : own a
        · rw [b4o a q] at e; cases e
        · rw [b4n a q] at e; exact w3.tb.nB _ _ e
      rotate_right 3
      rotate_right 1
      · have n : ¬ own a := fun q => by
          obtain ⟨_, vs, z, _⟩ := hown a q
          have z := at3 a q _ z
          rw [e] at z; cases z
        rw [b4n a n]; exact e
      · by_cases q : own a
        · rw [b4o a q] at e; cases e
        · rw [b4n a q] at e; exact w3.sub _ _ e
      · obtain ⟨e1, e2⟩ := w3.fgn _ _ e
        refine ⟨e1, ?_⟩
        by_cases q : own a
        · exact b4o a q
        · rw [b4n a q]; exact e2
      · have dd := w3.deal
        show DealAt G B4 H3 B3.dl t3
        cases hd : B3.dl with
        | none => rw [hd] at dd; cases t3 <;> exact dd
        | some q =>
          obtain ⟨da, l⟩ := q
          rw [hd] at dd
          cases t3 with
          | none => exact dd.elim
          | some t3 =>
            obtain ⟨h1, h2, h3, h4, h5⟩ := dd
            have f : ∀ a, B3.H a = none → B4.H a = none := fun a e => by
              by_cases q : own a
              · exact b4o a q
              · rw [b4n a q]; exact e
            exact ⟨h1, h2, f _ h3, f _ h4, h5⟩
      · obtain ⟨v, h1, h2⟩ := s1.var i x hx hi
        exact ⟨v, h1, h2.mono l4⟩
      · obtain ⟨ds, a, vs, h1, h2, h3, h4, h5, h6, h7⟩ := s1.own i x hx hi
        have q : own a := ⟨i, hi, ⟨x, hx⟩, h2⟩
        exact ⟨ds, a, vs, h1, h2, w3.sub _ _ (at3 a q _ h3), dpa_mono l4.h h4, b4o a q, h6, nd3 a q⟩
    unfold runB at p
    cases hF : F xs t1 with
    | ok x t' =>
      rw [hF] at p
      intro v B3 H3 l3 w3 sv
      obtain ⟨B4, l4, w4, s4, x4⟩ := back B3 H3 t' l3 w3
      by_cases hs : scalS x = true
      · have p : ((if scalS x = true then Out.ok (.v x) r1 t' else Out.st : Out Tk)).post _ XP := p
        rw [if_pos hs] at p
        cases x with
        | d x => exact p v B4 H3 (l1.trans l4) w4 s4 (sv_scal (B := B3) sv hs)
        | deal => cases hs
        | raw _ => cases hs
        | exc _ _ => cases hs
        | scr _ => cases hs
      · have p : ((if scalS x = true then Out.ok (.v x) r1 t' else Out.st : Out Tk)).post _ XP := p
        rw [if_neg hs] at p
        exact p.elim
    | ex cn x t' =>
      rw [hF] at p
      intro B3 H3 C dd v l3 w3 he hd hq
      obtain ⟨B4, l4, w4, s4, x4⟩ := back B3 H3 t' l3 w3
      by_cases hs : flatD x = true
      · have p : ((if flatD x = true then Out.ex cn x t' else Out.st : Out Tk)).post _ XP := p
        rw [if_pos hs] at p
        exact hx.2 cn x t' B4 H3 C dd v p (l1.trans l4) w4 he (x4 _ _ hd) (sv_scal (B := B3) hq hs)
      · have p : ((if flatD x = true then Out.ex cn x t' else Out.st : Out Tk)).post _ XP := p
        rw [if_neg hs] at p
        exact p.elim
    | st => rw [hF] at p; exact p.elim
  · rw [if_neg hn] at p
    exact p.elim
theorem pd_callB {x : Str} {p : Pos} {f : Addr} {fd : FuncData} {ps : List Str} {k n : Nat} {F : FM} {es : List Expr} {t : TA} {m : M (List Tk)} {CX : CXT} (Fk : FnOk X.prog X.w X.K X.mg X.base CX k f fd ps (spD X.K c.ec n F)) (hr : Room k X.A) (hg : Gl X x) (hm : X.mg x = some (.ref f)) (hk : PySem.W.keepIn X.K (.ref f) = true)
    (hb : Binds X.K fd ps []) (hx : Passes CX X c.E) (ha : PAD X c (e :: es) t m) (hdb : (x == ("__debug__" : Str)) = false := by decide)
    (he : starEach (e :: es) X.env = (false, eval e X.env) :: starEach es X.env := by rfl) (hpl : (backTo pos (starEach es X.env)).any (·.1) = false := by rfl) :
    PED X c (.Call (.Name x p) (e :: es) [] pos) (tCall (spD X.K c.ec n F) [] c.E t) (mCallB n F m) := ⟨pe_call Fk hr hg hm hk hb .nil hx ha.p hdb he hpl, rf_callB ha.k⟩
end
end DL
end
section
set_option maxRecDepth 100000
set_option maxHeartbeats 4000000
namespace DL
open PySem PySem.Spec PyProof.Rows L2

/-! ### 15. Statements -/
section
variable {X : Cx} {c : Cd} {a b e d : Expr} {ma mb me mc : M Tk} {ta tb te tc : TE} {tt tu : TT} {pos : Pos} {K : PySem.W.Frag} {st : Stmt} {rest : List Stmt} {t1 t2 : TS} {m n : M Fl}
def mSeq (m n : M Fl) : M Fl := m.bind fun f => match f with
  | .nx => n
  | .bk => M.ret .bk
  | .ct => M.ret .ct
  | .rt x => M.ret (.rt x)
def mNx : M Fl := M.ret .nx
theorem rf_seq (h1 : RfS K c t1 m) (h2 : RfS K c t2 n) : RfS K c (tSeq t1 t2) (mSeq m n) := by
  intro G B H σ r t D XP w s hx p
  unfold mSeq at p
  rw [post_bind] at p
  refine h1 G B H σ r t { D with nx := t2 D } XP w s hx (post_mono p fun f r1 tt1 p => ?_)
  cases f with
  | nx => exact fun σ' B' H' l w' s' => h2 G B' H' σ' r1 tt1 D XP w' s' (hx.mono l) (post_mono p fun f r2 tt2 p => EndOk.mono l p)
  | bk => exact p
  | ct => exact p
  | rt x => exact p
theorem rf_next : RfS K c tNext mNx := fun G B H σ r t D XP w s hx p => p σ B H (Bs.le.refl B) w s
theorem psd_nil : PSsD X c [] tNext mNx := ⟨pss_nil, rf_next⟩
theorem psd_cons (h1 : PSD X c st t1 m) (h2 : PSsD X c rest t2 n) : PSsD X c (st :: rest) (tSeq t1 t2) (mSeq m n) := ⟨pss_cons h1.p h2.p, rf_seq h1.k h2.k⟩
theorem psd_one (h1 : PSD X c st t1 m) : PSsD X c [st] t1 m := ⟨pss_one h1.p, h1.k⟩
theorem psd_pass : PSD X c (.Pass pos) tNext mNx := ⟨ps_pass, rf_next⟩
theorem psd_break : PSD X c (.Break pos) tBreak (M.ret .bk) := ⟨ps_break, fun G B H σ r t D XP w s hx p => p σ B H (Bs.le.refl B) w s⟩
theorem psd_continue : PSD X c (.Continue pos) tCont (M.ret .ct) := ⟨ps_continue, fun G B H σ r t D XP w s hx p => p σ B H (Bs.le.refl B) w s⟩
def mDrop (m : M Tk) : M Fl := m.bind fun _ => M.ret .nx
theorem rf_drop (h : RfE K c te me) : RfS K c (tDrop te) (mDrop me) := by
  intro G B H σ r t D XP w s hx p
  unfold mDrop at p
  rw [post_bind] at p
  exact h G B H σ r t _ XP w s hx (post_mono p fun k r1 tt1 p => fun v B1 H1 l1 w1 s1 _ => p σ B1 H1 l1 w1 s1)
theorem psd_expr (h : PED X c e te me) (hs : swapsWith e none pos.line X.env = pure false := by rfl) : PSD X c (.Expr e pos) (tDrop te) (mDrop me) := ⟨ps_expr h.p hs, rf_drop h.k⟩
def mRet (m : M Tk) : M Fl := m.bind fun k => (use k).bind fun x => M.ret (.rt x)
theorem rf_ret (h : RfE K c te me) : RfS K c (tRet te) (mRet me) := by
  intro G B H σ r t D XP w s hx p
  unfold mRet at p
  rw [post_bind] at p
  refine h G B H σ r t _ XP w s hx (post_mono p fun k r1 tt1 p => fun v B1 H1 l1 w1 s1 vk => ?_)
  rw [post_bind] at p
  cases k with
  | v x => exact p v B1 H1 l1 w1 vk
  | o i =>
    obtain ⟨hi, hs⟩ := vk
    unfold use at p
    simp only at p
    cases hr : r1[i]? with
    | none => rw [hr] at p; exact p.elim
    | some o =>
      cases o with
      | none => rw [hr] at p; exact p.elim
      | some x =>
        rw [hr] at p
        obtain ⟨ds, a, vs, h1, h2, h3, h4, h5, h6, h7⟩ := s1.own i x hr hi
        rw [hs] at h2
        have ev : v = .ref a := by injection h2 with h2; injection h2
        subst ev
        subst h1
        have le := Bs.le_add (o := .lst vs) h5
        exact p (.ref a) (B1.add a (.lst vs)) H1 (l1.trans le) (w1.frz h3 h5 h6 h7) (Dq.lst (show upd B1.H a (.lst vs) a = _ from upd_same) (dpa_mono le.h h4))
theorem psd_ret (h : PED X c e te me) : PSD X c (.Return (some e) pos) (tRet te) (mRet me) := ⟨ps_ret h.p, rf_ret h.k⟩
theorem psd_retN : PSD X c (.Return none pos) tRetN (M.ret (.rt (.d .none))) := ⟨ps_retN, fun G B H σ r t D XP w s hx p => p .non B H (Bs.le.refl B) w .non⟩
def mIfS (cc : M Bool) (m n : M Fl) : M Fl := cc.bind fun b => if b then m else n
theorem rf_ifS {cc : M Bool} (h : RfT K c tt cc) (h1 : RfS K c t1 m) (h2 : RfS K c t2 n) : RfS K c (tIfS tt t1 t2) (mIfS cc m n) := by
  intro G B H σ r t D XP w s hx p
  unfold mIfS at p
  rw [post_bind] at p
  refine h G B H σ r t _ XP w s hx (post_mono p fun b r1 tt1 p => fun B1 H1 l1 w1 s1 => ?_)
  cases b with
  | true => rw [if_pos rfl]; exact h1 G B1 H1 σ r1 tt1 D XP w1 s1 (hx.mono l1) (post_mono p fun f r2 tt2 p => EndOk.mono l1 p)
  | false => rw [if_neg Bool.false_ne_true]; exact h2 G B1 H1 σ r1 tt1 D XP w1 s1 (hx.mono l1) (post_mono p fun f r2 tt2 p => EndOk.mono l1 p)
theorem psd_if {cc : M Bool} {ce : Expr} {x y : List Stmt} (h : PTD X c ce tt cc) (h1 : PSsD X c x t1 m) (h2 : PSsD X c y t2 n) : PSD X c (.If ce x y pos) (tIfS tt t1 t2) (mIfS cc m n) := ⟨ps_if h.p h1.p h2.p, rf_ifS h.k h1.k h2.k⟩

/-! targets -/
def Chg (is : List Nat) (σ σ' : L2.St) : Prop := σ'.length = σ.length ∧ ∀ j, j ∉ is → σ'[j]? = σ[j]?
theorem Chg.refl {is : List Nat} {σ : L2.St} : Chg is σ σ := ⟨rfl, fun _ _ => rfl⟩
theorem Chg.trans {is js : List Nat} {σ σ1 σ2 : L2.St} (a : Chg is σ σ1) (b : Chg js σ1 σ2) : Chg (is ++ js) σ σ2 := ⟨b.1.trans a.1, fun j h => by
  rw [List.mem_append, not_or] at h
  rw [b.2 j h.2, a.2 j h.1]⟩
def RfG (K : PySem.W.Frag) (c : Cd) (is : List Nat) (g : TG) (a : Sl → M Unit) : Prop := ∀ (G : Hp) (B : Bs) (H : Hp) (σ : L2.St) (r : Rho) (t : Option Deal) (Q : L2.St → Hp → Prop) (XP : XQ) (v : V) (x : Sl), Wd G B H t → Sls K c.ow G B H σ r → Sv K B v x →
  (a x r t).post (fun _ r' t' => ∀ (σ' : L2.St) (B' : Bs) (H' : Hp), B.le B' → Wd G B' H' t' → Sls K c.ow G B' H' σ' r' → Chg is σ σ' → Q σ' H') XP → g v σ H Q
def RfGs (K : PySem.W.Frag) (c : Cd) (is : List Nat) (g : TGs) (a : List PyData → M Unit) : Prop := ∀ (G : Hp) (B : Bs) (H : Hp) (σ : L2.St) (r : Rho) (t : Option Deal) (Q : L2.St → Hp → Prop) (XP : XQ) (vs : List V) (xs : List PyData), Wd G B H t → Sls K c.ow G B H σ r → DqAll K B.H vs xs →
  (a xs r t).post (fun _ r' t' => ∀ (σ' : L2.St) (B' : Bs) (H' : Hp), B.le B' → Wd G B' H' t' → Sls K c.ow G B' H' σ' r' → Chg is σ σ' → Q σ' H') XP → g vs σ H Q
structure PGD (X : Cx) (c : Cd) (e : Expr) (is : List Nat) (g : TG) (a : Sl → M Unit) : Prop where
  p : PG X e g
  k : RfG X.K c is g a
structure PGsD (X : Cx) (c : Cd) (es : List Expr) (is : List Nat) (n : Nat) (g : TGs) (a : List PyData → M Unit) : Prop where
  p : PGs X es g
  k : RfGs X.K c is g a
  l : es.length = n
def aName (i : Nat) (x : Sl) : M Unit := fun r t => .ok () (r.set i (some x)) t
theorem rf_gName {i : Nat} (hi : i ∉ c.ow) : RfG K c [i] (gName i) (aName i) := by
  intro G B H σ r t Q XP v x w s sv p
  exact p _ B H (Bs.le.refl B) w (s.set hi sv) ⟨by simp, fun j hj => List.getElem?_set_ne (fun e => hj (by simp [e]))⟩
theorem pgd_name {i : Nat} {x : Str} (hi : i ∉ c.ow) (hN : X.N.Nodup) (hx : X.N[i]? = some x) (hl : Loc X.env.scope x) (hf : X.fn x = true ∨ X.env.scope.names.lookup x = some .local := by first | exact .inl rfl | exact .inr rfl | assumption) : PGD X c (.Name x pos) [i] (gName i) (aName i) := ⟨pg_name hN hx hl hf, rf_gName hi⟩
def aNil : List PyData → M Unit
  | [] => M.ret ()
  | _ => M.st
def aCons (f : Sl → M Unit) (g : List PyData → M Unit) : List PyData → M Unit
  | x :: xs => (f (.d x)).bind fun _ => g xs
  | [] => M.st
theorem pgsd_nil : PGsD X c [] [] 0 gNil aNil := ⟨pgs_nil, fun G B H σ r t Q XP vs xs w s h p => by
  cases h with
  | nil => exact ⟨rfl, p σ B H (Bs.le.refl B) w s Chg.refl⟩
  | cons _ _ => exact p.elim, rfl⟩
theorem pgsd_cons {es : List Expr} {is js : List Nat} {n : Nat} {g : TG} {gs : TGs} {f : Sl → M Unit} {fs : List PyData → M Unit} (h1 : PGD X c e is g f) (h2 : PGsD X c es js n gs fs) (hs : PG X e g → PGs X es gs → PGs X (e :: es) (gCons g gs)) : PGsD X c (e :: es) (is ++ js) (n + 1) (gCons g gs) (aCons f fs) := ⟨hs h1.p h2.p, fun G B H σ r t Q XP vs xs w s h p => by
  cases h with
  | nil => exact p.elim
  | cons hd tl =>
    unfold aCons at p
    rw [post_bind] at p
    refine ⟨_, _, rfl, ?_⟩
    refine h1.k G B H σ r t _ XP _ (.d _) w s hd (post_mono p fun _ r1 tt1 p => fun σ1 B1 H1 l1 w1 s1 c1 => ?_)
    exact h2.k G B1 H1 σ1 r1 tt1 Q XP _ _ w1 s1 (dpa_mono l1.h tl) (post_mono p fun _ r2 tt2 p => fun σ2 B2 H2 l2 w2 s2 c2 => p σ2 B2 H2 (l1.trans l2) w2 s2 (c1.trans c2)), by simp [h2.l]⟩
def aTup (n : Nat) (f : List PyData → M Unit) : Sl → M Unit
  | .d (.tuple xs) => if xs.length = n then f xs else M.st
  | _ => M.st
theorem pgd_tup {es : List Expr} {is : List Nat} {n kk : Nat} {gs : TGs} {fs : List PyData → M Unit} (h : PGsD X c es is n gs fs) (hp : PGs X es gs → PG X (.Tuple es kk pos) (gTup X.K n gs)) : PGD X c (.Tuple es kk pos) is (gTup X.K n gs) (aTup n fs) := ⟨hp h.p, fun G B H σ r t Q XP v x w s sv p => by
  unfold aTup at p
  split at p
  · rename_i xs
    cases (show Dq X.K B.H v (.tuple xs) from sv) with
    | @tup a vs _ h1 h2 =>
      by_cases hz : xs.length = n
      · rw [if_pos hz] at p
        exact ⟨a, vs, rfl, sqt_mono w.sub h1, by rw [h2.len]; exact hz, h.k G B H σ r t Q XP vs xs w s h2 p⟩
      · rw [if_neg hz] at p
        exact p.elim
  · exact p.elim⟩
/-! assignments -/
def mAsg (f : Sl → M Unit) (m : M Tk) : M Fl := m.bind fun k => (keep k).bind fun x => (f x).bind fun _ => M.ret .nx
theorem rf_asg {is : List Nat} {g : TG} {f : Sl → M Unit} (h : RfE K c te me) (hg : RfG K c is g f) : RfS K c (tAsg te g) (mAsg f me) := by
  intro G B H σ r t D XP w s hx p
  unfold mAsg at p
  rw [post_bind] at p
  refine h G B H σ r t _ XP w s hx (post_mono p fun k r1 tt1 p => fun v B1 H1 l1 w1 s1 vk => ?_)
  rw [post_bind] at p
  obtain ⟨x, sx, p⟩ := keep_ok vk p
  rw [post_bind] at p
  exact hg G B1 H1 σ r1 tt1 D.nx XP v x w1 s1 sx (post_mono p fun _ r2 tt2 p => fun σ2 B2 H2 l2 w2 s2 _ => p σ2 B2 H2 (l1.trans l2) w2 s2)
theorem psd_asg {tg : Expr} {is : List Nat} {g : TG} {f : Sl → M Unit} (h : PED X c e te me) (hg : PGD X c tg is g f) (hp : PE X e te → PG X tg g → PS X (.Assign [tg] e pos) (tAsg te g)) : PSD X c (.Assign [tg] e pos) (tAsg te g) (mAsg f me) := ⟨hp h.p hg.p, rf_asg h.k hg.k⟩
/-- x = e -/
theorem psd_set {i : Nat} {x : Str} {pos' : Pos} (hi : i ∉ c.ow) (h : PED X c e te me) (hp : PE X e te → PS X (.Assign [.Name x pos'] e pos) (tAsg te (gName i))) : PSD X c (.Assign [.Name x pos'] e pos) (tAsg te (gName i)) (mAsg (aName i) me) := ⟨hp h.p, rf_asg h.k (rf_gName hi)⟩
/-- x = e, x the owner of its list -/
def mAsgO (i : Nat) (m : M (List PyData)) : M Fl := m.bind fun ds => setO i ds Fl.nx
theorem rf_asgO {i : Nat} {m : M (List PyData)} (hi : i ∈ c.ow) (h : RfF K c te m) : RfS K c (tAsg te (gName i)) (mAsgO i m) := by
  intro G B H σ r t D XP w s hx p
  unfold mAsgO at p
  rw [post_bind] at p
  refine h G B H σ r t _ XP w s hx (post_mono p fun ds r1 tt1 p => fun a B1 H1 l1 w1 s1 f => ?_)
  obtain ⟨vs, h1, h2⟩ := f.at_
  exact p _ B1 H1 l1 w1 (s1.setO hi h1 h2 f.b f.g f.d f.o)
theorem psd_setO {i : Nat} {x : Str} {pos' : Pos} {m : M (List PyData)} (hi : i ∈ c.ow) (h : PFD X c e te m) (hp : PE X e te → PS X (.Assign [.Name x pos'] e pos) (tAsg te (gName i))) : PSD X c (.Assign [.Name x pos'] e pos) (tAsg te (gName i)) (mAsgO i m) := ⟨hp h.p, rf_asgO hi h.k⟩
/-- x op= e -/
def mAug (f : Sl → Sl → Option Sl) (i : Nat) (m : M Tk) : M Fl := (mVar [] i).bind fun k => m.bind fun k2 => (use k).bind fun x => (use k2).bind fun y => (lft (f x y)).bind fun z => (keep z).bind fun z => (aName i z).bind fun _ => M.ret .nx
end
end DL
end
section
set_option maxRecDepth 100000
set_option maxHeartbeats 4000000
namespace DL
open PySem PySem.Spec PyProof.Rows L2

section
variable {X : Cx} {c : Cd} {a b e d : Expr} {ma mb me mc : M Tk} {ta tb te tc : TE} {tt tu : TT} {pos : Pos} {K : PySem.W.Frag} {st : Stmt} {rest : List Stmt} {t1 t2 : TS} {m n : M Fl}
/-! x op= e -/
theorem rf_aug {r : R2} {f : Sl → Sl → Option Sl} {i : Nat} (hi : i ∉ c.ow) (ho : OpD K r f) (h : RfE K c te me) : RfS K c (tAug i te r) (mAug f i me) := by
  intro G B H σ rr t D XP w s hx p
  unfold mAug at p
  rw [post_bind] at p
  unfold mVar at p
  cases hr : rr[i]? with
  | none => rw [hr] at p; exact p.elim
  | some o =>
    cases o with
    | none => rw [hr] at p; exact p.elim
    | some x0 =>
      rw [hr] at p
      simp only [List.not_mem_nil, if_false] at p
      obtain ⟨v0, h1, h2⟩ := s.var i x0 hr hi
      refine ⟨v0, h1, ?_⟩
      have p : ((me.bind fun k2 => (use (.v x0)).bind fun x => (use k2).bind fun y => (lft (f x y)).bind fun z => (keep z).bind fun z => (aName i z).bind fun _ => M.ret Fl.nx) rr t).post _ XP := p
      rw [post_bind] at p
      refine h G B H σ rr t _ XP w s hx (post_mono p fun k r1 tt1 p => fun v1 B1 H1 l1 w1 s1 vk => ?_)
      have p : (((use k).bind fun y => (lft (f x0 y)).bind fun z => (keep z).bind fun z => (aName i z).bind fun _ => M.ret Fl.nx) r1 tt1).post _ XP := p
      rw [post_bind] at p
      obtain ⟨y, by_, p⟩ := use_ok s1 vk p
      obtain ⟨G', w', gg, _, back⟩ := Sls.push w1 s1
      cases ef : f x0 y with
      | none => rw [ef] at p; exact p.elim
      | some z =>
        rw [ef] at p
        refine ho G' B1 H1 tt1 v0 v1 x0 y z _ w' (.inl (h2.mono l1)) by_ ef fun v B' H' l w3 sv => ?_
        obtain ⟨w4, s4⟩ := back B' H' tt1 l w3
        exact p _ B' H' (l1.trans l) w4 (s4.set hi sv)
theorem psd_aug {op : Operator} {r : R2} {f : Sl → Sl → Option Sl} {i : Nat} {x : Str} {pos' : Pos} (hi : i ∉ c.ow) (ho : OpR X (inplaceOp op) r) (hd : OpD X.K r f) (hN : X.N.Nodup) (hx : X.N[i]? = some x) (hl : Loc X.env.scope x) (h : PED X c e te me)
    (hf : X.fn x = true ∨ X.env.scope.names.lookup x = some .local := by first | exact .inl rfl | exact .inr rfl | assumption) : PSD X c (.AugAssign (.Name x pos') op e pos) (tAug i te r) (mAug f i me) := ⟨ps_aug hN hx hl h.p (show PIp X op r from ho) hf, rf_aug hi hd h.k⟩
/-! a, b = e1, e2 -/
def twoK : List Tk → Option (Sl × Sl)
  | [.v x, .v y] => some (x, y)
  | _ => none
def mPar (i j : Nat) (m : M (List Tk)) : M Fl := m.bind fun ks => (optM (twoK ks)).bind fun q => (aName i q.1).bind fun _ => (aName j q.2).bind fun _ => M.ret .nx
theorem rf_par {i j : Nat} (hi : i ∉ c.ow) (hj : j ∉ c.ow) {t : TA} {m : M (List Tk)} (h : RfA K c t m) : RfS K c (tPar i j t) (mPar i j m) := by
  intro G B H σ rr dl D XP w s hx p
  unfold mPar at p
  rw [post_bind] at p
  refine h G B H σ rr dl _ XP w s hx (post_mono p fun ks r1 tt1 p => fun vs B1 H1 l1 w1 s1 v1 => ?_)
  rw [post_bind] at p
  obtain ⟨q, eq, p⟩ := optM_ok p
  unfold twoK at eq
  split at eq
  · rename_i x y
    cases eq
    match vs, v1 with
    | [v, u], v1 =>
      refine ⟨v, u, rfl, ?_⟩
      exact p _ B1 H1 l1 w1 ((s1.set hi v1.1).set hj v1.2.1)
  · cases eq
theorem psd_par {i j : Nat} {x y : Str} {t : TA} {m : M (List Tk)} {px py pt pt2 : Pos} {kt k2 : Nat} (hi : i ∉ c.ow) (hj : j ∉ c.ow) (ha : PAD X c [a, b] t m) (hp : PA X [a, b] t → PS X (.Assign [.Tuple [.Name x px, .Name y py] kt pt] (.Tuple [a, b] k2 pt2) pos) (tPar i j t)) :
    PSD X c (.Assign [.Tuple [.Name x px, .Name y py] kt pt] (.Tuple [a, b] k2 pt2) pos) (tPar i j t) (mPar i j m) := ⟨hp ha.p, rf_par hi hj ha.k⟩
/-- the second one an owner -/
def mParO (i j : Nat) (m : M Tk) (n : M (List PyData)) : M Fl := m.bind fun k => n.bind fun ds => (keep k).bind fun x => (aName i x).bind fun _ => setO j ds Fl.nx
theorem rf_parO {i j : Nat} (hi : i ∉ c.ow) (hj : j ∈ c.ow) {n : M (List PyData)} (h1 : RfE K c ta ma) (h2 : RfF K c tb n) : RfS K c (tPar i j (tCons ta (tCons tb tNil))) (mParO i j ma n) := by
  intro G B H σ rr dl D XP w s hx p
  unfold mParO at p
  rw [post_bind] at p
  refine h1 G B H σ rr dl _ XP w s hx (post_mono p fun k r1 tt1 p => fun v1 B1 H1 l1 w1 s1 vk => ?_)
  rw [post_bind] at p
  refine h2 G B1 H1 σ r1 tt1 _ XP w1 s1 (hx.mono l1) (post_mono p fun ds r2 tt2 p => fun q B2 H2 l2 w2 s2 f => ?_)
  rw [post_bind] at p
  obtain ⟨x, sx, p⟩ := keep_ok (vk.mono l2) p
  obtain ⟨vs, g1, g2⟩ := f.at_
  refine ⟨v1, .ref q, rfl, ?_⟩
  have no : NOw c.ow (σ.set i (some v1)) (r2.set i (some x)) q := fun k hk hl => by
    have ne : k ≠ i := fun e => hi (e ▸ hk)
    rw [List.getElem?_set_ne (Ne.symm ne)]
    unfold Live at hl
    rw [List.getElem?_set_ne (Ne.symm ne)] at hl
    exact f.o k hk hl
  exact p _ B2 H2 (l1.trans l2) w2 ((s2.set hi sx).setO hj g1 g2 f.b f.g f.d no)
/-- both owners -/
def mParOO (i j : Nat) (m n : M (List PyData)) : M Fl := m.bind fun ds => n.bind fun es => (setO i ds ()).bind fun _ => setO j es Fl.nx
/-- the first one an owner -/
def mParFO (i j : Nat) (m : M (List PyData)) (n : M Tk) : M Fl := m.bind fun ds => n.bind fun k => (keep k).bind fun x => (setO i ds ()).bind fun _ => (aName j x).bind fun _ => M.ret .nx
/-- a fresh list kept aside while more is evaluated -/
theorem Fr.stay {G : Hp} {B : Bs} {H : Hp} {σ : L2.St} {r : Rho} {t : Option Deal} {p : Addr} {ds : List PyData} (w : Wd G B H t) (f : Fr K c.ow G B H σ r p ds) :
    ∃ vs, H p = some (.lst vs) ∧ Wd (upd G p (.lst vs)) B H t ∧ (∀ a o, G a = some o → upd G p (.lst vs) a = some o) ∧
      (∀ (B' : Bs) (H' : Hp) (t' : Option Deal), B.le B' → Wd (upd G p (.lst vs)) B' H' t' → Wd G B' H' t' ∧ H' p = some (.lst vs) ∧ DqAll K B'.H vs ds ∧ B'.H p = none ∧ Ndl B' p) := by
  obtain ⟨vs, h1, h2⟩ := f.at_
  have gg : ∀ a o, G a = some o → upd G p (.lst vs) a = some o := fun a o e => by
    have n : a ≠ p := fun z => by rw [z, f.g] at e; cases e
    rw [upd_ne n]; exact e
  refine ⟨vs, h1, w.more h1 f.b f.d, gg, fun B' H' t' l w2 => ?_⟩
  obtain ⟨e1, e2⟩ := w2.fgn p _ upd_same
  exact ⟨w2.less gg, e1, dpa_mono l.h h2, e2, w2.ndg (p := p) upd_same⟩
theorem Sls.moreG {ow : List Nat} {G : Hp} {B : Bs} {H : Hp} {σ : L2.St} {r : Rho} {p : Addr} {o : HO} (s : Sls K ow G B H σ r) (n : NOw ow σ r p) : Sls K ow (upd G p o) B H σ r := by
  refine ⟨s.len, s.var, fun i x hx hi => ?_, s.dis⟩
  obtain ⟨ds, a, vs, h1, h2, h3, h4, h5, h6, h7⟩ := s.own i x hx hi
  have q : a ≠ p := fun e => by subst e; exact n i hi ⟨x, hx⟩ h2
  exact ⟨ds, a, vs, h1, h2, h3, h4, h5, by rw [upd_ne q]; exact h6, h7⟩
theorem Sls.lessG {ow : List Nat} {G G' : Hp} {B : Bs} {H : Hp} {σ : L2.St} {r : Rho} (s : Sls K ow G' B H σ r) (h : ∀ a o, G a = some o → G' a = some o) : Sls K ow G B H σ r := by
  refine ⟨s.len, s.var, fun i x hx hi => ?_, s.dis⟩
  obtain ⟨ds, a, vs, h1, h2, h3, h4, h5, h6, h7⟩ := s.own i x hx hi
  refine ⟨ds, a, vs, h1, h2, h3, h4, h5, ?_, h7⟩
  cases q : G a with
  | none => rfl
  | some o => rw [h _ _ q] at h6; cases h6
theorem Sls.nowG {ow : List Nat} {G : Hp} {B : Bs} {H : Hp} {σ : L2.St} {r : Rho} {p : Addr} {o : HO} (s : Sls K ow G B H σ r) (h : G p = some o) : NOw ow σ r p := fun i hi ⟨x, hx⟩ e => by
  obtain ⟨ds, a, vs, h1, h2, h3, h4, h5, h6, h7⟩ := s.own i x hx hi
  rw [e] at h2
  injection h2 with h2; injection h2 with h2; injection h2 with h2
  rw [← h2, h] at h6
  cases h6
theorem rf_parOO {i j : Nat} (hi : i ∈ c.ow) (hj : j ∈ c.ow) (hij : i ≠ j) {m n : M (List PyData)} (h1 : RfF K c ta m) (h2 : RfF K c tb n) : RfS K c (tPar i j (tCons ta (tCons tb tNil))) (mParOO i j m n) := by
  intro G B H σ rr dl D XP w s hx p
  unfold mParOO at p
  rw [post_bind] at p
  refine h1 G B H σ rr dl _ XP w s hx (post_mono p fun ds r1 tt1 p => fun p1 B1 H1 l1 w1 s1 f1 => ?_)
  rw [post_bind] at p
  obtain ⟨vs1, e1, w1', gg, back⟩ := Fr.stay w1 f1
  refine h2 _ B1 H1 σ r1 tt1 _ XP w1' (s1.moreG f1.o) ((hx.mono l1).less gg) (post_mono p fun es r2 tt2 p => fun p2 B2 H2 l2 w2 s2 f2 => ?_)
  obtain ⟨w3, g1, g2, g3, g4⟩ := back B2 H2 tt2 l2 w2
  obtain ⟨vs2, k1, k2⟩ := f2.at_
  have n1 := s2.nowG (p := p1) upd_same
  have s3 := s2.lessG gg
  have ne : p1 ≠ p2 := fun e => by
    have := f2.g
    rw [← e, upd_same] at this
    cases this
  refine ⟨.ref p1, .ref p2, rfl, ?_⟩
  have s4 := s3.setO hi g1 g2 g3 f1.g g4 n1
  have no : NOw c.ow (σ.set i (some (.ref p1))) (r2.set i (some (.d (.list ds)))) p2 := fun k hk hl => by
    by_cases q : k = i
    · subst q
      intro z
      have hlt : k < r2.length := by
        obtain ⟨y, hy⟩ := hl
        have := (List.getElem?_eq_some_iff.mp hy).1
        simpa using this
      rw [List.getElem?_set_self (by rw [s3.len]; exact hlt)] at z
      injection z with z; injection z with z; injection z with z
      exact ne z
    · rw [List.getElem?_set_ne (Ne.symm q)]
      unfold Live at hl
      rw [List.getElem?_set_ne (Ne.symm q)] at hl
      exact f2.o k hk hl
  have f2g : G p2 = none := by
    have := f2.g
    rw [upd_ne (Ne.symm ne)] at this
    exact this
  exact p _ B2 H2 (l1.trans l2) w3 (s4.setO hj k1 k2 f2.b f2g f2.d no)
theorem rf_parFO {i j : Nat} (hi : i ∈ c.ow) (hj : j ∉ c.ow) {m : M (List PyData)} {n : M Tk} (h1 : RfF K c ta m) (h2 : RfE K c tb n) : RfS K c (tPar i j (tCons ta (tCons tb tNil))) (mParFO i j m n) := by
  intro G B H σ rr dl D XP w s hx p
  unfold mParFO at p
  rw [post_bind] at p
  refine h1 G B H σ rr dl _ XP w s hx (post_mono p fun ds r1 tt1 p => fun p1 B1 H1 l1 w1 s1 f1 => ?_)
  rw [post_bind] at p
  obtain ⟨vs1, e1, w1', gg, back⟩ := Fr.stay w1 f1
  refine h2 _ B1 H1 σ r1 tt1 _ XP w1' (s1.moreG f1.o) ((hx.mono l1).less gg) (post_mono p fun k r2 tt2 p => fun v2 B2 H2 l2 w2 s2 vk => ?_)
  obtain ⟨w3, g1, g2, g3, g4⟩ := back B2 H2 tt2 l2 w2
  have n1 := s2.nowG (p := p1) upd_same
  have s3 := s2.lessG gg
  rw [post_bind] at p
  obtain ⟨x, sx, p⟩ := keep_ok vk p
  refine ⟨.ref p1, v2, rfl, ?_⟩
  exact p _ B2 H2 (l1.trans l2) w3 ((s3.setO hi g1 g2 g3 f1.g g4 n1).set hj sx)
section
variable {i j : Nat} {x y : Str} {px py pt pt2 : Pos} {kt k2 : Nat}
theorem psd_parO {n : M (List PyData)} (hi : i ∉ c.ow) (hj : j ∈ c.ow) (h1 : PED X c a ta ma) (h2 : PFD X c b tb n) (hp : PE X a ta → PE X b tb → PS X (.Assign [.Tuple [.Name x px, .Name y py] kt pt] (.Tuple [a, b] k2 pt2) pos) (tPar i j (tCons ta (tCons tb tNil)))) :
    PSD X c (.Assign [.Tuple [.Name x px, .Name y py] kt pt] (.Tuple [a, b] k2 pt2) pos) (tPar i j (tCons ta (tCons tb tNil))) (mParO i j ma n) := ⟨hp h1.p h2.p, rf_parO hi hj h1.k h2.k⟩
theorem psd_parOO {m n : M (List PyData)} (hi : i ∈ c.ow) (hj : j ∈ c.ow) (hij : i ≠ j) (h1 : PFD X c a ta m) (h2 : PFD X c b tb n) (hp : PE X a ta → PE X b tb → PS X (.Assign [.Tuple [.Name x px, .Name y py] kt pt] (.Tuple [a, b] k2 pt2) pos) (tPar i j (tCons ta (tCons tb tNil)))) :
    PSD X c (.Assign [.Tuple [.Name x px, .Name y py] kt pt] (.Tuple [a, b] k2 pt2) pos) (tPar i j (tCons ta (tCons tb tNil))) (mParOO i j m n) := ⟨hp h1.p h2.p, rf_parOO hi hj hij h1.k h2.k⟩
theorem psd_parFO {m : M (List PyData)} (hi : i ∈ c.ow) (hj : j ∉ c.ow) (h1 : PFD X c a ta m) (h2 : PED X c b tb mb) (hp : PE X a ta → PE X b tb → PS X (.Assign [.Tuple [.Name x px, .Name y py] kt pt] (.Tuple [a, b] k2 pt2) pos) (tPar i j (tCons ta (tCons tb tNil)))) :
    PSD X c (.Assign [.Tuple [.Name x px, .Name y py] kt pt] (.Tuple [a, b] k2 pt2) pos) (tPar i j (tCons ta (tCons tb tNil))) (mParFO i j m mb) := ⟨hp h1.p h2.p, rf_parFO hi hj h1.k h2.k⟩
end

/-! ### 16. What is walked -/
def ItOk (K : PySem.W.Frag) (J : It) (ds : List Sl) (B : Bs) : Prop := ∀ (G : Hp) (B2 : Bs) (H2 : Hp) (t2 : Option Deal), B.le B2 → Wd G B2 H2 t2 → ∀ i, (ds.length ≤ i → J.stop i H2) ∧
  ∀ d, ds[i]? = some d → J.go i H2 ∧ ∀ x H3, J.yld i H2 x H3 → ∃ B3 : Bs, B2.le B3 ∧ Wd G B3 H3 t2 ∧ Sv K B3 x d
def RfI (K : PySem.W.Frag) (c : Cd) (wi : TI) (m : M (List Sl)) : Prop := ∀ (G : Hp) (B : Bs) (H : Hp) (σ : L2.St) (r : Rho) (t : Option Deal) (R : It → Hp → Prop) (XP : XQ), Wd G B H t → Sls K c.ow G B H σ r → XOk K c.ec G B c.E XP →
  (m r t).post (fun ds r' t' => ∀ (J : It) (B' : Bs) (H' : Hp), B.le B' → Wd G B' H' t' → Sls K c.ow G B' H' σ r' → ItOk K J ds B' → R J H') XP → wi σ H R
structure PID (X : Cx) (c : Cd) (tg iter : Expr) (wi : TI) (m : M (List Sl)) : Prop where
  p : PI X tg iter wi
  k : RfI X.K c wi m
def signs (z : Str) : List Sl := z.cps.toList.map fun k => .d (.str ⟨#[k]⟩)
def itemsOf : Sl → Option (List Sl)
  | .d (.list ds) => some (ds.map .d)
  | .d (.tuple ds) => some (ds.map .d)
  | .d (.str z) => some (signs z)
  | _ => none
def mIter (m : M Tk) : M (List Sl) := m.bind fun k => (keep k).bind fun x => optM (itemsOf x)
def iAny (K : PySem.W.Frag) (tl : TE) : TI := fun σ H R => tl σ H fun x H1 => (∃ a, x = .ref a ∧ (∃ xs, SqL K H1 a xs) ∧ R (Itl K a) H1) ∨ (∃ a, x = .ref a ∧ (∃ xs, SqT K H1 a xs) ∧ R (Itt K a) H1) ∨ (∃ z, x = .str z ∧ R (Its z) H1)
theorem pi_any {tg l : Expr} {tl : TE} (hl : PE X l tl) : PI X tg l (iAny X.K tl) := by
  refine ⟨fun pins s σ H R I h => ?_⟩
  refine thn (hl.run pins s σ H _ I h) fun v s1 ⟨x, H1, I1, r1, q1⟩ => ?_
  rcases q1 with ⟨a, e, ⟨xs, hq⟩, q⟩ | ⟨a, e, ⟨xs, hq⟩, q⟩ | ⟨z, e, q⟩
  · subst e
    cases r1
    obtain ⟨its, rv, p, hz⟩ := I1.list hq
    refine wpAny_pyIter_list p.isList ?_
    exact pi_one (tk := s1.toks) I1 _ (turn_list a _) ⟨_, Heap.get?_push_size _ rfl, rfl, rfl⟩ q
  · subst e
    cases r1
    obtain ⟨its, rv, p, hz⟩ := I1.tuple hq
    refine wpAny_pyIter_tuple (show s1.heap.IsTuple a its.toArray from p) ?_
    exact pi_one (tk := s1.toks) I1 _ (turn_tuple a _) ⟨_, Heap.get?_push_size _ rfl, rfl, rfl⟩ q
  · subst e
    obtain ⟨t, rfl⟩ := r1
    cases ha : z.cps.all (· < 128)
    · exact wpAny_pyIter_wide ha (pi_one (tk := s1.toks) I1 _ (turn_str _ z t "str_iterator" (.inr rfl)) ⟨_, Heap.get?_push_size _ rfl, rfl, rfl⟩ q)
    · exact wpAny_pyIter_ascii ha (pi_one (tk := s1.toks) I1 _ (turn_str _ z t "str_ascii_iterator" (.inl rfl)) ⟨_, Heap.get?_push_size _ rfl, rfl, rfl⟩ q)
theorem itok_list {B : Bs} {a : Addr} {vs : List V} {ds : List PyData} (h : B.H a = some (.lst vs)) (r : DqAll K B.H vs ds) : ItOk K (Itl K a) (ds.map .d) B := fun G B2 H2 t2 l w i => by
  have h2 : SqL K H2 a vs := SqL.of (w.sub _ _ (l.h _ _ h))
  refine ⟨fun hi => ⟨vs, h2, by rw [r.len]; simpa using hi⟩, fun d hd => ?_⟩
  rw [List.getElem?_map] at hd
  cases e : ds[i]? with
  | none => rw [e] at hd; cases hd
  | some x =>
    rw [e] at hd
    cases hd
    obtain ⟨v, hv, dv⟩ := r.get e
    refine ⟨⟨vs, v, h2, hv⟩, fun y H3 ⟨eH, hy⟩ => ?_⟩
    subst eH
    have q := hy vs h2
    rw [hv] at q
    cases q
    exact ⟨B2, Bs.le.refl B2, w, dpa_mono_one l dv⟩
where dpa_mono_one {B B2 : Bs} {v : V} {x : PyData} (l : B.le B2) (h : Dq K B.H v x) : Sv K B2 v (.d x) := dp_mono l.h h
theorem itok_tup {B : Bs} {a : Addr} {vs : List V} {ds : List PyData} (h : SqT K B.H a vs) (r : DqAll K B.H vs ds) : ItOk K (Itt K a) (ds.map .d) B := fun G B2 H2 t2 l w i => by
  have h2 : SqT K H2 a vs := sqt_mono w.sub (sqt_mono l.h h)
  refine ⟨fun hi => ⟨vs, h2, by rw [r.len]; simpa using hi⟩, fun d hd => ?_⟩
  rw [List.getElem?_map] at hd
  cases e : ds[i]? with
  | none => rw [e] at hd; cases hd
  | some x =>
    rw [e] at hd
    cases hd
    obtain ⟨v, hv, dv⟩ := r.get e
    refine ⟨⟨vs, v, h2, hv⟩, fun y H3 ⟨eH, hy⟩ => ?_⟩
    subst eH
    have q := hy vs h2
    rw [hv] at q
    cases q
    exact ⟨B2, Bs.le.refl B2, w, dp_mono l.h dv⟩
theorem itok_str {B : Bs} {z : Str} : ItOk K (Its z) (signs z) B := fun G B2 H2 t2 l w i => by
  unfold signs
  refine ⟨fun hi => (show z.cps.size ≤ i by simpa using hi), fun d hd => ?_⟩
  rw [List.getElem?_map] at hd
  cases e : z.cps.toList[i]? with
  | none => rw [e] at hd; cases hd
  | some x =>
    rw [e] at hd
    cases hd
    have hi : i < z.cps.size := by
      have := (List.getElem?_eq_some_iff.mp e).1
      simpa using this
    refine ⟨hi, fun y H3 ⟨eH, k, hk, hy⟩ => ?_⟩
    subst eH
    subst hy
    rw [Array.getElem?_toList] at e
    rw [e] at hk
    cases hk
    exact ⟨B2, Bs.le.refl B2, w, .str _⟩
theorem rf_iter (h : RfE K c te me) : RfI K c (iAny K te) (mIter me) := by
  intro G B H σ r t R XP w s hx p
  unfold mIter at p
  rw [post_bind] at p
  refine h G B H σ r t _ XP w s hx (post_mono p fun k r1 tt1 p => fun v B1 H1 l1 w1 s1 vk => ?_)
  rw [post_bind] at p
  obtain ⟨x, sx, p⟩ := keep_ok vk p
  obtain ⟨ds, e, p⟩ := optM_ok p
  unfold itemsOf at e
  split at e
  · cases e
    cases (show Dq K B1.H v (.list _) from sx) with
    | @lst a vs _ h1 h2 => exact .inl ⟨a, rfl, ⟨vs, SqL.of (w1.sub _ _ h1)⟩, p _ B1 H1 l1 w1 s1 (itok_list h1 h2)⟩
  · cases e
    cases (show Dq K B1.H v (.tuple _) from sx) with
    | @tup a vs _ h1 h2 => exact .inr (.inl ⟨a, rfl, ⟨vs, sqt_mono w1.sub h1⟩, p _ B1 H1 l1 w1 s1 (itok_tup h1 h2)⟩)
  · cases e
    cases (show Dq K B1.H v (.str _) from sx)
    exact .inr (.inr ⟨_, rfl, p _ B1 H1 l1 w1 s1 itok_str⟩)
  · cases e
theorem pid_any {tg : Expr} (h : PED X c e te me) : PID X c tg e (iAny X.K te) (mIter me) := ⟨pi_any h.p, rf_iter h.k⟩
/-! range -/
def rangeS (lo : Int) (n : Nat) : List Sl := (List.range n).map fun i => .d (.int (lo + (i : Nat)))
theorem itok_range {B : Bs} {lo : Int} {n : Nat} : ItOk K (Itr lo n) (rangeS lo n) B := fun G B2 H2 t2 l w i => by
  unfold rangeS
  refine ⟨fun hi => (show n ≤ i by simpa using hi), fun d hd => ?_⟩
  rw [List.getElem?_map] at hd
  by_cases hi : i < n
  · rw [List.getElem?_range hi] at hd
    cases hd
    refine ⟨hi, fun y H3 ⟨eH, hy⟩ => ?_⟩
    subst eH
    subst hy
    exact ⟨B2, Bs.le.refl B2, w, .int _⟩
  · rw [List.getElem?_eq_none (by simpa using hi)] at hd
    cases hd
def rng1 : List Sl → Option (List Sl)
  | [.d (.int j)] => if -1000000000000 ≤ j ∧ j < 1000000000000 then some (rangeS 0 j.toNat) else none
  | _ => none
def rng2 : List Sl → Option (List Sl)
  | [.d (.int i), .d (.int j)] => if -1000000000000 ≤ i ∧ i < 1000000000000 ∧ -1000000000000 ≤ j ∧ j < 1000000000000 then some (rangeS i (j - i).toNat) else none
  | _ => none
def mRange (f : List Sl → Option (List Sl)) (m : M (List Tk)) : M (List Sl) := m.bind fun ks => (useAll ks).bind fun xs => optM (f xs)
theorem rf_range1 {t : TA} {m : M (List Tk)} (h : RfA K c t m) : RfI K c (iRng1 t) (mRange rng1 m) := by
  intro G B H σ r dl R XP w s hx p
  unfold mRange at p
  rw [post_bind] at p
  refine h G B H σ r dl _ XP w s hx (post_mono p fun ks r1 tt1 p => fun vs B1 H1 l1 w1 s1 v1 => ?_)
  rw [post_bind] at p
  obtain ⟨xs, bx, p⟩ := useAll_ok s1 v1 p
  obtain ⟨ds, e, p⟩ := optM_ok p
  unfold rng1 at e
  split at e
  · split at e
    · rename_i j hj
      cases e
      match vs, bx with
      | [v], bx =>
        cases bx.1.int
        exact ⟨j, rfl, by omega, by omega, p _ B1 H1 l1 w1 s1 itok_range⟩
    · cases e
  · cases e
theorem rf_range2 {t : TA} {m : M (List Tk)} (h : RfA K c t m) : RfI K c (iRng2 t) (mRange rng2 m) := by
  intro G B H σ r dl R XP w s hx p
  unfold mRange at p
  rw [post_bind] at p
  refine h G B H σ r dl _ XP w s hx (post_mono p fun ks r1 tt1 p => fun vs B1 H1 l1 w1 s1 v1 => ?_)
  rw [post_bind] at p
  obtain ⟨xs, bx, p⟩ := useAll_ok s1 v1 p
  obtain ⟨ds, e, p⟩ := optM_ok p
  unfold rng2 at e
  split at e
  · split at e
    · rename_i i j hj
      cases e
      match vs, bx with
      | [v, u], bx =>
        cases bx.1.int
        cases bx.2.1.int
        exact ⟨i, j, rfl, by omega, p _ B1 H1 l1 w1 s1 itok_range⟩
    · cases e
  · cases e
theorem pid_range1 {tg : Expr} {p : Pos} {t : TA} {m : M (List Tk)} (hg : Gl X "range") (hm : X.mg "range" = none) (ha : PAD X c [a] t m) (hs : starEach [a] X.env = [(false, eval a X.env)] := by rfl) : PID X c tg (.Call (.Name "range" p) [a] [] pos) (iRng1 t) (mRange rng1 m) := ⟨pi_range1 hg hm ha.p hs, rf_range1 ha.k⟩
theorem pid_range2 {tg : Expr} {p : Pos} {t : TA} {m : M (List Tk)} (hg : Gl X "range") (hm : X.mg "range" = none) (ha : PAD X c [a, b] t m) (hs : starEach [a, b] X.env = [(false, eval a X.env), (false, eval b X.env)] := by rfl) (hs2 : starEach [b] X.env = [(false, eval b X.env)] := by rfl) : PID X c tg (.Call (.Name "range" p) [a, b] [] pos) (iRng2 t) (mRange rng2 m) := ⟨pi_range2 hg hm ha.p hs hs2, rf_range2 ha.k⟩
/-! zip of two lists, of two tuples -/
def pairS (q : PyData × PyData) : Sl := .d (.tuple [q.1, q.2])
def zipF : List Sl → Option (List Sl)
  | [.d (.list xs), .d (.list ys)] => some ((xs.zip ys).map pairS)
  | [.d (.tuple xs), .d (.tuple ys)] => some ((xs.zip ys).map pairS)
  | _ => none
def mZip (m : M (List Tk)) : M (List Sl) := m.bind fun ks => (optM (keepAll ks)).bind fun xs => optM (zipF xs)
theorem zip_get {xs ys : List PyData} {i : Nat} {d : Sl} (h : ((xs.zip ys).map pairS)[i]? = some d) : ∃ x y, xs[i]? = some x ∧ ys[i]? = some y ∧ d = .d (.tuple [x, y]) := by
  rw [List.getElem?_map] at h
  cases e : (xs.zip ys)[i]? with
  | none => rw [e] at h; cases h
  | some q =>
    rw [e] at h
    cases h
    obtain ⟨x, y⟩ := q
    rw [List.getElem?_zip_eq_some] at e
    exact ⟨x, y, e.1, e.2, rfl⟩
theorem pair_new {G : Hp} {B2 : Bs} {H2 : Hp} {t2 : Option Deal} {T : Addr} {v u : V} {x y : PyData} (w : Wd G B2 H2 t2) (hT : H2 T = none) (hx : Dq K B2.H v x) (hy : Dq K B2.H u y) :
    ∃ B3 : Bs, B2.le B3 ∧ Wd G B3 (upd H2 T (.tup [v, u])) t2 ∧ Sv K B3 (.ref T) (.d (.tuple [x, y])) := by
  have le := Bs.le_add (o := .tup [v, u]) (w.nb hT)
  exact ⟨_, le, w.new hT, Dq.tup (SqT.of (show upd B2.H T (.tup [v, u]) T = _ from upd_same)) (.cons (dp_mono le.h hx) (.cons (dp_mono le.h hy) .nil))⟩
theorem itok_zipL {B : Bs} {a b : Addr} {vs us : List V} {xs ys : List PyData} (h : B.H a = some (.lst vs)) (h' : B.H b = some (.lst us)) (r : DqAll K B.H vs xs) (r' : DqAll K B.H us ys) : ItOk K (Itz K a b) ((xs.zip ys).map pairS) B := fun G B2 H2 t2 l w i => by
  have h2 : SqL K H2 a vs := SqL.of (w.sub _ _ (l.h _ _ h))
  have h3 : SqL K H2 b us := SqL.of (w.sub _ _ (l.h _ _ h'))
  refine ⟨fun hi => ⟨vs, us, h2, h3, by rw [r.len, r'.len]; simp at hi; omega⟩, fun d hd => ?_⟩
  obtain ⟨x, y, e1, e2, rfl⟩ := zip_get hd
  obtain ⟨v, hv, dv⟩ := r.get e1
  obtain ⟨u, hu, du⟩ := r'.get e2
  refine ⟨⟨vs, us, v, u, h2, h3, hv, hu⟩, fun z H3 ⟨T, v', u', ez, hT, eH, q1, q2⟩ => ?_⟩
  have q1 := q1 vs h2
  have q2 := q2 us h3
  rw [hv] at q1
  rw [hu] at q2
  cases q1; cases q2
  subst ez eH
  exact pair_new w hT (dp_mono l.h dv) (dp_mono l.h du)
theorem itok_zipT {B : Bs} {a b : Addr} {vs us : List V} {xs ys : List PyData} (h : SqT K B.H a vs) (h' : SqT K B.H b us) (r : DqAll K B.H vs xs) (r' : DqAll K B.H us ys) : ItOk K (RZ.ItzT K a b) ((xs.zip ys).map pairS) B := fun G B2 H2 t2 l w i => by
  have h2 : SqT K H2 a vs := sqt_mono w.sub (sqt_mono l.h h)
  have h3 : SqT K H2 b us := sqt_mono w.sub (sqt_mono l.h h')
  refine ⟨fun hi => ⟨vs, us, h2, h3, by rw [r.len, r'.len]; simp at hi; omega⟩, fun d hd => ?_⟩
  obtain ⟨x, y, e1, e2, rfl⟩ := zip_get hd
  obtain ⟨v, hv, dv⟩ := r.get e1
  obtain ⟨u, hu, du⟩ := r'.get e2
  refine ⟨⟨vs, us, v, u, h2, h3, hv, hu⟩, fun z H3 ⟨T, v', u', ez, hT, eH, q1, q2⟩ => ?_⟩
  have q1 := q1 vs h2
  have q2 := q2 us h3
  rw [hv] at q1
  rw [hu] at q2
  cases q1; cases q2
  subst ez eH
  exact pair_new w hT (dp_mono l.h dv) (dp_mono l.h du)
theorem rf_zip {t : TA} {m : M (List Tk)} (h : RfA K c t m) : RfI K c (RZ.iZipA K t) (mZip m) := by
  intro G B H σ r dl R XP w s hx p
  unfold mZip at p
  rw [post_bind] at p
  refine h G B H σ r dl _ XP w s hx (post_mono p fun ks r1 tt1 p => fun vs B1 H1 l1 w1 s1 v1 => ?_)
  rw [post_bind] at p
  obtain ⟨xs, e0, p⟩ := optM_ok p
  have sv := keepAll_ok e0 v1
  obtain ⟨ds, e, p⟩ := optM_ok p
  unfold zipF at e
  split at e
  · cases e
    match vs, sv with
    | [v, u], sv =>
      obtain ⟨sv1, sv2, _⟩ := sv
      cases (show Dq K B1.H v (.list _) from sv1) with
      | @lst a vs _ h1 h2 =>
        cases (show Dq K B1.H u (.list _) from sv2) with
        | @lst b us _ h3 h4 => exact ⟨a, b, vs, us, rfl, .inl ⟨SqL.of (w1.sub _ _ h1), SqL.of (w1.sub _ _ h3), p _ B1 H1 l1 w1 s1 (itok_zipL h1 h3 h2 h4)⟩⟩
  · cases e
    match vs, sv with
    | [v, u], sv =>
      obtain ⟨sv1, sv2, _⟩ := sv
      cases (show Dq K B1.H v (.tuple _) from sv1) with
      | @tup a vs _ h1 h2 =>
        cases (show Dq K B1.H u (.tuple _) from sv2) with
        | @tup b us _ h3 h4 => exact ⟨a, b, vs, us, rfl, .inr ⟨sqt_mono w1.sub h1, sqt_mono w1.sub h3, p _ B1 H1 l1 w1 s1 (itok_zipT h1 h3 h2 h4)⟩⟩
  · cases e
theorem pid_zip {p tpos : Pos} {elts : List Expr} {kk : Nat} {t : TA} {m : M (List Tk)} (hg : Gl X "zip") (hm : X.mg "zip" = none) (ha : PAD X c [a, b] t m)
    (hs : starEach [a, b] X.env = (false, eval a X.env) :: starEach [b] X.env := by rfl) (hpl : (backTo pos (starEach [b] X.env)).any (·.1) = false := by rfl) :
    PID X c (.Tuple elts kk tpos) (.Call (.Name "zip" p) [a, b] [] pos) (RZ.iZipA X.K t) (mZip m) := ⟨RZ.pi_zipA hg hm ha.p hs hpl, rf_zip ha.k⟩
end
end DL
end
section
set_option maxRecDepth 100000
set_option maxHeartbeats 4000000
namespace DL
open PySem PySem.Spec PyProof.Rows L2

/-! ### 17. Loops -/
section
variable {X : Cx} {c : Cd} {a b e d : Expr} {ma mb me mc : M Tk} {ta tb te tc : TE} {tt tu : TT} {pos : Pos} {K : PySem.W.Frag} {st : Stmt} {rest : List Stmt} {t1 t2 : TS} {m n : M Fl}
/-- behind a turn's body -/
def afterF (cont : M Fl) : Fl → M Fl
  | .nx => cont
  | .ct => cont
  | .bk => M.ret .nx
  | .rt x => M.ret (.rt x)
def forL (f : Sl → M Unit) (body : M Fl) : List Sl → M Fl
  | [] => M.ret .nx
  | d :: ds => (f d).bind fun _ => body.bind (afterF (forL f body ds))
def mFor (mi : M (List Sl)) (f : Sl → M Unit) (body : M Fl) : M Fl := mi.bind fun ds => forL f body ds
theorem rf_for {wi : TI} {mi : M (List Sl)} {is : List Nat} {g : TG} {f : Sl → M Unit} {tb : TS} {body : M Fl} (hi : RfI K c wi mi) (hg : RfG K c is g f) (hb : RfS K c tb body) : RfS K c (tFor wi g tb) (mFor mi f body) := by
  intro G B H σ r t D XP w s hx p
  unfold mFor at p
  rw [post_bind] at p
  refine hi G B H σ r t _ XP w s hx (post_mono p fun ds r1 tt1 p => fun J B1 H1 l1 w1 s1 it => ?_)
  refine ⟨fun i m σ' H' => m = ds.length - i ∧ i ≤ ds.length ∧ ∃ (B' : Bs) (r' : Rho) (t' : Option Deal), B1.le B' ∧ Wd G B' H' t' ∧ Sls K c.ow G B' H' σ' r' ∧ (forL f body (ds.drop i) r' t').post (fun k r'' t'' => EndOk K c.ow G B D r'' t'' k) XP, ⟨ds.length, by simp, Nat.zero_le _, B1, r1, tt1, Bs.le.refl B1, w1, s1, by simpa using p⟩, ?_⟩
  rintro i m σ' H' ⟨rfl, hle, B2, r2, tt2, l2, w2, s2, q⟩
  by_cases hlt : i < ds.length
  · obtain ⟨d, hd⟩ : ∃ d, ds[i]? = some d := ⟨ds[i], List.getElem?_eq_getElem hlt⟩
    have hdrop : ds.drop i = d :: ds.drop (i + 1) := by
      rw [List.drop_eq_getElem_cons hlt]
      congr 1
      rw [List.getElem?_eq_getElem hlt] at hd
      exact Option.some.inj hd
    rw [hdrop] at q
    unfold forL at q
    rw [post_bind] at q
    obtain ⟨G', w2', gg, _, back⟩ := Sls.push w2 s2
    obtain ⟨_, hgo⟩ := it G' B2 H' tt2 l2 w2' i
    obtain ⟨go, hy⟩ := hgo d hd
    refine .inr ⟨go, fun σ' H' => ∃ (B' : Bs) (r' : Rho) (t' : Option Deal), B1.le B' ∧ Wd G B' H' t' ∧ Sls K c.ow G B' H' σ' r' ∧ (forL f body (ds.drop (i + 1)) r' t').post (fun k r'' t'' => EndOk K c.ow G B D r'' t'' k) XP, fun σ' H' h => ⟨ds.length - (i + 1), by omega, rfl, hlt, h⟩, fun x H3 yy => ?_⟩
    obtain ⟨B3, l3, w3', sv⟩ := hy x H3 yy
    obtain ⟨w3, s3⟩ := back B3 H3 tt2 l3 w3'
    have l13 := (l1.trans l2).trans l3
    refine hg G B3 H3 σ' r2 tt2 _ XP x d w3 s3 sv (post_mono q fun _ r4 tt4 q => fun σ4 B4 H4 l4 w4 s4 _ => ?_)
    rw [post_bind] at q
    refine hb G B4 H4 σ4 r4 tt4 _ XP w4 s4 (hx.mono (l13.trans l4)) (post_mono q fun k r5 tt5 q => ?_)
    have l14 := l13.trans l4
    have l24 := (l2.trans l3).trans l4
    cases k with
    | nx => exact fun σ5 B5 H5 l5 w5 s5 => ⟨B5, r5, tt5, l24.trans l5, w5, s5, q⟩
    | ct => exact fun σ5 B5 H5 l5 w5 s5 => ⟨B5, r5, tt5, l24.trans l5, w5, s5, q⟩
    | bk => exact fun σ5 B5 H5 l5 w5 s5 => q σ5 B5 H5 (l14.trans l5) w5 s5
    | rt x => exact fun v B5 H5 l5 w5 sv5 => q v B5 H5 (l14.trans l5) w5 sv5
  · have e : i = ds.length := by omega
    subst e
    rw [List.drop_length] at q
    obtain ⟨hstop, _⟩ := it G B2 H' tt2 l2 w2 ds.length
    exact .inl ⟨hstop (Nat.le_refl _), q σ' B2 H' (l1.trans l2) w2 s2⟩
theorem psd_for {iter tg : Expr} {body : List Stmt} {wi : TI} {mi : M (List Sl)} {is : List Nat} {g : TG} {f : Sl → M Unit} {tb : TS} {mbody : M Fl} (hp : PassesOwn (model X.prog X.w) X.A X.env X.xe) (hc : X.calm = true) (hi : PID X c tg iter wi mi) (hg : PGD X c tg is g f) (hb : PSsD X c body tb mbody)
    (hs : ∀ x, foldedSetIterable iter X.env x = pure x := by intro _; rfl) : PSD X c (.For tg iter body [] pos) (tFor wi g tb) (mFor mi f mbody) := ⟨ps_for hp hc hi.p hg.p hb.p hs, rf_for hi.k hg.k hb.k⟩

def whileT (body cont : M Fl) : Bool → M Fl
  | true => body.bind (afterF cont)
  | false => M.ret .nx
def whileN (cc : M Bool) (body : M Fl) : Nat → M Fl
  | 0 => M.st
  | n + 1 => cc.bind (whileT body (whileN cc body n))
open Classical in
noncomputable def mWhile (cc : M Bool) (body : M Fl) : M Fl := fun r t => if h : ∃ n, whileN cc body n r t ≠ .st then whileN cc body h.choose r t else .st
theorem rf_while {cc : M Bool} {tb : TS} {body : M Fl} (hc : RfT K c tt cc) (hb : RfS K c tb body) : RfS K c (tWhile tt tb) (mWhile cc body) := by
  intro G B H σ r t D XP w s hx p
  unfold mWhile at p
  split at p
  · rename_i h
    refine ⟨fun m σ' H' => ∃ (B' : Bs) (r' : Rho) (t' : Option Deal), B.le B' ∧ Wd G B' H' t' ∧ Sls K c.ow G B' H' σ' r' ∧ (whileN cc body m r' t').post (fun k r'' t'' => EndOk K c.ow G B D r'' t'' k) XP, ⟨h.choose, B, r, t, Bs.le.refl B, w, s, p⟩, ?_⟩
    rintro m σ1 H1 ⟨B1, r1, tt1, l1, w1, s1, q⟩
    cases m with
    | zero => exact q.elim
    | succ m =>
      unfold whileN at q
      rw [post_bind] at q
      refine hc G B1 H1 σ1 r1 tt1 _ XP w1 s1 (hx.mono l1) (post_mono q fun b r2 tt2 q => fun B2 H2 l2 w2 s2 => ?_)
      cases b with
      | false =>
        rw [if_neg Bool.false_ne_true]
        exact q σ1 B2 H2 (l1.trans l2) w2 s2
      | true =>
        rw [if_pos rfl]
        unfold whileT at q
        rw [post_bind] at q
        refine ⟨fun σ' H' => ∃ (B' : Bs) (r' : Rho) (t' : Option Deal), B.le B' ∧ Wd G B' H' t' ∧ Sls K c.ow G B' H' σ' r' ∧ (whileN cc body m r' t').post (fun k r'' t'' => EndOk K c.ow G B D r'' t'' k) XP, fun σ' H' h => ⟨m, Nat.lt_succ_self m, h⟩, ?_⟩
        have l12 := l1.trans l2
        refine hb G B2 H2 σ1 r2 tt2 _ XP w2 s2 (hx.mono l12) (post_mono q fun k r5 tt5 q => ?_)
        cases k with
        | nx => exact fun σ5 B5 H5 l5 w5 s5 => ⟨B5, r5, tt5, l12.trans l5, w5, s5, q⟩
        | ct => exact fun σ5 B5 H5 l5 w5 s5 => ⟨B5, r5, tt5, l12.trans l5, w5, s5, q⟩
        | bk => exact fun σ5 B5 H5 l5 w5 s5 => q σ5 B5 H5 (l12.trans l5) w5 s5
        | rt x => exact fun v B5 H5 l5 w5 sv5 => q v B5 H5 (l12.trans l5) w5 sv5
  · exact p.elim
theorem psd_while {ce : Expr} {body : List Stmt} {cc : M Bool} {tb : TS} {mbody : M Fl} (hp : PassesOwn (model X.prog X.w) X.A X.env X.xe) (hc : PTD X c ce tt cc) (hb : PSsD X c body tb mbody) : PSD X c (.While ce body [] pos) (tWhile tt tb) (mWhile cc mbody) := ⟨ps_while hp hc.p hb.p, rf_while hc.k hb.k⟩
/-- a continuation that is more than another one -/
theorem bind_more {α β : Type} {m : M α} {f g : α → M β} {r : Rho} {t : Option Deal} (h : M.bind m f r t ≠ .st) (hg : ∀ a r1 t1, f a r1 t1 ≠ .st → g a r1 t1 = f a r1 t1) : M.bind m g r t = M.bind m f r t := by
  unfold M.bind at h ⊢
  cases e : m r t with
  | st => rfl
  | ex _ _ _ => rfl
  | ok a r1 t1 =>
    rw [e] at h
    exact hg a r1 t1 h
theorem afterF_more {c1 c2 : M Fl} (hg : ∀ r1 t1, c1 r1 t1 ≠ .st → c2 r1 t1 = c1 r1 t1) : ∀ k r1 t1, afterF c1 k r1 t1 ≠ .st → afterF c2 k r1 t1 = afterF c1 k r1 t1
  | .nx, r1, t1, h => hg r1 t1 h
  | .ct, r1, t1, h => hg r1 t1 h
  | .bk, _, _, _ => rfl
  | .rt _, _, _, _ => rfl
theorem whileT_more {body c1 c2 : M Fl} (hg : ∀ r1 t1, c1 r1 t1 ≠ .st → c2 r1 t1 = c1 r1 t1) : ∀ b r1 t1, whileT body c1 b r1 t1 ≠ .st → whileT body c2 b r1 t1 = whileT body c1 b r1 t1
  | true, r1, t1, h => bind_more (m := body) (f := afterF c1) (g := afterF c2) h (afterF_more hg)
  | false, _, _, _ => rfl
theorem whileN_more {cc : M Bool} {body : M Fl} : ∀ (n : Nat) (r : Rho) (t : Option Deal), whileN cc body n r t ≠ .st → ∀ k, whileN cc body (n + k) r t = whileN cc body n r t
  | 0, r, t, h, k => absurd rfl h
  | n + 1, r, t, h, k => by
    rw [Nat.add_right_comm]
    exact bind_more (m := cc) (f := whileT body (whileN cc body n)) (g := whileT body (whileN cc body (n + k))) h (whileT_more fun r1 t1 h => whileN_more n r1 t1 h k)
theorem mWhile_of {cc : M Bool} {body : M Fl} {n : Nat} {r : Rho} {t : Option Deal} (h : whileN cc body n r t ≠ .st) : mWhile cc body r t = whileN cc body n r t := by
  unfold mWhile
  have hx : ∃ n, whileN cc body n r t ≠ .st := ⟨n, h⟩
  rw [dif_pos hx]
  have h2 := hx.choose_spec
  rcases Nat.le_total hx.choose n with q | q
  · have := whileN_more _ r t h2 (n - hx.choose)
    rw [Nat.add_sub_cancel' q] at this
    exact this.symm
  · have := whileN_more _ r t h (hx.choose - n)
    rw [Nat.add_sub_cancel' q] at this
    exact this
theorem mWhile_no {cc : M Bool} {body : M Fl} {r : Rho} {t : Option Deal} (h : ∀ n, whileN cc body n r t = .st) : mWhile cc body r t = .st := by
  unfold mWhile
  rw [dif_neg (fun ⟨n, hn⟩ => hn (h n))]
/-- one turn of a while -/
theorem mWhile_eq {cc : M Bool} {body : M Fl} {r : Rho} {t : Option Deal} : mWhile cc body r t = cc.bind (whileT body (mWhile cc body)) r t := by
  by_cases hx : ∃ n, whileN cc body n r t ≠ .st
  · obtain ⟨n, hn⟩ := hx
    rw [mWhile_of hn]
    cases n with
    | zero => exact absurd rfl hn
    | succ n => exact (bind_more (m := cc) (f := whileT body (whileN cc body n)) (g := whileT body (mWhile cc body)) hn (whileT_more fun r1 t1 h => mWhile_of h)).symm
  · have all : ∀ n, whileN cc body n r t = .st := fun n => Classical.byContradiction fun h => hx ⟨n, h⟩
    rw [mWhile_no all]
    apply Classical.byContradiction
    intro hne
    have hne : cc.bind (whileT body (mWhile cc body)) r t ≠ .st := fun e => hne e.symm
    -- what the one turn does is done with enough turns
    cases e : cc r t with
    | st => exact hne (by unfold M.bind; rw [e])
    | ex c x t1 =>
      have := all 1
      have z : cc.bind (whileT body (whileN cc body 0)) r t = .st := this
      unfold M.bind at z
      rw [e] at z
      cases z
    | ok b r1 t1 =>
      have turn : ∀ n, whileT body (whileN cc body n) b r1 t1 = .st := fun n => by
        have z : cc.bind (whileT body (whileN cc body n)) r t = .st := all (n + 1)
        unfold M.bind at z
        rw [e] at z
        exact z
      have hne2 : whileT body (mWhile cc body) b r1 t1 ≠ .st := fun z => hne (by unfold M.bind; rw [e]; exact z)
      cases b with
      | false => exact absurd (turn 0) (fun z => by cases z)
      | true =>
        cases e2 : body r1 t1 with
        | st => exact hne2 (by show M.bind body (afterF (mWhile cc body)) r1 t1 = .st; unfold M.bind; rw [e2])
        | ex c x t2 =>
          have z : body.bind (afterF (whileN cc body 0)) r1 t1 = .st := turn 0
          unfold M.bind at z
          rw [e2] at z
          cases z
        | ok k r2 t2 =>
          have turn2 : ∀ n, afterF (whileN cc body n) k r2 t2 = .st := fun n => by
            have z : body.bind (afterF (whileN cc body n)) r1 t1 = .st := turn n
            unfold M.bind at z
            rw [e2] at z
            exact z
          have hne3 : afterF (mWhile cc body) k r2 t2 ≠ .st := fun z => hne2 (by show M.bind body (afterF (mWhile cc body)) r1 t1 = .st; unfold M.bind; rw [e2]; exact z)
          cases k with
          | nx => exact hne3 (mWhile_no turn2)
          | ct => exact hne3 (mWhile_no turn2)
          | bk => exact absurd (turn2 0) (fun z => by cases z)
          | rt x => exact absurd (turn2 0) (fun z => by cases z)

/-! ### 18. Comprehensions -/
def wipeR (r : Rho) : List Nat → Rho
  | [] => r
  | v :: vs => (wipeR r vs).set v none
theorem wipeR_len (r : Rho) : ∀ vs : List Nat, (wipeR r vs).length = r.length
  | [] => rfl
  | v :: vs => by unfold wipeR; rw [List.length_set, wipeR_len r vs]
theorem wipeR_out {r : Rho} {i : Nat} : ∀ {vs : List Nat}, i ∉ vs → (wipeR r vs)[i]? = r[i]?
  | [], _ => rfl
  | v :: vs, h => by
    unfold wipeR
    rw [List.mem_cons, not_or] at h
    rw [List.getElem?_set_ne (Ne.symm h.1), wipeR_out h.2]
theorem wipeR_in {r : Rho} {i : Nat} {x : Sl} : ∀ {vs : List Nat}, i ∈ vs → (wipeR r vs)[i]? ≠ some (some x)
  | v :: vs, h => by
    unfold wipeR
    by_cases q : i = v
    · subst q
      by_cases hl : i < (wipeR r vs).length
      · rw [List.getElem?_set_self hl]
        intro z
        cases z
      · rw [List.getElem?_eq_none (by simpa using hl)]
        intro z
        cases z
    · rw [List.getElem?_set_ne (Ne.symm q)]
      exact wipeR_in ((List.mem_cons.mp h).resolve_left q)
theorem wipe_in {σ : L2.St} {i : Nat} : ∀ {vs : List Nat}, i ∈ vs → i < σ.length → (wipe σ vs)[i]? = some none
  | v :: vs, h, hl => by
    unfold wipe
    by_cases q : i = v
    · subst q
      rw [List.getElem?_set_self (by rw [wipe_length]; exact hl)]
    · rw [List.getElem?_set_ne (Ne.symm q)]
      exact wipe_in ((List.mem_cons.mp h).resolve_left q) hl
theorem wipe_chg {σ σ' : L2.St} {is vs : List Nat} (h : Chg is σ σ') (hs : ∀ i ∈ is, i ∈ vs) : wipe σ' vs = wipe σ vs := by
  apply List.ext_getElem?
  intro i
  by_cases q : i ∈ vs
  · by_cases hl : i < σ.length
    · rw [wipe_in q hl, wipe_in q (by rw [h.1]; exact hl)]
    · rw [List.getElem?_eq_none (by rw [wipe_length, h.1]; omega), List.getElem?_eq_none (by rw [wipe_length]; omega)]
  · rw [wipe_out q, wipe_out q]
    exact h.2 i fun z => q (hs i z)
theorem wipe_wipe {σ : L2.St} {vs : List Nat} : wipe (wipe σ vs) vs = wipe σ vs := by
  refine wipe_chg (is := vs) ⟨wipe_length σ vs, fun j hj => wipe_out hj⟩ (fun _ h => h)
theorem Sls.wipe {ow : List Nat} {G : Hp} {B : Bs} {H : Hp} {σ : L2.St} {r : Rho} {vs : List Nat} (s : Sls K ow G B H σ r) (hv : ∀ i ∈ vs, i ∉ ow) : Sls K ow G B H (L2.wipe σ vs) (wipeR r vs) := by
  refine ⟨by rw [wipe_length, wipeR_len]; exact s.len, fun i x hx hi => ?_, fun i x hx hi => ?_, fun i j p hi hj ij li lj e => ?_⟩
  · by_cases q : i ∈ vs
    · exact absurd hx (wipeR_in q)
    · rw [wipeR_out q] at hx
      rw [wipe_out q]
      exact s.var i x hx hi
  · have q : i ∉ vs := fun z => hv i z hi
    rw [wipeR_out q] at hx
    rw [wipe_out q]
    exact s.own i x hx hi
  · have q : i ∉ vs := fun z => hv i z hi
    have q2 : j ∉ vs := fun z => hv j z hj
    rw [wipe_out q] at e
    rw [wipe_out q2]
    unfold Live at li lj
    rw [wipeR_out q] at li
    rw [wipeR_out q2] at lj
    exact s.dis i j p hi hj ij li lj e
/-- the slots vs as they stood in r0 -/
def restR (r0 r : Rho) : List Nat → Rho
  | [] => r
  | v :: vs => (restR r0 r vs).set v (r0[v]?.getD none)
theorem restR_len (r0 r : Rho) : ∀ vs : List Nat, (restR r0 r vs).length = r.length
  | [] => rfl
  | v :: vs => by unfold restR; rw [List.length_set, restR_len r0 r vs]
theorem restR_out {r0 r : Rho} {i : Nat} : ∀ {vs : List Nat}, i ∉ vs → (restR r0 r vs)[i]? = r[i]?
  | [], _ => rfl
  | v :: vs, h => by
    unfold restR
    rw [List.mem_cons, not_or] at h
    rw [List.getElem?_set_ne (Ne.symm h.1), restR_out h.2]
theorem restR_in {r0 r : Rho} {i : Nat} {x : Sl} : ∀ {vs : List Nat}, i ∈ vs → (restR r0 r vs)[i]? = some (some x) → r0[i]? = some (some x)
  | v :: vs, h, e => by
    unfold restR at e
    by_cases q : i = v
    · subst q
      by_cases hl : i < (restR r0 r vs).length
      · rw [List.getElem?_set_self hl] at e
        cases z : r0[i]? with
        | none => rw [z] at e; cases e
        | some y => rw [z] at e; simpa using e
      · rw [List.getElem?_eq_none (by simpa using hl)] at e
        cases e
    · rw [List.getElem?_set_ne (Ne.symm q)] at e
      exact restR_in ((List.mem_cons.mp h).resolve_left q) e
theorem Sls.restI {ow : List Nat} {G : Hp} {B B' : Bs} {H H' : Hp} {σ : L2.St} {r0 r : Rho} {vs : List Nat} (s0 : Sls K ow G B H σ r0) (l : B.le B') (s : Sls K ow G B' H' (L2.wipe σ vs) r) (hv : ∀ i ∈ vs, i ∉ ow) : Sls K ow G B' H' σ (restR r0 r vs) := by
  refine ⟨by rw [restR_len, ← s.len, wipe_length], fun i x hx hi => ?_, fun i x hx hi => ?_, fun i j p hi hj ij li lj e => ?_⟩
  · by_cases q : i ∈ vs
    · obtain ⟨v, h1, h2⟩ := s0.var i x (restR_in q hx) hi
      exact ⟨v, h1, h2.mono l⟩
    · rw [restR_out q] at hx
      obtain ⟨v, h1, h2⟩ := s.var i x hx hi
      rw [wipe_out q] at h1
      exact ⟨v, h1, h2⟩
  · have q : i ∉ vs := fun z => hv i z hi
    rw [restR_out q] at hx
    obtain ⟨ds, a, ws, h1, h2, h3⟩ := s.own i x hx hi
    rw [wipe_out q] at h2
    exact ⟨ds, a, ws, h1, h2, h3⟩
  · have q : i ∉ vs := fun z => hv i z hi
    have q2 : j ∉ vs := fun z => hv j z hj
    unfold Live at li lj
    rw [restR_out q] at li
    rw [restR_out q2] at lj
    have := s.dis i j p hi hj ij li lj (by rw [wipe_out q]; exact e)
    rw [wipe_out q2] at this
    exact this
/-- nothing is raised within -/
def noX {α : Type} (m : M α) : M α := fun r t => match m r t with
  | .ok a r t => .ok a r t
  | _ => .st
theorem noX_post {α : Type} {m : M α} {r : Rho} {t : Option Deal} {Q : α → Rho → Option Deal → Prop} {XP XP' : XQ} (h : (noX m r t).post Q XP) : (m r t).post Q XP' := by
  unfold noX at h
  cases e : m r t with
  | ok a r t => rw [e] at h; exact h
  | ex _ _ _ => rw [e] at h; exact h.elim
  | st => rw [e] at h; exact h.elim
def dataOf : Tk → Option PyData
  | .v (.d x) => some x
  | _ => none
/-- one turn: the item, if it is kept -/
def wipeM (vs : List Nat) : M Unit := fun r t => .ok () (wipeR r vs) t
def lcOne (vs : List Nat) (f : Sl → M Unit) (test : M Bool) (elt : M Tk) (d : Sl) : M (Option PyData) := (wipeM vs).bind fun _ => (f d).bind fun _ => test.bind fun b => if b then elt.bind fun k => (optM (dataOf k)).bind fun x => M.ret (some x) else M.ret none
def lcPut (acc : List PyData) (cont : List PyData → M (List PyData)) : Option PyData → M (List PyData)
  | some x => if acc.length < 16777216 then cont (acc ++ [x]) else M.st
  | none => cont acc
def lcL (vs : List Nat) (f : Sl → M Unit) (test : M Bool) (elt : M Tk) : List Sl → List PyData → M (List PyData)
  | [], acc => M.ret acc
  | d :: ds, acc => (lcOne vs f test elt d).bind (lcPut acc (lcL vs f test elt ds))
/-- behind a comprehension its own slots are as they were -/
def inComp {α : Type} (vs : List Nat) (m : M α) : M α := fun r t => match noX m (wipeR r vs) t with
  | .ok xs r' t' => .ok xs (restR r (wipeR r' vs) vs) t'
  | _ => .st
def mLc (mi : M (List Sl)) (vs : List Nat) (f : Sl → M Unit) (test : M Bool) (elt : M Tk) : M (List PyData) := mi.bind fun ds => inComp vs (lcL vs f test elt ds [])
theorem inComp_post {α : Type} {vs : List Nat} {m : M α} {r : Rho} {t : Option Deal} {Q : α → Rho → Option Deal → Prop} {XP XP' : XQ} (h : (inComp vs m r t).post Q XP) : (m (wipeR r vs) t).post (fun a r' t' => Q a (restR r (wipeR r' vs) vs) t') XP' := by
  unfold inComp at h
  cases e : noX m (wipeR r vs) t with
  | ok a r' t' =>
    rw [e] at h
    unfold noX at e
    cases e2 : m (wipeR r vs) t with
    | ok a2 r2 t2 =>
      rw [e2] at e
      cases e
      exact h
    | ex _ _ _ => rw [e2] at e; cases e
    | st => rw [e2] at e; cases e
  | ex _ _ _ => rw [e] at h; exact h.elim
  | st => rw [e] at h; exact h.elim
/-- [elt for target in iter if test] -/
theorem rf_lc {wi : TI} {mi : M (List Sl)} {is vs : List Nat} {g : TG} {f : Sl → M Unit} {test : M Bool} {elt : M Tk} (hi : RfI K c wi mi) (hg : RfG K { c with E := E0 } is g f) (ht : RfT K { c with E := E0 } tt test) (he : RfE K { c with E := E0 } te elt) (hv : ∀ i ∈ vs, i ∉ c.ow) (his : ∀ i ∈ is, i ∈ vs) :
    RfF K c (tLc wi g tt te vs) (mLc mi vs f test elt) := by
  intro G B H σ r t Q XP w s hx p
  unfold mLc at p
  rw [post_bind] at p
  refine hi G B H σ r t _ XP w s hx (post_mono p fun ds r1 tt1 p => fun J B1 H1 l1 w1 s1 it => ?_)
  have nox : ∀ (G : Hp) (B2 : Bs), B.le B2 → XOk K c.ec G B2 E0 (fun _ _ _ => False) := fun G B2 l => ⟨l.b.trans hx.1, fun _ _ _ _ _ _ _ _ h => h.elim⟩
  intro D hD
  have p := inComp_post (XP' := fun _ _ _ => False) p
  -- the state of a turn: the list at D, what is still to come
  let W : Nat → Nat → Hp → Prop := fun i m H' => m = ds.length - i ∧ i ≤ ds.length ∧ ∃ (B' : Bs) (r' : Rho) (t' : Option Deal) (acc : List V) (ac : List PyData), B1.le B' ∧ Wd (upd G D (.lst acc)) B' H' t' ∧ Sls K c.ow (upd G D (.lst acc)) B' H' (wipe σ vs) (wipeR r' vs) ∧ DqAll K B'.H acc ac ∧
    (lcL vs f test elt (ds.drop i) ac r' t').post (fun xs r'' t'' => ∀ (p : Addr) (B2 : Bs) (H2 : Hp), B.le B2 → Wd G B2 H2 t'' → Sls K c.ow G B2 H2 σ (restR r1 (wipeR r'' vs) vs) → Fr K c.ow G B2 H2 σ (restR r1 (wipeR r'' vs) vs) p xs → Q (.ref p) H2) (fun _ _ _ => False)
  have nG : G D = none := w1.ng hD
  have up : ∀ acc, ∀ a o, G a = some o → upd G D (.lst acc) a = some o := fun acc a o e => by
    rw [upd_ne (ne_of_none e nG)]; exact e
  have ww : wipeR (wipeR r1 vs) vs = wipeR r1 vs := by
    apply List.ext_getElem?
    intro k
    by_cases q : k ∈ vs
    · have len : (wipeR (wipeR r1 vs) vs).length = (wipeR r1 vs).length := wipeR_len _ _
      cases e1 : (wipeR (wipeR r1 vs) vs)[k]? with
      | none =>
        have := List.getElem?_eq_none_iff.mp e1
        exact (List.getElem?_eq_none (by omega)).symm
      | some o =>
        cases o with
        | some x => exact absurd e1 (wipeR_in q)
        | none =>
          cases e2 : (wipeR r1 vs)[k]? with
          | none =>
            have h1 := (List.getElem?_eq_some_iff.mp e1).1
            have h2 := List.getElem?_eq_none_iff.mp e2
            omega
          | some o =>
            cases o with
            | some x => exact absurd e2 (wipeR_in q)
            | none => rfl
    · rw [wipeR_out q]
  refine ⟨W, ⟨ds.length, rfl.trans (by simp), Nat.zero_le _, B1, wipeR r1 vs, tt1, [], [], Bs.le.refl B1, ?_, ?_, .nil, by simpa using p⟩, ?_⟩
  · exact (w1.lay hD).more upd_same (w1.nb hD) (w1.nd hD)
  · rw [ww]
    exact ((s1.wipe hv).lay hD).moreG ((s1.wipe hv).now hD)
  · rintro i m H' ⟨rfl, hle, B2, r2, tt2, acc, ac, l2, w2, s2, dq, q⟩
    have wD : H' D = some (.lst acc) ∧ B2.H D = none := w2.fgn D _ upd_same
    by_cases hlt : i < ds.length
    · obtain ⟨d, hd⟩ : ∃ d, ds[i]? = some d := ⟨ds[i], List.getElem?_eq_getElem hlt⟩
      have hdrop : ds.drop i = d :: ds.drop (i + 1) := by
        rw [List.drop_eq_getElem_cons hlt]
        congr 1
        rw [List.getElem?_eq_getElem hlt] at hd
        exact Option.some.inj hd
      rw [hdrop] at q
      unfold lcL at q
      rw [post_bind] at q
      unfold lcOne at q
      rw [post_bind] at q
      have q : (((f d).bind fun _ => test.bind fun b => if b then elt.bind fun k => (optM (dataOf k)).bind fun x => M.ret (some x) else M.ret none) (wipeR r2 vs) tt2).post _ _ := q
      rw [post_bind] at q
      obtain ⟨G', w2', gg, _, back⟩ := Sls.push w2 s2
      obtain ⟨_, hgo⟩ := it G' B2 H' tt2 l2 w2' i
      obtain ⟨go, hy⟩ := hgo d hd
      refine .inr ⟨go, fun H' => W (i + 1) (ds.length - (i + 1)) H', fun H' h => ⟨_, by omega, h⟩, fun x H3 yy => ?_⟩
      obtain ⟨B3, l3, w3', sv⟩ := hy x H3 yy
      obtain ⟨w3, s3⟩ := back B3 H3 tt2 l3 w3'
      refine hg (upd G D (.lst acc)) B3 H3 (wipe σ vs) (wipeR r2 vs) tt2 _ _ x d w3 s3 sv (post_mono q fun _ r4 tt4 q => fun σ4 B4 H4 l4 w4 s4 ch => ?_)
      have ew : wipe σ4 vs = wipe σ vs := by
        rw [wipe_chg ch his, wipe_wipe]
      refine ⟨ew, ?_⟩
      rw [post_bind] at q
      refine ht (upd G D (.lst acc)) B4 H4 σ4 r4 tt4 _ _ w4 s4 (nox _ _ (l1.trans ((l2.trans l3).trans l4))) (post_mono q fun b r5 tt5 q => fun B5 H5 l5 w5 s5 => ?_)
      have l25 := ((l2.trans l3).trans l4).trans l5
      cases b with
      | false =>
        rw [if_neg Bool.false_ne_true]
        have q : (lcL vs f test elt (ds.drop (i + 1)) ac r5 tt5).post _ _ := q
        exact ⟨rfl, hlt, B5, r5, tt5, acc, ac, l25, w5, by rw [← ew]; exact s5.wipe hv, dpa_mono (((l3.trans l4).trans l5)).h dq, q⟩
      | true =>
        rw [if_pos rfl]
        have q : ((elt.bind fun k => (optM (dataOf k)).bind fun x => M.ret (some x)) r5 tt5).post _ _ := q
        rw [post_bind] at q
        refine he (upd G D (.lst acc)) B5 H5 σ4 r5 tt5 _ _ w5 s5 (nox _ _ (l1.trans l25)) (post_mono q fun k r6 tt6 q => fun v B6 H6 l6 w6 s6 vk => ?_)
        rw [post_bind] at q
        obtain ⟨y, ey, q⟩ := optM_ok q
        have dv : Dq K B6.H v y := by
          unfold dataOf at ey
          split at ey
          · cases ey; exact vk
          · cases ey
        have q : (lcPut ac (lcL vs f test elt (ds.drop (i + 1))) (some y) r6 tt6).post _ _ := q
        unfold lcPut at q
        by_cases hz : ac.length < 16777216
        · simp only at q
          rw [if_pos hz] at q
          obtain ⟨eD, bD⟩ := w6.fgn D _ upd_same
          have dq6 := dpa_mono (((l3.trans l4).trans l5).trans l6).h dq
          refine ⟨acc, eD, size_lt (by rw [dq.len]; exact hz), rfl, hlt, B6, r6, tt6, acc ++ [v], ac ++ [y], l25.trans l6, ?_, ?_, dq6.app (.cons dv .nil), q⟩
          · have wg := w6.less (up acc)
            exact (wg.chg eD bD nG (w6.ndg (p := D) upd_same)).more upd_same bD (w6.ndg (p := D) upd_same)
          · rw [← ew]
            have no := s6.nowG (p := D) upd_same
            exact (((s6.lessG (up acc)).chgN no).moreG no).wipe hv
        · simp only at q
          rw [if_neg hz] at q
          exact q.elim
    · have e : i = ds.length := by omega
      subst e
      rw [List.drop_length] at q
      obtain ⟨hstop, _⟩ := it (upd G D (.lst acc)) B2 H' tt2 l2 w2 ds.length
      refine .inl ⟨hstop (Nat.le_refl _), ?_⟩
      have q : (M.ret ac r2 tt2 : Out (List PyData)).post _ _ := q
      have s2' := s2.lessG (up acc)
      have sf := Sls.restI s1 l2 s2' hv
      have noW := s2.nowG (p := D) upd_same
      have noD : NOw c.ow σ (restR r1 (wipeR r2 vs) vs) D := fun k hk hl => by
        have hkv : k ∉ vs := fun z => hv k z hk
        unfold Live at hl
        rw [restR_out hkv] at hl
        have := noW k hk hl
        rw [wipe_out hkv] at this
        exact this
      exact q D B2 H' (l1.trans l2) (w2.less (up acc)) sf ⟨⟨acc, wD.1, dq⟩, wD.2, nG, w2.ndg (p := D) upd_same, noD⟩
end
end DL
end
section
set_option maxRecDepth 100000
set_option maxHeartbeats 4000000
namespace DL
open PySem PySem.Spec PyProof.Rows L2

/-! ### 19. Comprehensions, defs, raises over the text -/
section
variable {X : Cx} {c : Cd} {a b e d : Expr} {ma mb me mc : M Tk} {ta tb te tc : TE} {tt tu : TT} {pos : Pos} {K : PySem.W.Frag} {st : Stmt} {t1 t2 : TS} {m n : M Fl}
abbrev Cd.calm (c : Cd) : Cd := { c with E := E0 }
/-- in a comprehension's block -/
abbrev Blk (X : Cx) (scope : Scope) (s : Shared) (H : Hp) (C : Addr) (cl : List (Str × Addr)) (fp : List Addr) : Cx := X.blk s H scope (compEnvC scope cl C X.env) fp
structure PTsD (X : Cx) (c : Cd) (ifs : List Expr) (tt : TT) (m : M Bool) : Prop where
  p : PTs X ifs tt
  k : RfT X.K c tt m
theorem ptsd_nil : PTsD X c [] tYes (M.ret true) := ⟨pts_nil, fun G B H σ r t Q XP w s hx p => p B H (Bs.le.refl B) w s⟩
theorem ptsd_one {m : M Bool} (h : PTD X c e tt m) : PTsD X c [e] tt m := ⟨pts_one h.p, h.k⟩
theorem pfd_lc {elt tg iter : Expr} {ifs : List Expr} {scope : Scope} {own : List (Str × Nat)} {wi : TI} {mi : M (List Sl)} {is : List Nat} {g : TG} {f : Sl → M Unit} {test : M Bool} (hc : X.calm = true) (hN : X.N.Nodup) (hi : PID X c tg iter wi mi) (ok : BlkOk X.N X.env.scope scope own)
    (hg : ∀ s H C cl fp, PGD (Blk X scope s H C cl fp) c.calm tg is g f) (ht : ∀ s H C cl fp, PTsD (Blk X scope s H C cl fp) c.calm ifs tt test) (he : ∀ s H C cl fp, PED (Blk X scope s H C cl fp) c.calm elt te me)
    (hv : ∀ i ∈ own.map (·.2), i ∉ c.ow) (his : ∀ i ∈ is, i ∈ own.map (·.2)) (hs : ∀ x, foldedSetIterable iter X.env x = pure x := by intro _; rfl) :
    PFD X c (.ListComp elt [⟨tg, iter, ifs, 0⟩] scope pos) (tLc wi g tt te (own.map (·.2))) (mLc mi (own.map (·.2)) f test me) :=
  ⟨pe_lc hc hN hi.p ok (fun s H C cl fp => (hg s H C cl fp).p) (fun s H C cl fp => (ht s H C cl fp).p) (fun s H C cl fp => (he s H C cl fp).p) hs,
    rf_lc hi.k (hg X.s_0 X.H_0 0 [] []).k (ht X.s_0 X.H_0 0 [] []).k (he X.s_0 X.H_0 0 [] []).k hv his⟩
/-- y = [..], y a local that owns nothing -/
theorem psd_setLc {i : Nat} {y : Str} {py : Pos} {elt tg iter : Expr} {ifs : List Expr} {scope : Scope} {own : List (Str × Nat)} {spos : Pos} {wi : TI} {mi : M (List Sl)} {is : List Nat} {g : TG} {f : Sl → M Unit} {test : M Bool} (hio : i ∉ c.ow) (hc : X.calm = true) (hN : X.N.Nodup)
    (hy : X.N[i]? = some y) (hyl : X.env.scope.names.lookup y = some .local) (hsw : swapsWith (.ListComp elt [⟨tg, iter, ifs, 0⟩] scope pos) (some (.Name y py)) spos.line X.env = pure true)
    (hi : PID X c tg iter wi mi) (ok : BlkOk X.N X.env.scope scope own)
    (hg : ∀ s H C cl fp, PGD (Blk X scope s H C cl fp) c.calm tg is g f) (ht : ∀ s H C cl fp, PTsD (Blk X scope s H C cl fp) c.calm ifs tt test) (he : ∀ s H C cl fp, PED (Blk X scope s H C cl fp) c.calm elt te me)
    (hv : ∀ i ∈ own.map (·.2), i ∉ c.ow) (his : ∀ i ∈ is, i ∈ own.map (·.2)) (hs : ∀ x, foldedSetIterable iter X.env x = pure x := by intro _; rfl) :
    PSD X c (.Assign [.Name y py] (.ListComp elt [⟨tg, iter, ifs, 0⟩] scope pos) spos) (tAsg (tLc wi g tt te (own.map (·.2))) (gName i)) (mAsg (aName i) (mFz (mLc mi (own.map (·.2)) f test me))) :=
  ⟨ps_setLc hc hN hy hyl hsw hi.p ok (fun s H C cl fp => (hg s H C cl fp).p) (fun s H C cl fp => (ht s H C cl fp).p) (fun s H C cl fp => (he s H C cl fp).p) hs,
    rf_asg (rf_fz (rf_lc hi.k (hg X.s_0 X.H_0 0 [] []).k (ht X.s_0 X.H_0 0 [] []).k (he X.s_0 X.H_0 0 [] []).k hv his)) (rf_gName hio)⟩
/-- y = [..], y a local that owns its list -/
theorem psd_setLcO {i : Nat} {y : Str} {py : Pos} {elt tg iter : Expr} {ifs : List Expr} {scope : Scope} {own : List (Str × Nat)} {spos : Pos} {wi : TI} {mi : M (List Sl)} {is : List Nat} {g : TG} {f : Sl → M Unit} {test : M Bool} (hio : i ∈ c.ow) (hc : X.calm = true) (hN : X.N.Nodup)
    (hy : X.N[i]? = some y) (hyl : X.env.scope.names.lookup y = some .local) (hsw : swapsWith (.ListComp elt [⟨tg, iter, ifs, 0⟩] scope pos) (some (.Name y py)) spos.line X.env = pure true)
    (hi : PID X c tg iter wi mi) (ok : BlkOk X.N X.env.scope scope own)
    (hg : ∀ s H C cl fp, PGD (Blk X scope s H C cl fp) c.calm tg is g f) (ht : ∀ s H C cl fp, PTsD (Blk X scope s H C cl fp) c.calm ifs tt test) (he : ∀ s H C cl fp, PED (Blk X scope s H C cl fp) c.calm elt te me)
    (hv : ∀ i ∈ own.map (·.2), i ∉ c.ow) (his : ∀ i ∈ is, i ∈ own.map (·.2)) (hs : ∀ x, foldedSetIterable iter X.env x = pure x := by intro _; rfl) :
    PSD X c (.Assign [.Name y py] (.ListComp elt [⟨tg, iter, ifs, 0⟩] scope pos) spos) (tAsg (tLc wi g tt te (own.map (·.2))) (gName i)) (mAsgO i (mLc mi (own.map (·.2)) f test me)) :=
  ⟨ps_setLc hc hN hy hyl hsw hi.p ok (fun s H C cl fp => (hg s H C cl fp).p) (fun s H C cl fp => (ht s H C cl fp).p) (fun s H C cl fp => (he s H C cl fp).p) hs,
    rf_asgO hio (rf_lc hi.k (hg X.s_0 X.H_0 0 [] []).k (ht X.s_0 X.H_0 0 [] []).k (he X.s_0 X.H_0 0 [] []).k hv his)⟩

/-! a def's body computes m: the def keeps the promise -/
def startR (n : Nat) (xs : List Sl) : Rho := xs.map some ++ List.replicate (n - xs.length) none
def fnM (n : Nat) (body : M Fl) : FM := fun xs t => match body (startR n xs) t with
  | .ok (.rt x) _ t' => .ok x t'
  | .ok .nx _ t' => .ok (.d .none) t'
  | .ok _ _ _ => .st
  | .ex c x t' => .ex c x t'
  | .st => .st
theorem sls_start {ow : List Nat} {G : Hp} {B : Bs} {H : Hp} {N : List Str} {vs : List V} {xs : List Sl} {n : Nat} (h : SvA K B vs xs) (hn : xs.length = n) (ho : ∀ i ∈ ow, n ≤ i) : Sls K ow G B H (L2.start N vs) (startR N.length xs) := by
  have hl := h.len
  have none_ : ∀ i x, n ≤ i → (startR N.length xs)[i]? = some (some x) → False := fun i x hi e => by
    unfold startR at e
    rw [List.getElem?_append_right (by simp; omega)] at e
    rw [List.getElem?_replicate] at e
    split at e
    · injection e with e; cases e
    · cases e
  refine ⟨?_, fun i x hx hi => ?_, fun i x hx hi => (none_ i x (ho i hi) hx).elim, fun i j p hi hj ij li lj e => ?_⟩
  · unfold L2.start startR
    simp [hl]
  · by_cases q : i < n
    · unfold startR at hx
      rw [List.getElem?_append_left (by simp; omega), List.getElem?_map] at hx
      cases e : xs[i]? with
      | none => rw [e] at hx; cases hx
      | some y =>
        rw [e] at hx
        cases hx
        obtain ⟨v, h1, h2⟩ := h.get e
        refine ⟨v, ?_, h2⟩
        unfold L2.start
        rw [List.getElem?_append_left (by simp; omega), List.getElem?_map, h1]
        rfl
    · exact (none_ i x (by omega) hx).elim
  · obtain ⟨x, hx⟩ := li
    exact (none_ i x (ho i hi) hx).elim
theorem okD {P : Program} {w : World} {mg : Str → Option Value} {base : Heap} {x : Str} {params : Arguments} {body : List Stmt} {scope : Scope} {f : Addr} {fd : FuncData} {N ps : List Str} {k : Nat} {ec : Ec} {ow : List Nat} {m : M Fl} (F : FunD K x x params body scope [] [] f fd) (S : FnScope N ps scope)
    (how : ∀ i ∈ ow, ps.length ≤ i)
    (hb : ∀ (cdv : Value) (A : Around) (outer : List Env) (s : Shared) (H : Hp) (E : XK), Room k (A.deeper (envOfC x scope s.heap.objs.size f cdv)) →
      ∃ ts, PSsD (cxOf (L2.CX P w) P w K mg base N x scope f cdv A outer s H E) ⟨ec, ow, E⟩ body ts m) :
    FnOk P w K mg base (L2.CX P w) (k + 1) f fd ps (spD K ec ps.length (fnM N.length m)) := by
  refine F.ok S (fun vs H Q E h => spD_len h) fun cdv A outer s H vs Q E hr h => ?_
  obtain ⟨ts, hp, hk⟩ := hb cdv A outer s H E hr
  refine ⟨ts, hp, ?_⟩
  obtain ⟨G, B, xs, t, w, tb, sv, hn, hF⟩ := h
  refine hk G B H (L2.start N vs) (startR N.length xs) t { nx := fun _ H' => Q .non H', rt := Q }
    (fun cn x t' => m (startR N.length xs) t = .ex cn x t') w (sls_start sv hn how) ⟨tb, fun cn x t' B' H' C dd v hm l w' he hd hq => ?_⟩ ?_
  · unfold fnM at hF
    rw [hm] at hF
    exact hF B' H' C dd v l w' he hd hq
  · unfold fnM at hF
    cases e : m (startR N.length xs) t with
    | ok fl r' t' =>
      rw [e] at hF
      cases fl with
      | nx => exact fun σ' B' H' l w' s' => hF .non B' H' l w' .non
      | bk => exact hF.elim
      | ct => exact hF.elim
      | rt y => exact fun v B' H' l w' sv' => hF v B' H' l w' sv'
    | ex cn y t' => exact rfl
    | st => rw [e] at hF; exact hF.elim

/-! raise C(e) -/
def tMkErr (C : Addr) (ta : TA) : L2.St → Hp → XK → Prop := fun σ H Q => ta σ H fun vs H1 => ∃ v, vs = [v] ∧ ∀ d, H1 d = none → Q (.ref C) (some d) (upd H1 d (.xd [(("at" : Str), v)]))
def tRaiseErr (C : Addr) (E : XK) (ta : TA) : TS := fun _ σ H => tMkErr C ta σ H fun cls d H' => E cls d H'
def raiseM {α : Type} (cn : Str) (x : PyData) : M α := fun _ t => .ex cn x t
def mRaise (cn : Str) (m : M (List Tk)) : M Fl := m.bind fun ks => (optM (oneD ks)).bind fun x => raiseM cn x
theorem rf_raise {C : Addr} {cn : Str} {t : TA} {m : M (List Tk)} (hC : c.ec.f cn = some C) (h : RfA K c t m) : RfS K c (tRaiseErr C c.E t) (mRaise cn m) := by
  intro G B H σ r dl D XP w s hx p
  unfold mRaise at p
  rw [post_bind] at p
  refine h G B H σ r dl _ XP w s hx (post_mono p fun ks r1 tt1 p => fun vs B1 H1 l1 w1 s1 v1 => ?_)
  rw [post_bind] at p
  obtain ⟨x, ex, p⟩ := optM_ok p
  obtain ⟨v, rfl, dv⟩ := oneD_ok ex v1
  exact ⟨v, rfl, fun d hd => hx.2 cn x tt1 _ _ C d v p (l1.trans (Bs.le_add (w1.nb hd))) (w1.new hd) hC upd_same (dp_mono (Bs.le_add (w1.nb hd)).h dv)⟩
theorem psd_raise {C : Addr} {cn : Str} {p pos2 : Pos} {es : List Expr} {t : TA} {m : M (List Tk)} (hc : X.calm = true) (tk : Takes X (fun cls d _ H => c.E cls d H)) (hC : c.ec.f cn = some C) (ha : PAD X c (e :: es) t m) (hm : PA X (e :: es) t → PMk X (.Call (.Name cn p) (e :: es) [] pos) (tMkErr C t)) :
    PSD X c (.Raise (some (.Call (.Name cn p) (e :: es) [] pos)) none pos2) (tRaiseErr C c.E t) (mRaise cn m) := ⟨ps_raise hc tk (hm ha.p), rf_raise hC ha.k⟩
end
end DL
end
section
set_option maxRecDepth 100000
set_option maxHeartbeats 4000000
/-! # The package's errors: class X(HoldError): def __init__(self, at): super().__init__(at); self.at = at -/
namespace ErrX
open PySem PySem.W PySem.Calls PyProof.Rows PySem.HandSPX

def eA (p1 p2 : Pos) : Arguments := { posonlyargs := [], args := [{ arg := "self", annotation := none, pos := p1 }, { arg := "at", annotation := none, pos := p2 }], vararg := none, kwonlyargs := [], kw_defaults := [], kwarg := none, defaults := [] }
def eB (q1 q2 q3 q4 q5 q6 r1 r2 r3 r4 : Pos) : List Stmt :=
  [.Expr (.Call (.Attribute (.Call (.Name "super" q1) [] [] q2) "__init__" q3) [.Name "at" q4] [] q5) q6, .Assign [.Attribute (.Name "self" r1) "at" r2] (.Name "at" r3) r4]
def eS : Scope := { kind := .function, names := [("self", .local), ("at", .local), ("__class__", .free), ("super", .globalImplicit)], isGenerator := false, isCoroutine := false, more := [] }
/-- what the written part says of such a class, at C, of its __init__, at fI, of the cell of __class__ and of the code -/
structure ErrTxt (prog : Program) (K : Frag) (mg : Str → Option Value) (x : Str) (C : Addr) : Prop where
  gC : mg x = some (.ref C)
  gs : mg "super" = none
  cls : ∃ nm q N bs bm sn sub ab col dd k0 k1 k2 k3 k5, K.lookup C = some (excClassObj nm q C N bs bm true sn sub ab col dd k0 k1 k2 k3 k5 "ValueError.__new__") ∧ refsVE bm = true ∧ alongIn K "__init__" bm = some (some (.builtin "ValueError.__init__"))
  sa : findIn K (.ref C) "__setattr__" = some (some (.builtin "object.__setattr__"))
  xf : L2.XfC K C
  noN : findIn K (.ref C) "at" = some none
  kC : keepIn K (.ref C) = true
  exC : subIn K (.ref C) (.type "BaseException") = some true
  tyC : typeIn K (.ref C) = some (.type "type")
  opq : nsIn K cStatics "thirdparty.any" = some none
  top : (prog.main.scope.names.lookup ("super" : Str)).isSome = false
  sbC : mroIn K C (.ref C) = some true
  fn : ∃ (fI cc cda : Addr) (qual : Str) (oc dV kV doc pm ct : Value) (od an : Option Addr) (osl : Array (Option Value)) (p1 p2 q1 q2 q3 q4 q5 q6 r1 r2 r3 r4 : Pos) (cl ccl : Value) (cld cdd : Option Addr) (csl ccs : Array (Option Value)) (vs : Array Value) (file : Str) (tf : Tok),
    findIn K (.ref C) "__init__" = some (some (.ref fI)) ∧ typeIn K (.ref fI) = some (.type "function") ∧
    K.lookup fI = some ⟨oc, od, .func (ksFn "__init__" qual (eA p1 p2) (eB q1 q2 q3 q4 q5 q6 r1 r2 r3 r4) eS dV kV doc pm an (.ref cda) ct cc), osl⟩ ∧ dV = .none ∧ codeIn K (.ref cda) qual = true ∧
    K.lookup cc = some ⟨cl, cld, .cell (some (.ref C)), csl⟩ ∧ K.lookup cda = some ⟨ccl, cdd, .fields vs, ccs⟩ ∧ vs[2]? = some (.str file tf) ∧ ((prog.main.file : Str) == file) = true ∧ (q3.endLine == q5.line) = true

section
variable {prog : Program} {w : World} {A : Around} {E : Value → Shared → Prop} {h : Heap} {g : Array GenState} {d : Drawn} {t : Nat} {os : OsState}
variable {nm q : Str} {C N : Addr} {bs bm : List Value} {hdct : Bool} {sn : List Str} {sub : List Value} {ab : Bool} {col : Option Bool} {dd : Option Addr} {k0 k1 k2 k3 k5 : Option Value}
/-- super().__init__(..), bound, called -/
theorem call_bw {u e t0 : Addr} {rest : List Value} {Q : Value → Shared → Prop}
    (hC : h.get? C = some (excClassObj nm q C N bs bm hdct sn sub ab col dd k0 k1 k2 k3 k5 "ValueError.__new__")) (he : h.get? e = some (excO C t0)) (hu : h.get? u = some (kxs_mw "ValueError.__init__" e)) (hrest : rest.length ≤ sizeLine)
    (hq : ∀ h' t1, (∀ b o, b ≠ e → h.get? b = some o → h'.get? b = some o) → h'.get? e = some (excO C t1) → Q .none ⟨h', g, d, t, os⟩) :
    wpAny (model prog w) A (call (.ref u) rest) Q E ⟨h, g, d, t, os⟩ := by
  refine wpAny_call (codeAny_of_tree ?_)
  show wpAny _ A.in1 (callAny (.ref u) ⟨rest, []⟩) _ _ _
  simp only [callAny]
  refine wpAny_bind (wpAny_load hu ?_)
  simp only [kxs_mw, show (Value.type "method-wrapper" == Value.type "method" || Value.type "method-wrapper" == Value.type "builtin_function_or_method" || Value.type "method-wrapper" == Value.type "method-wrapper") = true by decide, if_true]
  refine W.KFB.if_so (by decide) ?_
  refine wpAny_bind (PySem.ESX.check_bound F.excBase_ValueError hC he rfl ?_)
  refine wpAny_bind (wpAny_pure (wpAny_pure ?_))
  refine ⟨Code.quiet_builtin _ (by decide +kernel), codeAny_builtin F.excBase_ValueError.initEntry ?_⟩
  rw [Around.under_plainId F.excBase_ValueError.init.plain _]
  wp_walk
  refine hq _ h.objs.size (fun b o hb ho => ?_) ?_
  · rw [Heap.get?_update_other _ _ (Ne.symm hb)]
    exact Heap.get?_push_of_some _ ho
  · rw [Heap.get?_update_self _ (Heap.get?_push_of_some _ he) rfl]
    rfl
end
/-- what __init__ leaves of a fresh exception at x -/
structure ErrEnd (h h' : Heap) (x C dx t1 : Addr) (v : Value) : Prop where
  keep : ∀ b o, b ≠ x → h.get? b = some o → h'.get? b = some o
  obj : h'.get? x = some { cls := .ref C, dict := some dx, data := .fields #[.ref t1, .none, .none, .none, .bool false, .none] }
  dbig : h.objs.size ≤ dx
  dne : dx ≠ x
  ns : h'.Ns1 dx (fun y => if y = "at" then some v else none)
theorem ldC {M : Model} {s : Shared} {env : Env} {m : Str → Option Value} {x : Str} {pos : Pos} {v : Value} {Q : Value → Shared → Prop} {A : Around} {E : Value → Shared → Prop} (hn : s.heap.Ns env.locals m) (hv : m x = some v) (h : Q v s)
    (hk : env.scope.kind = .function) (hl : env.kindOf x = some .local) (hd : (x == ("__debug__" : Str)) = false := by decide) :
    wpAny M A (eval (.Name x pos) env) Q E s := wpAny_Name (wpAny_loadName_local hk hl hn hv h) hd
section
variable {prog : Program} {w : World} {A : Around} {E : Value → Shared → Prop} {R : Result → Shared → Prop} {s : Shared} {K : Frag} {mg : Str → Option Value} {C : Addr} {nm0 : Str}
theorem superCall {q1 q2 q3 q4 q5 : Pos} {env : Env} (hline : (q3.endLine == q5.line) = true) : eval (.Call (.Attribute (.Call (.Name "super" q1) [] [] q2) "__init__" q3) [.Name "at" q4] [] q5) env = (do
      let ov ← attributeBase (.Call (.Name "super" q1) [] [] q2) "__init__" env (eval (.Call (.Name "super" q1) [] [] q2) env)
      standAt q3.atName
      let (f, first) ← holding [ov] (getMethod ov "__init__" (do return (← importBound (.Call (.Name "super" q1) [] [] q2) env).getD true))
      callWith q5 f first (backTo q5 (starEach [.Name "at" q4] env)) []) := by
  rw [arm_eval_Call]
  have hform : methodCallForm (([.Name "at" q4] : List Expr).length + ([] : List Keyword).length) (backTo q5 (starEach [.Name "at" q4] env)) (backToKw q5 (keywordEach [] env)) = true := by rfl
  have hpos : methodCallPos true (.Call (.Name "super" q1) [] [] q2) env q3 q5 = pure q5 := by unfold methodCallPos; simp [hline]
  unfold methodCall
  rw [hform]
  simp only [hpos, pure_bind]
  rfl
theorem err_init (T : ErrTxt prog K mg nm0 C) {fI : Addr} (hfI : findIn K (.ref C) "__init__" = some (some (.ref fI))) {x t0 : Addr} {v : Value} (X : K.In s.heap) (hg : s.heap.Ns mainGlobals mg) (hb : ∃ mb, s.heap.Ns builtinsNs mb ∧ ∀ y : Str, y ≠ "__name__" → mb y = bootBuiltins y) (hlim : s.heap.NoLimit)
    (hx : s.heap.get? x = some (excO C t0)) (hnx : K.lookup x = none) (hroom : A.depth < recursionLimit)
    (hq : ∀ h' tk dx t1, ErrEnd s.heap h' x C dx t1 v → R (.ok (.ret .none)) { s with heap := h', toks := tk }) :
    codeAny (model prog w) A (.call (.ref fI) ⟨[.ref x, v], []⟩) R s := by
  obtain ⟨fI', cc, cda, qual, oc, dV, kV, doc, pm, ct, od, an, osl, p1, p2, q1, q2, q3, q4, q5, q6, r1, r2, r3, r4, cl, ccl, cld, cdd, csl, ccs, vs, file, tf, h1, h2, ho, hdV, hcd, hcell, hcode, hvs, hfile, hline⟩ := T.fn
  rw [hfI] at h1
  injection h1 with h1; injection h1 with h1; injection h1 with h1
  subst h1
  obtain ⟨nm, q, N, bs, bm, sn, sub, ab, col, dd, k0, k1, k2, k3, k5, hC, hbm, hal⟩ := T.cls
  have hcl : clsIn K C = some { name := nm, bases := bs, mro := .ref C :: bm, ns := N, qualname := q, hasDict := true, slotNames := sn, subclasses := sub, abstract := ab, collection := col, hasDel := false } := by unfold clsIn; rw [hC] <;> rfl
  refine ks_codeAny_call_defAt (fd := ksFn "__init__" qual (eA p1 p2) (eB q1 q2 q3 q4 q5 q6 r1 r2 r3 r4) eS dV kV doc pm an (.ref cda) ct cc) (body := eB q1 q2 q3 q4 q5 q6 r1 r2 r3 r4) (binds := [("self", .ref x), ("at", v)])
    hroom (X _ _ ho) rfl hlim (codeRec_of X hcd) rfl (BindsTo.of_eq (by subst hdV; first | rfl | with_unfolding_all rfl)) (show ∀ y ∈ eS.names, y.2 ≠ .cell by decide) (by
      intro y hy
      rcases List.mem_cons.mp hy with rfl | hy
      · rfl
      · rcases List.mem_cons.mp hy with rfl | hy
        · rfl
        · cases hy) (fun h₁ hns k₁ => ?_) rfl rfl rfl
  have X₁ : K.In h₁ := X.keeps k₁
  have hx₁ := k₁ _ _ hx
  obtain ⟨mb, hb1, hb2⟩ := hb
  have hxC : x ≠ C := fun e => by subst e; rw [hC] at hnx; cases hnx
  obtain ⟨oD, hD1, hD2⟩ : ∃ oD, h₁.get? C = some oD ∧ oD.data = .cls { name := nm, bases := bs, mro := .ref C :: bm, ns := N, qualname := q, hasDict := true, slotNames := sn, subclasses := sub, abstract := ab, collection := col, hasDel := false } := ⟨_, X₁ _ _ hC, rfl⟩
  have hself : (fun y => ([("self", Value.ref x), ("at", v)] : List (Str × Value)).reverse.lookup y) "self" = some (.ref x) := by first | rfl | with_unfolding_all rfl | decide
  have hat : (fun y => ([("self", Value.ref x), ("at", v)] : List (Str × Value)).reverse.lookup y) "at" = some v := by first | rfl | with_unfolding_all rfl | decide
  refine ks_wpAt_execs_cons (ks_wpAt_Expr_any (ks_wpAt_MethodCall (pl := do return (← importBound (.Call (.Name "super" q1) [] [] q2) (callEnv (ksFn "__init__" qual (eA p1 p2) (eB q1 q2 q3 q4 q5 q6 r1 r2 r3 r4) eS dV kV doc pm an (.ref cda) ct cc) s.heap.objs.size fI)).getD true) ?_ (superCall hline)))
  refine ks_wpAt_super_base (f := fI) (cc := cda) rfl rfl (by decide) rfl (X₁ _ _ ho) rfl rfl rfl (X₁ _ _ hcode) rfl hvs hfile T.top ?_
  refine ks_loadName_global rfl rfl (loadGlobal_builtin (hg.keeps k₁) T.gs (hb1.keeps k₁) ((hb2 _ (by decide +kernel)).trans (by decide +kernel)) ⟨rfl, ?_⟩)
  refine wpAny_loadName_free rfl rfl rfl ⟨_, X₁ _ _ hcell, rfl⟩ ?_
  refine wpAny_loadName_local rfl rfl hns hself ?_
  refine ks_wpAny_isType_cls hD1 hD2 ⟨rfl, ?_⟩
  refine ks_wpAny_call_super hD1 hD2 hx₁ rfl (fun c e => by cases e) (looks_mroIn X₁ T.sbC) (fun h₂ e₂ k₂ => ?_)
  have X₂ : K.In h₂ := X₁.keeps k₂
  have hx₂ := k₂ _ _ hx₁
  have hI : Looks (model prog w) h₂ (isInstance (.ref x) (.type "ValueError")) true := by
    have IA : InstAt h₂ x (excO C t0) C none := ⟨hx₂, rfl, rfl, trivial⟩
    refine IA.type.andThen (looks_mroIn X₂ ?_)
    unfold mroIn
    rw [hcl, Option.bind_some]
    have : (Value.ref C :: bm).isEmpty = false := rfl
    rw [if_neg (by rw [this]; decide)]
    have hc := refsVE_contains "ValueError" bm hbm
    have : (Value.ref C :: bm).contains (.type "ValueError") = true := by
      rw [List.contains_cons, hc, show veTail.contains (.type "ValueError") = true by decide +kernel, Bool.or_true]
    rw [this]
  refine kxs_getMethod kxs_ValueError e₂ (looks_opaque X₂ T.opq) (l₀ := .ref C :: bm) (fun A Q E s k q => wpAny_bind ((looks_clsIn X₂ hcl) A _ E s k (wpAny_pure q))) (l := bm) (by simp [List.dropWhile_cons]) X₂ hal hI hxC (by decide) ?_
  -- the bound __init__ is called
  have k₃ : ∀ b o, h₂.get? b = some o → (h₂.push (kxs_mw "ValueError.__init__" x)).get? b = some o := fun b o e => Heap.get?_push_of_some _ e
  have hu : (h₂.push (kxs_mw "ValueError.__init__" x)).get? h₂.objs.size = some (kxs_mw "ValueError.__init__" x) := Heap.get?_push_at rfl rfl
  have kk : ∀ b o, h₁.get? b = some o → (h₂.push (kxs_mw "ValueError.__init__" x)).get? b = some o := fun b o e => k₃ _ _ (k₂ _ _ e)
  refine kxs_callWith (i := "ValueError.__init__") (x := x) rfl ?_
  refine evalArgs_plain (Calls.spliced_cons (ldC (m := fun y => ([("self", Value.ref x), ("at", v)] : List (Str × Value)).reverse.lookup y) ?_ hat (Calls.spliced_nil ⟨hu, ?_⟩) rfl rfl))
  · obtain ⟨oL, es, ep, hL, rr⟩ := hns
    exact ⟨oL, es, ep, kk _ _ hL, rr⟩
  refine call_bw (rest := [v]) (kk _ _ (X₁ _ _ hC)) (kk _ _ hx₁) hu (by rw [sizeLine_eq]; exact (by decide : 1 ≤ 16777216)) (fun h₄ t1 k₄ hx₄ => ?_)
  -- self.at = at
  have hxL : s.heap.objs.size ≠ x := Nat.ne_of_gt (Heap.lt_size hx)
  have k14 : ∀ b o, b ≠ x → h₁.get? b = some o → h₄.get? b = some o := fun b o hb e => k₄ b o hb (kk b o e)
  have ns4 : h₄.Ns s.heap.objs.size (fun y => ([("self", Value.ref x), ("at", v)] : List (Str × Value)).reverse.lookup y) := by
    obtain ⟨oL, es, ep, hL, rr⟩ := hns
    exact ⟨oL, es, ep, k14 _ _ hxL hL, rr⟩
  have X₄ : K.In h₄ := fun a o e => k14 a o (fun z => by rw [z, hnx] at e; cases e) (X₁ a o e)
  refine PySem.wpAt_of_wpAny (wpAny_execs_cons (plainObj_wpAny_Assign_Attribute ?_))
  refine ldC ns4 hat (ldC ns4 hself ?_ rfl rfl) rfl rfl
  refine set_plain X₄ (ox := excO C t1) (od := none) ⟨hx₄, rfl, rfl, trivial⟩ T.sa ?_
  refine exc_osa X₄ hx₄ hcl (show refsVE (.ref C :: bm) = true from hbm) rfl T.noN (fun h₅ tk₅ dx k₅ dn dne hx₅ hn₅ => ?_)
  refine wpAny_execs_nil (hq h₅ tk₅ dx t1 ⟨fun b o hb e => k₅ b o hb (k14 b o hb (k₁ b o e)), hx₅, ?_, dne, hn₅⟩)
  refine Nat.le_trans ?_ dn
  obtain ⟨oL, es, ep, hL, rr⟩ := ns4
  exact Nat.le_of_lt (Heap.lt_size hL)

/-- a made error -/
structure ErrMade (h h' : Heap) (e C d : Addr) (v : Value) : Prop where
  keep : ∀ b o, h.get? b = some o → h'.get? b = some o
  new : h.objs.size ≤ e
  obj : ∃ oe vs, h'.get? e = some oe ∧ oe.cls = .ref C ∧ oe.dict = some d ∧ oe.data = .fields vs ∧ vs[1]? = some .none
  dbig : h.objs.size ≤ d
  dne : d ≠ e
  ns : h'.Ns1 d (fun y => if y = "at" then some v else none)
theorem err_made (T : ErrTxt prog K mg nm0 C) {v : Value} (X : K.In s.heap) (hg : s.heap.Ns mainGlobals mg) (hb : ∃ mb, s.heap.Ns builtinsNs mb ∧ ∀ y : Str, y ≠ "__name__" → mb y = bootBuiltins y) (hlim : s.heap.NoLimit) (hroom : A.depth + 1 < recursionLimit)
    (hq : ∀ h' tk e d, ErrMade s.heap h' e C d v → R (.ok (.ret (.ref e))) { s with heap := h', toks := tk }) :
    codeAny (model prog w) A (.call (.ref C) ⟨[v], []⟩) R s := by
  obtain ⟨fI, cc, cda, qual, oc, dV, kV, doc, pm, ct, od, an, osl, p1, p2, q1, q2, q3, q4, q5, q6, r1, r2, r3, r4, cl, ccl, cld, cdd, csl, ccs, vs, file, tf, iC, tI, _⟩ := T.fn
  obtain ⟨nm, q, N, bs, bm, sn, sub, ab, col, dd, k0, k1, k2, k3, k5, hC, hbm, hal⟩ := T.cls
  obtain ⟨hp, g, dr, tk, os⟩ := s
  have k : ∀ b o, hp.get? b = some o → ((hp.push (kdv_tup [v])).push (excO C hp.objs.size)).get? b = some o := fun b o e => Heap.get?_push_of_some _ (Heap.get?_push_of_some _ e)
  have hget : ((hp.push (kdv_tup [v])).push (excO C hp.objs.size)).get? (hp.objs.size + 1) = some (excO C hp.objs.size) := by heap_get
  have hnx : K.lookup (hp.objs.size + 1) = none := by
    cases e : K.lookup (hp.objs.size + 1) with
    | none => rfl
    | some o =>
      have z : hp.get? (hp.objs.size + 1) = some o := X _ _ e
      exact absurd (Nat.lt_of_succ_lt (Heap.lt_size z)) (Nat.lt_irrefl _)
  refine call_own F.excBase_ValueError (fun X => refsVE_contains X bm hbm) (X _ _ hC) (looks_findIn X iC) (fun self => bind_fn X self tI) (by rw [sizeLine_eq]; exact (by decide : 1 ≤ 16777216)) ?_
  obtain ⟨mb, hb1, hb2⟩ := hb
  refine err_init (s := ⟨(hp.push (kdv_tup [v])).push (excO C hp.objs.size), g, dr, tk, os⟩) T iC (X.keeps k) (hg.keeps k) ⟨mb, hb1.keeps k, hb2⟩ (hlim.keeps k) hget hnx ?_ fun h' tk' dx t1 ⟨k', hx, dn, dne, hns⟩ => ?_
  · show A.depth + 1 < recursionLimit
    exact hroom
  · have old : ∀ b o, hp.get? b = some o → h'.get? b = some o := fun b o e => k' b o (Nat.ne_of_lt (Nat.lt_succ_of_lt (Heap.lt_size e))) (k b o e)
    have z : hp.objs.size + 1 + 1 ≤ dx := by
      first
        | (simpa only [Heap.size_push] using dn)
        | exact dn
        | (have q := dn; rw [Heap.size_push, Heap.size_push] at q; exact q)
    exact ⟨rfl, hq h' tk' (hp.objs.size + 1) dx ⟨old, Nat.le_succ _, ⟨_, _, hx, rfl, rfl, rfl, rfl⟩, Nat.le_trans (Nat.le_trans (Nat.le_succ _) (Nat.le_succ _)) z, dne, hns⟩⟩
end
end ErrX
namespace DL
open PySem PySem.Spec PyProof.Rows L2
theorem relO_at {v : V} {v' : Value} (r : RelV v v') (f : Str) : RelO (List.lookup f [(("at" : Str), v)]) (if f = "at" then some v' else none) := by
  by_cases hw : f = "at"
  · subst hw
    rw [if_pos rfl]
    have q : List.lookup ("at" : Str) [(("at" : Str), v)] = some v := by simp [List.lookup]
    rw [q]
    exact r
  · rw [if_neg hw]
    have qw : (f == ("at" : Str)) = false := by simpa using hw
    have q2 : List.lookup f [(("at" : Str), v)] = none := by simp [List.lookup, qw]
    rw [q2]
    trivial
section
variable {X : Cx} {C : Addr}
theorem pmk_err {a : Expr} {ta : TA} {cn : Str} {p pos : Pos} {k : Nat} (T : ErrX.ErrTxt X.prog X.K X.mg cn C) (hr : Room k X.A) (ha : PA X [a] ta) (hg : Gl X cn) (hdb : (cn == ("__debug__" : Str)) = false := by decide)
    (he : starEach (a :: []) X.env = (false, eval a X.env) :: starEach [] X.env := by rfl) (hpl : (backTo pos (starEach [] X.env)).any (·.1) = false := by rfl) :
    PMk X (.Call (.Name cn p) [a] [] pos) (tMkErr C ta) := by
  intro pins s σ H Q I h
  refine wpAny_Call_Name_kw (ld_glob I hg T.gC ?_ hdb)
  refine PySem.W.callWith_K (h₀ := X.base) I.ok.mod.kin T.kC (thn (ha.run pos pins s σ H _ I h) fun us s1 hh => ?_) he hpl
  obtain ⟨vs, H1, I1, r1, v, ev, q1⟩ := hh
  subst ev
  refine ⟨I1.kIn, ?_⟩
  cases r1 with
  | cons rv rn =>
    rename_i v' us'
    cases rn
    show wpAny _ _ (call (.ref C) [v']) _ _ _
    have hlim := I1.nolimit
    have hgl := I1.mod.glob.keeps I1.bk
    obtain ⟨mb, hb1, hb2⟩ := I1.mod.blt
    have hbl := hb1.keeps I1.bk
    obtain ⟨hp, g, dr, tk, os⟩ := s1
    refine wpAny_call (ErrX.err_made T I1.kIn hgl ⟨mb, hbl, hb2⟩ hlim (by have := hr.dp; omega) fun h' tk' e d M => ?_)
    show MkP X pins σ Q (.ref e) ⟨h', g, dr, tk', os⟩
    obtain ⟨oe, fv, hoe, hc, hd, hdat, h1⟩ := M.obj
    have hns := M.ns
    obtain ⟨G', g1, g2⟩ := restrict h' fun b => decide (b ≠ e)
    have gk : ∀ b, b ≠ e → G'.get? b = h'.get? b := fun b hb => g1 b (decide_eq_true hb)
    have ge : G'.get? e = none := g2 e (by simp)
    have old : ∀ b o, hp.get? b = some o → G'.get? b = some o := fun b o q => (gk b (Nat.ne_of_lt (Nat.lt_of_lt_of_le (Heap.lt_size q) M.new))).trans (M.keep b o q)
    have ob : ObjOk X.prog X.w (upd H1 d (.xd [(("at" : Str), v)])) G' d (.xd [(("at" : Str), v)]) :=
      ⟨_, hns.at (fun o q => (gk d M.dne).trans q), fun f => relO_at rv f⟩
    have J : Inv X pins σ (upd H1 d (.xd [(("at" : Str), v)])) ⟨G', g, dr, tk', os⟩ := I1.laid (t' := tk') old M.dbig ob
    refine ⟨e, oe, fv, ⟨G', g, dr, tk', os⟩, _, .ref C, some d, rfl, J, fun b o q => ?_, ge, hoe, ⟨hc, hd⟩, hdat, h1, ?_, rfl, I1.bare, raises_own T.exC T.tyC, q1 d (I1.hok.fresh M.dbig)⟩
    · by_cases hb : b = e
      · have q' : G'.get? b = some o := q
        rw [hb, ge] at q'; cases q'
      · exact (gk b hb).symm.trans q
    · rw [upd_ne (Ne.symm M.dne)]
      exact I1.hok.fresh M.new
end
end DL
end
section
set_option maxRecDepth 100000
set_option maxHeartbeats 4000000
/-! # Several clauses «except C as n», one name -/
namespace DL
open PySem PySem.Spec PyProof.Rows L2
abbrev Clause := Value × (Addr → Value → Option Addr → TS)
def offD (i : Nat) (D : Ends) : Ends := { nx := fun σ' H' => D.nx (σ'.set i none) H', rt := D.rt, bk := fun σ' H' => D.bk (σ'.set i none) H', ct := fun σ' H' => D.ct (σ'.set i none) H' }
/-- what the clauses wish of an error of the body -/
def wManyA (K : PySem.W.Frag) (i : Nat) (Wout : WX) (D : Ends) : List Clause → WX
  | [] => Wout
  | (c, ts) :: r => fun cls d σ H => ∃ b, PySem.W.exmOne K cls c = some b ∧ (b = true → ∀ a, H a = none → ts a cls d (offD i D) (σ.set i (some (.ref a))) H) ∧ (b = false → wManyA K i Wout D r cls d σ H)
inductive HdsA (X : Cx) (n : Str) : List ExceptHandler → List Clause → Prop
  | nil : HdsA X n [] []
  | cons {x : Str} {c : Value} {ts : Addr → Value → Option Addr → TS} {b₀ : Stmt} {suite : List Stmt} {np pos' : Pos} {hds : List ExceptHandler} {l : List Clause} (hc : Names X x c)
      (hsu : ∀ (a : Addr) (oe : Obj) (cls : Value) (d : Option Addr) (pn : List (Addr × Obj)), Zc cls d oe → (∃ vs, oe.data = .fields vs) → PSs (X.suite a ((a, oe) :: pn)) (b₀ :: suite) (ts a cls d)) (r : HdsA X n hds l) :
      HdsA X n (.ExceptHandler (some (.Name x np)) (some n) (b₀ :: suite) pos' :: hds) ((c, ts) :: l)
theorem ps_try_manyA {X : Cx} {n : Str} {i : Nat} {body : List Stmt} {h₀ : ExceptHandler} {hds : List ExceptHandler} {l : List Clause} {pos : Pos} {tb : WX → TS} {Wout : WX} (hs : X.stack = X.env :: X.outer) (hf : X.env.frame = some X.env.locals)
    (hN : X.N.Nodup) (hi : X.N[i]? = some n) (hln : X.env.kindOf n = some .local) (tk : Takes X Wout)
    (hb : ∀ (W : WX) (pn : List (Addr × Obj)) (xe : Value → Shared → Prop), Takes (X.tr pn xe) W → PassesOwn (model X.prog X.w) X.A X.env xe → PSs (X.tr pn xe) body (tb W))
    (hh : HdsA X n (h₀ :: hds) l) : PS X (.Try body (h₀ :: hds) [] [] pos) (fun D σ H => tb (wManyA X.K i Wout D l) D σ H) := by
  refine ⟨fun pins s σ H D I h => ?_⟩
  have ok := I.ok
  have hfr : X.A.frames = some (X.env :: X.outer) := by rw [ok.frames, hs]
  have hloc : Loc X.env.scope n := .inl hln
  refine wpAny_Try_except ?_
  refine wpAny_mono ((hb (wManyA X.K i Wout D l) (X.pn ++ pins) (fun e s₁ => wpAny (model X.prog X.w) X.A (noteFrame e X.env) (fun _ s₂ => wpAny (model X.prog X.w) X.A (setFlight e none) (fun _ s₃ =>
    wpAny (model X.prog X.w) X.A (handleBy e X.env (h₀ :: hds)) (SP X pins D) X.xe s₃) X.xe s₂) X.xe s₁) (fun u s' xx => ?_) PassesOwn.looking).run [] s σ H D (I.toTry _) h) (fun f s1 hsp => ?_) (fun e s1 he => he)
  · obtain ⟨a, B, sI, pins', σ', H', cls, d, rfl, J', nb, up, sky, na, os, ag, w⟩ := xx
    have J : Inv X pins σ' H' sI := J'.ofTry ok
    have sky' : Sky B (X.env :: X.outer) a (Zc cls d) X.env.locals s'.heap := by rw [← hs]; exact sky
    show wpAny (model X.prog X.w) X.A (noteFrame (.ref a) X.env) _ _ _
    refine Sky.land Zc.steady hfr hf sky' fun h3 fl3 up3 => ?_
    have J3 : Inv X pins σ' H' { s' with heap := h3 } := J.landed nb fl3.1 (up.trans up3) os ag
    obtain ⟨oe3, vs3, he3, hz3, hd3⟩ := fl3.there
    have notFr : ∀ {h : Heap} {o : Obj} {vs : Array Value}, h.FunFrames B (X.env :: X.outer) → h.get? a = some o → o.data = .fields vs → a ∉ frs (X.env :: X.outer) := fun {h o vs} ff e dd hm => by
      obtain ⟨_, o', e', hnf⟩ := ff.mem hm
      rw [e] at e'; cases e'
      exact hnf _ dd
    have nfr := notFr fl3.2.2.1 he3 hd3
    have nL : a ≠ X.env.locals := fun z => nfr (List.mem_filterMap.mpr ⟨X.env, List.mem_cons_self, by rw [hf, z]⟩)
    have nF : a ∉ X.fs := fun hm => by
      obtain ⟨e, he, q⟩ := List.mem_filterMap.mp hm
      exact nfr (List.mem_filterMap.mpr ⟨e, List.mem_cons_of_mem _ he, q⟩)
    have S3 := J3.suite he3 hd3 na nL nF
    have go : ∀ {hds' : List ExceptHandler} {l' : List Clause}, HdsA X n hds' l' → wManyA X.K i Wout D l' cls d σ' H' →
        wpAny (model X.prog X.w) X.A (handleBy (.ref a) X.env hds') (SP X pins D) X.xe { s' with heap := h3 } := by
      intro hds' l' hk
      induction hk with
      | nil =>
        intro w
        refine wpAny_handleBy_nil ?_
        obtain ⟨k1, k2, k3, oe, vs, T, oT, ts', he, hz, hd, h1, hr⟩ := id fl3
        unfold PySem.passOn
        refine wpAny_bind (wpAny_field he hd h1 ?_)
        rw [if_neg (show ¬ ((Value.ref T == Value.none) = true) from by simp)]
        have fin : wpAny (model X.prog X.w) X.A (setFlight (.ref a) X.env.frame) (fun _ s4 => wpAny (model X.prog X.w) X.A (throw (.ref a) : Sem Flow) (SP X pins D) X.xe s4) X.xe { s' with heap := h3 } := by
          rw [hf]
          refine HandSPX.setFlight_upZ fl3 fun h4 hh4 up4 => wpAny_throw (tk _ _ ?_)
          exact ⟨a, B, sI, pins, σ', H', cls, d, rfl, J, nb, (up.trans up3).trans up4, .inr (.inr (by rw [hs]; exact hh4)), na, os, ag, w⟩
        first
          | exact wpAny_bind (wpAny_pure (wpAny_bind fin))
          | exact wpAny_bind fin
      | @cons x c ts b₀ suite np pos' hds2 l2 hc hsu r ih =>
        intro w
        obtain ⟨b, hb1, hyes, hno⟩ := w
        refine wpAny_handleBy_cons (codeAny_handlers_test ?_) (by intro q; cases q)
        have LT : PySem.W.Looks (model X.prog X.w) h3 (typeOf (.ref a)) cls := fun A Q E s k q => wpAny_typeOf_ref (k _ _ he3) (by rw [hz3.1]; exact q)
        have LM := PySem.W.exm_one (M := model X.prog X.w) (J3.kIn) LT hb1
        have test : ∀ {Q : Value → Shared → Prop} {E : Value → Shared → Prop}, Q c { s' with heap := h3 } → wpAny (model X.prog X.w) (X.A.mark (some (.ref a))) (eval (.Name x np) X.env) Q E { s' with heap := h3 } := fun {Q E} q => by
          obtain ⟨hg, hdbg, hm | ⟨hm, hv, hnn⟩⟩ := hc
          · exact ld_glob (X := X.suite a ((a, oe3) :: (X.pn ++ pins))) S3 hg hm q hdbg
          · exact ld_blt (X := X.suite a ((a, oe3) :: (X.pn ++ pins))) S3 hg hm hv q hnn hdbg
        refine test (LM.here ?_)
        cases b with
        | true =>
          refine codeAny_handlers_suite_as ?_
          refine HandSPX.lands_againZ fl3 fun h4 fl4 up4 => ?_
          have J4 : Inv X pins σ' H' { s' with heap := h4 } := J.landed nb fl4.1 ((up.trans up3).trans up4) os ag
          obtain ⟨oe4, vs4, he4, hz4, hd4⟩ := fl4.there
          have S4 := J4.suite he4 hd4 na nL nF
          refine store_ok (X := X.suite a ((a, oe4) :: (X.pn ++ pins))) (v := .ref a) S4 hN hi hloc rfl (fun s5 S5 => ?_) (.inr hln)
          refine wpAny_mono ((hsu a oe4 cls d (X.pn ++ pins) hz4 ⟨_, hd4⟩).run [] s5 _ H' _ S5 (hyes rfl a na)) (fun f s6 hsp => ?_) (fun _ _ z => False.elim z)
          have end_ : ∀ {σ6 : L2.St} {H6 : Hp} {Q : Shared → Prop}, Inv (X.suite a ((a, oe4) :: (X.pn ++ pins))) [] σ6 H6 s6 → (∀ s7, Inv X pins (σ6.set i none) H6 s7 → Q s7) →
              wpAny (model X.prog X.w) X.A (do bindName X.env n .none; unbindBehindTheSuite X.env n pos') (fun _ s7 => Q s7) X.xe s6 := fun {σ6 H6 Q} S6 hq => gone_ok (S6.unsuite ok) hN hi hln hq
          cases f with
          | next =>
            obtain ⟨σ6, H6, S6, q6⟩ := hsp
            exact end_ S6 fun s7 J7 => ⟨_, _, J7, q6⟩
          | brk =>
            obtain ⟨σ6, H6, S6, q6⟩ := hsp
            exact end_ S6 fun s7 J7 => ⟨_, _, J7, q6⟩
          | cont =>
            obtain ⟨σ6, H6, S6, q6⟩ := hsp
            exact end_ S6 fun s7 J7 => ⟨_, _, J7, q6⟩
          | ret u =>
            obtain ⟨v6, σ6, H6, S6, r6, q6⟩ := hsp
            exact end_ S6 fun s7 J7 => ⟨_, _, _, J7, r6, q6⟩
        | false =>
          show wpAny _ X.A (handleBy (.ref a) X.env hds2) _ _ _
          exact ih (hno rfl)
    exact go hh w
  · cases f with
    | next =>
      obtain ⟨σ', H', J', q⟩ := hsp
      exact wpAny_execs_nil ⟨σ', H', J'.ofTry ok, q⟩
    | brk =>
      obtain ⟨σ', H', J', q⟩ := hsp
      exact ⟨σ', H', J'.ofTry ok, q⟩
    | cont =>
      obtain ⟨σ', H', J', q⟩ := hsp
      exact ⟨σ', H', J'.ofTry ok, q⟩
    | ret u =>
      obtain ⟨v, σ', H', J', r, q⟩ := hsp
      exact ⟨v, σ', H', J'.ofTry ok, r, q⟩
end DL
end
section
set_option maxRecDepth 100000
set_option maxHeartbeats 4000000
/-! # What a lambda tells: ('told', it()), or the word of its error with what that one keeps -/
namespace DL
open PySem PySem.Spec PyProof.Rows L2 LamX
def EHeard (hs : List (Addr × Str)) (Q : VK) : XK := fun cls d H' => ∃ (C : Addr) (wd : Str) (dd : Addr) (u : V), cls = .ref C ∧ (C, wd) ∈ hs ∧ d = some dd ∧ H' dd = some (.xd [(("at" : Str), u)]) ∧ ∀ p, H' p = none → Q (.ref p) (upd H' p (.tup [.str wd, u]))
def THeard (hs : List (Addr × Str)) : (XK → Hp → VK → Prop) → Hp → VK → Prop := fun tl H Q => tl (EHeard hs Q) H fun v H' => [V.str "told", v].length ≤ sizeLine ∧ ∀ p, H' p = none → Q (.ref p) (upd H' p (.tup [.str "told", v]))
def tLen (n : Nat) (t : TS) : TS := fun D σ H => σ.length = n → t D σ H
theorem pss_len {X : Cx} {ss : List Stmt} {t : TS} (h : PSs X ss t) : PSs X ss (tLen X.N.length t) := ⟨fun pins s σ H D I q => h.run pins s σ H D I (q I.len)⟩
def clauseOf (q : Addr × Str) : Clause := (.ref q.1, fun a cls d => tLen 2 (tRet (tTup (tCons (tC (.str q.2)) (tCons (tXf a cls d q.1 "at" (tVar 1)) tNil)))))
theorem two_ok : 2 ≤ sizeLine := by rw [sizeLine_eq]; omega
theorem many_of {K : PySem.W.Frag} {Wout : WX} {D : Ends} {σ : L2.St} {H' : Hp} {C : Addr} {wd : Str} {dd : Addr} {u : V} (h1 : H' dd = some (.xd [(("at" : Str), u)])) (hq : ∀ p, H' p = none → D.rt (.ref p) (upd H' p (.tup [.str wd, u]))) :
    ∀ (hs : List (Addr × Str)), (hs.map (·.1)).Nodup → (∀ q ∈ hs, PySem.W.exmOne K (.ref C) (.ref q.1) = some (decide (C = q.1))) → (C, wd) ∈ hs → wManyA K 1 Wout D (hs.map clauseOf) (.ref C) (some dd) σ H'
  | [], _, _, h => by cases h
  | q :: r, nd, ex, h => by
    refine ⟨decide (C = q.1), ex q List.mem_cons_self, fun hb a na => ?_, fun hb => ?_⟩
    · have e := of_decide_eq_true hb
      have ew : wd = q.2 := by
        rcases List.mem_cons.mp h with z | z
        · rw [← z]
        · have nd' := (List.nodup_cons.mp (by simpa using nd : (q.1 :: r.map (·.1)).Nodup)).1
          exact absurd (List.mem_map_of_mem (f := (·.1)) z) (by rw [← e] at nd'; exact nd')
      intro hl
      have hl : σ.length = 2 := by rw [List.length_set] at hl; exact hl
      refine ⟨.ref a, List.getElem?_set_self (by omega), rfl, by rw [e], dd, _, u, rfl, h1, by simp [List.lookup], two_ok, fun p np => ?_⟩
      rw [← ew]
      exact hq p np
    · refine many_of h1 hq r (List.nodup_cons.mp (by simpa using nd : (q.1 :: r.map (·.1)).Nodup)).2 (fun q' hq' => ex q' (List.mem_cons_of_mem _ hq')) ?_
      rcases List.mem_cons.mp h with z | z
      · rw [← z] at hb
        simp at hb
      · exact z
theorem heard_gives {X : Cx} {Ng : List Str} {x a n q : Str} {sg : Scope} {g : Addr} {cdg : Value} {hs : List (Addr × Str)} {h₀ : ExceptHandler} {hds : List ExceptHandler} {j j2 : Nat} {p1 p2 p3 p5 p8 p9 : Pos}
    (hN : Ng.Nodup) (hi : Ng[1]? = some n) (h0 : ∀ f : Addr, (L2.start Ng [V.ref f])[0]? = some (some (V.ref f))) (hln : sg.names.lookup n = some .local)
    (nd : (hs.map (·.1)).Nodup) (hex : ∀ p ∈ hs, ∀ q ∈ hs, PySem.W.exmOne X.K (.ref p.1) (.ref q.1) = some (decide (p.1 = q.1)))
    (hh : ∀ s H, HdsA (cxOf C8.CX0 X.prog X.w X.K X.mg X.base Ng x sg g cdg X.A X.stack s H C8.E0).nox n (h₀ :: hds) (hs.map clauseOf)) :
    GivesTo X Ng x sg g cdg [.Try [.Return (some (.Tuple [.Constant (.str "told") j p5, .Call (.Name a p1) [] [] p2] j2 p9)) p3] (h₀ :: hds) [] [] p8] a q (THeard hs) := by
  intro f c' s H Q tl act hc h
  refine ⟨_, pss_one (ps_try_manyA (X := (cxOf C8.CX0 X.prog X.w X.K X.mg X.base Ng x sg g cdg X.A X.stack s H C8.E0).nox) (i := 1) (n := n)
      (tb := fun W D σ H => ∃ Ech : XK, (∀ cls d σ' H', Ech cls d H' → W cls d σ' H') ∧ σ[0]? = some (some (.ref f)) ∧ H c' = some (CodeO c' q) ∧ tl Ech H fun v H' => [V.str "told", v].length ≤ sizeLine ∧ ∀ p, H' p = none → D.rt (.ref p) (upd H' p (.tup [.str "told", v])))
      rfl rfl hN hi hln L2.takes0 (fun W pn xe tk _ => ?_) (hh s H)), ?_⟩
  · refine ⟨fun pins s' σ H' D I h' => ?_⟩
    obtain ⟨Ech, hW, h1, h2, h3⟩ := h'
    have hp := act W pn xe Ech p1 p2 tk hW
    have hq := pss_one (ps_ret (pos := p3) (pe_tup (x1 := j2) (pos := p9) (pa_cons (pe_str (x := "told") (j := j) (pos := p5)) (pa_cons hp pa_nil))))
    exact hq.run pins s' σ H' D I ⟨h1, h2, h3⟩
  · exact ⟨EHeard hs Q, fun cls d σ' H' ⟨C, wd, dd, u, e1, e2, e3, e4, e5⟩ => by
      subst e1; subst e3
      exact many_of e4 e5 hs nd (fun q hq => hex (C, wd) e2 q hq) e2, h0 f, hc, h⟩
end DL
end
section
set_option maxRecDepth 100000
set_option maxHeartbeats 4000000
/-! # _law_heard(lambda: ..) over plain data -/
namespace DL
open PySem PySem.Spec PyProof.Rows L2 LamX
theorem DealAt.ext {G : Hp} {B : Bs} {H H1 : Hp} (e : ∀ b o, H b = some o → (∀ ps, o ≠ .tbl ps) → H1 b = some o) : ∀ {dl : Option (Addr × Addr)} {t : Option Deal}, DealAt G B H dl t → DealAt G B H1 dl t
  | some (da, l), some t, ⟨h1, h2, h3⟩ => ⟨e _ _ h1 (by intro _ z; cases z), e _ _ h2 (by intro _ z; cases z), h3⟩
  | none, none, _ => True.intro
  | none, some _, h => h.elim
  | some _, none, h => h.elim
theorem Wd.extN {G : Hp} {B : Bs} {H H1 : Hp} {t : Option Deal} (w : Wd G B H t) (e : ExtN H H1) (T1 : Tabs B.tb H1) : Wd G B H1 t :=
  ⟨fun a o q => e a o (w.sub a o q) fun ps z => w.tb.nB a ps (by rw [q, z]), fun a o q => ⟨e a o (w.fgn a o q).1 fun ps z => w.tb.nG a ps (by rw [q, z]), (w.fgn a o q).2⟩, DealAt.ext e w.deal, ⟨T1, w.tb.nB, w.tb.nG⟩⟩
def heardK (k : Tk) : Option PyData := match k with
  | .v (.d x) => some x
  | _ => none
def mHeard (ws : List (Str × Str)) (ow : List Nat) (m : M Tk) : M Tk := fun r t => match m (wipeR r ow) t with
  | .ok k _ t' => (match heardK k with
    | some x => .ok (.v (.d (.tuple [.str "told", x]))) r t'
    | none => .st)
  | .ex cn x t' => (match ws.lookup cn with
    | some wd => .ok (.v (.d (.tuple [.str wd, x]))) r t'
    | none => .st)
  | .st => .st
theorem Sls.hide {K : PySem.W.Frag} {ow : List Nat} {G : Hp} {B : Bs} {H : Hp} {σ : L2.St} {r : Rho} (s : Sls K ow G B H σ r) (G' : Hp) : Sls K [] G' B H σ (wipeR r ow) := by
  refine ⟨by rw [wipeR_len]; exact s.len, fun i x hx _ => ?_, fun i x hx hi => absurd hi (by simp), fun i j p hi => absurd hi (by simp)⟩
  by_cases q : i ∈ ow
  · exact absurd hx (wipeR_in q)
  · rw [wipeR_out q] at hx
    exact s.var i x hx q
theorem rf_heard {K : PySem.W.Frag} {c : Cd} {hs : List (Addr × Str)} {ws : List (Str × Str)} {t : XK → TE} {m : M Tk} (hws : ∀ cn wd C, ws.lookup cn = some wd → c.ec.f cn = some C → (C, wd) ∈ hs)
    (hb : ∀ E, RfE K { c with E := E, ow := [] } (t E) m) : RfE K c (tLam c.ec.tb (THeard hs) t) (mHeard ws c.ow m) := by
  intro G B H σ r dl Q XP w s hx p
  obtain ⟨G', w', gg, _, back⟩ := Sls.push w s
  have eT : B.tb = c.ec.tb := hx.1
  refine ⟨by rw [← eT]; exact w.tb.tabs, fun H1 e T1 => ?_⟩
  have w1 : Wd G' B H1 dl := w'.extN e (by rw [eT]; exact T1)
  obtain ⟨_, s1⟩ := back B H1 dl (Bs.le.refl B) w1
  have fin : ∀ {B2 : Bs} {H2 : Hp} {t' : Option Deal} {wd : Str} {u : V} {x : PyData}, B.le B2 → Wd G' B2 H2 t' → Dq K B2.H u x → (Out.ok (Tk.v (.d (.tuple [.str wd, x]))) r t').post (fun x r' t' => ∀ (v : V) (B' : Bs) (H' : Hp), B.le B' → Wd G B' H' t' → Sls K c.ow G B' H' σ r' → Tv K B' c.ow σ v x → Q v H') XP →
      ∀ p, H2 p = none → Q (.ref p) (upd H2 p (.tup [.str wd, u])) := fun {B2 H2 t' wd u x} l2 w2 du q p np => by
    refine new_tup w2 np (.cons (.str wd) (.cons du .nil)) fun v B3 H3 l3 w3 sv => ?_
    obtain ⟨w4, s4⟩ := back B3 H3 t' (l2.trans l3) w3
    exact q v B3 H3 (l2.trans l3) w4 s4 sv
  show t (EHeard hs Q) σ H1 (fun v H' => [V.str "told", v].length ≤ sizeLine ∧ ∀ p, H' p = none → Q (.ref p) (upd H' p (.tup [.str "told", v])))
  refine hb (EHeard hs Q) G' B H1 σ (wipeR r c.ow) dl _ (fun cn x t' => m (wipeR r c.ow) dl = .ex cn x t') w1 (s1.hide G') ⟨eT, fun cn x t' B' H' C dd v hm l w2 he hd hq => ?_⟩ ?_
  · unfold mHeard at p
    rw [hm] at p
    cases hl : ws.lookup cn with
    | none =>
      simp only [hl] at p
      exact p.elim
    | some wd =>
      simp only [hl] at p
      exact ⟨C, wd, dd, v, rfl, hws cn wd C hl he, rfl, w2.sub _ _ hd, fin l w2 hq p⟩
  · unfold mHeard at p
    cases e : m (wipeR r c.ow) dl with
    | ok k r1 t' =>
      rw [e] at p
      intro v B' H' l w2 s2 tv
      refine ⟨two_ok, ?_⟩
      cases k with
      | o i => exact p.elim
      | v x =>
        cases x with
        | d x => exact fin l w2 tv p
        | deal => exact p.elim
        | raw _ => exact p.elim
        | exc _ _ => exact p.elim
        | scr _ => exact p.elim
    | ex cn x t' => exact rfl
    | st => rw [e] at p; exact p.elim
/-- _law_heard(lambda: body) -/
theorem pd_heard {X : Cx} {c : Cd} {hs : List (Addr × Str)} {ws : List (Str × Str)} {x a : Str} {g cc P : Addr} {k : Nat} {pg : Arguments} {bg : List Stmt} {sg : Scope} {dV kV doc pm cdv ct oc : Value} {an od : Option Addr} {osl : Array (Option Value)} {Ng : List Str}
    {params : Arguments} {body : Expr} {scope : Scope} {t : XK → TE} {m : M Tk} {p lpos pos : Pos} (hws : ∀ cn wd C, ws.lookup cn = some wd → c.ec.f cn = some C → (C, wd) ∈ hs) (hg : Gl X x) (hm : X.mg x = some (.ref g)) (hk : PySem.W.keepIn X.K (.ref g) = true)
    (lk : X.K.lookup g = some ⟨oc, od, .func (PySem.W.fnOf x x pg bg sg dV kV doc pm an cdv ct), osl⟩) (hcg : PySem.W.codeIn X.K cdv x = true) (hb : L2.Binds X.K (PySem.W.fnOf x x pg bg sg dV kV doc pm an cdv ct) [a] []) (Sg : FnScope Ng [a] sg) (hNg : Ng[0]? = some a) (hva : Vis sg a)
    (hG : GivesTo X Ng x sg g cdv bg a (X.env.qual ++ "<lambda>") (THeard hs))
    (TB : TabB X.base X.mg cc P) (hcode : X.env.code = .ref cc) (hmT : (P, X.env.qual ++ "<lambda>") ∈ c.ec.tb) (hu : ∀ p ∈ c.ec.tb, p.1 = P → p.2 = X.env.qual ++ "<lambda>") (hr : Room (k + 2) X.A) (L : LamS X.env.scope scope) (hdef : defaultsOf params X.env = ([], []))
    (hbind : ∀ (q : Str) (cl : List (Str × Addr)) (pm cv ctv : Value), bindArgs (PySem.W.kla_fn "<lambda>" q params body scope cl pm cv ctv) ⟨[], []⟩ = pure [])
    (hbody : ∀ (A : Around) (outer : List Env) (s : Shared) (H : Hp) (E : XK) (f c' : Addr), Room k (A.deeper (lamEnv X scope s.heap.objs.size f c')) → PED (lamCx X A outer s H E scope f c') { c with E := E, ow := [] } body (t E) m)
    (hdb : (x == ("__debug__" : Str)) = false := by decide) (hd : (a == ("__debug__" : Str)) = false := by decide) (hcd : (a == ("__classdict__" : Str)) = false := by decide) :
    PED X c (.Call (.Name x p) [.Lambda params body scope lpos] [] pos) (tLam c.ec.tb (THeard hs) t) (mHeard ws c.ow m) :=
  ⟨pe_lamcall hg hm hk lk hcg hb Sg hNg hva hG TB hcode hmT hu hr L hdef hbind (fun A outer s H E f c' hr2 => (hbody A outer s H E f c' hr2).p) hdb hd hcd, rf_heard hws fun E => (hbody X.A [] X.s_0 X.H_0 E 0 0 ((hr.mono (by omega : k + 1 ≤ k + 2)).deeper _)).k⟩
end DL
end
section
set_option maxRecDepth 100000
set_option maxHeartbeats 4000000
/-! # Defs by name -/
namespace DL
open PySem PySem.Spec PyProof.Rows L2
theorem spD_weak {K : PySem.W.Frag} {ec : Ec} {n : Nat} {F F' : FM} (h : ∀ xs t, F' xs t ≠ .st → F xs t = F' xs t) {vs : List V} {H : Hp} {Q : VK} {E : XK} (q : spD K ec n F' vs H Q E) : spD K ec n F vs H Q E := by
  obtain ⟨G, B, xs, t, w, tb, sv, hn, p⟩ := q
  refine ⟨G, B, xs, t, w, tb, sv, hn, ?_⟩
  by_cases e : F' xs t = .st
  · rw [e] at p; exact p.elim
  · rw [h xs t e]; exact p
/-- the def named x at f: what it promises, where it stands, how it binds -/
structure Cal (P : Program) (w : World) (K : PySem.W.Frag) (mg : Str → Option Value) (base : Heap) (ec : Ec) (x : Str) (k : Nat) (ps : List Str) (F : FM) (f : Addr) (fd : FuncData) : Prop where
  ok : FnOk P w K mg base (L2.CX P w) k f fd ps (spD K ec ps.length F)
  m : mg x = some (.ref f)
  kp : PySem.W.keepIn K (.ref f) = true
  b : Binds K fd ps []
theorem Cal.weak {P : Program} {w : World} {K : PySem.W.Frag} {mg : Str → Option Value} {base : Heap} {ec : Ec} {x : Str} {k : Nat} {ps : List Str} {F F' : FM} {f : Addr} {fd : FuncData} (C : Cal P w K mg base ec x k ps F f fd) (h : ∀ xs t, F' xs t ≠ .st → F xs t = F' xs t) : Cal P w K mg base ec x k ps F' f fd :=
  ⟨C.ok.imp fun _ _ _ _ q => spD_weak h q, C.m, C.kp, C.b⟩
theorem Cal.mono {P : Program} {w : World} {K : PySem.W.Frag} {mg : Str → Option Value} {base : Heap} {ec : Ec} {x : Str} {j k : Nat} {ps : List Str} {F : FM} {f : Addr} {fd : FuncData} (C : Cal P w K mg base ec x j ps F f fd) (h : j ≤ k) : Cal P w K mg base ec x k ps F f fd := ⟨C.ok.mono h, C.m, C.kp, C.b⟩
section
variable {X : Cx} {c : Cd} {e : Expr} {pos : Pos}
theorem pd_callC {x : Str} {p : Pos} {f : Addr} {fd : FuncData} {ps : List Str} {j k n : Nat} {F : FM} {es : List Expr} {t : TA} {m : M (List Tk)} (C : Cal X.prog X.w X.K X.mg X.base c.ec x j ps F f fd) (hr : Room k X.A) (hjk : j ≤ k) (hg : Gl X x) (hx : Passes (L2.CX X.prog X.w) X c.E) (ha : PAD X c (e :: es) t m)
    (hn : n = ps.length := by rfl) (hdb : (x == ("__debug__" : Str)) = false := by decide) (he : starEach (e :: es) X.env = (false, eval e X.env) :: starEach es X.env := by rfl) (hpl : (backTo pos (starEach es X.env)).any (·.1) = false := by rfl) :
    PED X c (.Call (.Name x p) (e :: es) [] pos) (tCall (spD X.K c.ec n F) [] c.E t) (mCall n F m) := by
  subst hn
  exact pd_call (C.mono hjk).ok hr hg C.m C.kp C.b hx ha hdb he hpl
theorem pd_callBC {x : Str} {p : Pos} {f : Addr} {fd : FuncData} {ps : List Str} {j k n : Nat} {F : FM} {es : List Expr} {t : TA} {m : M (List Tk)} (C : Cal X.prog X.w X.K X.mg X.base c.ec x j ps F f fd) (hr : Room k X.A) (hjk : j ≤ k) (hg : Gl X x) (hx : Passes (L2.CX X.prog X.w) X c.E) (ha : PAD X c (e :: es) t m)
    (hn : n = ps.length := by rfl) (hdb : (x == ("__debug__" : Str)) = false := by decide) (he : starEach (e :: es) X.env = (false, eval e X.env) :: starEach es X.env := by rfl) (hpl : (backTo pos (starEach es X.env)).any (·.1) = false := by rfl) :
    PED X c (.Call (.Name x p) (e :: es) [] pos) (tCall (spD X.K c.ec n F) [] c.E t) (mCallB n F m) := by
  subst hn
  exact pd_callB (C.mono hjk).ok hr hg C.m C.kp C.b hx ha hdb he hpl
theorem pd_callKC {x : Str} {p : Pos} {f : Addr} {fd : FuncData} {ps : List Str} {j k n : Nat} {F : FM} {kws : List Keyword} {t : TA} {m : M (List Tk)} (C : Cal X.prog X.w X.K X.mg X.base c.ec x j ps F f fd) (hbk : ∀ (s : Shared) (ws : List Value), ws.length = ps.length → BindsTo s fd ⟨[], ps.zip ws⟩ (ps.zip ws)) (hr : Room k X.A) (hjk : j ≤ k) (hg : Gl X x) (hx : Passes (L2.CX X.prog X.w) X c.E) (ha : PKD X c kws t m)
    (hall : (backToKw pos (keywordEach kws X.env)).all (·.1.isSome) = true := by rfl) (hks : (backToKw pos (keywordEach kws X.env)).filterMap (·.1) = ps := by rfl) (hn : n = ps.length := by rfl) (hdb : (x == ("__debug__" : Str)) = false := by decide)
    (hpl : ((backTo pos (starEach [] X.env)).any (·.1) || (backToKw pos (keywordEach kws X.env)).any (·.1.isNone)) = false := by rfl) :
    PED X c (.Call (.Name x p) [] kws pos) (tCallK0 (spD X.K c.ec n F) (fun z => z) c.E t) (mCall n F m) := by
  subst hn
  exact pd_callK (C.mono hjk).ok hr hg C.m C.kp hx hbk ha hall hks hdb hpl
/-- in a def's body: what a callee may let out is taken -/
theorem takesD {P : Program} {w : World} {K : PySem.W.Frag} {mg : Str → Option Value} {base : Heap} {N : List Str} {x : Str} {scope : Scope} {f : Addr} {cdv : Value} {A : Around} {outer : List Env} {s : Shared} {H : Hp} {E : XK} :
    Takes (cxOf (L2.CX P w) P w K mg base N x scope f cdv A outer s H E) (fun cls d _ H => E cls d H) := L2.takes_of rfl rfl rfl rfl
theorem passD {P : Program} {w : World} {K : PySem.W.Frag} {mg : Str → Option Value} {base : Heap} {N : List Str} {x : Str} {scope : Scope} {f : Addr} {cdv : Value} {A : Around} {outer : List Env} {s : Shared} {H : Hp} {E : XK} :
    Passes (L2.CX P w) (cxOf (L2.CX P w) P w K mg base N x scope f cdv A outer s H E) E := L2.passes_call takesD fun _ _ _ _ h => h
theorem ownD {P : Program} {w : World} {K : PySem.W.Frag} {mg : Str → Option Value} {base : Heap} {N : List Str} {x : Str} {scope : Scope} {f : Addr} {cdv : Value} {A : Around} {outer : List Env} {s : Shared} {H : Hp} {E : XK} :
    PassesOwn (model P w) (cxOf (L2.CX P w) P w K mg base N x scope f cdv A outer s H E).A (cxOf (L2.CX P w) P w K mg base N x scope f cdv A outer s H E).env (cxOf (L2.CX P w) P w K mg base N x scope f cdv A outer s H E).xe := L2.passes_of rfl
theorem takesL {Y : Cx} {A : Around} {outer : List Env} {s : Shared} {H : Hp} {E : XK} {scope : Scope} {f c' : Addr} : Takes (LamX.lamCx Y A outer s H E scope f c') (fun cls d _ H => E cls d H) := L2.takes_of rfl rfl rfl rfl
theorem passL' {Y : Cx} {A : Around} {outer : List Env} {s : Shared} {H : Hp} {E : XK} {scope : Scope} {f c' : Addr} : Passes (L2.CX Y.prog Y.w) (LamX.lamCx Y A outer s H E scope f c') E := L2.passes_call takesL fun _ _ _ _ h => h
end
abbrev FnP (K : PySem.W.Frag) (x : Str) (st : Stmt) (f : Addr) (fd : FuncData) : Prop := FunD K x x (defArgs st) (defBody st) (defScope st) [] [] f fd
theorem bk1 {K : PySem.W.Frag} {x : Str} {st : Stmt} {f : Addr} {fd : FuncData} {ps : List Str} (F : FnP K x st f fd) (h : ∀ (dV kV doc pm : Value) (an : Option Addr) (cdv ct : Value) (ws : List Value), dV = .none → ws.length = ps.length → ∀ s, BindsTo s (PySem.W.fnOf x x (defArgs st) (defBody st) (defScope st) dV kV doc pm an cdv ct) ⟨[], ps.zip ws⟩ (ps.zip ws)) :
    ∀ (s : Shared) (ws : List Value), ws.length = ps.length → BindsTo s fd ⟨[], ps.zip ws⟩ (ps.zip ws) := by
  obtain ⟨oc, od, dV, kV, doc, pm, an, cdv, ct, osl, rfl, lk, hcd, hd, _⟩ := F.ex
  intro s ws hw
  refine h dV kV doc pm an cdv ct ws ?_ hw s
  rcases hd with ⟨_, e⟩ | ⟨n, _⟩
  · exact e
  · exact absurd rfl n
/-- the owners' slots forgotten ahead of a statement and behind it -/
def mHide (ow : List Nat) (m : M Fl) : M Fl := fun r t => match m (wipeR r ow) t with
  | .ok f r' t' => .ok f (wipeR r' ow) t'
  | .ex c x t' => .ex c x t'
  | .st => .st
theorem Sls.unhide {K : PySem.W.Frag} {ow : List Nat} {G : Hp} {B : Bs} {H : Hp} {σ : L2.St} {r : Rho} (s : Sls K [] G B H σ r) : Sls K ow G B H σ (wipeR r ow) := by
  refine ⟨by rw [wipeR_len]; exact s.len, fun i x hx hi => ?_, fun i x hx hi => absurd hx (wipeR_in hi), fun i j p hi hj ij li lj => ?_⟩
  · rw [wipeR_out hi] at hx
    exact s.var i x hx (by simp)
  · obtain ⟨x, hx⟩ := li
    exact absurd hx (wipeR_in hi)
theorem rf_hide {K : PySem.W.Frag} {c : Cd} {ts : TS} {m : M Fl} (h : RfS K { c with ow := [] } ts m) : RfS K c ts (mHide c.ow m) := by
  intro G B H σ r t D XP w s hx p
  refine h G B H σ (wipeR r c.ow) t D XP w (s.hide G) hx ?_
  unfold mHide at p
  cases e : m (wipeR r c.ow) t with
  | ok f r' t' =>
    rw [e] at p
    cases f with
    | nx => exact fun σ' B' H' l w' s' => p σ' B' H' l w' s'.unhide
    | bk => exact fun σ' B' H' l w' s' => p σ' B' H' l w' s'.unhide
    | ct => exact fun σ' B' H' l w' s' => p σ' B' H' l w' s'.unhide
    | rt x => exact p
  | ex c x t' => rw [e] at p; exact p
  | st => rw [e] at p; exact p.elim
theorem psd_hide {X : Cx} {c : Cd} {st : Stmt} {ts : TS} {m : M Fl} (h : PSD X { c with ow := [] } st ts m) : PSD X c st ts (mHide c.ow m) := ⟨h.p, rf_hide h.k⟩
end DL
end
section
set_option maxRecDepth 100000
set_option maxHeartbeats 4000000
/-! # _law_any: a number of the deal -/
namespace DL
open PySem PySem.Spec PyProof.Rows L2
/-! the reckoning -/
def popZ : List Int → Nat → List Int
  | cs, 0 => cs
  | cs, n + 1 => if cs.getLast? = some 0 then popZ cs.dropLast n else cs
def anyD (dl : Deal) (b : Int) : Int × Deal :=
  let cs := popZ dl.cells dl.cells.length
  match cs.getLast? with
  | some rest => (rest % b, ⟨cs.dropLast ++ [rest / b], dl.blend⟩)
  | none => ((dl.blend * 40693 + 71) % 2147483647 / 64 % b, ⟨cs, (dl.blend * 40693 + 71) % 2147483647⟩)
def fineD (dl : Deal) : Prop := 0 ≤ dl.blend ∧ dl.blend < 2147483647
instance (dl : Deal) : Decidable (fineD dl) := by unfold fineD; exact inferInstance
def anyFM : FM := fun xs t => match xs, t with
  | [.deal, .d (.int b)], some dl => if 0 < b ∧ b.natAbs.log2 < 9000 ∧ fineD dl then .ok (.d (.int (anyD dl b).1)) (some (anyD dl b).2) else .st
  | _, _ => .st
theorem anyD_range (dl : Deal) {b : Int} (hb : 0 < b) : 0 ≤ (anyD dl b).1 ∧ (anyD dl b).1 < b := by
  unfold anyD
  dsimp only
  split
  · exact ⟨Int.emod_nonneg _ (by omega), Int.emod_lt_of_pos _ hb⟩
  · exact ⟨Int.emod_nonneg _ (by omega), Int.emod_lt_of_pos _ hb⟩
theorem anyD_fine {dl : Deal} {b : Int} (h : fineD dl) : fineD (anyD dl b).2 := by
  unfold anyD
  dsimp only
  split
  · exact h
  · exact ⟨Int.emod_nonneg _ (by omega), Int.emod_lt_of_pos _ (by omega)⟩
/-! the deal in the heap -/
section
variable {G : Hp} {B : Bs} {H : Hp} {da l : Addr} {dl : Deal}
theorem Wd.dealL (w : Wd G B H (some dl)) (hd : B.dl = some (da, l)) {cs : List Int} (hz : cs.length ≤ 1000) : Wd G B (upd H l (.lst (cs.map V.int))) (some ⟨cs, dl.blend⟩) := by
  have d := w.deal
  rw [hd] at d
  obtain ⟨h1, h2, h3, h4, h5, h6, h7, h8⟩ := d
  refine ⟨fun a o e => ?_, fun a o e => ?_, ?_, ⟨tabs_chg w.tb.tabs h2, w.tb.nB, w.tb.nG⟩⟩
  · rw [upd_ne (ne_of_none e h4)]; exact w.sub _ _ e
  · rw [upd_ne (ne_of_none e h6)]; exact w.fgn _ _ e
  · rw [hd]
    exact ⟨by rw [upd_ne h7]; exact h1, upd_same, h3, h4, h5, h6, h7, hz⟩
theorem Wd.dealB (w : Wd G B H (some dl)) (hd : B.dl = some (da, l)) (bl : Int) : Wd G B (upd H da (.lst [.ref l, .int bl])) (some ⟨dl.cells, bl⟩) := by
  have d := w.deal
  rw [hd] at d
  obtain ⟨h1, h2, h3, h4, h5, h6, h7, h8⟩ := d
  refine ⟨fun a o e => ?_, fun a o e => ?_, ?_, ⟨tabs_chg w.tb.tabs h1, w.tb.nB, w.tb.nG⟩⟩
  · rw [upd_ne (ne_of_none e h3)]; exact w.sub _ _ e
  · rw [upd_ne (ne_of_none e h5)]; exact w.fgn _ _ e
  · rw [hd]
    exact ⟨upd_same, by rw [upd_ne (Ne.symm h7)]; exact h2, h3, h4, h5, h6, h7, h8⟩
theorem dealAt (w : Wd G B H (some dl)) (hd : B.dl = some (da, l)) : H da = some (.lst [.ref l, .int dl.blend]) ∧ H l = some (.lst (dl.cells.map V.int)) ∧ da ≠ l ∧ dl.cells.length ≤ 1000 := by
  have d := w.deal
  rw [hd] at d
  obtain ⟨h1, h2, h3, h4, h5, h6, h7, h8⟩ := d
  exact ⟨h1, h2, h7, h8⟩
end
theorem canLay_ints : ∀ cs : List Int, PyData.canLayAll0 (cs.map PyData.int) = true
  | [] => rfl
  | c :: cs => by
    show (PyData.canLay0 (.int c) && PyData.canLayAll0 (cs.map PyData.int)) = true
    rw [canLay_ints cs] <;> rfl
theorem depth_ints : ∀ cs : List Int, PyData.depthAll (cs.map PyData.int) = 0
  | [] => rfl
  | c :: cs => by
    show max (PyData.depth (.int c)) (PyData.depthAll (cs.map PyData.int)) = 0
    rw [depth_ints cs] <;> rfl
theorem shaped_ints (cs : List Int) : SeqAt.shaped (.list (cs.map PyData.int)) = true := by
  unfold SeqAt.shaped
  rw [Bool.and_eq_true]
  refine ⟨canLay_ints cs, decide_eq_true ?_⟩
  show PyData.depthAll (cs.map PyData.int) + 1 ≤ 64
  rw [depth_ints]
  omega
theorem eqv_nil (cs : List Int) : PyData.eqv (.list (cs.map PyData.int)) (.list []) = cs.isEmpty := by
  cases cs <;> rfl
/-! the readings -/
section
variable (K : PySem.W.Frag)
abbrev tD (i : Int) : TE := tOp (rAtA K) (tVar 0) (tC (.int i))
abbrev tNe : TT := tTest (tOp (rNeA K) (tD K 0) (tLst tNil))
abbrev tLast0 : TT := tTest (tOp (rEqA K) (tOp (rAtA K) (tD K 0) (tUn (rU fun i => .int (-i)) (tC (.int 1)))) (tC (.int 0)))
abbrev tPop0 : TE := tBM0 K "list" rPop (tD K 0)
def t_any : TS := tSeq (tWhile (tAnd (tNe K) (tLast0 K)) (tDrop (tPop0 K)))
  (tSeq (tIfS (tNe K) (tSeq (tAsg (tCB rInt (tCons (tPop0 K) tNil)) (gName 2))
      (tSeq (tDrop (tBM K "list" rAppend (tD K 0) (tCons (tOp (rI CDivW fun i j => .int (i / j)) (tVar 2) (tVar 1)) tNil)))
        (tRet (tOp (rI (fun _ j => 0 < j) fun i j => .int (i % j)) (tVar 2) (tVar 1))))) tNext)
    (tSeq (tAsg (tOp (rI (fun _ j => 0 < j) fun i j => .int (i % j)) (tCB rInt (tCons (tOp (rAddA K) (tOp (rMulA K) (tD K 1) (tC (.int 40693))) (tC (.int 71))) tNil)) (tC (.int 2147483647))) (gSub (tVar 0) (tC (.int 1)) rSetL))
      (tRet (tOp (rI (fun _ j => 0 < j) fun i j => .int (i % j)) (tCB rInt (tCons (tOp (rI CDivW fun i j => .int (i / j)) (tD K 1) (tC (.int 64))) tNil)) (tVar 1)))))
end
section
variable {K : PySem.W.Frag} {G : Hp} {B : Bs} {H : Hp} {da l : Addr} {dl : Deal} {σ : L2.St}
theorem rd_d0 {Q : VK} (w : Wd G B H (some dl)) (hd : B.dl = some (da, l)) (hs : σ[0]? = some (some (.ref da))) (q : Q (.ref l) H) : tD K 0 σ H Q := by
  obtain ⟨h1, _⟩ := dealAt w hd
  exact ⟨.ref da, hs, .inl ⟨da, [.ref l, .int dl.blend], 0, .ref l, rfl, rfl, SqL.of h1, rfl, q⟩⟩
theorem rd_d1 {Q : VK} (w : Wd G B H (some dl)) (hd : B.dl = some (da, l)) (hs : σ[0]? = some (some (.ref da))) (q : Q (.int dl.blend) H) : tD K 1 σ H Q := by
  obtain ⟨h1, _⟩ := dealAt w hd
  exact ⟨.ref da, hs, .inl ⟨da, [.ref l, .int dl.blend], 1, .int dl.blend, rfl, rfl, SqL.of h1, rfl, q⟩⟩
theorem rd_ne {Q : Bool → Hp → Prop} (w : Wd G B H (some dl)) (hd : B.dl = some (da, l)) (hs : σ[0]? = some (some (.ref da))) (q : ∀ H', Wd G B H' (some dl) → Q (!dl.cells.isEmpty) H') : tNe K σ H Q := by
  refine rd_d0 w hd hs ⟨Nat.zero_le _, fun p np => ?_⟩
  have w' := w.lay (o := .lst []) np
  obtain ⟨h1, h2, _⟩ := dealAt w' hd
  refine .inr ⟨.list (dl.cells.map PyData.int), .list [], .lst (SqL.of h2) ((dpa_of_ints (H := upd H p (.lst [])) dl.cells).dp), .lst (SqL.of upd_same) .nil, shaped_ints _, by decide, _, rfl, ?_⟩
  rw [eqv_nil]
  exact q _ w'
theorem rd_last {Q : Bool → Hp → Prop} {c : Int} (w : Wd G B H (some dl)) (hd : B.dl = some (da, l)) (hs : σ[0]? = some (some (.ref da))) (hc : dl.cells.getLast? = some c) (q : Q (decide (c = 0)) H) : tLast0 K σ H Q := by
  refine rd_d0 w hd hs ?_
  obtain ⟨h1, h2, _⟩ := dealAt w hd
  have e : dl.cells.map V.int = (dl.cells.map V.int).dropLast ++ [.int c] := by
    have hne : dl.cells ≠ [] := fun z => by rw [z] at hc; cases hc
    have e1 : dl.cells = dl.cells.dropLast ++ [c] := by
      have := List.dropLast_concat_getLast hne
      rw [List.getLast?_eq_some_getLast hne] at hc
      rw [← Option.some.inj hc]
      exact this.symm
    rw [e1]
    simp
  refine ⟨1, rfl, .inl ⟨l, dl.cells.map V.int, -1, .int c, rfl, rfl, SqL.of h2, by rw [e]; exact atI_last _ _, ?_⟩⟩
  refine .inl ⟨rfl, _, rfl, ?_⟩
  have e2 : decide (V.int c = V.int 0) = decide (c = 0) := by
    by_cases z : c = 0
    · subst z; rfl
    · rw [decide_eq_false z, decide_eq_false (fun y => z (V.int.inj y))]
  rw [e2]
  exact q
theorem rd_pop {Q : VK} {c : Int} (w : Wd G B H (some dl)) (hd : B.dl = some (da, l)) (hs : σ[0]? = some (some (.ref da))) (hc : dl.cells.getLast? = some c) (q : ∀ H', Wd G B H' (some ⟨dl.cells.dropLast, dl.blend⟩) → Q (.int c) H') : tPop0 K σ H Q := by
  refine rd_d0 w hd hs ?_
  obtain ⟨h1, h2, h3, h4⟩ := dealAt w hd
  refine ⟨.inl ⟨rfl, _, SqL.of h2⟩, l, dl.cells.map V.int, .int c, rfl, rfl, h2, ?_, ?_⟩
  · rw [← List.getLast?_eq_getElem?, List.getLast?_map, hc]
    rfl
  · rw [← List.map_dropLast]
    exact q _ (w.dealL hd (by rw [List.length_dropLast]; omega))
end
end DL
end
section
set_option maxRecDepth 100000
set_option maxHeartbeats 4000000
namespace DL
open PySem PySem.Spec PyProof.Rows L2
theorem popZ_stay {cs : List Int} (h : cs.getLast? ≠ some 0) : ∀ n, popZ cs n = cs
  | 0 => rfl
  | n + 1 => by unfold popZ; rw [if_neg h]
theorem popZ_step {cs : List Int} (h : cs.getLast? = some 0) : popZ cs cs.length = popZ cs.dropLast cs.dropLast.length := by
  have hn : cs ≠ [] := fun z => by rw [z] at h; cases h
  have hl : cs.length = cs.dropLast.length + 1 := by
    rw [List.length_dropLast]
    have := List.length_pos_iff.mpr hn
    omega
  rw [hl]
  conv => lhs; unfold popZ
  rw [if_pos h]
theorem popZ_len : ∀ (n : Nat) (cs : List Int), (popZ cs n).length ≤ cs.length
  | 0, cs => Nat.le_refl _
  | n + 1, cs => by
    unfold popZ
    split
    · have h := popZ_len n cs.dropLast
      rw [List.length_dropLast] at h
      omega
    · exact Nat.le_refl _
section
variable {K : PySem.W.Frag} {ec : Ec}
theorem iteT {c : Prop} [Decidable c] {a b : Prop} (hc : c) (h : a) : if c then a else b := by rw [if_pos hc]; exact h
theorem iteF {c : Prop} [Decidable c] {a b : Prop} (hc : ¬ c) (h : b) : if c then a else b := by rw [if_neg hc]; exact h
theorem log2_64 : ((64 : Int).natAbs.log2 < 9000) := by decide
theorem fine_log {b : Int} (h0 : 0 ≤ b) (h1 : b < 2147483647) : b.natAbs.log2 < 32 := by
  have : b.natAbs < 2 ^ 32 := by omega
  by_cases z : b.natAbs = 0
  · rw [z]; decide
  · exact (Nat.log2_lt z).mpr this
theorem anyFM_of {xs : List Sl} {t : Option Deal} (h : anyFM xs t ≠ .st) : ∃ (b : Int) (dl : Deal), xs = [.deal, .d (.int b)] ∧ t = some dl ∧ 0 < b ∧ b.natAbs.log2 < 9000 ∧ fineD dl := by
  unfold anyFM at h
  split at h
  · split at h
    · rename_i hc
      exact ⟨_, _, rfl, rfl, hc⟩
    · exact absurd rfl h
  · exact absurd rfl h
theorem pure_any {vs : List V} {H : Hp} {Q : VK} {E : XK} (h : spD K ec 2 anyFM vs H Q E) : t_any K { nx := fun _ H' => Q .non H', rt := Q } (L2.start ["deal", "bound", "rest"] vs) H := by
  obtain ⟨G, B, xs, t, w, tb, sv, hn, p⟩ := h
  by_cases hst : anyFM xs t = .st
  · rw [hst] at p; exact p.elim
  obtain ⟨b, dl, rfl, rfl, hb, hb2, hf⟩ := anyFM_of hst
  rw [show anyFM [.deal, .d (.int b)] (some dl) = .ok (.d (.int (anyD dl b).1)) (some (anyD dl b).2) from if_pos ⟨hb, hb2, hf⟩] at p
  match vs, sv with
  | [v1, v2], ⟨s1, s2, _⟩ =>
  obtain ⟨da, l, hd, rfl⟩ := s1
  have e2 : v2 = .int b := by cases s2; rfl
  subst e2
  let σ0 : L2.St := [some (.ref da), some (.int b), none]
  show t_any K _ σ0 H
  have p : ∀ (v : V) (B' : Bs) (H' : Hp), B.le B' → Wd G B' H' (some (anyD dl b).2) → Sv K B' v (.d (.int (anyD dl b).1)) → Q v H' := p
  refine ⟨fun m σ' H' => σ' = σ0 ∧ ∃ cs, m = cs.length ∧ Wd G B H' (some ⟨cs, dl.blend⟩) ∧ popZ cs cs.length = popZ dl.cells dl.cells.length, ⟨_, rfl, dl.cells, rfl, w, rfl⟩, ?_⟩
  rintro m σ' H' ⟨rfl, cs, rfl, w1, hz⟩
  -- behind the loop
  have fin : ∀ H2, Wd G B H2 (some ⟨cs, dl.blend⟩) → cs.getLast? ≠ some 0 → (tSeq (tIfS (tNe K) (tSeq (tAsg (tCB rInt (tCons (tPop0 K) tNil)) (gName 2))
      (tSeq (tDrop (tBM K "list" rAppend (tD K 0) (tCons (tOp (rI CDivW fun i j => .int (i / j)) (tVar 2) (tVar 1)) tNil)))
        (tRet (tOp (rI (fun _ j => 0 < j) fun i j => .int (i % j)) (tVar 2) (tVar 1))))) tNext)
    (tSeq (tAsg (tOp (rI (fun _ j => 0 < j) fun i j => .int (i % j)) (tCB rInt (tCons (tOp (rAddA K) (tOp (rMulA K) (tD K 1) (tC (.int 40693))) (tC (.int 71))) tNil)) (tC (.int 2147483647))) (gSub (tVar 0) (tC (.int 1)) rSetL))
      (tRet (tOp (rI (fun _ j => 0 < j) fun i j => .int (i % j)) (tCB rInt (tCons (tOp (rI CDivW fun i j => .int (i / j)) (tD K 1) (tC (.int 64))) tNil)) (tVar 1))))) { nx := fun _ H' => Q .non H', rt := Q } σ0 H2 := by
    intro H2 w2 hl
    have ez : popZ dl.cells dl.cells.length = cs := by rw [← hz, popZ_stay hl]
    have hlen : cs.length ≤ 1000 := by
      obtain ⟨da', l', _⟩ : ∃ da' l', B.dl = some (da', l') := ⟨da, l, hd⟩
      exact (dealAt w2 hd).2.2.2
    refine rd_ne w2 hd rfl fun H3 w3 => ?_
    cases cs with
    | nil =>
      refine iteF (by simp) ?_
      -- a new blend
      refine rd_d1 w3 hd rfl ?_
      have hlog : dl.blend.natAbs.log2 + (40693 : Int).natAbs.log2 < 1000000 := by
        have h1 := fine_log hf.1 hf.2
        have h2 : (40693 : Int).natAbs.log2 < 32 := by decide
        omega
      refine .inl ⟨dl.blend, 40693, rfl, rfl, hlog, .inl (.inl ⟨_, 71, rfl, rfl, .inl ⟨_, rfl, _, 2147483647, rfl, rfl, (by decide : (0 : Int) < 2147483647), ?_⟩⟩)⟩
      obtain ⟨h1, _⟩ := dealAt w3 hd
      refine ⟨.ref da, rfl, da, [.ref l, .int dl.blend], 1, 1, rfl, rfl, h1, rfl, ?_⟩
      have w4 := w3.dealB hd ((dl.blend * 40693 + 71) % 2147483647)
      refine rd_d1 w4 hd rfl ⟨_, 64, rfl, rfl, ⟨by decide, log2_64⟩, .inl ⟨_, rfl, .int b, rfl, _, b, rfl, rfl, hb, ?_⟩⟩
      have ea : anyD dl b = ((dl.blend * 40693 + 71) % 2147483647 / 64 % b, ⟨[], (dl.blend * 40693 + 71) % 2147483647⟩) := by
        unfold anyD
        dsimp only
        rw [ez]
        rfl
      rw [ea] at p
      exact p _ B _ (Bs.le.refl B) w4 (.int _)
    | cons c0 cr =>
      refine iteT (by simp) ?_
      obtain ⟨c, hcl⟩ : ∃ c, (c0 :: cr).getLast? = some c := ⟨_, List.getLast?_eq_some_getLast (List.cons_ne_nil _ _)⟩
      refine rd_pop (c := c) w3 hd rfl hcl fun H4 w4 => .inl ⟨c, rfl, ?_⟩
      have hs : (σ0.set 2 (some (.int c)))[0]? = some (some (.ref da)) := rfl
      refine rd_d0 w4 hd hs ?_
      obtain ⟨h1, h2, _, h4⟩ := dealAt w4 hd
      refine ⟨.inl ⟨rfl, _, SqL.of h2⟩, .int c, rfl, .int b, rfl, c, b, rfl, rfl, ⟨hb, hb2⟩, l, _, .int (c / b), rfl, rfl, h2, ?_, ?_⟩
      · rw [List.length_map]
        exact small1000 h4
      · have em : ((c0 :: cr).dropLast.map V.int) ++ [V.int (c / b)] = ((c0 :: cr).dropLast ++ [c / b]).map V.int := by simp
        rw [em]
        have w5 := w4.dealL hd (cs := (c0 :: cr).dropLast ++ [c / b]) (by
          rw [List.length_append, List.length_dropLast]
          have := hlen
          simp at this ⊢
          omega)
        refine ⟨.int c, rfl, .int b, rfl, c, b, rfl, rfl, hb, ?_⟩
        have ea : anyD dl b = (c % b, ⟨(c0 :: cr).dropLast ++ [c / b], dl.blend⟩) := by
          unfold anyD
          dsimp only
          rw [ez, hcl]
        rw [ea] at p
        exact p _ B _ (Bs.le.refl B) w5 (.int _)
  refine rd_ne w1 hd rfl fun H2 w2 => ?_
  cases hcs : cs.getLast? with
  | none =>
    have e : cs = [] := List.getLast?_eq_none_iff.mp hcs
    rw [show (!cs.isEmpty) = false by rw [e]; rfl]
    refine iteF Bool.false_ne_true (iteF Bool.false_ne_true ?_)
    exact fin H2 w2 (by rw [hcs]; intro z; cases z)
  | some c =>
    have e : cs ≠ [] := fun z => by rw [z] at hcs; cases hcs
    rw [show (!cs.isEmpty) = true by cases cs with
      | nil => exact absurd rfl e
      | cons _ _ => rfl]
    refine iteT rfl ?_
    refine rd_last w2 hd rfl hcs ?_
    by_cases hc0 : c = 0
    · subst hc0
      refine iteT (by decide) ?_
      refine ⟨fun σ' H' => σ' = σ0 ∧ Wd G B H' (some ⟨cs.dropLast, dl.blend⟩), ?_, ?_⟩
      · rintro σ' H' ⟨rfl, w3⟩
        refine ⟨cs.dropLast.length, ?_, rfl, cs.dropLast, rfl, w3, by rw [← popZ_step hcs]; exact hz⟩
        rw [List.length_dropLast]
        have := List.length_pos_iff.mpr e
        omega
      · exact rd_pop w2 hd rfl hcs fun H3 w3 => ⟨rfl, w3⟩
    · rw [if_neg (by rw [decide_eq_false hc0]; exact Bool.false_ne_true)]
      exact fin H2 w2 (by rw [hcs]; intro z; exact hc0 (Option.some.inj z))
end
end DL
end
section
set_option maxRecDepth 100000
set_option maxHeartbeats 4000000
/-! # set(xs), xs a list of texts of any length -/
namespace SetX
open PySem PySem.Spec PyProof.Rows
variable {κ : Type} [DecidableEq κ] [BEq κ] [LawfulBEq κ]
/-- the first j keys, each once: how many -/
def cnt (key : Nat → κ) : Nat → Nat
  | 0 => 0
  | j + 1 => if decide (key j ∈ (List.range j).map key) then cnt key j else cnt key j + 1
theorem cnt_le (key : Nat → κ) : ∀ j, cnt key j ≤ j
  | 0 => Nat.le_refl _
  | j + 1 => by
    have := cnt_le key j
    unfold cnt
    split <;> omega
abbrev seen (key : Nat → κ) (j : Nat) : κ → Bool := fun x => decide (x ∈ (List.range j).map key)
theorem seen_step (key : Nat → κ) (j : Nat) (x : κ) : (seen key j x || decide (x = key j)) = seen key (j + 1) x := by
  show (decide _ || decide _) = decide _
  rw [← Bool.decide_or]
  congr 1
  rw [List.range_succ, List.map_append, List.mem_append]
  simp
section
variable {pg : Program} {w : World} {ctx : Around} {Rz : Result → Shared → Prop} {itr : Addr} {used mut_ : List Addr} {Gn : Array GenState → Array GenState → Prop} {top_ : Nat} {At : Nat → Value → Prop} {Sta : Nat → Shared → Prop}
theorem fill (kd : KeyKind pg w κ) (wk : WalksS pg w ctx.in1 itr used mut_ Gn top_ At Sta) (tgt : Addr) (free_ : tgt ∉ used) (key : Nat → κ) (small : top_ + 1 < scanBound)
    (isKey : ∀ j x, At j x → kd.is (key j) x = true ∧ x.scannable = true) :
    ∀ (left j : Nat) (st : Shared), top_ - j = left → j ≤ top_ → Sta j st → st.heap.SetOf kd tgt (seen key j) (cnt key j) →
      (∀ st', Moved (tgt :: mut_) Gn st st' → st'.heap.SetOf kd tgt (seen key top_) (cnt key top_) → Rz (.ok (.ret .none)) st') →
      codeAny (model pg w) ctx (.builtin "set.update.loop" ⟨[.ref tgt, .ref itr], []⟩) Rz st := by
  have nw : tgt ∉ mut_ := fun z => free_ (wk.sub _ z)
  have up : ∀ x ∈ mut_, x ∈ tgt :: mut_ := fun x hx => List.mem_cons_of_mem _ hx
  intro left
  induction left with
  | zero =>
    intro j st e1 e2 here made fin
    have ej : j = top_ := by omega
    subst ej
    refine codeAny_builtin PyProof.Rows.F.entry_set_update_loop ?_
    rw [Around.under_plainId PyProof.Rows.F.plain_set_update_loop _]
    show wpAny _ ctx.in1 (pyNext (.ref itr) >>= _) _ _ st
    refine wpAny_bind (wk.done st _ _ here fun st' mv => ?_)
    show wpAny _ ctx.in1 (ret Value.none) _ _ st'
    obtain ⟨ob, es, ep, tb, hob, more⟩ := made
    exact wpAny_pure (fin st' (mv.mono up) ⟨ob, es, ep, tb, mv.heap tgt _ nw hob, more⟩)
  | succ left again_ =>
    intro j st e1 e2 here made fin
    have jl : j < top_ := by omega
    refine codeAny_builtin PyProof.Rows.F.entry_set_update_loop ?_
    rw [Around.under_plainId PyProof.Rows.F.plain_set_update_loop _]
    show wpAny _ ctx.in1 (pyNext (.ref itr) >>= _) _ _ st
    refine wpAny_bind (wk.item j st _ _ jl here fun x st' hx here' mv => ?_)
    obtain ⟨k1, k2⟩ := isKey j x hx
    have made' : st'.heap.SetOf kd tgt (seen key j) (cnt key j) := by
      obtain ⟨ob, es, ep, tb, hob, more⟩ := made
      exact ⟨ob, es, ep, tb, mv.heap tgt _ nw hob, more⟩
    show wpAny _ ctx.in1 (holding [x] (setAdd tgt x) >>= _) _ _ st'
    refine wpAny_bind (wpAny_holding ?_)
    unfold setAdd
    refine wpAny_holding (wpAny_bind (kd.pyHash (k := key j) k1 ?_))
    have room_ : cnt key j + 1 < scanBound := by
      have := cnt_le key j
      omega
    refine wpAny_setAddHashed_of (knd := kd) (s := { st' with toks := st'.toks + 1 }) k1 k2 made' room_ fun h2 same made2 => ?_
    have made3 : h2.SetOf kd tgt (seen key (j + 1)) (cnt key (j + 1)) := SetOf_congr made2 (fun x => seen_step key j x) rfl
    refine wpAny_pure ⟨plainId_quiet PyProof.Rows.F.plain_set_update_loop _, again_ (j + 1) _ (by omega) jl (wk.frame _ st' _ _ here' (Nat.le_succ _) fun x hx o e => ?_) made3 fun st2 mv2 m2 => ?_⟩
    · have ne : x ≠ tgt := fun z => free_ (by rw [← z]; exact hx)
      rw [same.2 x ne]
      exact e
    · refine fin st2 (Moved.trans wk.gtrans ((mv.mono up).then_heap (Nat.le_succ _) fun x o hx e => ?_) mv2) m2
      have ne : x ≠ tgt := fun z => hx (by rw [z]; exact List.mem_cons_self)
      rw [same.2 x ne]
      exact e
end
section
variable {pg : Program} {w : World} {ctx : Around} {Er : Value → Shared → Prop} {st : Shared}
/-- the new empty set's object -/
abbrev emptyO (led : Bool) : Obj := { cls := .type "set", dict := none, data := .set #[] 0 (.fresh 0 0 led) }
set_option maxHeartbeats 8000000 in
theorem set_of_list (kd : KeyKind pg w κ) {src : Addr} {vals_ : Array Value} (key : Nat → κ) {Good : Value → Shared → Prop} (quietly : ctx.handled = none) (isl : st.heap.IsList src vals_)
    (isKey : ∀ j x, vals_[j]? = some x → kd.is (key j) x = true ∧ x.scannable = true) (small : vals_.size + 1 < scanBound)
    (good : ∀ (h2 : Heap) (tk : Nat), h2.SetOf kd st.heap.objs.size (seen key vals_.size) (cnt key vals_.size) → (∀ b o, b < st.heap.objs.size → st.heap.get? b = some o → h2.get? b = some o) → Good (.ref st.heap.objs.size) { st with heap := h2, toks := tk }) :
    wpAny (model pg w) ctx (call (.type "set") [.ref src]) Good Er st := by
  obtain ⟨mroA, mroB, mro_⟩ := PySem.F.called_set.mro
  have made_ := PySem.F.called_set.made
  have sub_ := PySem.F.called_set.sub
  refine wpAny_call (codeAny_of_tree ?_)
  show wpAny _ _ (callAny (.type "set") _) _ _ _
  refine wpAny_pure ⟨Code.quiet_builtin _ (by decide +kernel), codeAny_builtin PySem.F.entry_type_call ?_⟩
  rw [Around.under_plain (weight_type_call_type "set" [.ref src] []) rfl]
  have q1 := PySem.F.called_set.notType
  have q2 := PySem.F.called_set.canCreate
  have q3 := PySem.F.typeCall_set_1 (.ref src)
  repeat (any_goals (first | assumption | wp_step))
  refine codeAny_mono (code_set_new_1 (.ref src) (E := Er) (Q₁ := fun ob st1 => ∃ led : Bool, ob = .ref st.heap.objs.size ∧ st1 = { st with heap := st.heap.push (emptyO led) }) fun led => ⟨led, rfl, rfl⟩) fun rs st1 hr => ?_
  cases rs with
  | error e => exact hr
  | ok fl =>
    cases fl with
    | brk => exact hr.elim
    | cont => exact hr.elim
    | next => exact hr.elim
    | ret ob =>
      obtain ⟨led, rfl, rfl⟩ := hr
      have stands : (st.heap.push (emptyO led)).get? st.heap.objs.size = some (emptyO led) := Heap.get?_push_size _ rfl
      have typed : Shared.TypeIs { st with heap := st.heap.push (emptyO led) } (.ref st.heap.objs.size) "set" := ⟨_, stands, rfl⟩
      have i1 := PySem.F.called_set.init.lookup
      have i2 := PySem.F.called_set.init.bind (.ref st.heap.objs.size)
      repeat (any_goals (first | assumption | wp_step))
      refine codeAny_mono (codeAny_call_builtin (R := wants (fun rv st2 => rv = .none ∧ ∃ h2 tk, st2 = { st with heap := h2, toks := tk } ∧ h2.SetOf kd st.heap.objs.size (seen key vals_.size) (cnt key vals_.size) ∧ (∀ b o, b < st.heap.objs.size → st.heap.get? b = some o → h2.get? b = some o)) Er)
        PySem.F.called_set.init.plain PySem.F.entry_set_init (check_set_init_1 typed ?_)) fun rs2 st2 hr2 => ?_
      rotate_left
      · cases rs2 with
        | error e => exact hr2
        | ok fl2 =>
          cases fl2 with
          | brk => exact hr2.elim
          | cont => exact hr2.elim
          | next => exact hr2.elim
          | ret rv =>
            obtain ⟨rfl, h2, tk, rfl, m2, kp⟩ := hr2
            repeat (any_goals (first | assumption | wp_step))
            exact good _ _ m2 kp
      · obtain ⟨lo, hlo, hcl, nn, hdl⟩ := isl
        obtain ⟨c1, c2, c3, c4⟩ := lo
        simp only at hcl hdl
        subst hcl
        subst hdl
        have hlo2 : (st.heap.push (emptyO led)).get? src = some { cls := .type "list", dict := c2, data := .seq vals_ nn, slots := c4 } := Heap.get?_push_of_some _ hlo
        have no1 := PySem.F.sub_list_set
        have no2 := PySem.F.sub_list_frozenset
        have no3 : (Value.type "list" == Value.type "dict") = false := by decide
        have isl2 : (st.heap.push (emptyO led)).IsList src vals_ := ⟨_, hlo2, rfl, nn, rfl⟩
        unfold Builtin.«set.__init__» noKeywords Builtin.Frozenset.updateFrom
        generalize ePI : pyIter = PI
        wp_walk
        subst ePI
        refine wpAny_pyIter_list isl2 (wpAny_bind (wpAny_runValue ?_))
        have lt_ : src < st.heap.objs.size := Heap.lt_size hlo
        have quiet3 : ctx.in1.in1.in1.handled = none := by simp [quietly]
        have ne1 : src ≠ (st.heap.push (emptyO led)).objs.size := by
          rw [Heap.size_push]
          exact Nat.ne_of_lt (Nat.lt_succ_of_lt lt_)
        have ne2 : st.heap.objs.size ∉ [(st.heap.push (emptyO led)).objs.size, src] := by
          rw [Heap.size_push]
          intro z
          rcases List.mem_cons.mp z with z | z
          · exact absurd z (Nat.ne_of_lt (Nat.lt_succ_self _))
          · exact absurd (List.mem_singleton.mp z) (Nat.ne_of_gt lt_)
        refine fill kd ((Walks.list quiet3 _ src ne1 vals_).toS) st.heap.objs.size ne2 key small isKey (vals_.size - 0) 0 _ (by omega) (Nat.zero_le _) ⟨⟨_, Heap.get?_push_size _ rfl, rfl, rfl⟩, (isl2.push _)⟩ ?base ?after
        case base =>
          have g2 : ((st.heap.push (emptyO led)).push { cls := .type "list_iterator", data := .fields #[.ref src, .int 0 0] }).get? st.heap.objs.size = some (emptyO led) := Heap.get?_push_of_some _ stands
          exact PyProof.Rows.SetOf_congr ((PyProof.Rows.setObjOf_fresh (knd := kd) led).setOf g2 (by unfold scanBound; omega)) (fun _ => by simp) rfl
        case after =>
          intro st3 mv m3
          obtain ⟨u1, u2, u3, u4, u5⟩ := st3
          have y1 : u2 = st.gens := mv.gens
          have y2 : u3 = st.drawn := mv.drawn
          have y3 : u5 = st.os := mv.os
          subst y1 y2 y3
          show wpAny _ _ _ _ _ _
          refine wpAny_pure ?_
          show wpAny _ _ (ret Value.none) _ _ _
          refine wpAny_pure ⟨rfl, u1, u4, rfl, m3, fun b o hb e => ?_⟩
          have z1 : b ≠ st.heap.objs.size := Nat.ne_of_lt hb
          have z2 : b ≠ (st.heap.push (emptyO led)).objs.size := by
            rw [Heap.size_push]
            exact Nat.ne_of_lt (Nat.lt_succ_of_lt hb)
          refine mv.heap b o ?_ (Heap.get?_push_of_some _ (Heap.get?_push_of_some _ e))
          intro z
          rcases List.mem_cons.mp z with z | z
          · exact z1 z
          · exact z2 (List.mem_singleton.mp z)
end
end SetX
end
section
set_option maxRecDepth 100000
set_option maxHeartbeats 4000000
/-! # Sorted lists of texts, dicts made of pairs, sets of texts, str(int), split -/
namespace DL
open PySem PySem.Spec PyProof.Rows L2
section
variable {X : Cx} {c : Cd} {e : Expr} {me : M Tk} {te : TE} {pos : Pos} {K : PySem.W.Frag}
/-! ### one value in, one out -/
def UnD (K : PySem.W.Frag) (r : V → Hp → VK → Prop) (f : Sl → Option Sl) : Prop := ∀ (G : Hp) (B : Bs) (H : Hp) (t : Option Deal) (x : V) (a z : Sl) (Q : VK), Wd G B H t → Bw K B H x a → f a = some z →
  (∀ (v : V) (B' : Bs) (H' : Hp), B.le B' → Wd G B' H' t → Sv K B' v z → Q v H') → r x H Q
def tU1 (r : V → Hp → VK → Prop) (te : TE) : TE := fun σ H Q => te σ H fun x H1 => r x H1 Q
def mU1 (f : Sl → Option Sl) (m : M Tk) : M Tk := m.bind fun k => (use k).bind fun x => lft (f x)
theorem rf_u1 {r : V → Hp → VK → Prop} {f : Sl → Option Sl} (ho : UnD K r f) (h : RfE K c te me) : RfE K c (tU1 r te) (mU1 f me) := by
  intro G B H σ rr dl Q XP w s hx p
  unfold mU1 at p
  rw [post_bind] at p
  refine h G B H σ rr dl _ XP w s hx (post_mono p fun k r1 t1 p => fun v1 B1 H1 l1 w1 s1 v1a => ?_)
  rw [post_bind] at p
  obtain ⟨G', w', gg, _, back⟩ := Sls.push w1 s1
  obtain ⟨x, bx, p⟩ := use_ok s1 v1a p
  cases ef : f x with
  | none => rw [ef] at p; exact p.elim
  | some z =>
    rw [ef] at p
    refine ho G' B1 H1 t1 v1 x z Q w' bx ef fun v B' H' l w3 sv => ?_
    obtain ⟨w4, s4⟩ := back B' H' t1 l w3
    exact p v B' H' (l1.trans l) w4 s4 sv
/-! ### lists of texts -/
def strsOf : List PyData → Option (List Str)
  | [] => some []
  | .str z :: ds => (match strsOf ds with
    | some zs => some (z :: zs)
    | none => none)
  | _ :: _ => none
theorem strsOf_ok : ∀ {ds : List PyData} {zs : List Str}, strsOf ds = some zs → ds = zs.map PyData.str
  | [], zs, h => by cases h; rfl
  | d :: ds, zs, h => by
    unfold strsOf at h
    split at h
    · rename_i heq
      cases heq
    · rename_i z ds' heq
      cases heq
      split at h
      · rename_i zs' e
        cases h
        rw [List.map_cons, ← strsOf_ok e]
      · cases h
    · cases h
theorem strsOf_map : ∀ zs : List Str, strsOf (zs.map PyData.str) = some zs
  | [] => rfl
  | z :: zs => by
    rw [List.map_cons]
    unfold strsOf
    rw [strsOf_map zs]
/-! ### len(set(xs)) -/
def dcnt (xs : List Str) : Nat := SetX.cnt (fun i => xs.getD i Str.empty) xs.length
def rLenSetS (K : PySem.W.Frag) : V → Hp → VK → Prop := fun x H Q => ∃ (l : Addr) (xs : List Str), x = .ref l ∧ SqL K H l (xs.map V.str) ∧ xs.length ≤ 4000 ∧ Q (.int (dcnt xs : Nat)) H
theorem pe_lenSetS {a : Expr} {ta : TE} {p p2 q : Pos} (hc : X.calm = true) (g1 : Gl X "len") (m1 : X.mg "len" = none) (g2 : Gl X "set") (m2 : X.mg "set" = none) (ha : PE X a ta)
    (na : starEach [a] X.env = (false, eval a X.env) :: starEach [] X.env := by rfl) : PE X (.Call (.Name "len" p) [.Call (.Name "set" p2) [a] [] q] [] pos) (tU1 (rLenSetS X.K) ta) := by
  refine ⟨fun pins s σ H Q I h => ?_⟩
  refine Call_ (ld_blt I g1 m1 boot_len (PyProof.Rows.callWith_builtin1 (PyProof.Rows.args_cons ?_ rfl) rfl rfl))
  refine Call_ (ld_blt I g2 m2 PyProof.Rows.boot_set (PyProof.Rows.callWith_type1 (PyProof.Rows.args_cons (thn (ha.run pins s σ H _ I h) fun v s1 hv => PyProof.Rows.args_nil ?_) na) na rfl))
  obtain ⟨x, H1, I1, r1, l, xs, rfl, hq, hz, q1⟩ := hv
  cases r1
  obtain ⟨its, r, pl, hz2⟩ := I1.list hq
  have hl : its.toArray.size = xs.length := by rw [List.size_toArray, ← r.length, List.length_map]
  have key : ∀ j u, its.toArray[j]? = some u → (PySem.strKind X.prog X.w).is (xs.getD j Str.empty) u = true ∧ u.scannable = true := fun j u hu => by
    obtain ⟨tk, rfl⟩ := SS.strs_at (strsAre_of r) j u (by simpa using hu)
    exact ⟨strKind_is _ _ _ _, rfl⟩
  refine SetX.set_of_list (PySem.strKind X.prog X.w) (fun j => xs.getD j Str.empty) (I1.ok.hd hc) pl.isList key (by rw [hl]; unfold scanBound; omega) fun h' tk hS hk => PyProof.Rows.args_nil ?_
  rw [hl] at hS
  obtain ⟨o, es, ep, t, ho, hex, hd, _, _, _, hf, hn⟩ := hS
  have I2 : Inv X pins σ H1 { s1 with heap := h', toks := tk } := I1.kept fun b o e => hk b o (Heap.lt_size e) e
  have small := SetX.cnt_le (fun j => xs.getD j Str.empty) xs.length
  exact call_len_set ho hex hd hf (by rw [hn] <;> omega) ⟨.int (dcnt xs : Nat), H1, I2.tok _, ⟨_, by rw [hn] <;> rfl⟩, q1⟩
def lenSetF : Sl → Option Sl
  | .d (.list ds) => (match strsOf ds with
    | some zs => if zs.length ≤ 4000 then some (.d (.int (dcnt zs : Nat))) else none
    | none => none)
  | _ => none
theorem und_lenSet : UnD K (rLenSetS K) lenSetF := by
  intro G B H t x a z Q w ha e q
  unfold lenSetF at e
  split at e
  · split at e
    · rename_i ds zs es
      split at e
      · rename_i hz
        cases e
        have ed := strsOf_ok es
        subst ed
        obtain ⟨p, vs, rfl, h1, r1⟩ := ha.lst w
        have ev := dpa_strs r1
        subst ev
        exact ⟨p, zs, rfl, SqL.of h1, hz, q _ B H (Bs.le.refl B) w (.int _)⟩
      · cases e
    · cases e
  · cases e
theorem pd_lenSet {p p2 q : Pos} (hc : X.calm = true) (g1 : Gl X "len") (m1 : X.mg "len" = none) (g2 : Gl X "set") (m2 : X.mg "set" = none) (ha : PED X c e te me)
    (na : starEach [e] X.env = (false, eval e X.env) :: starEach [] X.env := by rfl) : PED X c (.Call (.Name "len" p) [.Call (.Name "set" p2) [e] [] q] [] pos) (tU1 (rLenSetS X.K) te) (mU1 lenSetF me) :=
  ⟨pe_lenSetS hc g1 m1 g2 m2 ha.p na, rf_u1 und_lenSet ha.k⟩
/-! ### sorted texts -/
def leS (a b : Str) : Bool := !decide (b.cps.toList < a.cps.toList)
def sortS (xs : List Str) : List Str := xs.mergeSort leS
theorem leS_trans {a b c : Str} (h1 : leS a b = true) (h2 : leS b c = true) : leS a c = true := by
  unfold leS at *
  simp only [Bool.not_eq_true', decide_eq_false_iff_not, List.not_lt] at *
  exact List.le_trans h1 h2
theorem leS_total (a b : Str) : (leS a b || leS b a) = true := by
  unfold leS
  rw [← Bool.not_and, Bool.not_eq_true', Bool.and_eq_false_iff, decide_eq_false_iff_not, decide_eq_false_iff_not]
  by_cases h : b.cps.toList < a.cps.toList
  · exact .inr (List.lt_asymm h)
  · exact .inl h
theorem leS_anti {a b : Str} (h1 : leS a b = true) (h2 : leS b a = true) : a = b := by
  unfold leS at *
  simp only [Bool.not_eq_true', decide_eq_false_iff_not, List.not_lt] at *
  have e := List.le_antisymm h1 h2
  obtain ⟨⟨x⟩⟩ := a
  obtain ⟨⟨y⟩⟩ := b
  have e : x = y := e
  rw [e]
theorem sortS_perm (xs : List Str) : (sortS xs).Perm xs := List.mergeSort_perm xs leS
theorem sortS_up (xs : List Str) : (sortS xs).Pairwise (fun a b => leS a b = true) := List.pairwise_mergeSort (le := leS) (fun a b c => leS_trans) leS_total xs
theorem rising_le : ∀ {l : List Str} {p : Str}, risingS p l = true → (p :: l).Pairwise (fun a b => leS a b = true)
  | [], p, _ => List.pairwise_singleton _ _
  | x :: l, p, h => by
    unfold risingS at h
    rw [Bool.and_eq_true] at h
    have ih := rising_le h.2
    have hx : leS p x = true := by
      unfold leS
      have e := PyProof.Rows.ltCps_eq x.cps.toList p.cps.toList
      rw [e] at h
      exact h.1
    rw [List.pairwise_cons]
    refine ⟨fun y hy => ?_, ih⟩
    rcases List.mem_cons.mp hy with rfl | hy
    · exact hx
    · exact leS_trans hx ((List.pairwise_cons.mp ih).1 y hy)
theorem sorted_le {l : List Str} (h : sortedS l = true) : l.Pairwise (fun a b => leS a b = true) := by
  cases l with
  | nil => exact List.Pairwise.nil
  | cons x l => exact rising_le h
theorem sorted_is {ys xs : List Str} (p : ys.Perm xs) (h : sortedS ys = true) : ys = sortS xs :=
  List.Perm.eq_of_pairwise (le := fun a b => leS a b = true) (fun _ _ _ _ => leS_anti) (sorted_le h) (sortS_up xs) (p.trans (sortS_perm xs).symm)
def sortF : List Sl → Option Sl
  | [.d (.list ds)] => (match strsOf ds with
    | some zs => if zs.length < 64 then some (.d (.list ((sortS zs).map PyData.str))) else none
    | none => none)
  | _ => none
theorem cbd_sorted : CbD K (rSortedS K) sortF := by
  intro G B H t vs xs z Q w h e q
  unfold sortF at e
  split at e
  · split at e
    · rename_i ds zs es
      split at e
      · rename_i hz
        cases e
        have ed := strsOf_ok es
        subst ed
        match vs, h with
        | [v], h =>
          obtain ⟨p, ws, rfl, h1, r1⟩ := h.1.lst w
          have ev := dpa_strs r1
          subst ev
          refine ⟨p, zs, rfl, SqL.of h1, hz, fun ys l hp hs hl => ?_⟩
          rw [sorted_is hp hs]
          exact new_list w hl (dpa_of_strs _) q
      · cases e
    · cases e
  · cases e
theorem pd_sorted {p : Pos} {es : List Expr} {t : TA} {m : M (List Tk)} (hg : Gl X "sorted") (hm : X.mg "sorted" = none) (ha : PAD X c (e :: es) t m)
    (he : starEach (e :: es) X.env = (false, eval e X.env) :: starEach es X.env := by rfl) (hpl : (backTo pos (starEach es X.env)).any (·.1) = false := by rfl) : PED X c (.Call (.Name "sorted" p) (e :: es) [] pos) (tCB (rSortedS X.K) t) (mCB sortF m) :=
  ⟨pe_callB cr_sortedS hg hm PyProof.Rows.boot_sorted ha.p (by decide) (by decide) he hpl, rf_cb cbd_sorted ha.k⟩
end
end DL
end
section
set_option maxRecDepth 100000
set_option maxHeartbeats 400000
namespace DL
open PySem PySem.Spec PyProof.Rows L2
section
variable {X : Cx} {c : Cd} {e : Expr} {me : M Tk} {te : TE} {pos : Pos} {K : PySem.W.Frag}
/-! ### dict(pairs), its length, its keys sorted -/
/-- the texts that stand first in pairs -/
def pairKs : List PyData → Option (List Str)
  | [] => some []
  | .tuple [.str z, _] :: ds => (match pairKs ds with
    | some zs => some (z :: zs)
    | none => none)
  | _ :: _ => none
/-- each once, in the order of the first time -/
def once : List Str → List Str → List Str
  | acc, [] => acc
  | acc, z :: zs => once (if z ∈ acc then acc else acc ++ [z]) zs
theorem merge_ks : ∀ (more kvs : List (Key × V)) (acc zs : List Str), kvs.map (·.1) = acc.map Sum.inr → more.map (·.1) = zs.map Sum.inr → (mergeK kvs more).map (·.1) = (once acc zs).map Sum.inr
  | [], kvs, acc, zs, h1, h2 => by
    cases zs with
    | nil => exact h1
    | cons z zs => cases h2
  | kv :: more, kvs, acc, zs, h1, h2 => by
    cases zs with
    | nil => cases h2
    | cons z zs =>
      rw [List.map_cons, List.map_cons] at h2
      injection h2 with h3 h4
      show (mergeK (putK kvs kv.1 kv.2) more).map (·.1) = (once (if z ∈ acc then acc else acc ++ [z]) zs).map Sum.inr
      refine merge_ks more _ _ zs ?_ h4
      have hb : (kvs.any fun p => decide (p.1 = kv.1)) = decide (z ∈ acc) := by
        have e1 : (kvs.any fun p => decide (p.1 = kv.1)) = (kvs.map (·.1)).any fun k => decide (k = kv.1) := by rw [List.any_map] <;> rfl
        rw [e1, h1, h3, List.any_map, Bool.eq_iff_iff, List.any_eq_true, decide_eq_true_iff]
        constructor
        · rintro ⟨y, hy, e⟩
          have e : (Sum.inr y : Key) = Sum.inr z := of_decide_eq_true e
          injection e with e
          rw [← e]; exact hy
        · exact fun hz => ⟨z, hz, decide_eq_true rfl⟩
      unfold putK
      rw [hb]
      by_cases hz : z ∈ acc
      · rw [decide_eq_true hz, if_pos rfl, if_pos hz, ← h1, List.map_map]
        apply List.map_congr_left
        intro p _
        show (if p.1 = kv.1 then (p.1, kv.2) else p).1 = p.1
        by_cases hp : p.1 = kv.1
        · rw [if_pos hp]
        · rw [if_neg hp]
      · rw [decide_eq_false hz, if_neg Bool.false_ne_true, if_neg hz, List.map_append, List.map_append, h1]
        show _ ++ [kv.1] = _ ++ [Sum.inr z]
        rw [h3]
theorem dqa_cons {H : Hp} {vs : List V} {d : PyData} {ds : List PyData} (h : DqAll K H vs (d :: ds)) : ∃ v ws, vs = v :: ws ∧ Dq K H v d ∧ DqAll K H ws ds := by
  cases h with
  | cons a b => exact ⟨_, _, rfl, a, b⟩
theorem dqa_nil {H : Hp} {vs : List V} (h : DqAll K H vs []) : vs = [] := by
  cases h
  rfl
theorem dq_str {H : Hp} {v : V} {z : Str} (h : Dq K H v (.str z)) : v = .str z := by
  cases h
  rfl
theorem dq_tup {H : Hp} {v : V} {ds : List PyData} (h : Dq K H v (.tuple ds)) : ∃ a xs, v = .ref a ∧ SqT K H a xs ∧ DqAll K H xs ds := by
  cases h with
  | tup a b => exact ⟨_, _, rfl, a, b⟩
theorem pairKs_cons {d : PyData} {ds : List PyData} {zs : List Str} (h : pairKs (d :: ds) = some zs) : ∃ z y zs', d = .tuple [.str z, y] ∧ pairKs ds = some zs' ∧ zs = z :: zs' := by
  unfold pairKs at h
  split at h
  · rename_i heq
    cases heq
  · rename_i z y ds' heq
    injection heq with e1 e2
    subst e1 e2
    cases e : pairKs ds with
    | none => rw [e] at h; cases h
    | some zs' =>
      rw [e] at h
      cases h
      exact ⟨z, y, zs', rfl, rfl, rfl⟩
  · cases h
theorem pairs_at {H : Hp} : ∀ (ds : List PyData) {vs : List V} {zs : List Str}, DqAll K H vs ds → pairKs ds = some zs → ∃ (ps : List Addr) (kvs : List (Key × V)), vs = ps.map V.ref ∧ Paired (fun p kv => SqT K H p [kV kv.1, kv.2]) ps kvs ∧ kvs.map (·.1) = zs.map Sum.inr := by
  intro ds
  induction ds with
  | nil =>
    intro vs zs h hk
    cases hk
    exact ⟨[], [], dqa_nil h, .nil, rfl⟩
  | cons d ds ih =>
    intro vs zs h hk
    obtain ⟨z, y, zs', rfl, hk', rfl⟩ := pairKs_cons hk
    obtain ⟨v, ws, rfl, h1, h2⟩ := dqa_cons h
    obtain ⟨a, xs, rfl, h3, h4⟩ := dq_tup h1
    obtain ⟨u1, xs, rfl, h5, h6⟩ := dqa_cons h4
    obtain ⟨u2, xs, rfl, h7, h8⟩ := dqa_cons h6
    have e8 := dqa_nil h8
    subst e8
    have e5 := dq_str h5
    subst e5
    obtain ⟨ps, kvs, rfl, e2, e3⟩ := ih h2 hk'
    refine ⟨a :: ps, (Sum.inr z, u2) :: kvs, rfl, .cons h3 e2, ?_⟩
    rw [List.map_cons, List.map_cons, e3]
def rDictP (K : PySem.W.Frag) : List V → Hp → VK → Prop := fun xs H Q => ∃ (a : Addr) (ps : List Addr) (kvs : List (Key × V)), xs = [.ref a] ∧ SqL K H a (ps.map V.ref) ∧ Paired (fun p kv => SqT K H p [kV kv.1, kv.2]) ps kvs ∧ ∀ p, H p = none → Q (.ref p) (upd H p (.dK (mergeK [] kvs)))
def rSortK : List V → Hp → VK → Prop := fun xs H Q => ∃ (a : Addr) (kvs : List (Key × V)) (ks : List Str), xs = [.ref a] ∧ Rd H a (.dK kvs) ∧ kvs.map (·.1) = ks.map Sum.inr ∧ ks.length < 64 ∧ ∀ ys p, ys.Perm ks → sortedS ys = true → H p = none → Q (.ref p) (upd H p (.lst (ys.map V.str)))
def rLenK : List V → Hp → VK → Prop := fun xs H Q => ∃ (a : Addr) (kvs : List (Key × V)), xs = [.ref a] ∧ Rd H a (.dK kvs) ∧ Q (.int (kvs.length : Nat)) H
theorem cr_lenK : CallR X (.builtin "len") rLenK := by
  intro pins s σ H xs us Q I r q
  obtain ⟨a, kvs, ex, hd, q⟩ := q
  subst ex
  obtain ⟨u, eu, rx⟩ := vals1 r
  subst eu
  cases rx
  exact d_len I hd fun t s' I' => ⟨.int (kvs.length : Nat), H, I', ⟨t, rfl⟩, q⟩
def tSeq1 (r2 r1 : List V → Hp → VK → Prop) (t : TA) : TE := tCB r2 (tCons (tCB r1 t) tNil)
def keysF : List Sl → Option (List Str)
  | [.d (.list ds)] => pairKs ds
  | _ => none
def sortDF (xs : List Sl) : Option Sl := match keysF xs with
  | some zs => if (once [] zs).length < 64 then some (.d (.list ((sortS (once [] zs)).map PyData.str))) else none
  | none => none
def lenDF (xs : List Sl) : Option Sl := match keysF xs with
  | some zs => some (.d (.int ((once [] zs).length : Nat)))
  | none => none
theorem dict_of {G : Hp} {B : Bs} {H : Hp} {t : Option Deal} {vs : List V} {xs : List Sl} {zs : List Str} {Q : VK} (w : Wd G B H t) (h : BwA K B H vs xs) (e : keysF xs = some zs)
    (q : ∀ (p : Addr) (kvs : List (Key × V)), H p = none → kvs.map (·.1) = (once [] zs).map Sum.inr → Q (.ref p) (upd H p (.dK kvs))) : rDictP K vs H Q := by
  unfold keysF at e
  split at e
  · rename_i ds
    match vs, h with
    | [v], h =>
      obtain ⟨a, ws, rfl, h1, r1⟩ := h.1.lst w
      obtain ⟨ps, kvs, rfl, e2, e3⟩ := pairs_at _ r1 e
      exact ⟨a, ps, kvs, rfl, SqL.of h1, L2.Paired.mapP e2 fun _ _ z => sqt_mono w.sub z, fun p np => q p _ np (merge_ks kvs [] [] zs rfl e3)⟩
  · cases e
theorem cbd_sortD : CbD K (fun vs H Q => rDictP K vs H fun v H' => rSortK [v] H' Q) sortDF := by
  intro G B H t vs xs z Q w h e q
  unfold sortDF at e
  split at e
  · rename_i zs ek
    split at e
    · rename_i hz
      cases e
      refine dict_of w h ek fun p kvs np hk => ⟨p, kvs, once [] zs, rfl, .inl upd_same, hk, hz, fun ys l hp hs hl => ?_⟩
      rw [sorted_is hp hs]
      exact new_list (w.lay np) hl (dpa_of_strs _) q
    · cases e
  · cases e
theorem cbd_lenD : CbD K (fun vs H Q => rDictP K vs H fun v H' => rLenK [v] H' Q) lenDF := by
  intro G B H t vs xs z Q w h e q
  unfold lenDF at e
  split at e
  · rename_i zs ek
    cases e
    refine dict_of w h ek fun p kvs np hk => ⟨p, kvs, rfl, .inl upd_same, ?_⟩
    have el : kvs.length = (once [] zs).length := by
      have := congrArg List.length hk
      simpa using this
    rw [el]
    exact q _ B _ (Bs.le.refl B) (w.lay np) (.int _)
  · cases e
end
end DL
end
section
set_option maxRecDepth 100000
set_option maxHeartbeats 400000
namespace DL
open PySem PySem.Spec PyProof.Rows L2
section
variable {X : Cx} {c : Cd} {e : Expr} {me : M Tk} {te : TE} {pos : Pos} {K : PySem.W.Frag}
/-- sorted(dict(e)) -/
theorem pd_sortD {p p2 q : Pos} {t : TA} {m : M (List Tk)} (hc : X.calm = true) (g1 : Gl X "sorted") (m1 : X.mg "sorted" = none) (g2 : Gl X "dict") (m2 : X.mg "dict" = none) (ha : PAD X c [e] t m)
    (na : starEach [e] X.env = (false, eval e X.env) :: starEach [] X.env := by rfl) (np : (backTo q (starEach [] X.env)).any (·.1) = false := by rfl)
    (na2 : starEach [Expr.Call (.Name "dict" p2) [e] [] q] X.env = (false, eval (Expr.Call (.Name "dict" p2) [e] [] q) X.env) :: starEach [] X.env := by rfl) (np2 : (backTo pos (starEach [] X.env)).any (·.1) = false := by rfl) :
    PED X c (.Call (.Name "sorted" p) [.Call (.Name "dict" p2) [e] [] q] [] pos) (tCB (fun vs H Q => rDictP X.K vs H fun v H' => rSortK [v] H' Q) t) (mCB sortDF m) := by
  refine ⟨⟨fun pins s σ H Q I h => ?_⟩, rf_cb cbd_sortD ha.k⟩
  exact (pe_callB (call_sortedD hc) g1 m1 PyProof.Rows.boot_sorted (pa_cons (pe_callTy (call_dictP hc) g2 m2 (by decide +kernel) ha.p (by decide) (by decide) na np) pa_nil) (by decide) (by decide) na2 np2).run pins s σ H Q I h
/-- len(dict(e)) -/
theorem pd_lenD {p p2 q : Pos} {t : TA} {m : M (List Tk)} (hc : X.calm = true) (g1 : Gl X "len") (m1 : X.mg "len" = none) (g2 : Gl X "dict") (m2 : X.mg "dict" = none) (ha : PAD X c [e] t m)
    (na : starEach [e] X.env = (false, eval e X.env) :: starEach [] X.env := by rfl) (np : (backTo q (starEach [] X.env)).any (·.1) = false := by rfl)
    (na2 : starEach [Expr.Call (.Name "dict" p2) [e] [] q] X.env = (false, eval (Expr.Call (.Name "dict" p2) [e] [] q) X.env) :: starEach [] X.env := by rfl) (np2 : (backTo pos (starEach [] X.env)).any (·.1) = false := by rfl) :
    PED X c (.Call (.Name "len" p) [.Call (.Name "dict" p2) [e] [] q] [] pos) (tCB (fun vs H Q => rDictP X.K vs H fun v H' => rLenK [v] H' Q) t) (mCB lenDF m) := by
  refine ⟨⟨fun pins s σ H Q I h => ?_⟩, rf_cb cbd_lenD ha.k⟩
  exact (pe_callB cr_lenK g1 m1 boot_len (pa_cons (pe_callTy (call_dictP hc) g2 m2 (by decide +kernel) ha.p (by decide) (by decide) na np) pa_nil) (by decide) (by decide) na2 np2).run pins s σ H Q I h
/-! ### str(i), text.split(text) -/
def strF : List Sl → Option Sl
  | [.d (.int i)] => if i.natAbs.log2 < 1920 then some (.d (.str (toString i))) else none
  | _ => none
def rStrI : List V → Hp → VK → Prop := fun xs H Q => ∃ i, xs = [.int i] ∧ i.natAbs.log2 < 1920 ∧ Q (.str (toString i)) H
theorem cbd_str : CbD K rStrI strF := by
  intro G B H t vs xs z Q w h e q
  unfold strF at e
  split at e
  · split at e
    · rename_i i hi
      cases e
      match vs, h with
      | [v], h =>
        cases h.1.int
        exact ⟨_, rfl, hi, q _ B H (Bs.le.refl B) w (.str _)⟩
    · cases e
  · cases e
theorem pd_str1 {p : Pos} {es : List Expr} {t : TA} {m : M (List Tk)} (hg : Gl X "str") (hm : X.mg "str" = none) (ha : PAD X c (e :: es) t m)
    (he : starEach (e :: es) X.env = (false, eval e X.env) :: starEach es X.env := by rfl) (hpl : (backTo pos (starEach es X.env)).any (·.1) = false := by rfl) : PED X c (.Call (.Name "str" p) (e :: es) [] pos) (tCB rStrI t) (mCB strF m) :=
  ⟨pe_callTy call_str_int hg hm (by decide +kernel) ha.p (by decide) (by decide) he hpl, rf_cb cbd_str ha.k⟩
end
end DL
end
section
set_option maxRecDepth 100000
set_option maxHeartbeats 400000
/-! # t[::-1], t a tuple -/
namespace HT
open PySem PySem.Spec PyProof.Rows
section
variable {prog : Program} {w : World} {A : Around} {E : Value → Shared → Prop} {s : Shared}
theorem back_places (n : Nat) : Builtin.Slice.slicePlaces ((n : Int) - 1) (-1) (-1) = n := by
  unfold Builtin.Slice.slicePlaces
  rw [if_neg (by decide)]
  by_cases h : (n : Int) - 1 > -1
  · rw [if_pos h]
    have : ((n : Int) - 1 - -1 - 1) / (- -1) = (n : Int) - 1 := by
      rw [Int.neg_neg, Int.ediv_one]
      omega
    rw [this]
    omega
  · rw [if_neg h]
    omega
theorem back_pick (xs : Array Value) : ((List.range xs.size).filterMap fun (m : Nat) => xs[((xs.size : Int) - 1 + (m : Int) * (-1)).toNat]?).toArray = xs.toList.reverse.toArray := by
  have e1 : (List.range xs.size).filterMap (fun (m : Nat) => xs[((xs.size : Int) - 1 + (m : Int) * (-1)).toNat]?) = ((List.range xs.size).map fun k => xs.size - 1 - k).filterMap (xs[·]?) := by
    rw [List.filterMap_map]
    congr 1
    funext m
    have : ((xs.size : Int) - 1 + (m : Int) * (-1)).toNat = xs.size - 1 - m := by omega
    rw [this]
    rfl
  rw [e1, PySem.W.krv_range, List.filterMap_reverse, PySem.W.krv_all]
theorem back_applied {sl : Addr} {n : Nat} {tk : Tok} {Q : Int × Int × Nat → Shared → Prop} {vl vu vs : Value} (hs : s.heap.IsSliceOf sl vl vu vs) (pl : IsPart vl none) (pu : IsPart vu none) (ps : IsPart vs (some (-1)))
    (h : Q ((n : Int) - 1, -1, n) s) : wpAny (model prog w) A (Builtin.Slice.sliceApplied (.ref sl) (pure (n : Int))) Q E s := by
  obtain ⟨os, hos, hcs, hds⟩ := id hs
  unfold Builtin.Slice.sliceApplied Builtin.Slice.sliceFields
  refine wpAny_bind (wpAny_bind (wpAny_field hos hds (x := vl) rfl (wpAny_bind (wpAny_field hos hds (x := vu) rfl (wpAny_bind (wpAny_field hos hds (x := vs) rfl (wpAny_pure ?_)))))))
  refine wpAny_bind (slicePart_ ps ?_)
  show wpAny _ _ (if ((-1 : Int) == 0) = true then _ else _) _ _ s
  rw [if_neg (show ¬ ((-1 : Int) == 0) = true by decide)]
  refine wpAny_bind (slicePart_ pl (wpAny_bind (slicePart_ pu (wpAny_bind (wpAny_pure ?_)))))
  show wpAny _ _ (pure ((n : Int) - 1, (-1 : Int), Builtin.Slice.slicePlaces ((n : Int) - 1) (-1) (-1))) _ _ s
  rw [back_places]
  exact wpAny_pure h
theorem getItem_tuple_back {t sl : Addr} {items : Array Value} {vl vu vs : Value} {Q : Value → Shared → Prop} (tk : Tok) (ht : IsTup s.heap t items) (hs : s.heap.IsSliceOf sl vl vu vs) (pl : IsPart vl none) (pu : IsPart vu none) (ps : IsPart vs (some (-1)))
    (h : Q (.ref s.heap.objs.size) { s with heap := s.heap.push { cls := .type "tuple", data := .seq items.toList.reverse.toArray } }) (hsz : items.size ≤ sizeLine) : wpAny (model prog w) A (getItem (.ref t) (.ref sl)) Q E s := by
  have fit : sizeOk (.seq items.toList.reverse.toArray) := by
    show items.toList.reverse.toArray.size ≤ sizeLine
    simpa using hsz
  obtain ⟨os, hos, hcs, hds⟩ := id hs
  have hT2 : s.TypeIs (.ref sl) "slice" := ⟨os, hos, hcs⟩
  unfold getItem
  try with_reducible refine wpAny_holding ?_
  first | refine wpAny_bind (wpAny_pure ?_) | skip
  refine wpAny_bind (wpAny_sequenceKey ht.typeIs (by decide) (wpAny_bind (wpAny_callSpecial?_slot (name := Str.ofString "__getitem__") ht.typeIs PyProof.Rows.slot_tuple_getitem
    (wpAny_call_entry PyProof.Rows.slot_tuple_getitem ht.typeIs entry_tuple_getitem ?_ (args_tuple_getitem _ _)))))
  show wpAny _ _ (Builtin.Tuple.tupleItemsOf (.ref t) >>= _) _ _ s
  refine wpAny_bind (tupleItemsOf_ ht (wpAny_bind (wpAny_typeOf hT2 ?_)))
  rw [if_pos (by decide)]
  refine wpAny_bind (back_applied (tk := tk) hs pl pu ps ?_)
  show wpAny _ _ (if (((items.size : Int) - 1) == 0 && (-1 : Int) == 1 && items.size == items.size) = true then _ else _) _ _ s
  rw [if_neg (by rw [show ((-1 : Int) == 1) = false by decide, Bool.and_false, Bool.false_and]; exact Bool.false_ne_true), back_pick]
  first
    | exact wpAny_bind (m := Builtin.Tuple.tupleExact _) (wpAny_newObj_type (wpAny_pure ⟨_, rfl, wpAny_pure h⟩) fit)
    | exact wpAny_bind (wpAny_bind (m := Builtin.Tuple.tupleExact _) (wpAny_newObj_type (wpAny_pure ⟨_, rfl, wpAny_pure h⟩) fit))
    | exact wpAny_bind (wpAny_bind (m := Builtin.Tuple.tupleExact _) (wpAny_newObj_type (wpAny_pure (wpAny_pure ⟨_, rfl, wpAny_pure h⟩)) fit))
    | exact wpAny_bind (m := Builtin.Tuple.tupleExact _) (wpAny_newObj_type (wpAny_bind (wpAny_pure (wpAny_pure ⟨_, rfl, wpAny_pure h⟩))) fit)
end
end HT
namespace L2
open PySem PySem.Spec PyProof.Rows
def tRevT (K : PySem.W.Frag) (te : TE) : TE := fun σ H Q => te σ H fun x H1 => ∃ a xs, x = .ref a ∧ SqT K H1 a xs ∧ ∀ p, H1 p = none → Q (.ref p) (upd H1 p (.tup xs.reverse))
theorem pe_revT {X : Cx} {e : Expr} {te : TE} {k : Nat} {p1 p2 p3 pos : Pos} (he : PE X e te) : PE X (.Subscript e (.Slice none none (some (.UnaryOp .USub (.Constant (.int 1) k p1) p2)) p3) pos) (tRevT X.K te) := by
  refine ⟨fun pins s σ H Q I h => Subscript_ (thn (he.run pins s σ H _ I h) fun v s1 hv => ?_)⟩
  obtain ⟨x, H1, I1, r1, a, xs, ex, hx, q⟩ := hv
  subst ex
  cases r1
  have hst : PO X (some (.UnaryOp .USub (.Constant (.int 1) k p1) p2)) (tPart (tUn (rU fun i => .int (-i)) (tC (.int 1)))) := po_some (pe_un un_neg pe_int)
  refine wpAny_Slice (thn (po_none.run pins s1 σ H1 (fun o H2 => o = none ∧ H2 = H1) I1 ⟨rfl, rfl⟩) fun vl s2 h2 => ?_)
  obtain ⟨l, H2, I2, pl, el, e2⟩ := h2
  subst el e2
  refine thn (po_none.run pins s2 σ H2 (fun o H3 => o = none ∧ H3 = H2) I2 ⟨rfl, rfl⟩) fun vu s3 h3 => ?_
  obtain ⟨u, H3, I3, pu, eu, e3⟩ := h3
  subst eu e3
  refine thn (hst.run pins s3 σ H3 (fun o H4 => o = some (-1) ∧ H4 = H3) I3 ⟨1, rfl, -1, rfl, rfl, rfl⟩) fun vs s4 h4 => ?_
  obtain ⟨o, H4, I4, ps, eo, e4⟩ := h4
  subst eo e4
  have I5 : Inv X pins σ H4 { s4 with heap := s4.heap.push { cls := .type "slice", data := .fields #[vl, vu, vs] } } := I4.kept (t' := s4.toks) fun b ob z => Heap.get?_push_of_some _ z
  obtain ⟨its, r, ht, hz⟩ := I5.tuple hx
  have hlen := r.length
  show wpAny (model X.prog X.w) X.A (subscriptTail e (.Slice none none (some (.UnaryOp .USub (.Constant (.int 1) k p1) p2)) p3) (.ref a) (.ref s4.heap.objs.size)) (EP X pins σ Q) X.xe { s4 with heap := s4.heap.push { cls := .type "slice", data := .fields #[vl, vu, vs] } }
  refine tail_any (ops := [.ref a, .ref s4.heap.objs.size]) ht.typeIs PyProof.Rows.slot_tuple_getitem.lookup ?_ (by with_unfolding_all rfl)
  refine HT.getItem_tuple_back (tk := 0) ht (Heap.IsSliceOf.new _ vl vu vs) pl pu ps ?_ (by rw [List.size_toArray]; omega)
  refine ⟨.ref _, _, I5.laid (t' := s4.toks) (o := .tup xs.reverse) (fun b ob z => Heap.get?_push_of_some _ z) (Nat.le_refl _) ?_, rfl, q _ (I5.hok.fresh (Nat.le_refl _))⟩
  exact ⟨by rw [List.length_reverse]; exact hz, _, r.reverse, IsTup.new _ _⟩
end L2
namespace DL
open PySem PySem.Spec PyProof.Rows L2
section
variable {X : Cx} {c : Cd} {e : Expr} {me : M Tk} {te : TE} {pos : Pos} {K : PySem.W.Frag}
def revTF : Sl → Option Sl
  | .d (.tuple ds) => some (.d (.tuple ds.reverse))
  | _ => none
def mRevT (m : M Tk) : M Tk := m.bind fun k => (use k).bind fun x => lft (revTF x)
theorem rf_revT (h : RfE K c te me) : RfE K c (tRevT K te) (mRevT me) := by
  intro G B H σ rr dl Q XP w s hx p
  unfold mRevT at p
  rw [post_bind] at p
  refine h G B H σ rr dl _ XP w s hx (post_mono p fun k r1 t1 p => fun v1 B1 H1 l1 w1 s1 v1a => ?_)
  rw [post_bind] at p
  obtain ⟨G', w', gg, _, back⟩ := Sls.push w1 s1
  obtain ⟨x, bx, p⟩ := use_ok s1 v1a p
  cases ef : revTF x with
  | none => rw [ef] at p; exact p.elim
  | some z =>
    rw [ef] at p
    unfold revTF at ef
    split at ef
    · cases ef
      obtain ⟨a, vs, rfl, h1, r1⟩ := bx.tup
      refine ⟨a, vs, rfl, sqt_mono w1.sub h1, fun q nq => ?_⟩
      refine new_tup (Q := Q) w' nq r1.rev fun v B' H' l w3 sv => ?_
      obtain ⟨w4, s4⟩ := back B' H' t1 l w3
      exact p v B' H' (l1.trans l) w4 s4 sv
    · cases ef
theorem pd_revT {k : Nat} {p1 p2 p3 : Pos} (h : PED X c e te me) : PED X c (.Subscript e (.Slice none none (some (.UnaryOp .USub (.Constant (.int 1) k p1) p2)) p3) pos) (tRevT X.K te) (mRevT me) := ⟨pe_revT h.p, rf_revT h.k⟩
end
end DL
end
section
set_option maxRecDepth 100000
set_option maxHeartbeats 1000000
/-! # Comprehensions of two clauses -/
namespace DL
open PySem PySem.Spec PyProof.Rows L2
section
variable {X : Cx} {c : Cd} {e : Expr} {me : M Tk} {te : TE} {tt tt1 : TT} {pos : Pos} {K : PySem.W.Frag}
theorem wipeR_wipeR {r : Rho} {vs us : List Nat} (h : ∀ i ∈ us, i ∈ vs) : wipeR (wipeR r us) vs = wipeR r vs := by
  apply List.ext_getElem?
  intro k
  by_cases q : k ∈ vs
  · have l1 : (wipeR (wipeR r us) vs).length = r.length := by rw [wipeR_len, wipeR_len]
    have l2 : (wipeR r vs).length = r.length := wipeR_len _ _
    cases e1 : (wipeR (wipeR r us) vs)[k]? with
    | none =>
      have := List.getElem?_eq_none_iff.mp e1
      exact (List.getElem?_eq_none (by omega)).symm
    | some o =>
      cases o with
      | some x => exact absurd e1 (wipeR_in q)
      | none =>
        cases e2 : (wipeR r vs)[k]? with
        | none =>
          have h1 := (List.getElem?_eq_some_iff.mp e1).1
          have h2 := List.getElem?_eq_none_iff.mp e2
          omega
        | some o =>
          cases o with
          | some x => exact absurd e2 (wipeR_in q)
          | none => rfl
  · rw [wipeR_out q, wipeR_out q, wipeR_out fun z => q (h k z)]
theorem wipe_sub {σ : L2.St} {vs us : List Nat} (h : ∀ i ∈ us, i ∈ vs) : L2.wipe (L2.wipe σ us) vs = L2.wipe σ vs :=
  wipe_chg (is := us) ⟨wipe_length σ us, fun j hj => wipe_out hj⟩ h
/-- one turn of the outer clause: what the inner one adds -/
def lc2One (vs : List Nat) (f : Sl → M Unit) (test : M Bool) (mi1 : M (List Sl)) (vs1 : List Nat) (f1 : Sl → M Unit) (test1 : M Bool) (elt : M Tk) (d : Sl) (acc : List PyData) : M (List PyData) :=
  (wipeM vs).bind fun _ => (f d).bind fun _ => test.bind fun b => if b then mi1.bind fun ds1 => lcL vs1 f1 test1 elt ds1 acc else M.ret acc
def lc2L (vs : List Nat) (f : Sl → M Unit) (test : M Bool) (mi1 : M (List Sl)) (vs1 : List Nat) (f1 : Sl → M Unit) (test1 : M Bool) (elt : M Tk) : List Sl → List PyData → M (List PyData)
  | [], acc => M.ret acc
  | d :: ds, acc => (lc2One vs f test mi1 vs1 f1 test1 elt d acc).bind (lc2L vs f test mi1 vs1 f1 test1 elt ds)
def mLc2 (mi : M (List Sl)) (vs : List Nat) (f : Sl → M Unit) (test : M Bool) (mi1 : M (List Sl)) (vs1 : List Nat) (f1 : Sl → M Unit) (test1 : M Bool) (elt : M Tk) : M (List PyData) :=
  mi.bind fun ds => inComp vs (lc2L vs f test mi1 vs1 f1 test1 elt ds [])
theorem rf_lc2 {wi wi1 : TI} {mi mi1 : M (List Sl)} {is is1 vs vs1 : List Nat} {g g1 : TG} {f f1 : Sl → M Unit} {test test1 : M Bool} {elt : M Tk} (hi : RfI K c wi mi) (hg : RfG K { c with E := E0 } is g f) (ht : RfT K { c with E := E0 } tt test)
    (hi1 : RfI K { c with E := E0 } wi1 mi1) (hg1 : RfG K { c with E := E0 } is1 g1 f1) (ht1 : RfT K { c with E := E0 } tt1 test1) (he : RfE K { c with E := E0 } te elt) (hv : ∀ i ∈ vs, i ∉ c.ow) (his : ∀ i ∈ is, i ∈ vs) (his1 : ∀ i ∈ is1, i ∈ vs1) (hvv : ∀ i ∈ vs1, i ∈ vs) :
    RfF K c (tLc2 wi g tt wi1 g1 tt1 te vs vs1) (mLc2 mi vs f test mi1 vs1 f1 test1 elt) := by
  intro G B H σ r t Q XP w s hx p
  unfold mLc2 at p
  rw [post_bind] at p
  refine hi G B H σ r t _ XP w s hx (post_mono p fun ds r1 tt1_ p => fun J B1 H1 l1 w1 s1 it => ?_)
  have nox : ∀ (G : Hp) (B2 : Bs), B.le B2 → XOk K c.ec G B2 E0 (fun _ _ _ => False) := fun G B2 l => ⟨l.b.trans hx.1, fun _ _ _ _ _ _ _ _ h => h.elim⟩
  have hv1 : ∀ i ∈ vs1, i ∉ c.ow := fun i hi => hv i (hvv i hi)
  intro D hD
  have p := inComp_post (XP' := fun _ _ _ => False) p
  let FIN : List PyData → Rho → Option Deal → Prop := fun xs r'' t'' => ∀ (p : Addr) (B2 : Bs) (H2 : Hp), B.le B2 → Wd G B2 H2 t'' → Sls K c.ow G B2 H2 σ (restR r1 (wipeR r'' vs) vs) → Fr K c.ow G B2 H2 σ (restR r1 (wipeR r'' vs) vs) p xs → Q (.ref p) H2
  let W : Nat → Nat → Hp → Prop := fun i m H' => m = ds.length - i ∧ i ≤ ds.length ∧ ∃ (B' : Bs) (r' : Rho) (t' : Option Deal) (acc : List V) (ac : List PyData), B1.le B' ∧ Wd (upd G D (.lst acc)) B' H' t' ∧ Sls K c.ow (upd G D (.lst acc)) B' H' (wipe σ vs) (wipeR r' vs) ∧ DqAll K B'.H acc ac ∧
    (lc2L vs f test mi1 vs1 f1 test1 elt (ds.drop i) ac r' t').post FIN (fun _ _ _ => False)
  have nG : G D = none := w1.ng hD
  have up : ∀ acc, ∀ a o, G a = some o → upd G D (.lst acc) a = some o := fun acc a o e => by
    rw [upd_ne (ne_of_none e nG)]; exact e
  refine ⟨W, ⟨ds.length, rfl.trans (by simp), Nat.zero_le _, B1, wipeR r1 vs, tt1_, [], [], Bs.le.refl B1, ?_, ?_, .nil, by simpa using p⟩, ?_⟩
  · exact (w1.lay hD).more upd_same (w1.nb hD) (w1.nd hD)
  · rw [wipeR_wipeR fun _ h => h]
    exact ((s1.wipe hv).lay hD).moreG ((s1.wipe hv).now hD)
  · rintro i m H' ⟨rfl, hle, B2, r2, tt2, acc, ac, l2, w2, s2, dq, q⟩
    have wD : H' D = some (.lst acc) ∧ B2.H D = none := w2.fgn D _ upd_same
    by_cases hlt : i < ds.length
    · obtain ⟨d, hd⟩ : ∃ d, ds[i]? = some d := ⟨ds[i], List.getElem?_eq_getElem hlt⟩
      have hdrop : ds.drop i = d :: ds.drop (i + 1) := by
        rw [List.drop_eq_getElem_cons hlt]
        congr 1
        rw [List.getElem?_eq_getElem hlt] at hd
        exact Option.some.inj hd
      rw [hdrop] at q
      unfold lc2L at q
      rw [post_bind] at q
      unfold lc2One at q
      rw [post_bind] at q
      have q : (((f d).bind fun _ => test.bind fun b => if b then mi1.bind fun ds1 => lcL vs1 f1 test1 elt ds1 ac else M.ret ac) (wipeR r2 vs) tt2).post _ _ := q
      rw [post_bind] at q
      obtain ⟨G', w2', gg, _, back⟩ := Sls.push w2 s2
      obtain ⟨_, hgo⟩ := it G' B2 H' tt2 l2 w2' i
      obtain ⟨go, hy⟩ := hgo d hd
      refine .inr ⟨go, fun H' => W (i + 1) (ds.length - (i + 1)) H', fun H' h => ⟨_, by omega, h⟩, fun x H3 yy => ?_⟩
      obtain ⟨B3, l3, w3', sv⟩ := hy x H3 yy
      obtain ⟨w3, s3⟩ := back B3 H3 tt2 l3 w3'
      refine hg (upd G D (.lst acc)) B3 H3 (wipe σ vs) (wipeR r2 vs) tt2 _ _ x d w3 s3 sv (post_mono q fun _ r4 tt4 q => fun σ4 B4 H4 l4 w4 s4 ch => ?_)
      have ew : wipe σ4 vs = wipe σ vs := by
        rw [wipe_chg ch his, wipe_wipe]
      refine ⟨ew, ?_⟩
      rw [post_bind] at q
      refine ht (upd G D (.lst acc)) B4 H4 σ4 r4 tt4 _ _ w4 s4 (nox _ _ (l1.trans ((l2.trans l3).trans l4))) (post_mono q fun b r5 tt5 q => fun B5 H5 l5 w5 s5 => ?_)
      have l25 := ((l2.trans l3).trans l4).trans l5
      cases b with
      | false =>
        rw [if_neg Bool.false_ne_true]
        have q : (lc2L vs f test mi1 vs1 f1 test1 elt (ds.drop (i + 1)) ac r5 tt5).post _ _ := q
        exact ⟨rfl, hlt, B5, r5, tt5, acc, ac, l25, w5, by rw [← ew]; exact s5.wipe hv, dpa_mono (((l3.trans l4).trans l5)).h dq, q⟩
      | true =>
        rw [if_pos rfl]
        have q : ((mi1.bind fun ds1 => lcL vs1 f1 test1 elt ds1 ac) r5 tt5).post _ _ := q
        rw [post_bind] at q
        refine hi1 (upd G D (.lst acc)) B5 H5 σ4 r5 tt5 _ _ w5 s5 (nox _ _ (l1.trans l25)) (post_mono q fun ds1 r6 tt6 q => fun J1 B6 H6 l6 w6 s6 it1 => ?_)
        have l26 := l25.trans l6
        have dq6 := dpa_mono (((l3.trans l4).trans l5).trans l6).h dq
        let W1 : Nat → Nat → Hp → Prop := fun j k H' => k = ds1.length - j ∧ j ≤ ds1.length ∧ ∃ (B' : Bs) (r' : Rho) (t' : Option Deal) (acc : List V) (ac : List PyData), B6.le B' ∧ Wd (upd G D (.lst acc)) B' H' t' ∧ Sls K c.ow (upd G D (.lst acc)) B' H' (wipe σ4 vs1) (wipeR r' vs1) ∧ DqAll K B'.H acc ac ∧
          (lcL vs1 f1 test1 elt (ds1.drop j) ac r' t').post (fun xs r'' t'' => (lc2L vs f test mi1 vs1 f1 test1 elt (ds.drop (i + 1)) xs r'' t'').post FIN (fun _ _ _ => False)) (fun _ _ _ => False)
        refine ⟨W1, ⟨ds1.length, rfl.trans (by simp), Nat.zero_le _, B6, r6, tt6, acc, ac, Bs.le.refl B6, w6, s6.wipe hv1, dq6, by simpa using q⟩, ?_⟩
        rintro j k H7 ⟨rfl, hle1, B7, r7, tt7, acc7, ac7, l7, w7, s7, dq7, q⟩
        by_cases hlt1 : j < ds1.length
        · obtain ⟨d1, hd1⟩ : ∃ d1, ds1[j]? = some d1 := ⟨ds1[j], List.getElem?_eq_getElem hlt1⟩
          have hdrop1 : ds1.drop j = d1 :: ds1.drop (j + 1) := by
            rw [List.drop_eq_getElem_cons hlt1]
            congr 1
            rw [List.getElem?_eq_getElem hlt1] at hd1
            exact Option.some.inj hd1
          rw [hdrop1] at q
          unfold lcL at q
          rw [post_bind] at q
          unfold lcOne at q
          rw [post_bind] at q
          have q : (((f1 d1).bind fun _ => test1.bind fun b => if b then elt.bind fun k => (optM (dataOf k)).bind fun x => M.ret (some x) else M.ret none) (wipeR r7 vs1) tt7).post _ _ := q
          rw [post_bind] at q
          obtain ⟨G7, w7', gg7, _, back7⟩ := Sls.push w7 s7
          obtain ⟨_, hgo1⟩ := it1 G7 B7 H7 tt7 l7 w7' j
          obtain ⟨go1, hy1⟩ := hgo1 d1 hd1
          refine .inr ⟨go1, fun H' => W1 (j + 1) (ds1.length - (j + 1)) H', fun H' h => ⟨_, by omega, h⟩, fun x1 H8 yy1 => ?_⟩
          obtain ⟨B8, l8, w8', sv1⟩ := hy1 x1 H8 yy1
          obtain ⟨w8, s8⟩ := back7 B8 H8 tt7 l8 w8'
          refine hg1 (upd G D (.lst acc7)) B8 H8 (wipe σ4 vs1) (wipeR r7 vs1) tt7 _ _ x1 d1 w8 s8 sv1 (post_mono q fun _ r9 tt9 q => fun σ9 B9 H9 l9 w9 s9 ch9 => ?_)
          have ew9 : wipe σ9 vs1 = wipe σ4 vs1 := by
            rw [wipe_chg ch9 his1, wipe_wipe]
          refine ⟨ew9, ?_⟩
          rw [post_bind] at q
          have l79 := (l7.trans l8).trans l9
          refine ht1 (upd G D (.lst acc7)) B9 H9 σ9 r9 tt9 _ _ w9 s9 (nox _ _ (l1.trans (l26.trans l79))) (post_mono q fun b ra tta q => fun Ba Ha la wa sa => ?_)
          have l7a := l79.trans la
          cases b with
          | false =>
            rw [if_neg Bool.false_ne_true]
            have q : (lcL vs1 f1 test1 elt (ds1.drop (j + 1)) ac7 ra tta).post _ _ := q
            exact ⟨rfl, hlt1, Ba, ra, tta, acc7, ac7, l7a, wa, by rw [← ew9]; exact sa.wipe hv1, dpa_mono ((l8.trans l9).trans la).h dq7, q⟩
          | true =>
            rw [if_pos rfl]
            have q : ((elt.bind fun k => (optM (dataOf k)).bind fun x => M.ret (some x)) ra tta).post _ _ := q
            rw [post_bind] at q
            refine he (upd G D (.lst acc7)) Ba Ha σ9 ra tta _ _ wa sa (nox _ _ (l1.trans (l26.trans l7a))) (post_mono q fun k rb ttb q => fun v Bb Hb lb wb sb vk => ?_)
            rw [post_bind] at q
            obtain ⟨y, ey, q⟩ := optM_ok q
            have dv : Dq K Bb.H v y := by
              unfold dataOf at ey
              split at ey
              · cases ey; exact vk
              · cases ey
            have q : (lcPut ac7 (lcL vs1 f1 test1 elt (ds1.drop (j + 1))) (some y) rb ttb).post _ _ := q
            unfold lcPut at q
            by_cases hz : ac7.length < 16777216
            · simp only at q
              rw [if_pos hz] at q
              obtain ⟨eD, bD⟩ := wb.fgn D _ upd_same
              have dqb := dpa_mono (((l8.trans l9).trans la).trans lb).h dq7
              refine ⟨acc7, eD, size_lt (by rw [dq7.len]; exact hz), rfl, hlt1, Bb, rb, ttb, acc7 ++ [v], ac7 ++ [y], l7a.trans lb, ?_, ?_, dqb.app (.cons dv .nil), q⟩
              · have wg := wb.less (up acc7)
                exact (wg.chg eD bD nG (wb.ndg (p := D) upd_same)).more upd_same bD (wb.ndg (p := D) upd_same)
              · rw [← ew9]
                have no := sb.nowG (p := D) upd_same
                exact (((sb.lessG (up acc7)).chgN no).moreG no).wipe hv1
            · simp only at q
              rw [if_neg hz] at q
              exact q.elim
        · have e1 : j = ds1.length := by omega
          subst e1
          rw [List.drop_length] at q
          obtain ⟨hstop1, _⟩ := it1 (upd G D (.lst acc7)) B7 H7 tt7 l7 w7 ds1.length
          refine .inl ⟨hstop1 (Nat.le_refl _), rfl, hlt, B7, r7, tt7, acc7, ac7, l26.trans l7, w7, ?_, dq7, q⟩
          have := s7.wipe hv
          rw [wipe_sub hvv, wipeR_wipeR hvv, ew] at this
          exact this
    · have e : i = ds.length := by omega
      subst e
      rw [List.drop_length] at q
      obtain ⟨hstop, _⟩ := it (upd G D (.lst acc)) B2 H' tt2 l2 w2 ds.length
      refine .inl ⟨hstop (Nat.le_refl _), ?_⟩
      have q : (M.ret ac r2 tt2 : Out (List PyData)).post _ _ := q
      have s2' := s2.lessG (up acc)
      have sf := Sls.restI s1 l2 s2' hv
      have noW := s2.nowG (p := D) upd_same
      have noD : NOw c.ow σ (restR r1 (wipeR r2 vs) vs) D := fun k hk hl => by
        have hkv : k ∉ vs := fun z => hv k z hk
        unfold Live at hl
        rw [restR_out hkv] at hl
        have := noW k hk hl
        rw [wipe_out hkv] at this
        exact this
      exact q D B2 H' (l1.trans l2) (w2.less (up acc)) sf ⟨⟨acc, wD.1, dq⟩, wD.2, nG, w2.ndg (p := D) upd_same, noD⟩
theorem pfd_lc2 {elt tg iter tg1 iter1 : Expr} {ifs ifs1 : List Expr} {scope : Scope} {own : List (Str × Nat)} {vs1 : List Nat} {wi wi1 : TI} {mi mi1 : M (List Sl)} {is is1 : List Nat} {g g1 : TG} {f f1 : Sl → M Unit} {test test1 : M Bool} (hc : X.calm = true) (hN : X.N.Nodup) (hi : PID X c tg iter wi mi) (ok : BlkOk X.N X.env.scope scope own)
    (hg : ∀ s H C cl fp, PGD (Blk X scope s H C cl fp) c.calm tg is g f) (ht : ∀ s H C cl fp, PTsD (Blk X scope s H C cl fp) c.calm ifs tt test)
    (hi1 : ∀ s H C cl fp, PID (Blk X scope s H C cl fp) c.calm tg1 iter1 wi1 mi1) (hg1 : ∀ s H C cl fp, PGD (Blk X scope s H C cl fp) c.calm tg1 is1 g1 f1) (ht1 : ∀ s H C cl fp, PTsD (Blk X scope s H C cl fp) c.calm ifs1 tt1 test1)
    (he : ∀ s H C cl fp, PED (Blk X scope s H C cl fp) c.calm elt te me)
    (hv : ∀ i ∈ own.map (·.2), i ∉ c.ow) (his : ∀ i ∈ is, i ∈ own.map (·.2)) (his1 : ∀ i ∈ is1, i ∈ vs1) (hvv : ∀ i ∈ vs1, i ∈ own.map (·.2)) (hs : ∀ x, foldedSetIterable iter X.env x = pure x := by intro _; rfl) (hs1 : ∀ env x, foldedSetIterable iter1 env x = pure x := by intro _ _; rfl) :
    PFD X c (.ListComp elt [⟨tg, iter, ifs, 0⟩, ⟨tg1, iter1, ifs1, 0⟩] scope pos) (tLc2 wi g tt wi1 g1 tt1 te (own.map (·.2)) vs1) (mLc2 mi (own.map (·.2)) f test mi1 vs1 f1 test1 me) :=
  ⟨pe_lc2 hc hN hi.p ok hvv (fun s H C cl fp => (hg s H C cl fp).p) (fun s H C cl fp => (ht s H C cl fp).p) (fun s H C cl fp => (hi1 s H C cl fp).p) (fun s H C cl fp => (hg1 s H C cl fp).p) (fun s H C cl fp => (ht1 s H C cl fp).p) (fun s H C cl fp => (he s H C cl fp).p) hs hs1,
    rf_lc2 hi.k (hg X.s_0 X.H_0 0 [] []).k (ht X.s_0 X.H_0 0 [] []).k (hi1 X.s_0 X.H_0 0 [] []).k (hg1 X.s_0 X.H_0 0 [] []).k (ht1 X.s_0 X.H_0 0 [] []).k (he X.s_0 X.H_0 0 [] []).k hv his his1 hvv⟩
end
end DL
end
section
set_option maxRecDepth 100000
set_option maxHeartbeats 1000000
/-! # Methods of texts -/
namespace DL
open PySem PySem.Spec PyProof.Rows L2
section
variable {X : Cx} {c : Cd} {a b e : Expr} {ma mb : M Tk} {ta tb te : TE} {pos : Pos} {K : PySem.W.Frag}
def strOf : Sl → Option Str
  | .d (.str z) => some z
  | _ => none
theorem Bw.ofStr {G : Hp} {B : Bs} {H : Hp} {v : V} {x : Sl} {z : Str} (h : Bw K B H v x) (e : strOf x = some z) : v = .str z := by
  unfold strOf at e
  split at e
  · cases e
    exact h.str
  · cases e
/-- z.method(w), both texts: the result is told by f -/
def mM1 (f : Str → Str → Option Sl) (ma mb : M Tk) : M Tk := ma.bind fun k => (use k).bind fun x => (optM (strOf x)).bind fun z => mb.bind fun k2 => (use k2).bind fun y => (optM (strOf y)).bind fun u => lft (f z u)
def rM1 (r : Str → Str → Hp → VK → Prop) : V → List V → Hp → VK → Prop := fun x xs H Q => ∃ a b, x = .str a ∧ xs = [.str b] ∧ r a b H Q
theorem rf_m1 {r : V → List V → Hp → VK → Prop} {f : Str → Str → Option Sl} (ho : ∀ (G : Hp) (B : Bs) (H : Hp) (t : Option Deal) (z u : Str) (o : Sl) (Q : VK), Wd G B H t → f z u = some o → (∀ (v : V) (B' : Bs) (H' : Hp), B.le B' → Wd G B' H' t → Sv K B' v o → Q v H') → r (.str z) [.str u] H Q)
    (ha : RfE K c ta ma) (hb : RfE K c tb mb) : RfE K c (tM1 r ta tb) (mM1 f ma mb) := by
  intro G B H σ rr dl Q XP w s hx p
  unfold mM1 at p
  rw [post_bind] at p
  refine ha G B H σ rr dl _ XP w s hx (post_mono p fun k r1 t1 p => fun v1 B1 H1 l1 w1 s1 v1a => ?_)
  rw [post_bind] at p
  obtain ⟨x, bx, p⟩ := use_ok s1 v1a p
  rw [post_bind] at p
  obtain ⟨z, ez, p⟩ := optM_ok p
  have e1 := Bw.ofStr (G := G) bx ez
  subst e1
  refine ⟨⟨z, rfl⟩, ?_⟩
  rw [post_bind] at p
  refine hb G B1 H1 σ r1 t1 _ XP w1 s1 (hx.mono l1) (post_mono p fun k2 r2 t2 p => fun v2 B2 H2 l2 w2 s2 v2a => ?_)
  rw [post_bind] at p
  obtain ⟨G', w', gg, _, back⟩ := Sls.push w2 s2
  obtain ⟨y, by_, p⟩ := use_ok s2 v2a p
  rw [post_bind] at p
  obtain ⟨u, eu, p⟩ := optM_ok p
  have e2 := Bw.ofStr (G := G) by_ eu
  subst e2
  cases ef : f z u with
  | none => rw [ef] at p; exact p.elim
  | some o =>
    rw [ef] at p
    refine ho G' B2 H2 t2 z u o Q w' ef fun v B' H' l w3 sv => ?_
    obtain ⟨w4, s4⟩ := back B' H' t2 l w3
    exact p v B' H' ((l1.trans l2).trans l) w4 s4 sv
def splitF (z u : Str) : Option Sl := if (u.length == 0) = false ∧ z.length + 2 ≤ 16777216 then some (.d (.list ((Txt.split z u).map PyData.str))) else none
def rSplit1 : V → List V → Hp → VK → Prop := fun x xs H Q => ∃ a b, x = .str a ∧ xs = [.str b] ∧ (b.length == 0) = false ∧ a.length + 2 ≤ sizeLine ∧ rNewStrs (Txt.split a b) H Q
theorem pd_split {p : Pos} (ha : PED X c a ta ma) (hb : PED X c b tb mb) (hs : starEach [b] X.env = [(false, eval b X.env)] := by rfl) (hbase : attributeBase a "split" X.env (eval a X.env) = eval a X.env := by rfl) (hline : (p.endLine == pos.line) = true := by rfl) :
    PED X c (.Call (.Attribute a "split" p) [b] [] pos) (tM1 rSplit1 ta tb) (mM1 splitF ma mb) := by
  refine ⟨pe_m1 PySem.F.slot_str_split PySem.F.type_str_split mt_split ha.p hb.p hs hbase hline, rf_m1 ?_ ha.k hb.k⟩
  intro G B H t z u o Q w e q
  unfold splitF at e
  split at e
  · rename_i h
    cases e
    exact ⟨z, u, rfl, rfl, h.1, size_ok h.2, fun l hl => new_list w hl (dpa_of_strs _) q⟩
  · cases e
end
end DL
end
section
set_option maxRecDepth 100000
set_option maxHeartbeats 4000000
namespace DL
open PySem PySem.Spec PyProof.Rows L2
section
variable {X : Cx} {c : Cd} {pos : Pos}
theorem pd_negc {i : Int} {j : Nat} {p : Pos} : PED X c (.UnaryOp .USub (.Constant (.int i) j p) pos) (tUn (rU fun i => .int (-i)) (tC (.int i))) (mK (.d (.int (-i)))) :=
  ⟨pe_un un_neg pe_int, fun G B H σ r t Q XP w s _ p => ⟨i, rfl, p (.int (-i)) B H (Bs.le.refl B) w s (.int (-i))⟩⟩
theorem pd_globI {x : Str} {i : Int} (hg : Gl X x) (h : ∃ t, X.mg x = some (.int i t)) (hdb : (x == ("__debug__" : Str)) = false := by decide) : PED X c (.Name x pos) (tC (.int i)) (mK (.d (.int i))) := by
  obtain ⟨t, h⟩ := h
  exact pd_glob hg h ⟨t, rfl⟩ (fun _ => .int i) hdb
theorem pd_globS {x z : Str} (hg : Gl X x) (h : ∃ t, X.mg x = some (.str z t)) (hdb : (x == ("__debug__" : Str)) = false := by decide) : PED X c (.Name x pos) (tC (.str z)) (mK (.d (.str z))) := by
  obtain ⟨t, h⟩ := h
  exact pd_glob hg h ⟨t, rfl⟩ (fun _ => .str z) hdb
theorem pd_globT {x : Str} {a : Addr} {ds : List PyData} (hg : Gl X x) (hm : X.mg x = some (.ref a)) (hd : ∀ H, Dq X.K H (.ref a) (.tuple ds)) (hdb : (x == ("__debug__" : Str)) = false := by decide) : PED X c (.Name x pos) (tC (.ref a)) (mK (.d (.tuple ds))) :=
  pd_glob hg hm rfl hd hdb
def blkB (N : List Str) (sc scope : Scope) (own : List (Str × Nat)) : Bool :=
  decide (scope.kind = .function) && ((scope.names.all fun y => decide (scope.names.lookup y.1 = some y.2)) && ((own.all fun p => decide (N[p.2]? = some p.1)) && ((scope.names.all fun y => !decide (y.2 = .free) || (decide (sc.names.lookup y.1 = some .cell) || decide (sc.names.lookup y.1 = some .free))) &&
    (scope.names.all fun y => !(decide (y.2 = .local) || decide (y.2 = .cell)) || (decide (y.1 ∈ own.map (·.1)) || decide (y.1 ∉ N))))))
theorem blk_of {N : List Str} {sc scope : Scope} {own : List (Str × Nat)} (h : blkB N sc scope own = true) : BlkOk N sc scope own := by
  unfold blkB at h
  simp only [Bool.and_eq_true, Bool.or_eq_true, Bool.not_eq_true', decide_eq_true_eq, decide_eq_false_iff_not, List.all_eq_true] at h
  obtain ⟨h1, h2, h3, h4, h5⟩ := h
  refine ⟨h1, h2, h3, fun y hy e => ?_, fun y hy e => ?_⟩
  · rcases h4 y hy with z | z
    · exact absurd e z
    · exact z
  · rcases h5 y hy with z | z
    · rw [Bool.or_eq_false_iff, decide_eq_false_iff_not, decide_eq_false_iff_not] at z
      rcases e with e | e
      · exact absurd e z.1
      · exact absurd e z.2
    · exact z
theorem hu_of {k : Nat} {A : Around} (r : Room k A) : A.units + 64 < cLine := by have := r.un; omega
end
end DL
end
section
set_option maxRecDepth 100000
set_option maxHeartbeats 4000000
namespace K01
open PySem PySem.Spec PyProof.Rows L2 DL ErrX
def top (i : Nat) : Stmt := PySem.Challenge.pw_heldshares_k01_whole_kinds.main.body.getD i (.Pass ⟨0, 0, 0, 0⟩)
def wordsL : List Str := (["num", "name", "add", "sub", "mul", "div", "mod", "less", "same", "not", "at", "has", "int", "own", "may", "read", "edit", "skip", "let", "new", "drop", "set", "take", "put", "swap", "move", "test", "then", "else", "end", "look", "as", "in", "if", "while", "do", "row", "call", "both", "and", "proc", "tells", "with", "kind", "module", "needs", "none", "thing", "copy", "load", "store", "lend", "give", "jump", "fork", "meet", "back", "mark", "code", "face"] : List String).map Str.ofString
def wordsD : List PyData := wordsL.map PyData.str
/-- what the text has written -/
structure Txt (P : Program) (K : PySem.W.Frag) (mg : Str → Option Value) (ec : Ec) : Prop where
  b_len : mg "len" = none
  b_all : mg "all" = none
  b_abs : mg "abs" = none
  b_int : mg "int" = none
  b_bool : mg "bool" = none
  b_str : mg "str" = none
  b_tuple : mg "tuple" = none
  b_list : mg "list" = none
  b_range : mg "range" = none
  b_zip : mg "zip" = none
  b_isinstance : mg "isinstance" = none
  b_set : mg "set" = none
  b_dict : mg "dict" = none
  b_sorted : mg "sorted" = none
  c_MOST_SIGNS : ∃ t, mg "MOST_SIGNS" = some (.int 12 t)
  c_MOST_KINDS : ∃ t, mg "MOST_KINDS" = some (.int 40 t)
  c_MOST_FIELDS : ∃ t, mg "MOST_FIELDS" = some (.int 12 t)
  c_LETTERS : ∃ t, mg "LETTERS" = some (.str "abcdefghijklmnopqrstuvwxyz" t)
  c_DIGITS : ∃ t, mg "DIGITS" = some (.str "0123456789" t)
  c_WORDS : ∃ a, mg "WORDS" = some (.ref a) ∧ ∀ H, Dq K H (.ref a) (.tuple wordsD)
  e_InvalidKind : ∃ C, ec.f "InvalidKind" = some C ∧ ErrTxt P K mg "InvalidKind" C
  e_InvalidQuestion : ∃ C, ec.f "InvalidQuestion" = some C ∧ ErrTxt P K mg "InvalidQuestion" C
  e_InvalidValue : ∃ C, ec.f "InvalidValue" = some C ∧ ErrTxt P K mg "InvalidValue" C
  e_Refused : ∃ C, ec.f "Refused" = some C ∧ ErrTxt P K mg "Refused" C
section
variable {P : Program} {w : World} {K : PySem.W.Frag} {mg : Str → Option Value} {base : Heap} {ec : Ec}

abbrev s_is_name : Stmt := top 11
abbrev N_is_name : List Str := ["value", "sign"]
theorem sc_is_name : FnScope N_is_name ["value"] (defScope s_is_name) := ⟨rfl, rfl, rfl, by decide +kernel, rfl, by decide +kernel, by decide +kernel⟩
noncomputable def m_is_name : M Fl := (mSeq (mIfS (mOr (mNot (mTru (mCB isiF (mCons (mVar [] 0) (mCons (mK (.raw (.ty "str"))) mNil))))) (mOr (mNot (mT (mChain leF leF (mK (.d (.int 1))) (mCB lenF (mCons (mVar [] 0) mNil)) (mK (.d (.int 12)))))) (mT (mOp (inF false) (mVar [] 0) (mK (.d (.tuple wordsD))))))) (mRet (mK (.d (.bool false)))) mNx) (mRet (mAndV (mOp (inF false) (mOp atF (mVar [] 0) (mK (.d (.int 0)))) (mK (.d (.str "abcdefghijklmnopqrstuvwxyz")))) (mCB allF (mCons (mFz (mLc (mIter (mVar [] 0)) [1] (aName 1) (M.ret true) (mOrV (mOp (inF false) (mVar [] 1) (mK (.d (.str "abcdefghijklmnopqrstuvwxyz")))) (mOp (inF false) (mVar [] 1) (mK (.d (.str "0123456789"))))))) mNil)))))
theorem ok_is_name {f : Addr} {fd : FuncData} (T : Txt P K mg ec) (F : FnP K "is_name" s_is_name f fd) : FnOk P w K mg base (L2.CX P w) 1 f fd ["value"] (spD K ec 1 (fnM 2 (m_is_name))) :=
  okD (ow := []) F sc_is_name (by decide) fun cdv A outer s H E hr => ⟨_, (psd_cons (psd_if (ptd_w (pwd_or (ptd_not (ptd_tru (pd_isi (by exact rfl) T.b_isinstance (pad_cons (pd_var 0) (pad_cons (pd_blt (v := .ty "str") (by exact rfl) T.b_str (by decide +kernel) rfl) pad_nil))))) (pwd_or (ptd_not (ptd_chain opd_cmp opd_cmp pd_int (pd_len (by exact rfl) T.b_len (pad_cons (pd_var 0) pad_nil)) (pd_globI rfl T.c_MOST_SIGNS) (fun h1 h2 h3 => pt_chain op_le op_le h1 h2 h3))) (pwd_or1 (ptd_in (pd_var 0) (pd_globT rfl T.c_WORDS.choose_spec.1 T.c_WORDS.choose_spec.2)))))) (psd_one (psd_ret pd_bl)) psd_nil) (psd_one (psd_ret (pd_and (pd_in (pd_at (pd_var 0) pd_int) (pd_globS rfl T.c_LETTERS)) (pd_one (pd_all (by exact rfl) (by exact rfl) T.b_all (pad_cons (pd_fz (pfd_lc rfl sc_is_name.nd (g := (gName 1)) (tt := tYes) (te := (tOrV (tOp (rInA K false) (tVar 1) (tC (.str "abcdefghijklmnopqrstuvwxyz"))) (tOp (rInA K false) (tVar 1) (tC (.str "0123456789"))))) (pid_any (pd_var 0)) (own := [("sign", 1)]) (blk_of (by kernel_rfl)) (fun _ _ _ _ _ => (pgd_name (i := 1) (show 1 ∉ ([] : List Nat) by decide) sc_is_name.nd rfl (Or.inl rfl))) (fun _ _ _ _ _ => ptsd_nil) (fun _ _ _ _ _ => (pd_or (pd_in (pd_var 1) (pd_globS rfl T.c_LETTERS)) (pd_one (pd_in (pd_var 1) (pd_globS rfl T.c_DIGITS))))) (show ∀ i ∈ ([1] : List Nat), i ∉ ([] : List Nat) by decide) (show ∀ i ∈ ([1] : List Nat), i ∈ ([1] : List Nat) by decide))) pad_nil)))))))⟩
abbrev s_are_ascending : Stmt := top 12
abbrev N_are_ascending : List Str := ["names", "one", "other"]
theorem sc_are_ascending : FnScope N_are_ascending ["names"] (defScope s_are_ascending) := ⟨rfl, rfl, rfl, by decide +kernel, rfl, by decide +kernel, by decide +kernel⟩
noncomputable def m_are_ascending : M Fl := (mRet (mCB allF (mCons (mFz (mLc (mZip (mCons (mVar [] 0) (mCons (mSl (mVar [] 0) (mPart (mK (.d (.int 1)))) mNoP) mNil))) [1, 2] (aTup 2 (aCons (aName 1) (aCons (aName 2) aNil))) (M.ret true) (mOp ltF (mVar [] 1) (mVar [] 2)))) mNil)))
theorem ok_are_ascending {f : Addr} {fd : FuncData} (T : Txt P K mg ec) (F : FnP K "are_ascending" s_are_ascending f fd) : FnOk P w K mg base (L2.CX P w) 1 f fd ["names"] (spD K ec 1 (fnM 3 (m_are_ascending))) :=
  okD (ow := []) F sc_are_ascending (by decide) fun cdv A outer s H E hr => ⟨_, (psd_one (psd_ret (pd_all (by exact rfl) (by exact rfl) T.b_all (pad_cons (pd_fz (pfd_lc rfl sc_are_ascending.nd (g := (gTup K 2 (gCons (gName 1) (gCons (gName 2) gNil)))) (tt := tYes) (te := (tOp rLtA (tVar 1) (tVar 2))) (pid_zip (by exact rfl) T.b_zip (pad_cons (pd_var 0) (pad_cons (pd_sl (pd_var 0) (pod_some pd_int) pod_none) pad_nil))) (own := [("one", 1), ("other", 2)]) (blk_of (by kernel_rfl)) (fun _ _ _ _ _ => (pgd_tup (pgsd_cons (pgd_name (i := 1) (show 1 ∉ ([] : List Nat) by decide) sc_are_ascending.nd rfl (Or.inl rfl)) (pgsd_cons (pgd_name (i := 2) (show 2 ∉ ([] : List Nat) by decide) sc_are_ascending.nd rfl (Or.inl rfl)) pgsd_nil (fun h1 h2 => pgs_cons h1 h2)) (fun h1 h2 => pgs_cons h1 h2)) (fun h => pg_tup rfl h))) (fun _ _ _ _ _ => ptsd_nil) (fun _ _ _ _ _ => (pd_lt (pd_var 1) (pd_var 2))) (show ∀ i ∈ ([1, 2] : List Nat), i ∉ ([] : List Nat) by decide) (show ∀ i ∈ ([1, 2] : List Nat), i ∈ ([1, 2] : List Nat) by decide))) pad_nil))))⟩
abbrev s_are_unlike : Stmt := top 13
abbrev N_are_unlike : List Str := ["names"]
theorem sc_are_unlike : FnScope N_are_unlike ["names"] (defScope s_are_unlike) := ⟨rfl, rfl, rfl, by decide +kernel, rfl, by decide +kernel, by decide +kernel⟩
noncomputable def m_are_unlike : M Fl := (mRet (mOp eqF (mU1 lenSetF (mVar [] 0)) (mCB lenF (mCons (mVar [] 0) mNil))))
theorem ok_are_unlike {f : Addr} {fd : FuncData} (T : Txt P K mg ec) (F : FnP K "are_unlike" s_are_unlike f fd) : FnOk P w K mg base (L2.CX P w) 1 f fd ["names"] (spD K ec 1 (fnM 1 (m_are_unlike))) :=
  okD (ow := []) F sc_are_unlike (by decide) fun cdv A outer s H E hr => ⟨_, (psd_one (psd_ret (pd_eq (hu_of hr) (pd_lenSet rfl (by exact rfl) T.b_len (by exact rfl) T.b_set (pd_var 0)) (pd_len (by exact rfl) T.b_len (pad_cons (pd_var 0) pad_nil)))))⟩
abbrev s_is_type : Stmt := top 17
abbrev N_is_type : List Str := ["value"]
theorem sc_is_type : FnScope N_is_type ["value"] (defScope s_is_type) := ⟨rfl, rfl, rfl, by decide +kernel, rfl, by decide +kernel, by decide +kernel⟩
noncomputable def m_is_type (F_is_name : FM) : M Fl := (mRet (mAndV (mCB isiF (mCons (mVar [] 0) (mCons (mK (.raw (.ty "str"))) mNil))) (mOrV (mOp eqF (mVar [] 0) (mK (.d (.str "int")))) (mCall 1 F_is_name (mCons (mVar [] 0) mNil)))))
theorem ok_is_type {f : Addr} {fd : FuncData} (T : Txt P K mg ec) {F_is_name : FM} {f_is_name : Addr} {d_is_name : FuncData} (C_is_name : Cal P w K mg base ec "is_name" 1 ["value"] F_is_name f_is_name d_is_name) (F : FnP K "is_type" s_is_type f fd) : FnOk P w K mg base (L2.CX P w) 2 f fd ["value"] (spD K ec 1 (fnM 1 (m_is_type F_is_name))) :=
  okD (ow := []) F sc_is_type (by decide) fun cdv A outer s H E hr => ⟨_, (psd_one (psd_ret (pd_and (pd_isi (by exact rfl) T.b_isinstance (pad_cons (pd_var 0) (pad_cons (pd_blt (v := .ty "str") (by exact rfl) T.b_str (by decide +kernel) rfl) pad_nil))) (pd_one (pd_or (pd_eq (hu_of hr) (pd_var 0) pd_str) (pd_one (pd_callC C_is_name hr (by decide) (by exact rfl) passD (pad_cons (pd_var 0) pad_nil))))))))⟩
abbrev s_is_field : Stmt := top 18
abbrev N_is_field : List Str := ["value"]
theorem sc_is_field : FnScope N_is_field ["value"] (defScope s_is_field) := ⟨rfl, rfl, rfl, by decide +kernel, rfl, by decide +kernel, by decide +kernel⟩
noncomputable def m_is_field (F_is_name : FM) (F_is_type : FM) : M Fl := (mRet (mAndV (mCB isiF (mCons (mVar [] 0) (mCons (mK (.raw (.ty "tuple"))) mNil))) (mAndV (mOp eqF (mCB lenF (mCons (mVar [] 0) mNil)) (mK (.d (.int 2)))) (mAndV (mCall 1 F_is_name (mCons (mOp atF (mVar [] 0) (mK (.d (.int 0)))) mNil)) (mCall 1 F_is_type (mCons (mOp atF (mVar [] 0) (mK (.d (.int 1)))) mNil))))))
theorem ok_is_field {f : Addr} {fd : FuncData} (T : Txt P K mg ec) {F_is_name : FM} {f_is_name : Addr} {d_is_name : FuncData} (C_is_name : Cal P w K mg base ec "is_name" 1 ["value"] F_is_name f_is_name d_is_name) {F_is_type : FM} {f_is_type : Addr} {d_is_type : FuncData} (C_is_type : Cal P w K mg base ec "is_type" 2 ["value"] F_is_type f_is_type d_is_type) (F : FnP K "is_field" s_is_field f fd) : FnOk P w K mg base (L2.CX P w) 3 f fd ["value"] (spD K ec 1 (fnM 1 (m_is_field F_is_name F_is_type))) :=
  okD (ow := []) F sc_is_field (by decide) fun cdv A outer s H E hr => ⟨_, (psd_one (psd_ret (pd_and (pd_isi (by exact rfl) T.b_isinstance (pad_cons (pd_var 0) (pad_cons (pd_blt (v := .ty "tuple") (by exact rfl) T.b_tuple (by decide +kernel) rfl) pad_nil))) (pd_and (pd_eq (hu_of hr) (pd_len (by exact rfl) T.b_len (pad_cons (pd_var 0) pad_nil)) pd_int) (pd_and (pd_callC C_is_name hr (by decide) (by exact rfl) passD (pad_cons (pd_at (pd_var 0) pd_int) pad_nil)) (pd_one (pd_callC C_is_type hr (by decide) (by exact rfl) passD (pad_cons (pd_at (pd_var 0) pd_int) pad_nil))))))))⟩
abbrev s_is_kind : Stmt := top 19
abbrev N_is_kind : List Str := ["value", "fields", "one"]
theorem sc_is_kind : FnScope N_is_kind ["value"] (defScope s_is_kind) := ⟨rfl, rfl, rfl, by decide +kernel, rfl, by decide +kernel, by decide +kernel⟩
noncomputable def m_is_kind (F_is_name : FM) (F_is_field : FM) (F_are_unlike : FM) : M Fl := (mSeq (mIfS (mOr (mNot (mTru (mCB isiF (mCons (mVar [] 0) (mCons (mK (.raw (.ty "tuple"))) mNil))))) (mOr (mT (mOp neF (mCB lenF (mCons (mVar [] 0) mNil)) (mK (.d (.int 3))))) (mOr (mT (mOp neF (mOp atF (mVar [] 0) (mK (.d (.int 0)))) (mK (.d (.str "kind"))))) (mNot (mTru (mCall 1 F_is_name (mCons (mOp atF (mVar [] 0) (mK (.d (.int 1)))) mNil))))))) (mRet (mK (.d (.bool false)))) mNx) (mSeq (mAsg (aName 1) (mOp atF (mVar [] 0) (mK (.d (.int 2))))) (mSeq (mIfS (mOr (mNot (mTru (mCB isiF (mCons (mVar [] 1) (mCons (mK (.raw (.ty "tuple"))) mNil))))) (mOr (mT (mOp gtF (mCB lenF (mCons (mVar [] 1) mNil)) (mK (.d (.int 12))))) (mNot (mTru (mCB allF (mCons (mFz (mLc (mIter (mVar [] 1)) [2] (aName 2) (M.ret true) (mCall 1 F_is_field (mCons (mVar [] 2) mNil)))) mNil)))))) (mRet (mK (.d (.bool false)))) mNx) (mRet (mCall 1 F_are_unlike (mCons (mFz (mLc (mIter (mVar [] 1)) [2] (aName 2) (M.ret true) (mOp atF (mVar [] 2) (mK (.d (.int 0)))))) mNil))))))
theorem ok_is_kind {f : Addr} {fd : FuncData} (T : Txt P K mg ec) {F_is_name : FM} {f_is_name : Addr} {d_is_name : FuncData} (C_is_name : Cal P w K mg base ec "is_name" 1 ["value"] F_is_name f_is_name d_is_name) {F_is_field : FM} {f_is_field : Addr} {d_is_field : FuncData} (C_is_field : Cal P w K mg base ec "is_field" 3 ["value"] F_is_field f_is_field d_is_field) {F_are_unlike : FM} {f_are_unlike : Addr} {d_are_unlike : FuncData} (C_are_unlike : Cal P w K mg base ec "are_unlike" 1 ["names"] F_are_unlike f_are_unlike d_are_unlike) (F : FnP K "is_kind" s_is_kind f fd) : FnOk P w K mg base (L2.CX P w) 4 f fd ["value"] (spD K ec 1 (fnM 3 (m_is_kind F_is_name F_is_field F_are_unlike))) :=
  okD (ow := []) F sc_is_kind (by decide) fun cdv A outer s H E hr => ⟨_, (psd_cons (psd_if (ptd_w (pwd_or (ptd_not (ptd_tru (pd_isi (by exact rfl) T.b_isinstance (pad_cons (pd_var 0) (pad_cons (pd_blt (v := .ty "tuple") (by exact rfl) T.b_tuple (by decide +kernel) rfl) pad_nil))))) (pwd_or (ptd_ne (hu_of hr) (pd_len (by exact rfl) T.b_len (pad_cons (pd_var 0) pad_nil)) pd_int) (pwd_or (ptd_ne (hu_of hr) (pd_at (pd_var 0) pd_int) pd_str) (pwd_or1 (ptd_not (ptd_tru (pd_callC C_is_name hr (by decide) (by exact rfl) passD (pad_cons (pd_at (pd_var 0) pd_int) pad_nil))))))))) (psd_one (psd_ret pd_bl)) psd_nil) (psd_cons (psd_set (i := 1) (show 1 ∉ ([] : List Nat) by decide) (pd_at (pd_var 0) pd_int) (fun h => ps_set sc_is_kind.nd rfl (Or.inl rfl) h)) (psd_cons (psd_if (ptd_w (pwd_or (ptd_not (ptd_tru (pd_isi (by exact rfl) T.b_isinstance (pad_cons (pd_var 1) (pad_cons (pd_blt (v := .ty "tuple") (by exact rfl) T.b_tuple (by decide +kernel) rfl) pad_nil))))) (pwd_or (ptd_gt (pd_len (by exact rfl) T.b_len (pad_cons (pd_var 1) pad_nil)) (pd_globI rfl T.c_MOST_FIELDS)) (pwd_or1 (ptd_not (ptd_tru (pd_all (by exact rfl) (by exact rfl) T.b_all (pad_cons (pd_fz (pfd_lc rfl sc_is_kind.nd (g := (gName 2)) (tt := tYes) (te := (tCall (spD K ec 1 F_is_field) [] L2.E0 (tCons (tVar 2) tNil))) (pid_any (pd_var 1)) (own := [("one", 2)]) (blk_of (by kernel_rfl)) (fun _ _ _ _ _ => (pgd_name (i := 2) (show 2 ∉ ([] : List Nat) by decide) sc_is_kind.nd rfl (Or.inl rfl))) (fun _ _ _ _ _ => ptsd_nil) (fun _ _ _ _ _ => (pd_callC C_is_field hr (by decide) (by exact rfl) L2.passL (pad_cons (pd_var 2) pad_nil))) (show ∀ i ∈ ([2] : List Nat), i ∉ ([] : List Nat) by decide) (show ∀ i ∈ ([2] : List Nat), i ∈ ([2] : List Nat) by decide))) pad_nil)))))))) (psd_one (psd_ret pd_bl)) psd_nil) (psd_one (psd_ret (pd_callC C_are_unlike hr (by decide) (by exact rfl) passD (pad_cons (pd_fz (pfd_lc rfl sc_is_kind.nd (g := (gName 2)) (tt := tYes) (te := (tOp (rAtA K) (tVar 2) (tC (.int 0)))) (pid_any (pd_var 1)) (own := [("one", 2)]) (blk_of (by kernel_rfl)) (fun _ _ _ _ _ => (pgd_name (i := 2) (show 2 ∉ ([] : List Nat) by decide) sc_is_kind.nd rfl (Or.inl rfl))) (fun _ _ _ _ _ => ptsd_nil) (fun _ _ _ _ _ => (pd_at (pd_var 2) pd_int)) (show ∀ i ∈ ([2] : List Nat), i ∉ ([] : List Nat) by decide) (show ∀ i ∈ ([2] : List Nat), i ∈ ([2] : List Nat) by decide))) pad_nil)))))))⟩
abbrev s_are_kinds : Stmt := top 20
abbrev N_are_kinds : List Str := ["value", "names", "one", "field"]
theorem sc_are_kinds : FnScope N_are_kinds ["value"] (defScope s_are_kinds) := ⟨rfl, rfl, rfl, by decide +kernel, rfl, by decide +kernel, by decide +kernel⟩
noncomputable def m_are_kinds (F_is_kind : FM) (F_are_ascending : FM) : M Fl := (mSeq (mIfS (mOr (mNot (mTru (mCB isiF (mCons (mVar [] 0) (mCons (mK (.raw (.ty "tuple"))) mNil))))) (mOr (mT (mOp gtF (mCB lenF (mCons (mVar [] 0) mNil)) (mK (.d (.int 40))))) (mNot (mTru (mCB allF (mCons (mFz (mLc (mIter (mVar [] 0)) [2] (aName 2) (M.ret true) (mCall 1 F_is_kind (mCons (mVar [] 2) mNil)))) mNil)))))) (mRet (mK (.d (.bool false)))) mNx) (mSeq (mAsg (aName 1) (mFz (mLc (mIter (mVar [] 0)) [2] (aName 2) (M.ret true) (mOp atF (mVar [] 2) (mK (.d (.int 1))))))) (mRet (mAndV (mCall 1 F_are_ascending (mCons (mVar [] 1) mNil)) (mCB allF (mCons (mFz (mLc2 (mIter (mVar [] 0)) [2, 3] (aName 2) (M.ret true) (mIter (mOp atF (mVar [] 2) (mK (.d (.int 2))))) [3] (aName 3) (M.ret true) (mOp (inF false) (mOp atF (mVar [] 3) (mK (.d (.int 1)))) (mOp addF (mVar [] 1) (mFz (mLst (mCons (mK (.d (.str "int"))) mNil))))))) mNil))))))
theorem ok_are_kinds {f : Addr} {fd : FuncData} (T : Txt P K mg ec) {F_is_kind : FM} {f_is_kind : Addr} {d_is_kind : FuncData} (C_is_kind : Cal P w K mg base ec "is_kind" 4 ["value"] F_is_kind f_is_kind d_is_kind) {F_are_ascending : FM} {f_are_ascending : Addr} {d_are_ascending : FuncData} (C_are_ascending : Cal P w K mg base ec "are_ascending" 1 ["names"] F_are_ascending f_are_ascending d_are_ascending) (F : FnP K "are_kinds" s_are_kinds f fd) : FnOk P w K mg base (L2.CX P w) 5 f fd ["value"] (spD K ec 1 (fnM 4 (m_are_kinds F_is_kind F_are_ascending))) :=
  okD (ow := []) F sc_are_kinds (by decide) fun cdv A outer s H E hr => ⟨_, (psd_cons (psd_if (ptd_w (pwd_or (ptd_not (ptd_tru (pd_isi (by exact rfl) T.b_isinstance (pad_cons (pd_var 0) (pad_cons (pd_blt (v := .ty "tuple") (by exact rfl) T.b_tuple (by decide +kernel) rfl) pad_nil))))) (pwd_or (ptd_gt (pd_len (by exact rfl) T.b_len (pad_cons (pd_var 0) pad_nil)) (pd_globI rfl T.c_MOST_KINDS)) (pwd_or1 (ptd_not (ptd_tru (pd_all (by exact rfl) (by exact rfl) T.b_all (pad_cons (pd_fz (pfd_lc rfl sc_are_kinds.nd (g := (gName 2)) (tt := tYes) (te := (tCall (spD K ec 1 F_is_kind) [] L2.E0 (tCons (tVar 2) tNil))) (pid_any (pd_var 0)) (own := [("one", 2)]) (blk_of (by kernel_rfl)) (fun _ _ _ _ _ => (pgd_name (i := 2) (show 2 ∉ ([] : List Nat) by decide) sc_are_kinds.nd rfl (Or.inl rfl))) (fun _ _ _ _ _ => ptsd_nil) (fun _ _ _ _ _ => (pd_callC C_is_kind hr (by decide) (by exact rfl) L2.passL (pad_cons (pd_var 2) pad_nil))) (show ∀ i ∈ ([2] : List Nat), i ∉ ([] : List Nat) by decide) (show ∀ i ∈ ([2] : List Nat), i ∈ ([2] : List Nat) by decide))) pad_nil)))))))) (psd_one (psd_ret pd_bl)) psd_nil) (psd_cons (psd_set (i := 1) (show 1 ∉ ([] : List Nat) by decide) (pd_fz (pfd_lc rfl sc_are_kinds.nd (g := (gName 2)) (tt := tYes) (te := (tOp (rAtA K) (tVar 2) (tC (.int 1)))) (pid_any (pd_var 0)) (own := [("one", 2)]) (blk_of (by kernel_rfl)) (fun _ _ _ _ _ => (pgd_name (i := 2) (show 2 ∉ ([] : List Nat) by decide) sc_are_kinds.nd rfl (Or.inl rfl))) (fun _ _ _ _ _ => ptsd_nil) (fun _ _ _ _ _ => (pd_at (pd_var 2) pd_int)) (show ∀ i ∈ ([2] : List Nat), i ∉ ([] : List Nat) by decide) (show ∀ i ∈ ([2] : List Nat), i ∈ ([2] : List Nat) by decide))) (fun h => ps_set sc_are_kinds.nd rfl (Or.inr rfl) h)) (psd_one (psd_ret (pd_and (pd_callC C_are_ascending hr (by decide) (by exact rfl) passD (pad_cons (pd_var 1) pad_nil)) (pd_one (pd_all (by exact rfl) (by exact rfl) T.b_all (pad_cons (pd_fz (pfd_lc2 rfl sc_are_kinds.nd (g := (gName 2)) (g1 := (gName 3)) (tt := tYes) (tt1 := tYes) (wi1 := (iAny K (tOp (rAtA K) (tVar 2) (tC (.int 2))))) (te := (tOp (rInA K false) (tOp (rAtA K) (tVar 3) (tC (.int 1))) (tOp (rAddA K) (tVar 1) (tLst (tCons (tC (.str "int")) tNil))))) (vs1 := [3]) (pid_any (pd_var 0)) (own := [("one", 2), ("field", 3)]) (blk_of (by kernel_rfl)) (fun _ _ _ _ _ => (pgd_name (i := 2) (show 2 ∉ ([] : List Nat) by decide) sc_are_kinds.nd rfl (Or.inl rfl))) (fun _ _ _ _ _ => ptsd_nil) (fun _ _ _ _ _ => (pid_any (pd_at (pd_var 2) pd_int))) (fun _ _ _ _ _ => (pgd_name (i := 3) (show 3 ∉ ([] : List Nat) by decide) sc_are_kinds.nd rfl (Or.inl rfl))) (fun _ _ _ _ _ => ptsd_nil) (fun _ _ _ _ _ => (pd_in (pd_at (pd_var 3) pd_int) (pd_add (pd_var 1) (pd_fz (pf_lst (pad_cons pd_str pad_nil)))))) (show ∀ i ∈ ([2, 3] : List Nat), i ∉ ([] : List Nat) by decide) (show ∀ i ∈ ([2] : List Nat), i ∈ ([2, 3] : List Nat) by decide) (show ∀ i ∈ ([3] : List Nat), i ∈ ([3] : List Nat) by decide) (show ∀ i ∈ ([3] : List Nat), i ∈ ([2, 3] : List Nat) by decide))) pad_nil))))))))⟩
abbrev s_checked_kinds : Stmt := top 21
abbrev N_checked_kinds : List Str := ["kinds"]
theorem sc_checked_kinds : FnScope N_checked_kinds ["kinds"] (defScope s_checked_kinds) := ⟨rfl, rfl, rfl, by decide +kernel, rfl, by decide +kernel, by decide +kernel⟩
noncomputable def m_checked_kinds (F_are_kinds : FM) : M Fl := (mIfS (mNot (mTru (mCall 1 F_are_kinds (mCons (mVar [] 0) mNil)))) (mRaise "InvalidKind" (mCons (mK (.d (.int 0))) mNil)) mNx)
theorem ok_checked_kinds {f : Addr} {fd : FuncData} (T : Txt P K mg ec) {F_are_kinds : FM} {f_are_kinds : Addr} {d_are_kinds : FuncData} (C_are_kinds : Cal P w K mg base ec "are_kinds" 5 ["value"] F_are_kinds f_are_kinds d_are_kinds) (F : FnP K "checked_kinds" s_checked_kinds f fd) : FnOk P w K mg base (L2.CX P w) 6 f fd ["kinds"] (spD K ec 1 (fnM 1 (m_checked_kinds F_are_kinds))) :=
  okD (ow := []) F sc_checked_kinds (by decide) fun cdv A outer s H E hr => ⟨_, (psd_one (psd_if (ptd_not (ptd_tru (pd_callC C_are_kinds hr (by decide) (by exact rfl) passD (pad_cons (pd_var 0) pad_nil)))) (psd_one (psd_raise rfl takesD T.e_InvalidKind.choose_spec.1 (pad_cons pd_int pad_nil) (fun h => pmk_err T.e_InvalidKind.choose_spec.2 hr h rfl))) psd_nil))⟩
abbrev s_kind_named : Stmt := top 22
abbrev N_kind_named : List Str := ["kinds", "name", "kind"]
theorem sc_kind_named : FnScope N_kind_named ["kinds", "name"] (defScope s_kind_named) := ⟨rfl, rfl, rfl, by decide +kernel, rfl, by decide +kernel, by decide +kernel⟩
noncomputable def m_kind_named : M Fl := (mSeq (mFor (mIter (mVar [] 0)) (aName 2) (mIfS (mT (mOp eqF (mOp atF (mVar [] 2) (mK (.d (.int 1)))) (mVar [] 1))) (mRet (mVar [] 2)) mNx)) (mRet (mK (.d .none))))
theorem ok_kind_named {f : Addr} {fd : FuncData} (T : Txt P K mg ec) (F : FnP K "kind_named" s_kind_named f fd) : FnOk P w K mg base (L2.CX P w) 1 f fd ["kinds", "name"] (spD K ec 2 (fnM 3 (m_kind_named))) :=
  okD (ow := []) F sc_kind_named (by decide) fun cdv A outer s H E hr => ⟨_, (psd_cons (psd_for ownD rfl (pid_any (pd_var 0)) (pgd_name (i := 2) (show 2 ∉ ([] : List Nat) by decide) sc_kind_named.nd rfl (Or.inl rfl)) (psd_one (psd_if (ptd_eq (hu_of hr) (pd_at (pd_var 2) pd_int) (pd_var 1)) (psd_one (psd_ret (pd_var 2))) psd_nil))) (psd_one (psd_ret pd_non)))⟩
abbrev s_checked_kind_name : Stmt := top 23
abbrev N_checked_kind_name : List Str := ["kinds", "name", "at", "found"]
theorem sc_checked_kind_name : FnScope N_checked_kind_name ["kinds", "name", "at"] (defScope s_checked_kind_name) := ⟨rfl, rfl, rfl, by decide +kernel, rfl, by decide +kernel, by decide +kernel⟩
noncomputable def m_checked_kind_name (F_is_name : FM) (F_kind_named : FM) : M Fl := (mSeq (mAsg (aName 3) (mIfE (mTru (mCall 1 F_is_name (mCons (mVar [] 1) mNil))) (mCall 2 F_kind_named (mCons (mVar [] 0) (mCons (mVar [] 1) mNil))) (mK (.d .none)))) (mSeq (mIfS (mT (mOp (isF false) (mVar [] 3) (mK (.d .none)))) (mRaise "InvalidQuestion" (mCons (mVar [] 2) mNil)) mNx) (mRet (mVar [] 3))))
theorem ok_checked_kind_name {f : Addr} {fd : FuncData} (T : Txt P K mg ec) {F_is_name : FM} {f_is_name : Addr} {d_is_name : FuncData} (C_is_name : Cal P w K mg base ec "is_name" 1 ["value"] F_is_name f_is_name d_is_name) {F_kind_named : FM} {f_kind_named : Addr} {d_kind_named : FuncData} (C_kind_named : Cal P w K mg base ec "kind_named" 1 ["kinds", "name"] F_kind_named f_kind_named d_kind_named) (F : FnP K "checked_kind_name" s_checked_kind_name f fd) : FnOk P w K mg base (L2.CX P w) 2 f fd ["kinds", "name", "at"] (spD K ec 3 (fnM 4 (m_checked_kind_name F_is_name F_kind_named))) :=
  okD (ow := []) F sc_checked_kind_name (by decide) fun cdv A outer s H E hr => ⟨_, (psd_cons (psd_set (i := 3) (show 3 ∉ ([] : List Nat) by decide) (pd_ifE (ptd_tru (pd_callC C_is_name hr (by decide) (by exact rfl) passD (pad_cons (pd_var 1) pad_nil))) (pd_callC C_kind_named hr (by decide) (by exact rfl) passD (pad_cons (pd_var 0) (pad_cons (pd_var 1) pad_nil))) pd_non) (fun h => ps_set sc_checked_kind_name.nd rfl (Or.inl rfl) h)) (psd_cons (psd_if (ptd_is (pd_var 3) pd_non) (psd_one (psd_raise rfl takesD T.e_InvalidQuestion.choose_spec.1 (pad_cons (pd_var 2) pad_nil) (fun h => pmk_err T.e_InvalidQuestion.choose_spec.2 hr h rfl))) psd_nil) (psd_one (psd_ret (pd_var 3)))))⟩
abbrev s_fields_of : Stmt := top 24
abbrev N_fields_of : List Str := ["kinds", "name"]
theorem sc_fields_of : FnScope N_fields_of ["kinds", "name"] (defScope s_fields_of) := ⟨rfl, rfl, rfl, by decide +kernel, rfl, by decide +kernel, by decide +kernel⟩
noncomputable def m_fields_of (F_checked_kinds : FM) (F_checked_kind_name : FM) : M Fl := (mSeq (mDrop (mCall 1 F_checked_kinds (mCons (mVar [] 0) mNil))) (mRet (mOp atF (mCall 3 F_checked_kind_name (mCons (mVar [] 0) (mCons (mVar [] 1) (mCons (mK (.d (.int 1))) mNil)))) (mK (.d (.int 2))))))
theorem ok_fields_of {f : Addr} {fd : FuncData} (T : Txt P K mg ec) {F_checked_kinds : FM} {f_checked_kinds : Addr} {d_checked_kinds : FuncData} (C_checked_kinds : Cal P w K mg base ec "checked_kinds" 6 ["kinds"] F_checked_kinds f_checked_kinds d_checked_kinds) {F_checked_kind_name : FM} {f_checked_kind_name : Addr} {d_checked_kind_name : FuncData} (C_checked_kind_name : Cal P w K mg base ec "checked_kind_name" 2 ["kinds", "name", "at"] F_checked_kind_name f_checked_kind_name d_checked_kind_name) (F : FnP K "fields_of" s_fields_of f fd) : FnOk P w K mg base (L2.CX P w) 7 f fd ["kinds", "name"] (spD K ec 2 (fnM 2 (m_fields_of F_checked_kinds F_checked_kind_name))) :=
  okD (ow := []) F sc_fields_of (by decide) fun cdv A outer s H E hr => ⟨_, (psd_cons (psd_expr (pd_callC C_checked_kinds hr (by decide) (by exact rfl) passD (pad_cons (pd_var 0) pad_nil))) (psd_one (psd_ret (pd_at (pd_callC C_checked_kind_name hr (by decide) (by exact rfl) passD (pad_cons (pd_var 0) (pad_cons (pd_var 1) (pad_cons pd_int pad_nil)))) pd_int))))⟩
abbrev s_within_kinds : Stmt := top 25
abbrev N_within_kinds : List Str := ["kinds", "name", "waiting", "found", "field", "told"]
theorem sc_within_kinds : FnScope N_within_kinds ["kinds", "name"] (defScope s_within_kinds) := ⟨rfl, rfl, rfl, by decide +kernel, rfl, by decide +kernel, by decide +kernel⟩
noncomputable def m_within_kinds (F_checked_kinds : FM) (F_checked_kind_name : FM) (F_kind_named : FM) : M Fl := (mSeq (mDrop (mCall 1 F_checked_kinds (mCons (mVar [2, 3] 0) mNil))) (mSeq (mParOO 2 3 (mLst (mCons (mCall 3 F_checked_kind_name (mCons (mVar [2, 3] 0) (mCons (mVar [2, 3] 1) (mCons (mK (.d (.int 1))) mNil)))) mNil)) (mLst mNil)) (mSeq (mWhile (mT (mOp neF (mVar [2, 3] 2) (mFz (mLst mNil)))) (mFor (mIter (mOp atF (mPop 2) (mK (.d (.int 2))))) (aTup 2 (aCons (aName 4) (aCons (aName 5) aNil))) (mIfS (mAnd (mT (mOp neF (mVar [2, 3] 5) (mK (.d (.str "int"))))) (mT (mOp (inF true) (mVar [2, 3] 5) (mVar [2, 3] 3)))) (mSeq (mDrop (has 3 (mAppend 3 (mCons (mVar [2, 3] 5) mNil)))) (mDrop (has 2 (mAppend 2 (mCons (mCall 2 F_kind_named (mCons (mVar [2, 3] 0) (mCons (mVar [2, 3] 5) mNil))) mNil))))) mNx))) (mRet (mCB tupF (mCons (mCB sortF (mCons (mVar [2, 3] 3) mNil)) mNil))))))
theorem ok_within_kinds {f : Addr} {fd : FuncData} (T : Txt P K mg ec) {F_checked_kinds : FM} {f_checked_kinds : Addr} {d_checked_kinds : FuncData} (C_checked_kinds : Cal P w K mg base ec "checked_kinds" 6 ["kinds"] F_checked_kinds f_checked_kinds d_checked_kinds) {F_checked_kind_name : FM} {f_checked_kind_name : Addr} {d_checked_kind_name : FuncData} (C_checked_kind_name : Cal P w K mg base ec "checked_kind_name" 2 ["kinds", "name", "at"] F_checked_kind_name f_checked_kind_name d_checked_kind_name) {F_kind_named : FM} {f_kind_named : Addr} {d_kind_named : FuncData} (C_kind_named : Cal P w K mg base ec "kind_named" 1 ["kinds", "name"] F_kind_named f_kind_named d_kind_named) (F : FnP K "within_kinds" s_within_kinds f fd) : FnOk P w K mg base (L2.CX P w) 7 f fd ["kinds", "name"] (spD K ec 2 (fnM 6 (m_within_kinds F_checked_kinds F_checked_kind_name F_kind_named))) :=
  okD (ow := [2, 3]) F sc_within_kinds (by decide) fun cdv A outer s H E hr => ⟨_, (psd_cons (psd_expr (pd_callC C_checked_kinds hr (by decide) (by exact rfl) passD (pad_cons (pd_var 0) pad_nil))) (psd_cons (psd_parOO (i := 2) (j := 3) (show 2 ∈ ([2, 3] : List Nat) by decide) (show 3 ∈ ([2, 3] : List Nat) by decide) (by decide) (pf_lst (pad_cons (pd_callC C_checked_kind_name hr (by decide) (by exact rfl) passD (pad_cons (pd_var 0) (pad_cons (pd_var 1) (pad_cons pd_int pad_nil)))) pad_nil)) (pf_lst pad_nil) (fun h1 h2 => ps_par rfl sc_within_kinds.nd rfl rfl (by decide) rfl rfl (pa_cons h1 (pa_cons h2 pa_nil)) rfl)) (psd_cons (psd_while ownD (ptd_ne (hu_of hr) (pd_var 2) (pd_fz (pf_lst pad_nil))) (psd_one (psd_for ownD rfl (pid_any (pd_at (pd_pop (i := 2) (show 2 ∈ ([2, 3] : List Nat) by decide) rfl (Or.inl rfl) (fun h1 => pe_bm0 PySem.F.plainAttrs_list PySem.F.slot_list_pop PySem.F.type_list_pop mt_pop h1)) pd_int)) (pgd_tup (pgsd_cons (pgd_name (i := 4) (show 4 ∉ ([2, 3] : List Nat) by decide) sc_within_kinds.nd rfl (Or.inl rfl)) (pgsd_cons (pgd_name (i := 5) (show 5 ∉ ([2, 3] : List Nat) by decide) sc_within_kinds.nd rfl (Or.inl rfl)) pgsd_nil (fun h1 h2 => pgs_cons h1 h2)) (fun h1 h2 => pgs_cons h1 h2)) (fun h => pg_tup rfl h)) (psd_one (psd_if (ptd_w (pwd_and (ptd_ne (hu_of hr) (pd_var 5) pd_str) (pwd_and1 (ptd_notin (pd_var 5) (pd_var 3))))) (psd_cons (psd_expr (pd_append (i := 3) (show 3 ∈ ([2, 3] : List Nat) by decide) rfl (Or.inl rfl) (pad_cons (pd_var 5) pad_nil) (fun h1 h2 => pe_bm PySem.F.plainAttrs_list PySem.F.slot_list_append PySem.F.type_list_append mt_append h1 h2))) (psd_one (psd_expr (pd_append (i := 2) (show 2 ∈ ([2, 3] : List Nat) by decide) rfl (Or.inl rfl) (pad_cons (pd_callC C_kind_named hr (by decide) (by exact rfl) passD (pad_cons (pd_var 0) (pad_cons (pd_var 5) pad_nil))) pad_nil) (fun h1 h2 => pe_bm PySem.F.plainAttrs_list PySem.F.slot_list_append PySem.F.type_list_append mt_append h1 h2))))) psd_nil))))) (psd_one (psd_ret (pd_tupc (by exact rfl) T.b_tuple (pad_cons (pd_sorted (by exact rfl) T.b_sorted (pad_cons (pd_var 3) pad_nil)) pad_nil)))))))⟩
abbrev s__law_of : Stmt := top 29
abbrev N__law_of : List Str := ["deal", "some"]
theorem sc__law_of : FnScope N__law_of ["deal", "some"] (defScope s__law_of) := ⟨rfl, rfl, rfl, by decide +kernel, rfl, by decide +kernel, by decide +kernel⟩
noncomputable def m__law_of (F__law_any : FM) : M Fl := (mRet (mOp atF (mVar [] 1) (mCall 2 F__law_any (mCons (mVar [] 0) (mCons (mCB lenF (mCons (mVar [] 1) mNil)) mNil)))))
theorem ok__law_of {f : Addr} {fd : FuncData} (T : Txt P K mg ec) {F__law_any : FM} {f__law_any : Addr} {d__law_any : FuncData} (C__law_any : Cal P w K mg base ec "_law_any" 1 ["deal", "bound"] F__law_any f__law_any d__law_any) (F : FnP K "_law_of" s__law_of f fd) : FnOk P w K mg base (L2.CX P w) 2 f fd ["deal", "some"] (spD K ec 2 (fnM 2 (m__law_of F__law_any))) :=
  okD (ow := []) F sc__law_of (by decide) fun cdv A outer s H E hr => ⟨_, (psd_one (psd_ret (pd_at (pd_var 1) (pd_callC C__law_any hr (by decide) (by exact rfl) passD (pad_cons (pd_var 0) (pad_cons (pd_len (by exact rfl) T.b_len (pad_cons (pd_var 1) pad_nil)) pad_nil))))))⟩
abbrev s__law_mixed : Stmt := top 30
abbrev N__law_mixed : List Str := ["deal", "some", "left", "found"]
theorem sc__law_mixed : FnScope N__law_mixed ["deal", "some"] (defScope s__law_mixed) := ⟨rfl, rfl, rfl, by decide +kernel, rfl, by decide +kernel, by decide +kernel⟩
noncomputable def m__law_mixed (F__law_any : FM) : M Fl := (mSeq (mParOO 2 3 (mCBF listF (mCons (mVar [2, 3] 1) mNil)) (mLst mNil)) (mSeq (mWhile (mT (mOp neF (mVar [2, 3] 2) (mFz (mLst mNil)))) (mDrop (has 3 (mAppend 3 (mCons (has 2 (mPopAt 2 (mCons (mCall 2 F__law_any (mCons (mVar [2, 3] 0) (mCons (mCB lenF (mCons (mVar [2, 3] 2) mNil)) mNil))) mNil))) mNil))))) (mRet (mVar [2, 3] 3))))
theorem ok__law_mixed {f : Addr} {fd : FuncData} (T : Txt P K mg ec) {F__law_any : FM} {f__law_any : Addr} {d__law_any : FuncData} (C__law_any : Cal P w K mg base ec "_law_any" 1 ["deal", "bound"] F__law_any f__law_any d__law_any) (F : FnP K "_law_mixed" s__law_mixed f fd) : FnOk P w K mg base (L2.CX P w) 2 f fd ["deal", "some"] (spD K ec 2 (fnM 4 (m__law_mixed F__law_any))) :=
  okD (ow := [2, 3]) F sc__law_mixed (by decide) fun cdv A outer s H E hr => ⟨_, (psd_cons (psd_parOO (i := 2) (j := 3) (show 2 ∈ ([2, 3] : List Nat) by decide) (show 3 ∈ ([2, 3] : List Nat) by decide) (by decide) (pf_list (by exact rfl) T.b_list (pad_cons (pd_var 1) pad_nil)) (pf_lst pad_nil) (fun h1 h2 => ps_par rfl sc__law_mixed.nd rfl rfl (by decide) rfl rfl (pa_cons h1 (pa_cons h2 pa_nil)) rfl)) (psd_cons (psd_while ownD (ptd_ne (hu_of hr) (pd_var 2) (pd_fz (pf_lst pad_nil))) (psd_one (psd_expr (pd_append (i := 3) (show 3 ∈ ([2, 3] : List Nat) by decide) rfl (Or.inl rfl) (pad_cons (pd_popAt (i := 2) (show 2 ∈ ([2, 3] : List Nat) by decide) rfl (Or.inl rfl) (pad_cons (pd_callC C__law_any hr (by decide) (by exact rfl) passD (pad_cons (pd_var 0) (pad_cons (pd_len (by exact rfl) T.b_len (pad_cons (pd_var 2) pad_nil)) pad_nil))) pad_nil) (fun h1 h2 => pe_bm PySem.F.plainAttrs_list PySem.F.slot_list_pop PySem.F.type_list_pop mt_popAt h1 h2)) pad_nil) (fun h1 h2 => pe_bm PySem.F.plainAttrs_list PySem.F.slot_list_append PySem.F.type_list_append mt_append h1 h2))))) (psd_one (psd_ret (pd_var 3)))))⟩
abbrev s__law_same : Stmt := top 31
abbrev N__law_same : List Str := ["value", "due", "one", "other"]
theorem sc__law_same : FnScope N__law_same ["value", "due"] (defScope s__law_same) := ⟨rfl, rfl, rfl, by decide +kernel, rfl, by decide +kernel, by decide +kernel⟩
noncomputable def m__law_same (F__law_same : FM) : M Fl := (mSeq (mIfS (mTru (mIsi2 "tuple" "list" (mVar [] 1))) (mSeq (mIfS (mOr (mT (mOp neF (mCB isiF (mCons (mVar [] 1) (mCons (mK (.raw (.ty "tuple"))) mNil))) (mCB isiF (mCons (mVar [] 0) (mCons (mK (.raw (.ty "tuple"))) mNil))))) (mOr (mNot (mTru (mIsi2 "tuple" "list" (mVar [] 0)))) (mT (mOp neF (mCB lenF (mCons (mVar [] 0) mNil)) (mCB lenF (mCons (mVar [] 1) mNil)))))) (mRet (mK (.d (.bool false)))) mNx) (mRet (mOp eqF (mFz (mLc (mZip (mCons (mVar [] 0) (mCons (mVar [] 1) mNil))) [2, 3] (aTup 2 (aCons (aName 2) (aCons (aName 3) aNil))) (mNot (mTru (mCall 2 F__law_same (mCons (mVar [] 2) (mCons (mVar [] 3) mNil))))) (mK (.d (.int 0))))) (mFz (mLst mNil))))) mNx) (mSeq (mIfS (mT (mOp (isF false) (mVar [] 1) (mK (.d .none)))) (mRet (mOp (isF false) (mVar [] 0) (mK (.d .none)))) mNx) (mSeq (mIfS (mT (mOp (isF false) (mVar [] 1) (mK (.d (.bool true))))) (mRet (mOp (isF false) (mVar [] 0) (mK (.d (.bool true))))) mNx) (mSeq (mIfS (mT (mOp (isF false) (mVar [] 1) (mK (.d (.bool false))))) (mRet (mOp (isF false) (mVar [] 0) (mK (.d (.bool false))))) mNx) (mSeq (mIfS (mTru (mCB isiF (mCons (mVar [] 1) (mCons (mK (.raw (.ty "int"))) mNil)))) (mRet (mAndV (mCB isiF (mCons (mVar [] 0) (mCons (mK (.raw (.ty "int"))) mNil))) (mAndV (mNotV (mCB isiF (mCons (mVar [] 0) (mCons (mK (.raw (.ty "bool"))) mNil)))) (mOp eqF (mVar [] 0) (mVar [] 1))))) mNx) (mRet (mAndV (mCB isiF (mCons (mVar [] 0) (mCons (mK (.raw (.ty "str"))) mNil))) (mOp eqF (mVar [] 0) (mVar [] 1)))))))))
theorem ok__law_same {f : Addr} {fd : FuncData} (T : Txt P K mg ec) {F__law_same : FM} {f__law_same : Addr} {d__law_same : FuncData} {j : Nat} (C__law_same : Cal P w K mg base ec "_law_same" j ["value", "due"] F__law_same f__law_same d__law_same) (F : FnP K "_law_same" s__law_same f fd) : FnOk P w K mg base (L2.CX P w) (j + 1) f fd ["value", "due"] (spD K ec 2 (fnM 4 (m__law_same F__law_same))) :=
  okD (ow := []) F sc__law_same (by decide) fun cdv A outer s H E hr => ⟨_, (psd_cons (psd_if (ptd_tru (pd_isi2 (by exact rfl) T.b_isinstance (pd_var 1) (by exact rfl) T.b_tuple (by decide +kernel) (by decide) (by decide) (by exact rfl) T.b_list (by decide +kernel) (by decide) (by decide))) (psd_cons (psd_if (ptd_w (pwd_or (ptd_ne (hu_of hr) (pd_isi (by exact rfl) T.b_isinstance (pad_cons (pd_var 1) (pad_cons (pd_blt (v := .ty "tuple") (by exact rfl) T.b_tuple (by decide +kernel) rfl) pad_nil))) (pd_isi (by exact rfl) T.b_isinstance (pad_cons (pd_var 0) (pad_cons (pd_blt (v := .ty "tuple") (by exact rfl) T.b_tuple (by decide +kernel) rfl) pad_nil)))) (pwd_or (ptd_not (ptd_tru (pd_isi2 (by exact rfl) T.b_isinstance (pd_var 0) (by exact rfl) T.b_tuple (by decide +kernel) (by decide) (by decide) (by exact rfl) T.b_list (by decide +kernel) (by decide) (by decide)))) (pwd_or1 (ptd_ne (hu_of hr) (pd_len (by exact rfl) T.b_len (pad_cons (pd_var 0) pad_nil)) (pd_len (by exact rfl) T.b_len (pad_cons (pd_var 1) pad_nil))))))) (psd_one (psd_ret pd_bl)) psd_nil) (psd_one (psd_ret (pd_eq (hu_of hr) (pd_fz (pfd_lc rfl sc__law_same.nd (g := (gTup K 2 (gCons (gName 2) (gCons (gName 3) gNil)))) (tt := (tNot (fun σ H Q => (tCall (spD K ec 2 F__law_same) [] L2.E0 (tCons (tVar 2) (tCons (tVar 3) tNil))) σ H fun x H' => ∃ k, TruV K x H' k ∧ Q k H'))) (te := (tC (.int 0))) (pid_zip (by exact rfl) T.b_zip (pad_cons (pd_var 0) (pad_cons (pd_var 1) pad_nil))) (own := [("one", 2), ("other", 3)]) (blk_of (by kernel_rfl)) (fun _ _ _ _ _ => (pgd_tup (pgsd_cons (pgd_name (i := 2) (show 2 ∉ ([] : List Nat) by decide) sc__law_same.nd rfl (Or.inl rfl)) (pgsd_cons (pgd_name (i := 3) (show 3 ∉ ([] : List Nat) by decide) sc__law_same.nd rfl (Or.inl rfl)) pgsd_nil (fun h1 h2 => pgs_cons h1 h2)) (fun h1 h2 => pgs_cons h1 h2)) (fun h => pg_tup rfl h))) (fun _ _ _ _ _ => (ptsd_one (ptd_not (ptd_tru (pd_callC C__law_same hr (Nat.le_refl _) (by exact rfl) L2.passL (pad_cons (pd_var 2) (pad_cons (pd_var 3) pad_nil))))))) (fun _ _ _ _ _ => pd_int) (show ∀ i ∈ ([2, 3] : List Nat), i ∉ ([] : List Nat) by decide) (show ∀ i ∈ ([2, 3] : List Nat), i ∈ ([2, 3] : List Nat) by decide))) (pd_fz (pf_lst pad_nil)))))) psd_nil) (psd_cons (psd_if (ptd_is (pd_var 1) pd_non) (psd_one (psd_ret (pd_is (pd_var 0) pd_non))) psd_nil) (psd_cons (psd_if (ptd_is (pd_var 1) pd_bl) (psd_one (psd_ret (pd_is (pd_var 0) pd_bl))) psd_nil) (psd_cons (psd_if (ptd_is (pd_var 1) pd_bl) (psd_one (psd_ret (pd_is (pd_var 0) pd_bl))) psd_nil) (psd_cons (psd_if (ptd_tru (pd_isi (by exact rfl) T.b_isinstance (pad_cons (pd_var 1) (pad_cons (pd_blt (v := .ty "int") (by exact rfl) T.b_int (by decide +kernel) rfl) pad_nil)))) (psd_one (psd_ret (pd_and (pd_isi (by exact rfl) T.b_isinstance (pad_cons (pd_var 0) (pad_cons (pd_blt (v := .ty "int") (by exact rfl) T.b_int (by decide +kernel) rfl) pad_nil))) (pd_and (pd_not (pd_isi (by exact rfl) T.b_isinstance (pad_cons (pd_var 0) (pad_cons (pd_blt (v := .ty "bool") (by exact rfl) T.b_bool (by decide +kernel) rfl) pad_nil)))) (pd_one (pd_eq (hu_of hr) (pd_var 0) (pd_var 1))))))) psd_nil) (psd_one (psd_ret (pd_and (pd_isi (by exact rfl) T.b_isinstance (pad_cons (pd_var 0) (pad_cons (pd_blt (v := .ty "str") (by exact rfl) T.b_str (by decide +kernel) rfl) pad_nil))) (pd_one (pd_eq (hu_of hr) (pd_var 0) (pd_var 1)))))))))))⟩
abbrev s__law_is_name : Stmt := top 32
abbrev N__law_is_name : List Str := ["value", "words", "sign"]
theorem sc__law_is_name : FnScope N__law_is_name ["value"] (defScope s__law_is_name) := ⟨rfl, rfl, rfl, by decide +kernel, rfl, by decide +kernel, by decide +kernel⟩
noncomputable def m__law_is_name : M Fl := (mSeq (mAsg (aName 1) (mK (.d (.str "num name add sub mul div mod less same not at has int own may read edit skip let new drop set take put swap move test then")))) (mSeq (mAsg (aName 1) (mM1 splitF (mOp addF (mVar [] 1) (mK (.d (.str " else end look as in if while do row call both and proc tells with kind module needs none thing copy load store lend give jump fork meet back mark code face")))) (mK (.d (.str " "))))) (mSeq (mIfS (mOr (mNot (mTru (mCB isiF (mCons (mVar [] 0) (mCons (mK (.raw (.ty "str"))) mNil))))) (mOr (mNot (mT (mChain leF leF (mK (.d (.int 1))) (mCB lenF (mCons (mVar [] 0) mNil)) (mK (.d (.int 12)))))) (mT (mOp (inF false) (mVar [] 0) (mVar [] 1))))) (mRet (mK (.d (.bool false)))) mNx) (mRet (mAndV (mOp (inF false) (mOp atF (mVar [] 0) (mK (.d (.int 0)))) (mK (.d (.str "abcdefghijklmnopqrstuvwxyz")))) (mOp eqF (mFz (mLc (mIter (mVar [] 0)) [2] (aName 2) (mT (mOp (inF true) (mVar [] 2) (mK (.d (.str "abcdefghijklmnopqrstuvwxyz0123456789"))))) (mVar [] 2))) (mFz (mLst mNil))))))))
theorem ok__law_is_name {f : Addr} {fd : FuncData} (T : Txt P K mg ec) (F : FnP K "_law_is_name" s__law_is_name f fd) : FnOk P w K mg base (L2.CX P w) 1 f fd ["value"] (spD K ec 1 (fnM 3 (m__law_is_name))) :=
  okD (ow := []) F sc__law_is_name (by decide) fun cdv A outer s H E hr => ⟨_, (psd_cons (psd_set (i := 1) (show 1 ∉ ([] : List Nat) by decide) pd_str (fun h => ps_set sc__law_is_name.nd rfl (Or.inl rfl) h)) (psd_cons (psd_set (i := 1) (show 1 ∉ ([] : List Nat) by decide) (pd_split (pd_add (pd_var 1) pd_str) pd_str) (fun h => ps_set sc__law_is_name.nd rfl (Or.inl rfl) h)) (psd_cons (psd_if (ptd_w (pwd_or (ptd_not (ptd_tru (pd_isi (by exact rfl) T.b_isinstance (pad_cons (pd_var 0) (pad_cons (pd_blt (v := .ty "str") (by exact rfl) T.b_str (by decide +kernel) rfl) pad_nil))))) (pwd_or (ptd_not (ptd_chain opd_cmp opd_cmp pd_int (pd_len (by exact rfl) T.b_len (pad_cons (pd_var 0) pad_nil)) pd_int (fun h1 h2 h3 => pt_chain op_le op_le h1 h2 h3))) (pwd_or1 (ptd_in (pd_var 0) (pd_var 1)))))) (psd_one (psd_ret pd_bl)) psd_nil) (psd_one (psd_ret (pd_and (pd_in (pd_at (pd_var 0) pd_int) pd_str) (pd_one (pd_eq (hu_of hr) (pd_fz (pfd_lc rfl sc__law_is_name.nd (g := (gName 2)) (tt := (tTest (tOp (rInA K true) (tVar 2) (tC (.str "abcdefghijklmnopqrstuvwxyz0123456789"))))) (te := (tVar 2)) (pid_any (pd_var 0)) (own := [("sign", 2)]) (blk_of (by kernel_rfl)) (fun _ _ _ _ _ => (pgd_name (i := 2) (show 2 ∉ ([] : List Nat) by decide) sc__law_is_name.nd rfl (Or.inl rfl))) (fun _ _ _ _ _ => (ptsd_one (ptd_notin (pd_var 2) pd_str))) (fun _ _ _ _ _ => (pd_var 2)) (show ∀ i ∈ ([2] : List Nat), i ∉ ([] : List Nat) by decide) (show ∀ i ∈ ([2] : List Nat), i ∈ ([2] : List Nat) by decide))) (pd_fz (pf_lst pad_nil))))))))))⟩
abbrev s__law_some_kinds : Stmt := top 33
abbrev N__law_some_kinds : List Str := ["deal", "names", "found", "name", "fields", "field"]
theorem sc__law_some_kinds : FnScope N__law_some_kinds ["deal"] (defScope s__law_some_kinds) := ⟨rfl, rfl, rfl, by decide +kernel, rfl, by decide +kernel, by decide +kernel⟩
noncomputable def m__law_some_kinds (F__law_mixed : FM) (F__law_any : FM) (F__law_of : FM) : M Fl := (mSeq (mAsg (aName 1) (mCB sortF (mCons (mSl (mCall 2 F__law_mixed (mCons (mVar [2] 0) (mCons (mFz (mLst (mCons (mK (.d (.str "item"))) (mCons (mK (.d (.str "shelf"))) (mCons (mK (.d (.str "box"))) (mCons (mK (.d (.str "tree"))) (mCons (mK (.d (.str "n1"))) (mCons (mK (.d (.str "z"))) (mCons (mK (.d (.str "abcdefghijkl"))) mNil))))))))) mNil))) mNoP (mPart (mOp addF (mK (.d (.int 1))) (mCall 2 F__law_any (mCons (mVar [2] 0) (mCons (mK (.d (.int 4))) mNil)))))) mNil))) (mSeq (mAsgO 2 (mLst mNil)) (mSeq (mFor (mIter (mVar [2] 1)) (aName 3) (mSeq (mAsg (aName 4) (mSl (mCall 2 F__law_mixed (mCons (mVar [2] 0) (mCons (mFz (mLst (mCons (mK (.d (.str "n"))) (mCons (mK (.d (.str "next"))) (mCons (mK (.d (.str "left"))) (mCons (mK (.d (.str "right"))) (mCons (mK (.d (.str "m"))) (mCons (mK (.d (.str "first"))) (mCons (mK (.d (.str "k2"))) mNil))))))))) mNil))) mNoP (mPart (mCall 2 F__law_any (mCons (mVar [2] 0) (mCons (mK (.d (.int 5))) mNil)))))) (mDrop (has 2 (mAppend 2 (mCons (mTup (mCons (mK (.d (.str "kind"))) (mCons (mVar [2] 3) (mCons (mCB tupF (mCons (mFz (mLc (mIter (mVar [2] 4)) [5] (aName 5) (M.ret true) (mTup (mCons (mVar [2] 5) (mCons (mCall 2 F__law_of (mCons (mVar [2] 0) (mCons (mOp addF (mFz (mLst (mCons (mK (.d (.str "int"))) (mCons (mK (.d (.str "int"))) mNil)))) (mVar [2] 1)) mNil))) mNil))))) mNil)) mNil)))) mNil)))))) (mRet (mCB tupF (mCons (mVar [2] 2) mNil))))))
theorem ok__law_some_kinds {f : Addr} {fd : FuncData} (T : Txt P K mg ec) {F__law_mixed : FM} {f__law_mixed : Addr} {d__law_mixed : FuncData} (C__law_mixed : Cal P w K mg base ec "_law_mixed" 2 ["deal", "some"] F__law_mixed f__law_mixed d__law_mixed) {F__law_any : FM} {f__law_any : Addr} {d__law_any : FuncData} (C__law_any : Cal P w K mg base ec "_law_any" 1 ["deal", "bound"] F__law_any f__law_any d__law_any) {F__law_of : FM} {f__law_of : Addr} {d__law_of : FuncData} (C__law_of : Cal P w K mg base ec "_law_of" 2 ["deal", "some"] F__law_of f__law_of d__law_of) (F : FnP K "_law_some_kinds" s__law_some_kinds f fd) : FnOk P w K mg base (L2.CX P w) 3 f fd ["deal"] (spD K ec 1 (fnM 6 (m__law_some_kinds F__law_mixed F__law_any F__law_of))) :=
  okD (ow := [2]) F sc__law_some_kinds (by decide) fun cdv A outer s H E hr => ⟨_, (psd_cons (psd_set (i := 1) (show 1 ∉ ([2] : List Nat) by decide) (pd_sorted (by exact rfl) T.b_sorted (pad_cons (pd_sl (pd_callC C__law_mixed hr (by decide) (by exact rfl) passD (pad_cons (pd_var 0) (pad_cons (pd_fz (pf_lst (pad_cons pd_str (pad_cons pd_str (pad_cons pd_str (pad_cons pd_str (pad_cons pd_str (pad_cons pd_str (pad_cons pd_str pad_nil))))))))) pad_nil))) pod_none (pod_some (pd_add pd_int (pd_callC C__law_any hr (by decide) (by exact rfl) passD (pad_cons (pd_var 0) (pad_cons pd_int pad_nil)))))) pad_nil)) (fun h => ps_set sc__law_some_kinds.nd rfl (Or.inr rfl) h)) (psd_cons (psd_setO (i := 2) (show 2 ∈ ([2] : List Nat) by decide) (pf_lst pad_nil) (fun h => ps_set sc__law_some_kinds.nd rfl (Or.inl rfl) h)) (psd_cons (psd_for ownD rfl (pid_any (pd_var 1)) (pgd_name (i := 3) (show 3 ∉ ([2] : List Nat) by decide) sc__law_some_kinds.nd rfl (Or.inl rfl)) (psd_cons (psd_set (i := 4) (show 4 ∉ ([2] : List Nat) by decide) (pd_sl (pd_callC C__law_mixed hr (by decide) (by exact rfl) passD (pad_cons (pd_var 0) (pad_cons (pd_fz (pf_lst (pad_cons pd_str (pad_cons pd_str (pad_cons pd_str (pad_cons pd_str (pad_cons pd_str (pad_cons pd_str (pad_cons pd_str pad_nil))))))))) pad_nil))) pod_none (pod_some (pd_callC C__law_any hr (by decide) (by exact rfl) passD (pad_cons (pd_var 0) (pad_cons pd_int pad_nil))))) (fun h => ps_set sc__law_some_kinds.nd rfl (Or.inl rfl) h)) (psd_one (psd_expr (pd_append (i := 2) (show 2 ∈ ([2] : List Nat) by decide) rfl (Or.inl rfl) (pad_cons (pd_tup (pad_cons pd_str (pad_cons (pd_var 3) (pad_cons (pd_tupc (by exact rfl) T.b_tuple (pad_cons (pd_fz (pfd_lc rfl sc__law_some_kinds.nd (g := (gName 5)) (tt := tYes) (te := (tTup (tCons (tVar 5) (tCons (tCall (spD K ec 2 F__law_of) [] L2.E0 (tCons (tVar 0) (tCons (tOp (rAddA K) (tLst (tCons (tC (.str "int")) (tCons (tC (.str "int")) tNil))) (tVar 1)) tNil))) tNil)))) (pid_any (pd_var 4)) (own := [("field", 5)]) (blk_of (by kernel_rfl)) (fun _ _ _ _ _ => (pgd_name (i := 5) (show 5 ∉ ([2] : List Nat) by decide) sc__law_some_kinds.nd rfl (Or.inl rfl))) (fun _ _ _ _ _ => ptsd_nil) (fun _ _ _ _ _ => (pd_tup (pad_cons (pd_var 5) (pad_cons (pd_callC C__law_of hr (by decide) (by exact rfl) L2.passL (pad_cons (pd_var 0) (pad_cons (pd_add (pd_fz (pf_lst (pad_cons pd_str (pad_cons pd_str pad_nil)))) (pd_var 1)) pad_nil))) pad_nil)))) (show ∀ i ∈ ([5] : List Nat), i ∉ ([2] : List Nat) by decide) (show ∀ i ∈ ([5] : List Nat), i ∈ ([5] : List Nat) by decide))) pad_nil)) pad_nil)))) pad_nil) (fun h1 h2 => pe_bm PySem.F.plainAttrs_list PySem.F.slot_list_append PySem.F.type_list_append mt_append h1 h2)))))) (psd_one (psd_ret (pd_tupc (by exact rfl) T.b_tuple (pad_cons (pd_var 2) pad_nil)))))))⟩
abbrev s__law_kind_of : Stmt := top 34
abbrev N__law_kind_of : List Str := ["kinds", "name", "kind"]
theorem sc__law_kind_of : FnScope N__law_kind_of ["kinds", "name"] (defScope s__law_kind_of) := ⟨rfl, rfl, rfl, by decide +kernel, rfl, by decide +kernel, by decide +kernel⟩
noncomputable def m__law_kind_of : M Fl := (mRet (mOp atF (mFz (mLc (mIter (mVar [] 0)) [2] (aName 2) (mT (mOp eqF (mOp atF (mVar [] 2) (mK (.d (.int 1)))) (mVar [] 1))) (mOp atF (mVar [] 2) (mK (.d (.int 2)))))) (mK (.d (.int 0)))))
theorem ok__law_kind_of {f : Addr} {fd : FuncData} (T : Txt P K mg ec) (F : FnP K "_law_kind_of" s__law_kind_of f fd) : FnOk P w K mg base (L2.CX P w) 1 f fd ["kinds", "name"] (spD K ec 2 (fnM 3 (m__law_kind_of))) :=
  okD (ow := []) F sc__law_kind_of (by decide) fun cdv A outer s H E hr => ⟨_, (psd_one (psd_ret (pd_at (pd_fz (pfd_lc rfl sc__law_kind_of.nd (g := (gName 2)) (tt := (tTest (tOp (rEqA K) (tOp (rAtA K) (tVar 2) (tC (.int 1))) (tVar 1)))) (te := (tOp (rAtA K) (tVar 2) (tC (.int 2)))) (pid_any (pd_var 0)) (own := [("kind", 2)]) (blk_of (by kernel_rfl)) (fun _ _ _ _ _ => (pgd_name (i := 2) (show 2 ∉ ([] : List Nat) by decide) sc__law_kind_of.nd rfl (Or.inl rfl))) (fun _ _ _ _ _ => (ptsd_one (ptd_eq (hu_of hr) (pd_at (pd_var 2) pd_int) (pd_var 1)))) (fun _ _ _ _ _ => (pd_at (pd_var 2) pd_int)) (show ∀ i ∈ ([2] : List Nat), i ∉ ([] : List Nat) by decide) (show ∀ i ∈ ([2] : List Nat), i ∈ ([2] : List Nat) by decide))) pd_int)))⟩
abbrev s__law_is_kind : Stmt := top 36
abbrev N__law_is_kind : List Str := ["value", "one"]
theorem sc__law_is_kind : FnScope N__law_is_kind ["value"] (defScope s__law_is_kind) := ⟨rfl, rfl, rfl, by decide +kernel, rfl, by decide +kernel, by decide +kernel⟩
noncomputable def m__law_is_kind (F__law_same : FM) (F__law_is_name : FM) : M Fl := (mSeq (mIfS (mOr (mNot (mTru (mCB isiF (mCons (mVar [] 0) (mCons (mK (.raw (.ty "tuple"))) mNil))))) (mOr (mT (mOp neF (mCB lenF (mCons (mVar [] 0) mNil)) (mK (.d (.int 3))))) (mOr (mNot (mTru (mCall 2 F__law_same (mCons (mOp atF (mVar [] 0) (mK (.d (.int 0)))) (mCons (mK (.d (.str "kind"))) mNil))))) (mNot (mTru (mCall 1 F__law_is_name (mCons (mOp atF (mVar [] 0) (mK (.d (.int 1)))) mNil))))))) (mRet (mK (.d (.bool false)))) mNx) (mSeq (mIfS (mOr (mNot (mTru (mCB isiF (mCons (mOp atF (mVar [] 0) (mK (.d (.int 2)))) (mCons (mK (.raw (.ty "tuple"))) mNil))))) (mT (mOp gtF (mCB lenF (mCons (mOp atF (mVar [] 0) (mK (.d (.int 2)))) mNil)) (mK (.d (.int 12)))))) (mRet (mK (.d (.bool false)))) mNx) (mSeq (mFor (mIter (mOp atF (mVar [] 0) (mK (.d (.int 2))))) (aName 1) (mSeq (mIfS (mOr (mNot (mTru (mCB isiF (mCons (mVar [] 1) (mCons (mK (.raw (.ty "tuple"))) mNil))))) (mOr (mT (mOp neF (mCB lenF (mCons (mVar [] 1) mNil)) (mK (.d (.int 2))))) (mNot (mTru (mCall 1 F__law_is_name (mCons (mOp atF (mVar [] 1) (mK (.d (.int 0)))) mNil)))))) (mRet (mK (.d (.bool false)))) mNx) (mIfS (mAnd (mNot (mTru (mCall 2 F__law_same (mCons (mOp atF (mVar [] 1) (mK (.d (.int 1)))) (mCons (mK (.d (.str "int"))) mNil))))) (mNot (mTru (mCall 1 F__law_is_name (mCons (mOp atF (mVar [] 1) (mK (.d (.int 1)))) mNil))))) (mRet (mK (.d (.bool false)))) mNx))) (mRet (mOp eqF (mCB lenDF (mCons (mFz (mLc (mIter (mOp atF (mVar [] 0) (mK (.d (.int 2))))) [1] (aName 1) (M.ret true) (mTup (mCons (mOp atF (mVar [] 1) (mK (.d (.int 0)))) (mCons (mK (.d (.int 1))) mNil))))) mNil)) (mCB lenF (mCons (mOp atF (mVar [] 0) (mK (.d (.int 2)))) mNil)))))))
theorem ok__law_is_kind {f : Addr} {fd : FuncData} (T : Txt P K mg ec) {F__law_same : FM} {f__law_same : Addr} {d__law_same : FuncData} (C__law_same : Cal P w K mg base ec "_law_same" 8 ["value", "due"] F__law_same f__law_same d__law_same) {F__law_is_name : FM} {f__law_is_name : Addr} {d__law_is_name : FuncData} (C__law_is_name : Cal P w K mg base ec "_law_is_name" 1 ["value"] F__law_is_name f__law_is_name d__law_is_name) (F : FnP K "_law_is_kind" s__law_is_kind f fd) : FnOk P w K mg base (L2.CX P w) 9 f fd ["value"] (spD K ec 1 (fnM 2 (m__law_is_kind F__law_same F__law_is_name))) :=
  okD (ow := []) F sc__law_is_kind (by decide) fun cdv A outer s H E hr => ⟨_, (psd_cons (psd_if (ptd_w (pwd_or (ptd_not (ptd_tru (pd_isi (by exact rfl) T.b_isinstance (pad_cons (pd_var 0) (pad_cons (pd_blt (v := .ty "tuple") (by exact rfl) T.b_tuple (by decide +kernel) rfl) pad_nil))))) (pwd_or (ptd_ne (hu_of hr) (pd_len (by exact rfl) T.b_len (pad_cons (pd_var 0) pad_nil)) pd_int) (pwd_or (ptd_not (ptd_tru (pd_callC C__law_same hr (by decide) (by exact rfl) passD (pad_cons (pd_at (pd_var 0) pd_int) (pad_cons pd_str pad_nil))))) (pwd_or1 (ptd_not (ptd_tru (pd_callC C__law_is_name hr (by decide) (by exact rfl) passD (pad_cons (pd_at (pd_var 0) pd_int) pad_nil))))))))) (psd_one (psd_ret pd_bl)) psd_nil) (psd_cons (psd_if (ptd_w (pwd_or (ptd_not (ptd_tru (pd_isi (by exact rfl) T.b_isinstance (pad_cons (pd_at (pd_var 0) pd_int) (pad_cons (pd_blt (v := .ty "tuple") (by exact rfl) T.b_tuple (by decide +kernel) rfl) pad_nil))))) (pwd_or1 (ptd_gt (pd_len (by exact rfl) T.b_len (pad_cons (pd_at (pd_var 0) pd_int) pad_nil)) pd_int)))) (psd_one (psd_ret pd_bl)) psd_nil) (psd_cons (psd_for ownD rfl (pid_any (pd_at (pd_var 0) pd_int)) (pgd_name (i := 1) (show 1 ∉ ([] : List Nat) by decide) sc__law_is_kind.nd rfl (Or.inl rfl)) (psd_cons (psd_if (ptd_w (pwd_or (ptd_not (ptd_tru (pd_isi (by exact rfl) T.b_isinstance (pad_cons (pd_var 1) (pad_cons (pd_blt (v := .ty "tuple") (by exact rfl) T.b_tuple (by decide +kernel) rfl) pad_nil))))) (pwd_or (ptd_ne (hu_of hr) (pd_len (by exact rfl) T.b_len (pad_cons (pd_var 1) pad_nil)) pd_int) (pwd_or1 (ptd_not (ptd_tru (pd_callC C__law_is_name hr (by decide) (by exact rfl) passD (pad_cons (pd_at (pd_var 1) pd_int) pad_nil)))))))) (psd_one (psd_ret pd_bl)) psd_nil) (psd_one (psd_if (ptd_w (pwd_and (ptd_not (ptd_tru (pd_callC C__law_same hr (by decide) (by exact rfl) passD (pad_cons (pd_at (pd_var 1) pd_int) (pad_cons pd_str pad_nil))))) (pwd_and1 (ptd_not (ptd_tru (pd_callC C__law_is_name hr (by decide) (by exact rfl) passD (pad_cons (pd_at (pd_var 1) pd_int) pad_nil))))))) (psd_one (psd_ret pd_bl)) psd_nil)))) (psd_one (psd_ret (pd_eq (hu_of hr) (pd_lenD rfl (by exact rfl) T.b_len (by exact rfl) T.b_dict (pad_cons (pd_fz (pfd_lc rfl sc__law_is_kind.nd (g := (gName 1)) (tt := tYes) (te := (tTup (tCons (tOp (rAtA K) (tVar 1) (tC (.int 0))) (tCons (tC (.int 1)) tNil)))) (pid_any (pd_at (pd_var 0) pd_int)) (own := [("one", 1)]) (blk_of (by kernel_rfl)) (fun _ _ _ _ _ => (pgd_name (i := 1) (show 1 ∉ ([] : List Nat) by decide) sc__law_is_kind.nd rfl (Or.inl rfl))) (fun _ _ _ _ _ => ptsd_nil) (fun _ _ _ _ _ => (pd_tup (pad_cons (pd_at (pd_var 1) pd_int) (pad_cons pd_int pad_nil)))) (show ∀ i ∈ ([1] : List Nat), i ∉ ([] : List Nat) by decide) (show ∀ i ∈ ([1] : List Nat), i ∈ ([1] : List Nat) by decide))) pad_nil)) (pd_len (by exact rfl) T.b_len (pad_cons (pd_at (pd_var 0) pd_int) pad_nil))))))))⟩
abbrev s__law_are_kinds : Stmt := top 37
abbrev N__law_are_kinds : List Str := ["value", "names", "kind", "one", "name"]
theorem sc__law_are_kinds : FnScope N__law_are_kinds ["value"] (defScope s__law_are_kinds) := ⟨rfl, rfl, rfl, by decide +kernel, rfl, by decide +kernel, by decide +kernel⟩
noncomputable def m__law_are_kinds (F__law_is_kind : FM) : M Fl := (mSeq (mIfS (mOr (mNot (mTru (mCB isiF (mCons (mVar [] 0) (mCons (mK (.raw (.ty "tuple"))) mNil))))) (mOr (mT (mOp gtF (mCB lenF (mCons (mVar [] 0) mNil)) (mK (.d (.int 40))))) (mT (mOp neF (mFz (mLc (mIter (mVar [] 0)) [3] (aName 3) (mNot (mTru (mCall 1 F__law_is_kind (mCons (mVar [] 3) mNil)))) (mVar [] 3))) (mFz (mLst mNil)))))) (mRet (mK (.d (.bool false)))) mNx) (mSeq (mAsg (aName 1) (mFz (mLc (mIter (mVar [] 0)) [3] (aName 3) (M.ret true) (mOp atF (mVar [] 3) (mK (.d (.int 1))))))) (mSeq (mIfS (mT (mOp neF (mCB sortDF (mCons (mFz (mLc (mIter (mVar [] 1)) [4] (aName 4) (M.ret true) (mTup (mCons (mVar [] 4) (mCons (mK (.d (.int 1))) mNil))))) mNil)) (mVar [] 1))) (mRet (mK (.d (.bool false)))) mNx) (mSeq (mFor (mIter (mVar [] 0)) (aName 2) (mIfS (mT (mOp neF (mFz (mLc (mIter (mOp atF (mVar [] 2) (mK (.d (.int 2))))) [3] (aName 3) (mAnd (mT (mOp neF (mOp atF (mVar [] 3) (mK (.d (.int 1)))) (mK (.d (.str "int"))))) (mT (mOp (inF true) (mOp atF (mVar [] 3) (mK (.d (.int 1)))) (mVar [] 1)))) (mVar [] 3))) (mFz (mLst mNil)))) (mRet (mK (.d (.bool false)))) mNx)) (mRet (mK (.d (.bool true))))))))
theorem ok__law_are_kinds {f : Addr} {fd : FuncData} (T : Txt P K mg ec) {F__law_is_kind : FM} {f__law_is_kind : Addr} {d__law_is_kind : FuncData} (C__law_is_kind : Cal P w K mg base ec "_law_is_kind" 9 ["value"] F__law_is_kind f__law_is_kind d__law_is_kind) (F : FnP K "_law_are_kinds" s__law_are_kinds f fd) : FnOk P w K mg base (L2.CX P w) 10 f fd ["value"] (spD K ec 1 (fnM 5 (m__law_are_kinds F__law_is_kind))) :=
  okD (ow := []) F sc__law_are_kinds (by decide) fun cdv A outer s H E hr => ⟨_, (psd_cons (psd_if (ptd_w (pwd_or (ptd_not (ptd_tru (pd_isi (by exact rfl) T.b_isinstance (pad_cons (pd_var 0) (pad_cons (pd_blt (v := .ty "tuple") (by exact rfl) T.b_tuple (by decide +kernel) rfl) pad_nil))))) (pwd_or (ptd_gt (pd_len (by exact rfl) T.b_len (pad_cons (pd_var 0) pad_nil)) pd_int) (pwd_or1 (ptd_ne (hu_of hr) (pd_fz (pfd_lc rfl sc__law_are_kinds.nd (g := (gName 3)) (tt := (tNot (fun σ H Q => (tCall (spD K ec 1 F__law_is_kind) [] L2.E0 (tCons (tVar 3) tNil)) σ H fun x H' => ∃ k, TruV K x H' k ∧ Q k H'))) (te := (tVar 3)) (pid_any (pd_var 0)) (own := [("one", 3)]) (blk_of (by kernel_rfl)) (fun _ _ _ _ _ => (pgd_name (i := 3) (show 3 ∉ ([] : List Nat) by decide) sc__law_are_kinds.nd rfl (Or.inl rfl))) (fun _ _ _ _ _ => (ptsd_one (ptd_not (ptd_tru (pd_callC C__law_is_kind hr (by decide) (by exact rfl) L2.passL (pad_cons (pd_var 3) pad_nil)))))) (fun _ _ _ _ _ => (pd_var 3)) (show ∀ i ∈ ([3] : List Nat), i ∉ ([] : List Nat) by decide) (show ∀ i ∈ ([3] : List Nat), i ∈ ([3] : List Nat) by decide))) (pd_fz (pf_lst pad_nil))))))) (psd_one (psd_ret pd_bl)) psd_nil) (psd_cons (psd_set (i := 1) (show 1 ∉ ([] : List Nat) by decide) (pd_fz (pfd_lc rfl sc__law_are_kinds.nd (g := (gName 3)) (tt := tYes) (te := (tOp (rAtA K) (tVar 3) (tC (.int 1)))) (pid_any (pd_var 0)) (own := [("one", 3)]) (blk_of (by kernel_rfl)) (fun _ _ _ _ _ => (pgd_name (i := 3) (show 3 ∉ ([] : List Nat) by decide) sc__law_are_kinds.nd rfl (Or.inl rfl))) (fun _ _ _ _ _ => ptsd_nil) (fun _ _ _ _ _ => (pd_at (pd_var 3) pd_int)) (show ∀ i ∈ ([3] : List Nat), i ∉ ([] : List Nat) by decide) (show ∀ i ∈ ([3] : List Nat), i ∈ ([3] : List Nat) by decide))) (fun h => ps_set sc__law_are_kinds.nd rfl (Or.inr rfl) h)) (psd_cons (psd_if (ptd_ne (hu_of hr) (pd_sortD rfl (by exact rfl) T.b_sorted (by exact rfl) T.b_dict (pad_cons (pd_fz (pfd_lc rfl sc__law_are_kinds.nd (g := (gName 4)) (tt := tYes) (te := (tTup (tCons (tVar 4) (tCons (tC (.int 1)) tNil)))) (pid_any (pd_var 1)) (own := [("name", 4)]) (blk_of (by kernel_rfl)) (fun _ _ _ _ _ => (pgd_name (i := 4) (show 4 ∉ ([] : List Nat) by decide) sc__law_are_kinds.nd rfl (Or.inl rfl))) (fun _ _ _ _ _ => ptsd_nil) (fun _ _ _ _ _ => (pd_tup (pad_cons (pd_var 4) (pad_cons pd_int pad_nil)))) (show ∀ i ∈ ([4] : List Nat), i ∉ ([] : List Nat) by decide) (show ∀ i ∈ ([4] : List Nat), i ∈ ([4] : List Nat) by decide))) pad_nil)) (pd_var 1)) (psd_one (psd_ret pd_bl)) psd_nil) (psd_cons (psd_for ownD rfl (pid_any (pd_var 0)) (pgd_name (i := 2) (show 2 ∉ ([] : List Nat) by decide) sc__law_are_kinds.nd rfl (Or.inl rfl)) (psd_one (psd_if (ptd_ne (hu_of hr) (pd_fz (pfd_lc rfl sc__law_are_kinds.nd (g := (gName 3)) (tt := (tAnd (tTest (tOp (rNeA K) (tOp (rAtA K) (tVar 3) (tC (.int 1))) (tC (.str "int")))) (tTest (tOp (rInA K true) (tOp (rAtA K) (tVar 3) (tC (.int 1))) (tVar 1))))) (te := (tVar 3)) (pid_any (pd_at (pd_var 2) pd_int)) (own := [("one", 3)]) (blk_of (by kernel_rfl)) (fun _ _ _ _ _ => (pgd_name (i := 3) (show 3 ∉ ([] : List Nat) by decide) sc__law_are_kinds.nd rfl (Or.inl rfl))) (fun _ _ _ _ _ => (ptsd_one (ptd_w (pwd_and (ptd_ne (hu_of hr) (pd_at (pd_var 3) pd_int) pd_str) (pwd_and1 (ptd_notin (pd_at (pd_var 3) pd_int) (pd_var 1))))))) (fun _ _ _ _ _ => (pd_var 3)) (show ∀ i ∈ ([3] : List Nat), i ∉ ([] : List Nat) by decide) (show ∀ i ∈ ([3] : List Nat), i ∈ ([3] : List Nat) by decide))) (pd_fz (pf_lst pad_nil))) (psd_one (psd_ret pd_bl)) psd_nil))) (psd_one (psd_ret pd_bl))))))⟩
abbrev s__law_bent : Stmt := top 38
abbrev N__law_bent : List Str := ["deal", "kinds", "at", "form", "kind", "found", "number"]
theorem sc__law_bent : FnScope N__law_bent ["deal", "kinds"] (defScope s__law_bent) := ⟨rfl, rfl, rfl, by decide +kernel, rfl, by decide +kernel, by decide +kernel⟩
noncomputable def m__law_bent (F__law_any : FM) (F__law_of : FM) : M Fl := (mSeq (mPar 2 3 (mCons (mCall 2 F__law_any (mCons (mVar [] 0) (mCons (mCB lenF (mCons (mVar [] 1) mNil)) mNil))) (mCons (mCall 2 F__law_any (mCons (mVar [] 0) (mCons (mK (.d (.int 9))) mNil))) mNil))) (mSeq (mAsg (aName 4) (mOp atF (mVar [] 1) (mVar [] 2))) (mSeq (mIfS (mT (mOp eqF (mVar [] 3) (mK (.d (.int 0))))) (mAsg (aName 4) (mOp addF (mSl (mVar [] 4) mNoP (mPart (mK (.d (.int 2))))) (mTup (mCons (mOp addF (mOp atF (mVar [] 4) (mK (.d (.int 2)))) (mTup (mCons (mCall 2 F__law_of (mCons (mVar [] 0) (mCons (mFz (mLst (mCons (mTup (mCons (mK (.d (.str "n9"))) (mCons (mK (.d (.str "int"))) mNil))) (mCons (mTup (mCons (mK (.d (.str "n9"))) (mCons (mK (.d (.str "item"))) mNil))) (mCons (mTup (mCons (mK (.d (.str "n9"))) (mCons (mK (.d (.str "zzzz"))) mNil))) (mCons (mTup (mCons (mK (.d (.str "int"))) (mCons (mK (.d (.str "int"))) mNil))) (mCons (mTup (mCons (mK (.d (.str "N"))) (mCons (mK (.d (.str "int"))) mNil))) (mCons (mTup (mCons (mK (.d (.str "n9"))) (mCons (mK (.d .none)) mNil))) (mCons (mTup (mCons (mK (.d (.str "n9"))) mNil)) (mCons (mK (.d (.str "n9"))) (mCons (mTup (mCons (mK (.d (.str "n9"))) (mCons (mK (.d (.str "int"))) (mCons (mK (.d (.int 1))) mNil)))) mNil))))))))))) mNil))) mNil))) mNil)))) (mIfS (mT (mOp eqF (mVar [] 3) (mK (.d (.int 1))))) (mAsg (aName 4) (mOp addF (mSl (mVar [] 4) mNoP (mPart (mK (.d (.int 2))))) (mTup (mCons (mOp addF (mOp atF (mVar [] 4) (mK (.d (.int 2)))) (mSl (mOp atF (mVar [] 4) (mK (.d (.int 2)))) mNoP (mPart (mK (.d (.int 1)))))) mNil)))) (mIfS (mT (mOp eqF (mVar [] 3) (mK (.d (.int 2))))) (mAsg (aName 4) (mTup (mCons (mK (.d (.str "kind"))) (mCons (mCall 2 F__law_of (mCons (mVar [] 0) (mCons (mFz (mLst (mCons (mK (.d (.str "kind"))) (mCons (mK (.d (.str ""))) (mCons (mK (.d (.str "a"))) (mCons (mK (.d (.str "zzzz"))) (mCons (mK (.d .none)) (mCons (mK (.d (.str "item"))) mNil)))))))) mNil))) (mCons (mOp atF (mVar [] 4) (mK (.d (.int 2)))) mNil))))) (mIfS (mT (mOp eqF (mVar [] 3) (mK (.d (.int 3))))) (mAsg (aName 4) (mCall 2 F__law_of (mCons (mVar [] 0) (mCons (mFz (mLst (mCons (mFz (mCBF listF (mCons (mVar [] 4) mNil))) (mCons (mSl (mVar [] 4) mNoP (mPart (mK (.d (.int 2))))) (mCons (mOp addF (mSl (mVar [] 4) mNoP (mPart (mK (.d (.int 2))))) (mTup (mCons (mFz (mCBF listF (mCons (mOp atF (mVar [] 4) (mK (.d (.int 2)))) mNil))) mNil))) (mCons (mOp addF (mTup (mCons (mK (.d (.str "Kind"))) mNil)) (mSl (mVar [] 4) (mPart (mK (.d (.int 1)))) mNoP)) (mCons (mK (.d .none)) mNil))))))) mNil)))) (mIfS (mT (mOp eqF (mVar [] 3) (mK (.d (.int 4))))) (mAsg (aName 4) (mOp addF (mSl (mVar [] 4) mNoP (mPart (mK (.d (.int 2))))) (mTup (mCons (mCB tupF (mCons (mFz (mLc (mRange rng1 (mCons (mCall 2 F__law_of (mCons (mVar [] 0) (mCons (mFz (mLst (mCons (mK (.d (.int 11))) (mCons (mK (.d (.int 12))) (mCons (mK (.d (.int 13))) mNil))))) mNil))) mNil)) [6] (aName 6) (M.ret true) (mTup (mCons (mOp addF (mK (.d (.str "f"))) (mCB strF (mCons (mVar [] 6) mNil))) (mCons (mK (.d (.str "int"))) mNil))))) mNil)) mNil)))) mNx))))) (mSeq (mAsg (aName 5) (mOp addF (mOp addF (mSl (mVar [] 1) mNoP (mPart (mVar [] 2))) (mTup (mCons (mVar [] 4) mNil))) (mSl (mVar [] 1) (mPart (mOp addF (mVar [] 2) (mK (.d (.int 1))))) mNoP))) (mSeq (mIfS (mT (mOp eqF (mVar [] 3) (mK (.d (.int 5))))) (mRet (mRevT (mVar [] 5))) mNx) (mSeq (mIfS (mT (mOp eqF (mVar [] 3) (mK (.d (.int 6))))) (mRet (mOp addF (mVar [] 5) (mVar [] 5))) mNx) (mSeq (mIfS (mT (mOp eqF (mVar [] 3) (mK (.d (.int 7))))) (mRet (mCB tupF (mCons (mFz (mLc (mRange rng1 (mCons (mCall 2 F__law_of (mCons (mVar [] 0) (mCons (mFz (mLst (mCons (mK (.d (.int 39))) (mCons (mK (.d (.int 40))) (mCons (mK (.d (.int 41))) mNil))))) mNil))) mNil)) [6] (aName 6) (M.ret true) (mTup (mCons (mK (.d (.str "kind"))) (mCons (mOp addF (mK (.d (.str "k"))) (mCB strF (mCons (mOp addF (mK (.d (.int 100))) (mVar [] 6)) mNil))) (mCons (mTup mNil) mNil)))))) mNil))) mNx) (mRet (mIfE (mT (mOp eqF (mVar [] 3) (mK (.d (.int 8))))) (mFz (mCBF listF (mCons (mVar [] 5) mNil))) (mVar [] 5))))))))))
theorem ok__law_bent {f : Addr} {fd : FuncData} (T : Txt P K mg ec) {F__law_any : FM} {f__law_any : Addr} {d__law_any : FuncData} (C__law_any : Cal P w K mg base ec "_law_any" 1 ["deal", "bound"] F__law_any f__law_any d__law_any) {F__law_of : FM} {f__law_of : Addr} {d__law_of : FuncData} (C__law_of : Cal P w K mg base ec "_law_of" 2 ["deal", "some"] F__law_of f__law_of d__law_of) (F : FnP K "_law_bent" s__law_bent f fd) : FnOk P w K mg base (L2.CX P w) 3 f fd ["deal", "kinds"] (spD K ec 2 (fnM 7 (m__law_bent F__law_any F__law_of))) :=
  okD (ow := []) F sc__law_bent (by decide) fun cdv A outer s H E hr => ⟨_, (psd_cons (psd_par (i := 2) (j := 3) (show 2 ∉ ([] : List Nat) by decide) (show 3 ∉ ([] : List Nat) by decide) (pad_cons (pd_callC C__law_any hr (by decide) (by exact rfl) passD (pad_cons (pd_var 0) (pad_cons (pd_len (by exact rfl) T.b_len (pad_cons (pd_var 1) pad_nil)) pad_nil))) (pad_cons (pd_callC C__law_any hr (by decide) (by exact rfl) passD (pad_cons (pd_var 0) (pad_cons pd_int pad_nil))) pad_nil)) (fun h => ps_par rfl sc__law_bent.nd rfl rfl (by decide) rfl rfl h rfl)) (psd_cons (psd_set (i := 4) (show 4 ∉ ([] : List Nat) by decide) (pd_at (pd_var 1) (pd_var 2)) (fun h => ps_set sc__law_bent.nd rfl (Or.inl rfl) h)) (psd_cons (psd_if (ptd_eq (hu_of hr) (pd_var 3) pd_int) (psd_one (psd_set (i := 4) (show 4 ∉ ([] : List Nat) by decide) (pd_add (pd_sl (pd_var 4) pod_none (pod_some pd_int)) (pd_tup (pad_cons (pd_add (pd_at (pd_var 4) pd_int) (pd_tup (pad_cons (pd_callC C__law_of hr (by decide) (by exact rfl) passD (pad_cons (pd_var 0) (pad_cons (pd_fz (pf_lst (pad_cons (pd_tup (pad_cons pd_str (pad_cons pd_str pad_nil))) (pad_cons (pd_tup (pad_cons pd_str (pad_cons pd_str pad_nil))) (pad_cons (pd_tup (pad_cons pd_str (pad_cons pd_str pad_nil))) (pad_cons (pd_tup (pad_cons pd_str (pad_cons pd_str pad_nil))) (pad_cons (pd_tup (pad_cons pd_str (pad_cons pd_str pad_nil))) (pad_cons (pd_tup (pad_cons pd_str (pad_cons pd_non pad_nil))) (pad_cons (pd_tup (pad_cons pd_str pad_nil)) (pad_cons pd_str (pad_cons (pd_tup (pad_cons pd_str (pad_cons pd_str (pad_cons pd_int pad_nil)))) pad_nil))))))))))) pad_nil))) pad_nil))) pad_nil))) (fun h => ps_set sc__law_bent.nd rfl (Or.inl rfl) h))) (psd_one (psd_if (ptd_eq (hu_of hr) (pd_var 3) pd_int) (psd_one (psd_set (i := 4) (show 4 ∉ ([] : List Nat) by decide) (pd_add (pd_sl (pd_var 4) pod_none (pod_some pd_int)) (pd_tup (pad_cons (pd_add (pd_at (pd_var 4) pd_int) (pd_sl (pd_at (pd_var 4) pd_int) pod_none (pod_some pd_int))) pad_nil))) (fun h => ps_set sc__law_bent.nd rfl (Or.inl rfl) h))) (psd_one (psd_if (ptd_eq (hu_of hr) (pd_var 3) pd_int) (psd_one (psd_set (i := 4) (show 4 ∉ ([] : List Nat) by decide) (pd_tup (pad_cons pd_str (pad_cons (pd_callC C__law_of hr (by decide) (by exact rfl) passD (pad_cons (pd_var 0) (pad_cons (pd_fz (pf_lst (pad_cons pd_str (pad_cons pd_str (pad_cons pd_str (pad_cons pd_str (pad_cons pd_non (pad_cons pd_str pad_nil)))))))) pad_nil))) (pad_cons (pd_at (pd_var 4) pd_int) pad_nil)))) (fun h => ps_set sc__law_bent.nd rfl (Or.inl rfl) h))) (psd_one (psd_if (ptd_eq (hu_of hr) (pd_var 3) pd_int) (psd_one (psd_set (i := 4) (show 4 ∉ ([] : List Nat) by decide) (pd_callC C__law_of hr (by decide) (by exact rfl) passD (pad_cons (pd_var 0) (pad_cons (pd_fz (pf_lst (pad_cons (pd_fz (pf_list (by exact rfl) T.b_list (pad_cons (pd_var 4) pad_nil))) (pad_cons (pd_sl (pd_var 4) pod_none (pod_some pd_int)) (pad_cons (pd_add (pd_sl (pd_var 4) pod_none (pod_some pd_int)) (pd_tup (pad_cons (pd_fz (pf_list (by exact rfl) T.b_list (pad_cons (pd_at (pd_var 4) pd_int) pad_nil))) pad_nil))) (pad_cons (pd_add (pd_tup (pad_cons pd_str pad_nil)) (pd_sl (pd_var 4) (pod_some pd_int) pod_none)) (pad_cons pd_non pad_nil))))))) pad_nil))) (fun h => ps_set sc__law_bent.nd rfl (Or.inl rfl) h))) (psd_one (psd_if (ptd_eq (hu_of hr) (pd_var 3) pd_int) (psd_one (psd_set (i := 4) (show 4 ∉ ([] : List Nat) by decide) (pd_add (pd_sl (pd_var 4) pod_none (pod_some pd_int)) (pd_tup (pad_cons (pd_tupc (by exact rfl) T.b_tuple (pad_cons (pd_fz (pfd_lc rfl sc__law_bent.nd (g := (gName 6)) (tt := tYes) (te := (tTup (tCons (tOp (rAddA K) (tC (.str "f")) (tCB rStrI (tCons (tVar 6) tNil))) (tCons (tC (.str "int")) tNil)))) (pid_range1 (by exact rfl) T.b_range (pad_cons (pd_callC C__law_of hr (by decide) (by exact rfl) passD (pad_cons (pd_var 0) (pad_cons (pd_fz (pf_lst (pad_cons pd_int (pad_cons pd_int (pad_cons pd_int pad_nil))))) pad_nil))) pad_nil)) (own := [("number", 6)]) (blk_of (by kernel_rfl)) (fun _ _ _ _ _ => (pgd_name (i := 6) (show 6 ∉ ([] : List Nat) by decide) sc__law_bent.nd rfl (Or.inl rfl))) (fun _ _ _ _ _ => ptsd_nil) (fun _ _ _ _ _ => (pd_tup (pad_cons (pd_add pd_str (pd_str1 (by exact rfl) T.b_str (pad_cons (pd_var 6) pad_nil))) (pad_cons pd_str pad_nil)))) (show ∀ i ∈ ([6] : List Nat), i ∉ ([] : List Nat) by decide) (show ∀ i ∈ ([6] : List Nat), i ∈ ([6] : List Nat) by decide))) pad_nil)) pad_nil))) (fun h => ps_set sc__law_bent.nd rfl (Or.inl rfl) h))) psd_nil))))))))) (psd_cons (psd_set (i := 5) (show 5 ∉ ([] : List Nat) by decide) (pd_add (pd_add (pd_sl (pd_var 1) pod_none (pod_some (pd_var 2))) (pd_tup (pad_cons (pd_var 4) pad_nil))) (pd_sl (pd_var 1) (pod_some (pd_add (pd_var 2) pd_int)) pod_none)) (fun h => ps_set sc__law_bent.nd rfl (Or.inl rfl) h)) (psd_cons (psd_if (ptd_eq (hu_of hr) (pd_var 3) pd_int) (psd_one (psd_ret (pd_revT (pd_var 5)))) psd_nil) (psd_cons (psd_if (ptd_eq (hu_of hr) (pd_var 3) pd_int) (psd_one (psd_ret (pd_add (pd_var 5) (pd_var 5)))) psd_nil) (psd_cons (psd_if (ptd_eq (hu_of hr) (pd_var 3) pd_int) (psd_one (psd_ret (pd_tupc (by exact rfl) T.b_tuple (pad_cons (pd_fz (pfd_lc rfl sc__law_bent.nd (g := (gName 6)) (tt := tYes) (te := (tTup (tCons (tC (.str "kind")) (tCons (tOp (rAddA K) (tC (.str "k")) (tCB rStrI (tCons (tOp (rAddA K) (tC (.int 100)) (tVar 6)) tNil))) (tCons (tTup tNil) tNil))))) (pid_range1 (by exact rfl) T.b_range (pad_cons (pd_callC C__law_of hr (by decide) (by exact rfl) passD (pad_cons (pd_var 0) (pad_cons (pd_fz (pf_lst (pad_cons pd_int (pad_cons pd_int (pad_cons pd_int pad_nil))))) pad_nil))) pad_nil)) (own := [("number", 6)]) (blk_of (by kernel_rfl)) (fun _ _ _ _ _ => (pgd_name (i := 6) (show 6 ∉ ([] : List Nat) by decide) sc__law_bent.nd rfl (Or.inl rfl))) (fun _ _ _ _ _ => ptsd_nil) (fun _ _ _ _ _ => (pd_tup (pad_cons pd_str (pad_cons (pd_add pd_str (pd_str1 (by exact rfl) T.b_str (pad_cons (pd_add pd_int (pd_var 6)) pad_nil))) (pad_cons (pd_tup pad_nil) pad_nil))))) (show ∀ i ∈ ([6] : List Nat), i ∉ ([] : List Nat) by decide) (show ∀ i ∈ ([6] : List Nat), i ∈ ([6] : List Nat) by decide))) pad_nil)))) psd_nil) (psd_one (psd_ret (pd_ifE (ptd_eq (hu_of hr) (pd_var 3) pd_int) (pd_fz (pf_list (by exact rfl) T.b_list (pad_cons (pd_var 5) pad_nil))) (pd_var 5)))))))))))⟩
abbrev s__law_within : Stmt := top 39
abbrev N__law_within : List Str := ["kinds", "name", "found", "turn", "one", "told", "field"]
theorem sc__law_within : FnScope N__law_within ["kinds", "name"] (defScope s__law_within) := ⟨rfl, rfl, rfl, by decide +kernel, rfl, by decide +kernel, by decide +kernel⟩
noncomputable def m__law_within (F__law_kind_of : FM) : M Fl := (mSeq (mAsg (aName 2) (mFz (mLst mNil))) (mSeq (mFor (mRange rng1 (mCons (mOp addF (mCB lenF (mCons (mVar [] 0) mNil)) (mK (.d (.int 1)))) mNil)) (aName 3) (mFor (mIter (mOp addF (mFz (mLst (mCons (mVar [] 1) mNil))) (mVar [] 2))) (aName 4) (mAsg (aName 2) (mOp addF (mVar [] 2) (mFz (mLc (mIter (mCB sortDF (mCons (mFz (mLc (mIter (mCall 2 F__law_kind_of (mCons (mVar [] 0) (mCons (mVar [] 4) mNil)))) [6, 5] (aTup 2 (aCons (aName 6) (aCons (aName 5) aNil))) (M.ret true) (mTup (mCons (mVar [] 5) (mCons (mK (.d (.int 1))) mNil))))) mNil))) [5] (aName 5) (mAnd (mT (mOp neF (mVar [] 5) (mK (.d (.str "int"))))) (mT (mOp (inF true) (mVar [] 5) (mVar [] 2)))) (mVar [] 5))))))) (mRet (mCB tupF (mCons (mCB sortF (mCons (mVar [] 2) mNil)) mNil)))))
theorem ok__law_within {f : Addr} {fd : FuncData} (T : Txt P K mg ec) {F__law_kind_of : FM} {f__law_kind_of : Addr} {d__law_kind_of : FuncData} (C__law_kind_of : Cal P w K mg base ec "_law_kind_of" 1 ["kinds", "name"] F__law_kind_of f__law_kind_of d__law_kind_of) (F : FnP K "_law_within" s__law_within f fd) : FnOk P w K mg base (L2.CX P w) 2 f fd ["kinds", "name"] (spD K ec 2 (fnM 7 (m__law_within F__law_kind_of))) :=
  okD (ow := []) F sc__law_within (by decide) fun cdv A outer s H E hr => ⟨_, (psd_cons (psd_set (i := 2) (show 2 ∉ ([] : List Nat) by decide) (pd_fz (pf_lst pad_nil)) (fun h => ps_set sc__law_within.nd rfl (Or.inr rfl) h)) (psd_cons (psd_for ownD rfl (pid_range1 (by exact rfl) T.b_range (pad_cons (pd_add (pd_len (by exact rfl) T.b_len (pad_cons (pd_var 0) pad_nil)) pd_int) pad_nil)) (pgd_name (i := 3) (show 3 ∉ ([] : List Nat) by decide) sc__law_within.nd rfl (Or.inl rfl)) (psd_one (psd_for ownD rfl (pid_any (pd_add (pd_fz (pf_lst (pad_cons (pd_var 1) pad_nil))) (pd_var 2))) (pgd_name (i := 4) (show 4 ∉ ([] : List Nat) by decide) sc__law_within.nd rfl (Or.inl rfl)) (psd_one (psd_set (i := 2) (show 2 ∉ ([] : List Nat) by decide) (pd_add (pd_var 2) (pd_fz (pfd_lc rfl sc__law_within.nd (g := (gName 5)) (tt := (tAnd (tTest (tOp (rNeA K) (tVar 5) (tC (.str "int")))) (tTest (tOp (rInA K true) (tVar 5) (tVar 2))))) (te := (tVar 5)) (pid_any (pd_sortD rfl (by exact rfl) T.b_sorted (by exact rfl) T.b_dict (pad_cons (pd_fz (pfd_lc rfl sc__law_within.nd (g := (gTup K 2 (gCons (gName 6) (gCons (gName 5) gNil)))) (tt := tYes) (te := (tTup (tCons (tVar 5) (tCons (tC (.int 1)) tNil)))) (pid_any (pd_callC C__law_kind_of hr (by decide) (by exact rfl) passD (pad_cons (pd_var 0) (pad_cons (pd_var 4) pad_nil)))) (own := [("field", 6), ("told", 5)]) (blk_of (by kernel_rfl)) (fun _ _ _ _ _ => (pgd_tup (pgsd_cons (pgd_name (i := 6) (show 6 ∉ ([] : List Nat) by decide) sc__law_within.nd rfl (Or.inl rfl)) (pgsd_cons (pgd_name (i := 5) (show 5 ∉ ([] : List Nat) by decide) sc__law_within.nd rfl (Or.inl rfl)) pgsd_nil (fun h1 h2 => pgs_cons h1 h2)) (fun h1 h2 => pgs_cons h1 h2)) (fun h => pg_tup rfl h))) (fun _ _ _ _ _ => ptsd_nil) (fun _ _ _ _ _ => (pd_tup (pad_cons (pd_var 5) (pad_cons pd_int pad_nil)))) (show ∀ i ∈ ([6, 5] : List Nat), i ∉ ([] : List Nat) by decide) (show ∀ i ∈ ([6, 5] : List Nat), i ∈ ([6, 5] : List Nat) by decide))) pad_nil))) (own := [("told", 5)]) (blk_of (by kernel_rfl)) (fun _ _ _ _ _ => (pgd_name (i := 5) (show 5 ∉ ([] : List Nat) by decide) sc__law_within.nd rfl (Or.inl rfl))) (fun _ _ _ _ _ => (ptsd_one (ptd_w (pwd_and (ptd_ne (hu_of hr) (pd_var 5) pd_str) (pwd_and1 (ptd_notin (pd_var 5) (pd_var 2))))))) (fun _ _ _ _ _ => (pd_var 5)) (show ∀ i ∈ ([5] : List Nat), i ∉ ([] : List Nat) by decide) (show ∀ i ∈ ([5] : List Nat), i ∈ ([5] : List Nat) by decide)))) (fun h => ps_set sc__law_within.nd rfl (Or.inr rfl) h)))))) (psd_one (psd_ret (pd_tupc (by exact rfl) T.b_tuple (pad_cons (pd_sorted (by exact rfl) T.b_sorted (pad_cons (pd_var 2) pad_nil)) pad_nil))))))⟩
end
end K01
end
section
set_option maxRecDepth 100000
set_option maxHeartbeats 4000000
/-! # What printed mirrors compute: loops and comprehensions, in plain Lean -/
namespace DL
open PySem PySem.Spec
theorem whileN_stop {cc : M Bool} {body : M Fl} {n : Nat} {r r1 : Rho} {t t1 : Option Deal} (h : cc r t = .ok false r1 t1) : whileN cc body (n + 1) r t = .ok .nx r1 t1 := by
  unfold whileN; simp only [M.bind, h, whileT, M.ret]
theorem whileN_go {cc : M Bool} {body : M Fl} {n : Nat} {r r1 r2 : Rho} {t t1 t2 : Option Deal} (h : cc r t = .ok true r1 t1) (h2 : body r1 t1 = .ok .nx r2 t2) : whileN cc body (n + 1) r t = whileN cc body n r2 t2 := by
  conv => lhs; unfold whileN
  simp only [M.bind, h, whileT, h2, afterF]
theorem forL_cons {f : Sl → M Unit} {body : M Fl} {d : Sl} {ds : List Sl} {r r1 r2 : Rho} {t t1 t2 : Option Deal} (h : f d r t = .ok () r1 t1) (h2 : body r1 t1 = .ok .nx r2 t2) : forL f body (d :: ds) r t = forL f body ds r2 t2 := by
  conv => lhs; unfold forL
  simp only [M.bind, h, h2, afterF]
theorem forL_brk {f : Sl → M Unit} {body : M Fl} {d : Sl} {ds : List Sl} {r r1 r2 : Rho} {t t1 t2 : Option Deal} (h : f d r t = .ok () r1 t1) (h2 : body r1 t1 = .ok .bk r2 t2) : forL f body (d :: ds) r t = .ok .nx r2 t2 := by
  conv => lhs; unfold forL
  simp only [M.bind, h, h2, afterF, M.ret]
theorem wipeR_twice (r : Rho) (vs : List Nat) : wipeR (wipeR r vs) vs = wipeR r vs := by
  apply List.ext_getElem?
  intro i
  by_cases q : i ∈ vs
  · have h1 := @wipeR_in (wipeR r vs) i
    have h2 := @wipeR_in r i
    have hl : (wipeR (wipeR r vs) vs).length = (wipeR r vs).length := wipeR_len _ _
    cases e1 : (wipeR (wipeR r vs) vs)[i]? with
    | none =>
      have l1 := List.getElem?_eq_none_iff.mp e1
      exact (List.getElem?_eq_none_iff.mpr (by omega)).symm
    | some o1 =>
      have l1 := (List.getElem?_eq_some_iff.mp e1).1
      cases e2 : (wipeR r vs)[i]? with
      | none =>
        have l2 := List.getElem?_eq_none_iff.mp e2
        omega
      | some o2 =>
        cases o1 with
        | some x => exact absurd e1 (h1 (x := x) q)
        | none =>
          cases o2 with
          | some x => exact absurd e2 (h2 (x := x) q)
          | none => rfl
  · rw [wipeR_out q]
/-- a comprehension that leaves the deal as it is -/
theorem lcL_map {vs : List Nat} {f : Sl → M Unit} {test : M Bool} {elt : M Tk} {r0 : Rho} {t : Option Deal} {p : Sl → Bool} {g : Sl → PyData} : ∀ (ds : List Sl) (acc : List PyData) (r : Rho), wipeR r vs = r0 → acc.length + ds.length < 1000000 →
    (∀ d ∈ ds, ∃ r1, lcOne vs f test elt d r0 t = .ok (if p d then some (g d) else none) r1 t ∧ wipeR r1 vs = r0) → ∃ r1, lcL vs f test elt ds acc r t = .ok (acc ++ ((ds.filter p).map g)) r1 t ∧ wipeR r1 vs = r0
  | [], acc, r, hr, _, _ => ⟨r, by simp [lcL, M.ret], hr⟩
  | d :: ds, acc, r, hr, hl, h => by
    obtain ⟨r1, e, w⟩ := h d List.mem_cons_self
    have e' : lcOne vs f test elt d r t = .ok (if p d then some (g d) else none) r1 t := by
      rw [← e]
      unfold lcOne M.bind wipeM
      simp only
      have : wipeR r0 vs = r0 := by
        rw [← w]
        exact wipeR_twice r1 vs
      rw [hr, this]
    have hl' : acc.length < 16777216 := by
      simp at hl
      omega
    unfold lcL
    unfold M.bind
    rw [e']
    cases hp : p d with
    | true =>
      rw [if_pos rfl]
      simp only [lcPut, if_pos hl']
      obtain ⟨r2, e2, w2⟩ := lcL_map ds (acc ++ [g d]) r1 w (by simp at hl ⊢; omega) (fun d' hd' => h d' (List.mem_cons_of_mem _ hd'))
      refine ⟨r2, ?_, w2⟩
      rw [e2]
      simp [List.filter_cons, hp]
    | false =>
      rw [if_neg Bool.false_ne_true]
      simp only [lcPut]
      obtain ⟨r2, e2, w2⟩ := lcL_map ds acc r1 w (by simp at hl ⊢; omega) (fun d' hd' => h d' (List.mem_cons_of_mem _ hd'))
      refine ⟨r2, ?_, w2⟩
      rw [e2]
      simp [List.filter_cons, hp]
theorem mLc_map {mi : M (List Sl)} {vs : List Nat} {f : Sl → M Unit} {test : M Bool} {elt : M Tk} {r : Rho} {t : Option Deal} {p : Sl → Bool} {g : Sl → PyData} {ds : List Sl} (hi : mi r t = .ok ds r t) (hl : ds.length < 1000000) (hr : restR r (wipeR r vs) vs = r)
    (h : ∀ d ∈ ds, ∃ r1, lcOne vs f test elt d (wipeR r vs) t = .ok (if p d then some (g d) else none) r1 t ∧ wipeR r1 vs = wipeR r vs) : mLc mi vs f test elt r t = .ok ((ds.filter p).map g) r t := by
  obtain ⟨r1, e, w⟩ := lcL_map ds [] (wipeR r vs) (wipeR_twice r vs) (by simpa using hl) h
  unfold mLc M.bind
  rw [hi]
  simp only [inComp, noX, e, w, hr, List.nil_append]
theorem set_self {r : Rho} {i : Nat} (hi : i < r.length) : (r.set i none).set i (r[i]?.getD none) = r := by
  rw [List.set_set]
  apply List.ext_getElem?
  intro j
  by_cases q : i = j
  · subst q
    rw [List.getElem?_set_self hi, List.getElem?_eq_getElem hi]
    rfl
  · rw [List.getElem?_set_ne q]

def seqD : PyData → Option (List PyData)
  | .list xs => some xs
  | .tuple xs => some xs
  | _ => none
theorem iter_seq {j : Nat} {ow : List Nat} {r : Rho} {t : Option Deal} {v : PyData} {vs : List PyData} (h0 : r[j]? = some (some (.d v))) (hv : seqD v = some vs) (ho : j ∉ ow) : mIter (mVar ow j) r t = .ok (vs.map Sl.d) r t := by
  have e3 : itemsOf (.d v) = some (vs.map Sl.d) := by
    cases v with
    | list ws => cases hv; rfl
    | tuple ws => cases hv; rfl
    | _ => cases hv
  unfold mIter
  simp only [M.bind, mVar, h0, if_neg ho, keep, optM, e3]
theorem iter_str {j : Nat} {ow : List Nat} {r : Rho} {t : Option Deal} {z : Str} (h0 : r[j]? = some (some (.d (.str z)))) (ho : j ∉ ow) : mIter (mVar ow j) r t = .ok (signs z) r t := by
  unfold mIter
  simp only [M.bind, mVar, h0, if_neg ho, keep, optM, itemsOf]
/-- [elt for x in .. if test], x's slot i -/
theorem lc1 {mi : M (List Sl)} {i : Nat} {test : M Bool} {elt : M Tk} {r : Rho} {t : Option Deal} {p : Sl → Bool} {g : Sl → PyData} {ds : List Sl} (hi : mi r t = .ok ds r t) (hl : ds.length < 1000000) (hk : i < r.length)
    (hT : ∀ d ∈ ds, test (r.set i (some d)) t = .ok (p d) (r.set i (some d)) t) (hE : ∀ d ∈ ds, p d = true → elt (r.set i (some d)) t = .ok (.v (.d (g d))) (r.set i (some d)) t) : mLc mi [i] (aName i) test elt r t = .ok ((ds.filter p).map g) r t := by
  refine mLc_map hi hl (show ((wipeR r []).set i none |>.set i (r[i]?.getD none)) = r from set_self hk) fun d hd => ⟨r.set i (some d), ?_, ?_⟩
  · have w1 : wipeR (wipeR r [i]) [i] = r.set i none := by
      show ((r.set i none).set i none) = _
      rw [List.set_set]
    have w2 : (r.set i none).set i (some d) = r.set i (some d) := List.set_set ..
    unfold lcOne
    simp only [M.bind, wipeM, w1, aName, w2, hT d hd]
    cases hp : p d with
    | true => simp only [if_true, M.bind, hE d hd hp, dataOf, optM, M.ret]
    | false => simp [M.ret]
  · show (r.set i (some d)).set i none = r.set i none
    rw [List.set_set]
/-- [elt for x, y in .. if test], the slots i, j -/
theorem lc2v {mi : M (List Sl)} {i j : Nat} {test : M Bool} {elt : M Tk} {r : Rho} {t : Option Deal} {p : PyData × PyData → Bool} {g : PyData × PyData → PyData} {ds : List (PyData × PyData)} (hij : i ≠ j) (hi : mi r t = .ok (ds.map pairS) r t) (hl : ds.length < 1000000) (hk : i < r.length) (hk2 : j < r.length)
    (hT : ∀ d ∈ ds, test ((r.set i (some (.d d.1))).set j (some (.d d.2))) t = .ok (p d) ((r.set i (some (.d d.1))).set j (some (.d d.2))) t)
    (hE : ∀ d ∈ ds, p d = true → elt ((r.set i (some (.d d.1))).set j (some (.d d.2))) t = .ok (.v (.d (g d))) ((r.set i (some (.d d.1))).set j (some (.d d.2))) t) :
    mLc mi [i, j] (aTup 2 (aCons (aName i) (aCons (aName j) aNil))) test elt r t = .ok ((ds.filter p).map g) r t := by
  have hr : restR r (wipeR r [i, j]) [i, j] = r := by
    show ((((r.set j none).set i none).set j (r[j]?.getD none)).set i (r[i]?.getD none)) = r
    apply List.ext_getElem?
    intro k
    by_cases h2 : k = i
    · subst h2
      rw [List.getElem?_set_self (by simpa using hk), List.getElem?_eq_getElem hk]
      rfl
    · rw [List.getElem?_set_ne (Ne.symm h2)]
      by_cases h3 : k = j
      · subst h3
        rw [List.getElem?_set_self (by simpa using hk2), List.getElem?_eq_getElem hk2]
        rfl
      · rw [List.getElem?_set_ne (Ne.symm h3), List.getElem?_set_ne (Ne.symm h2), List.getElem?_set_ne (Ne.symm h3)]
  have key := mLc_map (mi := mi) (vs := [i, j]) (f := aTup 2 (aCons (aName i) (aCons (aName j) aNil))) (test := test) (elt := elt) (r := r) (t := t) (ds := ds.map pairS) (p := fun d => match d with
    | .d (.tuple [x, y]) => p (x, y)
    | _ => false) (g := fun d => match d with
    | .d (.tuple [x, y]) => g (x, y)
    | _ => .none) hi (by simpa using hl) hr fun d hd => ?_
  · rw [key, List.filter_map, List.map_map]
    rfl
  · obtain ⟨⟨x, y⟩, hx, rfl⟩ := List.mem_map.mp hd
    have w1 : wipeR (wipeR r [i, j]) [i, j] = wipeR r [i, j] := wipeR_twice r [i, j]
    have w2 : ((wipeR r [i, j]).set i (some (.d x))).set j (some (.d y)) = (r.set i (some (.d x))).set j (some (.d y)) := by
      show ((((r.set j none).set i none).set i (some (.d x))).set j (some (.d y))) = _
      rw [List.set_set, List.set_comm _ _ hij.symm, List.set_set, List.set_comm _ _ hij]
    refine ⟨(r.set i (some (.d x))).set j (some (.d y)), ?_, ?_⟩
    · have a1 : aTup 2 (aCons (aName i) (aCons (aName j) aNil)) (pairS (x, y)) (wipeR r [i, j]) t = .ok () ((r.set i (some (.d x))).set j (some (.d y))) t := by
        rw [← w2]
        simp [aTup, pairS, aCons, aName, aNil, M.bind, M.ret]
      have hT' := hT (x, y) hx
      have hE' := hE (x, y) hx
      unfold lcOne
      simp only [M.bind, wipeM, w1, a1]
      simp only at hT' hE'
      simp only [hT']
      cases hp : p (x, y) with
      | true => simp [pairS, hp, M.bind, hE' hp, dataOf, optM, M.ret]
      | false => simp [pairS, hp, M.ret]
    · show ((((r.set i (some (.d x))).set j (some (.d y))).set j none).set i none) = ((r.set j none).set i none)
      rw [List.set_set, List.set_comm _ _ hij, List.set_set, List.set_comm _ _ hij.symm]
/-- [elt for x in .. for y in ..]: the slots i, j -/
theorem lcc {mi mi1 : M (List Sl)} {i j : Nat} {elt : M Tk} {r : Rho} {t : Option Deal} {items : Sl → List Sl} {g : Sl → Sl → PyData} {ds : List Sl} (hij : i ≠ j) (hi : mi r t = .ok ds r t) (hk : i < r.length) (hk2 : j < r.length)
    (h1 : ∀ d ∈ ds, mi1 ((r.set j none).set i (some d)) t = .ok (items d) ((r.set j none).set i (some d)) t) (hz : (ds.map fun d => (items d).length).sum < 1000000) (hy : ∀ d ∈ ds, mi1 ((r.set j none).set i (some d)) t = .ok (items d) ((r.set j none).set i (some d)) t)
    (hE : ∀ d ∈ ds, ∀ e ∈ items d, elt ((r.set i (some d)).set j (some e)) t = .ok (.v (.d (g d e))) ((r.set i (some d)).set j (some e)) t) :
    mLc2 mi [i, j] (aName i) (M.ret true) mi1 [j] (aName j) (M.ret true) elt r t = .ok (ds.flatMap fun d => (items d).map (g d)) r t := by
  have w0 : wipeR r [i, j] = (r.set j none).set i none := rfl
  have inner : ∀ (d : Sl) (es : List Sl) (acc : List PyData) (r' : Rho), d ∈ ds → (∀ e ∈ es, e ∈ items d) → r'.set j none = (r.set i (some d)).set j none → acc.length + es.length < 1000000 → ∃ r1, lcL [j] (aName j) (M.ret true) elt es acc r' t = .ok (acc ++ es.map (g d)) r1 t ∧ r1.set j none = (r.set i (some d)).set j none := by
    intro d es
    induction es with
    | nil => intro acc r' _ _ hr _; exact ⟨r', by simp [lcL, M.ret], hr⟩
    | cons e es ih =>
      intro acc r' hd he hr hl
      have hs : (r'.set j none).set j (some e) = (r.set i (some d)).set j (some e) := by rw [hr, List.set_set]
      have e1 := hE d hd e (he e List.mem_cons_self)
      obtain ⟨r1, e2, w2⟩ := ih (acc ++ [g d e]) ((r.set i (some d)).set j (some e)) hd (fun x hx => he x (List.mem_cons_of_mem _ hx)) (by rw [List.set_set]) (by simp at hl ⊢; omega)
      refine ⟨r1, ?_, w2⟩
      have hacc : acc.length < 16777216 := by simp at hl; omega
      unfold lcL lcOne
      simp only [M.bind, wipeM, wipeR, aName, hs, M.ret, if_true, e1, dataOf, optM, lcPut, if_pos hacc, e2]
      simp
  have outer : ∀ (es : List Sl) (acc : List PyData) (r' : Rho), (∀ e ∈ es, e ∈ ds) → wipeR r' [i, j] = wipeR r [i, j] → acc.length + (es.map fun d => (items d).length).sum < 1000000 → ∃ r1, lc2L [i, j] (aName i) (M.ret true) mi1 [j] (aName j) (M.ret true) elt es acc r' t = .ok (acc ++ es.flatMap fun d => (items d).map (g d)) r1 t ∧ wipeR r1 [i, j] = wipeR r [i, j] := by
    intro es
    induction es with
    | nil => intro acc r' _ hr _; exact ⟨r', by simp [lc2L, M.ret], hr⟩
    | cons d es ih =>
      intro acc r' he hr hl
      have hd := he d List.mem_cons_self
      have s1 : (wipeR r' [i, j]).set i (some d) = (r.set j none).set i (some d) := by
        rw [hr, w0, List.set_set]
      have s2 : ((r.set j none).set i (some d)).set j none = (r.set i (some d)).set j none := by
        rw [List.set_comm _ _ hij, List.set_set, List.set_comm _ _ hij.symm]
      simp only [List.map_cons, List.sum_cons] at hl
      obtain ⟨r1, e1, w1⟩ := inner d (items d) acc ((r.set j none).set i (some d)) hd (fun _ h => h) s2 (by omega)
      have w1' : wipeR r1 [i, j] = wipeR r [i, j] := by
        show (r1.set j none).set i none = _
        rw [w1, w0, List.set_comm _ _ hij, List.set_set, List.set_comm _ _ hij.symm]
      obtain ⟨r2, e2, w2⟩ := ih (acc ++ (items d).map (g d)) r1 (fun x hx => he x (List.mem_cons_of_mem _ hx)) w1' (by simp; omega)
      refine ⟨r2, ?_, w2⟩
      unfold lc2L lc2One
      simp only [M.bind, wipeM, aName, s1, M.ret, if_true, h1 d hd, e1, e2]
      simp
  obtain ⟨r1, e1, w1⟩ := outer ds [] (wipeR r [i, j]) (fun _ h => h) (wipeR_twice r [i, j]) (by simpa using hz)
  unfold mLc2 M.bind
  rw [hi]
  simp only [inComp, noX, e1, w1, List.nil_append]
  congr 1
  show ((((r.set j none).set i none).set j (r[j]?.getD none)).set i (r[i]?.getD none)) = r
  apply List.ext_getElem?
  intro k
  by_cases h2 : k = i
  · subst h2
    rw [List.getElem?_set_self (by simpa using hk), List.getElem?_eq_getElem hk]
    rfl
  · rw [List.getElem?_set_ne (Ne.symm h2)]
    by_cases h3 : k = j
    · subst h3
      rw [List.getElem?_set_self (by simpa using hk2), List.getElem?_eq_getElem hk2]
      rfl
    · rw [List.getElem?_set_ne (Ne.symm h3), List.getElem?_set_ne (Ne.symm h2), List.getElem?_set_ne (Ne.symm h3)]
end DL
end
section
set_option maxRecDepth 100000
set_option maxHeartbeats 4000000
/-! # Kinds: what each def computes, in plain Lean -/
namespace K01
open PySem PySem.Spec DL
def letS : Str := "abcdefghijklmnopqrstuvwxyz"
def digS : Str := "0123456789"
def bothS : Str := "abcdefghijklmnopqrstuvwxyz0123456789"
def isName (z : Str) : Bool := (decide (1 ≤ z.length) && (decide (z.length ≤ 12) && !decide (z ∈ wordsL))) && ((match z.cps.toList with
  | [] => false
  | c :: _ => decide (c ∈ letS.cps.toList)) && z.cps.toList.all fun c => decide (c ∈ letS.cps.toList) || decide (c ∈ digS.cps.toList))
def isNameD : PyData → Bool
  | .str z => isName z
  | _ => false
def fine (v : PyData) : Bool := v.canLay0 && decide (v.depth ≤ 64) && decide (v.weight ≤ 500000)
def F_is_name : FM := fun xs t => match xs with
  | [.d v] => if fine v then .ok (.d (.bool (isNameD v))) t else .st
  | _ => .st
def F__law_is_name : FM := F_is_name
def ascL : List Str → Bool
  | a :: b :: r => decide (a.cps.toList < b.cps.toList) && ascL (b :: r)
  | _ => true
def strsIn : List Sl → Option (List Str)
  | [.d (.list ds)] => strsOf ds
  | _ => none
def F_are_ascending : FM := fun xs t => match strsIn xs with
  | some zs => if zs.length ≤ 4000 then .ok (.d (.bool (ascL zs))) t else .st
  | none => .st
def F_are_unlike : FM := fun xs t => match strsIn xs with
  | some zs => if zs.length ≤ 4000 then .ok (.d (.bool (decide (zs.Nodup)))) t else .st
  | none => .st
def isTypeD : PyData → Bool
  | .str z => decide (z = "int") || isName z
  | _ => false
def F_is_type : FM := fun xs t => match xs with
  | [.d v] => if fine v then .ok (.d (.bool (isTypeD v))) t else .st
  | _ => .st
abbrev Fd := Str × Str
abbrev Kd := Str × List Fd
def unField : PyData → Option Fd
  | .tuple [.str a, .str b] => if isName a && isTypeD (.str b) then some (a, b) else none
  | _ => none
def allSome {α : Type} : List (Option α) → Option (List α)
  | [] => some []
  | some x :: r => (match allSome r with
    | some xs => some (x :: xs)
    | none => none)
  | none :: _ => none
def F_is_field : FM := fun xs t => match xs with
  | [.d v] => if fine v then .ok (.d (.bool (unField v).isSome)) t else .st
  | _ => .st
def unKind : PyData → Option Kd
  | .tuple [.str k, .str n, .tuple fs] => if decide (k = "kind") && isName n && decide (fs.length ≤ 12) then (match allSome (fs.map unField) with
      | some ps => if decide ((ps.map (·.1)).Nodup) then some (n, ps) else none
      | none => none) else none
  | _ => none
def F_is_kind : FM := fun xs t => match xs with
  | [.d v] => if fine v then .ok (.d (.bool (unKind v).isSome)) t else .st
  | _ => .st
def F__law_is_kind : FM := F_is_kind
def typesOk (ks : List Kd) : Bool := ks.all fun k => k.2.all fun f => decide (f.2 = "int") || decide (f.2 ∈ ks.map (·.1))
def unKinds : PyData → Option (List Kd)
  | .tuple vs => if vs.length ≤ 40 then (match allSome (vs.map unKind) with
      | some ks => if ascL (ks.map (·.1)) && typesOk ks then some ks else none
      | none => none) else none
  | _ => none
def F_are_kinds : FM := fun xs t => match xs with
  | [.d v] => if fine v then .ok (.d (.bool (unKinds v).isSome)) t else .st
  | _ => .st
def F__law_are_kinds : FM := F_are_kinds
def F_checked_kinds : FM := fun xs t => match xs with
  | [.d v] => if fine v then (if (unKinds v).isSome then .ok (.d .none) t else .ex "InvalidKind" (.int 0) t) else .st
  | _ => .st
def fD (f : Fd) : PyData := .tuple [.str f.1, .str f.2]
def kD (k : Kd) : PyData := .tuple [.str "kind", .str k.1, .tuple (k.2.map fD)]
def ksD (ks : List Kd) : PyData := .tuple (ks.map kD)
def named (ks : List Kd) (z : Str) : Option Kd := ks.find? fun k => decide (k.1 = z)
def F_kind_named : FM := fun xs t => match xs with
  | [.d v, .d (.str z)] => (match unKinds v with
    | some ks => .ok (.d (match named ks z with | some k => kD k | none => .none)) t
    | none => .st)
  | _ => .st
def nameIn (ks : List Kd) : PyData → Option Kd
  | .str z => if isName z then named ks z else none
  | _ => none
def F_checked_kind_name : FM := fun xs t => match xs with
  | [.d v, .d n, .d (.int at_)] => if fine n then (match unKinds v with
    | some ks => (match nameIn ks n with
      | some k => .ok (.d (kD k)) t
      | none => .ex "InvalidQuestion" (.int at_) t)
    | none => .st) else .st
  | _ => .st
def F_fields_of : FM := fun xs t => match xs with
  | [.d v, .d n] => if fine v && fine n then (match unKinds v with
    | some ks => (match nameIn ks n with
      | some k => .ok (.d (.tuple (k.2.map fD))) t
      | none => .ex "InvalidQuestion" (.int 1) t)
    | none => .ex "InvalidKind" (.int 0) t) else .st
  | _ => .st
/-- what one kind tells of others -/
def told (ks : List Kd) (z : Str) : List Str := match named ks z with
  | some k => (k.2.map (·.2)).filter fun s : Str => decide (s ≠ ("int" : Str))
  | none => []
/-- one kind's fields gone through -/
def addT (ks : List Kd) : List Str → List Str × List Str → List Str × List Str
  | [], p => p
  | s :: r, (wait, found) => if s = "int" ∨ s ∈ found then addT ks r (wait, found) else addT ks r (wait ++ [s], found ++ [s])
def wk (ks : List Kd) : Nat → List Str → List Str → List Str
  | 0, _, found => found
  | n + 1, wait, found => match wait.getLast? with
    | none => found
    | some z => (match named ks z with
      | some k => let p := addT ks (k.2.map (·.2)) (wait.dropLast, found)
        wk ks n p.1 p.2
      | none => found)
def withinL (ks : List Kd) (z : Str) : List Str := sortS (wk ks (ks.length + 2) [z] [])
def strT (zs : List Str) : PyData := .tuple (zs.map PyData.str)
def F_within_kinds : FM := fun xs t => match xs with
  | [.d v, .d n] => if fine v && fine n then (match unKinds v with
    | some ks => (match nameIn ks n with
      | some k => .ok (.d (strT (withinL ks k.1))) t
      | none => .ex "InvalidQuestion" (.int 1) t)
    | none => .ex "InvalidKind" (.int 0) t) else .st
  | _ => .st
/-! the law's own -/
def F__law_kind_of : FM := fun xs t => match xs with
  | [.d v, .d (.str z)] => (match unKinds v with
    | some ks => (match named ks z with
      | some k => .ok (.d (.tuple (k.2.map fD))) t
      | none => .st)
    | none => .st)
  | _ => .st
/-- all of a round's names, the new ones put behind -/
def lawOne (ks : List Kd) (found : List Str) (z : Str) : List Str := found ++ (sortS (once [] (match named ks z with
  | some k => k.2.map (·.2)
  | none => []))).filter fun s : Str => decide (s ≠ ("int" : Str)) && !decide (s ∈ found)
def lawTurn (ks : List Kd) (z : Str) (found : List Str) : List Str := (z :: found).foldl (lawOne ks) found
def lawWithin (ks : List Kd) (z : Str) : Nat → List Str → List Str
  | 0, found => found
  | n + 1, found => lawWithin ks z n (lawTurn ks z found)
def F__law_within : FM := fun xs t => match xs with
  | [.d v, .d (.str z)] => (match unKinds v with
    | some ks => (match named ks z with
      | some _ => .ok (.d (strT (sortS (lawWithin ks z (ks.length + 1) [])))) t
      | none => .st)
    | none => .st)
  | _ => .st
end K01
end
section
set_option maxRecDepth 100000
set_option maxHeartbeats 4000000
namespace K01
open PySem PySem.Spec DL
theorem fine_len {z : Str} (h : fine (.str z) = true) : z.length ≤ 1048576 := by
  unfold fine at h
  rw [Bool.and_eq_true] at h
  have := of_decide_eq_true h.2
  have e : z.length = z.cps.size := rfl
  rw [e]
  have e2 : (PyData.str z).weight = z.cps.size := by simp [PyData.weight]
  omega
theorem cps_size (z : Str) : z.length = z.cps.toList.length := by
  show z.cps.size = _
  simp
/-- a text in a row of texts -/
theorem in_strs (neg : Bool) (z : Str) (zs : List Str) : inD (.str z) (zs.map PyData.str) = decide (z ∈ zs) := by
  induction zs with
  | nil => rfl
  | cons y zs ih =>
    unfold inD at ih ⊢
    rw [List.map_cons, List.any_cons, ih]
    have e : PyData.eqv (.str y) (.str z) = decide (z = y) := by
      by_cases h : z = y
      · subst h; simp [PyData.eqv]
      · have h' : ¬ y = z := fun q => h q.symm
        simp [PyData.eqv, h, h']
    rw [e]
    simp
theorem flat_strs (zs : List Str) : (zs.map PyData.str).all flatD = true := by
  rw [List.all_eq_true]
  intro x hx
  obtain ⟨z, _, rfl⟩ := List.mem_map.mp hx
  rfl
theorem in_tup (z : Str) (zs : List Str) : inF false (.d (.str z)) (.d (.tuple (zs.map PyData.str))) = some (.d (.bool (decide (z ∈ zs)))) := by
  have f : flatD (.str z) = true := rfl
  unfold inF
  simp only [f, flat_strs, Bool.and_self, if_true, in_strs false]
  rfl
theorem in_lst (z : Str) (zs : List Str) : inF false (.d (.str z)) (.d (.list (zs.map PyData.str))) = some (.d (.bool (decide (z ∈ zs)))) := by
  have f : flatD (.str z) = true := rfl
  unfold inF
  simp only [f, flat_strs, Bool.and_self, if_true, in_strs false]
  rfl
theorem nin_lst (z : Str) (zs : List Str) : inF true (.d (.str z)) (.d (.list (zs.map PyData.str))) = some (.d (.bool (!decide (z ∈ zs)))) := by
  have f : flatD (.str z) = true := rfl
  unfold inF
  simp only [f, flat_strs, Bool.and_self, if_true, in_strs false]
theorem in_sign (c : Nat) (z : Str) : inF false (.d (.str ⟨#[c]⟩)) (.d (.str z)) = some (.d (.bool (decide (c ∈ z.cps.toList)))) := rfl
theorem nin_sign (c : Nat) (z : Str) : inF true (.d (.str ⟨#[c]⟩)) (.d (.str z)) = some (.d (.bool (!decide (c ∈ z.cps.toList)))) := rfl
theorem at_sign {z : Str} {c : Nat} {r : List Nat} (h : z.cps.toList = c :: r) (hl : z.length ≤ 1048576) : atF (.d (.str z)) (.d (.int 0)) = some (.d (.str ⟨#[c]⟩)) := by
  unfold atF
  simp only
  rw [if_pos (by omega), h]
  simp [L2.atI, L2.ixN]
theorem chain_len (z : Str) (r : Rho) (t : Option Deal) (h : r[0]? = some (some (.d (.str z)))) (hl : z.length ≤ 1048576) : mChain leF leF (mK (.d (.int 1))) (mCB lenF (mCons (mVar [] 0) mNil)) (mK (.d (.int 12))) r t = .ok (.v (.d (.bool (decide (1 ≤ z.length) && decide (z.length ≤ 12))))) r t := by
  have hl' : z.length ≤ 16777216 := by omega
  by_cases h1 : 1 ≤ z.length
  · have h1' : (1 : Int) ≤ (z.length : Int) := by omega
    have e : decide ((z.length : Int) ≤ 12) = decide (z.length ≤ 12) := decide_eq_decide.mpr (by omega)
    simp [M.bind, M.ret, M.st, mT, mOp, mVar, mK, use, keep, lft, boolOf, optM, mCB, useAll, mCons, mNil, mTup, mLst, mFz, keepD, mSeq, mRet, mIfS, mAnd, mOr, mNot, mAndV, mOrV, mNotV, mIfE, mCall, keepAll, runF, mAsg, aName, mNx, mChain, fnM, startR, isiF, isT, isTN, askT, tyN, isF, asks, truD, mTru, truS, isNoneD, isBoolD, mRaise, raiseM, oneD, mDrop, aTup, aCons, aNil, twoK, mPar, mU1, mM1, strOf, List.replicate, leF, cmpF, lenF, h, hl', h1, h1', e]
  · have h1' : ¬ (1 : Int) ≤ (z.length : Int) := by omega
    simp [M.bind, M.ret, M.st, mT, mOp, mVar, mK, use, keep, lft, boolOf, optM, mCB, useAll, mCons, mNil, mTup, mLst, mFz, keepD, mSeq, mRet, mIfS, mAnd, mOr, mNot, mAndV, mOrV, mNotV, mIfE, mCall, keepAll, runF, mAsg, aName, mNx, mChain, fnM, startR, isiF, isT, isTN, askT, tyN, isF, asks, truD, mTru, truS, isNoneD, isBoolD, mRaise, raiseM, oneD, mDrop, aTup, aCons, aNil, twoK, mPar, mU1, mM1, strOf, List.replicate, leF, cmpF, lenF, h, hl', h1, h1']
theorem signs_lc {test : M Bool} {elt : M Tk} {p : Nat → Bool} {g : Nat → PyData} {z : Str} {r : Rho} {t : Option Deal} {i : Nat} (h : r[0]? = some (some (.d (.str z)))) (hi : i < r.length) (hl : z.length ≤ 1048576 / 2)
    (hT : ∀ c, test (r.set i (some (.d (.str ⟨#[c]⟩)))) t = .ok (p c) (r.set i (some (.d (.str ⟨#[c]⟩)))) t) (hE : ∀ c, p c = true → elt (r.set i (some (.d (.str ⟨#[c]⟩)))) t = .ok (.v (.d (g c))) (r.set i (some (.d (.str ⟨#[c]⟩)))) t) :
    mLc (mIter (mVar [] 0)) [i] (aName i) test elt r t = .ok ((z.cps.toList.filter p).map g) r t := by
  have key := lc1 (mi := mIter (mVar [] 0)) (i := i) (test := test) (elt := elt) (r := r) (t := t) (p := fun d => match d with
    | .d (.str y) => (match y.cps.toList with
      | c :: _ => p c
      | [] => false)
    | _ => false) (g := fun d => match d with
    | .d (.str y) => (match y.cps.toList with
      | c :: _ => g c
      | [] => .none)
    | _ => .none) (ds := signs z) (iter_str h (by simp)) (by unfold signs; rw [List.length_map, ← cps_size]; omega) hi ?_ ?_
  · rw [key]
    unfold signs
    rw [List.filter_map, List.map_map]
    rfl
  · intro d hd
    obtain ⟨c, _, rfl⟩ := List.mem_map.mp hd
    exact hT c
  · intro d hd hp
    obtain ⟨c, _, rfl⟩ := List.mem_map.mp hd
    exact hE c hp
theorem all_bools {α : Type} (f : α → Bool) (l : List α) : allF [.d (.list (l.map fun c => PyData.bool (f c)))] = some (.d (.bool (l.all f))) := by
  have e : boolsOf (l.map fun c => PyData.bool (f c)) = some (l.map f) := by
    induction l with
    | nil => rfl
    | cons x l ih =>
      rw [List.map_cons, List.map_cons]
      unfold boolsOf
      rw [ih]
  unfold allF
  simp only [e, Option.map_some, List.all_map]
  rfl
theorem e_name : ∀ xs t, F_is_name xs t ≠ .st → fnM 2 m_is_name xs t = F_is_name xs t := by
  intro xs t h
  unfold F_is_name at h ⊢
  split at h
  · rename_i v
    by_cases hf : fine v = true
    · simp only [hf, if_true]
      cases v with
      | str z =>
        have hl := fine_len hf
        have e1 := chain_len z [some (.d (.str z)), none] t rfl hl
        have e2 : inF false (.d (.str z)) (.d (.tuple wordsD)) = some (.d (.bool (decide (z ∈ wordsL)))) := in_tup z wordsL
        by_cases h1 : 1 ≤ z.length ∧ z.length ≤ 12
        · have b1 : (decide (1 ≤ z.length) && decide (z.length ≤ 12)) = true := by simp [h1.1, h1.2]
          rw [b1] at e1
          by_cases h2 : z ∈ wordsL
          · rw [decide_eq_true h2] at e2
            have fin : isNameD (.str z) = false := by
              unfold isNameD isName
              simp [h2]
            rw [fin]
            simp only [m_is_name]
            generalize mChain leF leF (mK (.d (.int 1))) (mCB lenF (mCons (mVar [] 0) mNil)) (mK (.d (.int 12))) = CH at e1 ⊢
            simp [M.bind, M.ret, M.st, mT, mOp, mVar, mK, use, keep, lft, boolOf, optM, mCB, useAll, mCons, mNil, mTup, mLst, mFz, keepD, mSeq, mRet, mIfS, mAnd, mOr, mNot, mAndV, mOrV, mNotV, mIfE, mCall, keepAll, runF, mAsg, aName, mNx, mChain, fnM, startR, isiF, isT, isTN, askT, tyN, isF, asks, truD, mTru, truS, isNoneD, isBoolD, mRaise, raiseM, oneD, mDrop, aTup, aCons, aNil, twoK, mPar, mU1, mM1, strOf, List.replicate, e1, e2]
          · rw [decide_eq_false h2] at e2
            obtain ⟨c, cr, hc⟩ : ∃ c cr, z.cps.toList = c :: cr := by
              cases hz : z.cps.toList with
              | nil => rw [cps_size, hz] at h1; exact absurd h1.1 (by simp)
              | cons c cr => exact ⟨c, cr, rfl⟩
            have e3 := at_sign hc hl
            have e4 := in_sign c letS
            have lc := signs_lc (test := M.ret true) (elt := mOrV (mOp (inF false) (mVar [] 1) (mK (.d (.str letS)))) (mOp (inF false) (mVar [] 1) (mK (.d (.str digS))))) (p := fun _ => true) (g := fun c => PyData.bool (decide (c ∈ letS.cps.toList) || decide (c ∈ digS.cps.toList))) (z := z) (r := [some (.d (.str z)), none]) (t := t) (i := 1) rfl (Nat.lt_succ_self 1) (by omega) (fun _ => rfl) (fun c _ => by
              have g1 := in_sign c letS
              have g2 := in_sign c digS
              by_cases k : c ∈ letS.cps.toList
              · rw [decide_eq_true k] at g1
                simp [M.bind, M.ret, M.st, mT, mOp, mVar, mK, use, keep, lft, boolOf, optM, mCB, useAll, mCons, mNil, mTup, mLst, mFz, keepD, mSeq, mRet, mIfS, mAnd, mOr, mNot, mAndV, mOrV, mNotV, mIfE, mCall, keepAll, runF, mAsg, aName, mNx, mChain, fnM, startR, isiF, isT, isTN, askT, tyN, isF, asks, truD, mTru, truS, isNoneD, isBoolD, mRaise, raiseM, oneD, mDrop, aTup, aCons, aNil, twoK, mPar, mU1, mM1, strOf, List.replicate, g1, k]
              · rw [decide_eq_false k] at g1
                simp [M.bind, M.ret, M.st, mT, mOp, mVar, mK, use, keep, lft, boolOf, optM, mCB, useAll, mCons, mNil, mTup, mLst, mFz, keepD, mSeq, mRet, mIfS, mAnd, mOr, mNot, mAndV, mOrV, mNotV, mIfE, mCall, keepAll, runF, mAsg, aName, mNx, mChain, fnM, startR, isiF, isT, isTN, askT, tyN, isF, asks, truD, mTru, truS, isNoneD, isBoolD, mRaise, raiseM, oneD, mDrop, aTup, aCons, aNil, twoK, mPar, mU1, mM1, strOf, List.replicate, g1, g2, k])
            have hfil : z.cps.toList.filter (fun _ => true) = z.cps.toList := List.filter_eq_self.mpr fun _ _ => rfl
            rw [hfil] at lc
            have hb : allF [.d (.list (z.cps.toList.map fun c => PyData.bool (decide (c ∈ letS.cps.toList) || decide (c ∈ digS.cps.toList))))] = some (.d (.bool (z.cps.toList.all fun c => decide (c ∈ letS.cps.toList) || decide (c ∈ digS.cps.toList)))) := all_bools _ _
            have eL : letS = Str.ofString "abcdefghijklmnopqrstuvwxyz" := rfl
            have eD : digS = Str.ofString "0123456789" := rfl
            have fin : isNameD (.str z) = (decide (c ∈ letS.cps.toList) && z.cps.toList.all fun c => decide (c ∈ letS.cps.toList) || decide (c ∈ digS.cps.toList)) := by
              unfold isNameD isName
              simp [h1.1, h1.2, h2, hc]
            rw [fin]
            generalize (z.cps.toList.all fun c => decide (c ∈ letS.cps.toList) || decide (c ∈ digS.cps.toList)) = B at hb ⊢
            generalize (z.cps.toList.map fun c => PyData.bool (decide (c ∈ letS.cps.toList) || decide (c ∈ digS.cps.toList))) = LL at hb lc
            generalize decide (c ∈ letS.cps.toList) = A at e4 ⊢
            simp only [m_is_name, ← eL, ← eD]
            generalize mLc (mIter (mVar [] 0)) [1] (aName 1) (M.ret true) (mOrV (mOp (inF false) (mVar [] 1) (mK (.d (.str letS)))) (mOp (inF false) (mVar [] 1) (mK (.d (.str digS))))) = LC at lc ⊢
            generalize (Sl.d (PyData.str letS)) = LS at e4 ⊢
            generalize mChain leF leF (mK (.d (.int 1))) (mCB lenF (mCons (mVar [] 0) mNil)) (mK (.d (.int 12))) = CH at e1 ⊢
            cases A <;> simp [M.bind, M.ret, M.st, mT, mOp, mVar, mK, use, keep, lft, boolOf, optM, mCB, useAll, mCons, mNil, mTup, mLst, mFz, keepD, mSeq, mRet, mIfS, mAnd, mOr, mNot, mAndV, mOrV, mNotV, mIfE, mCall, keepAll, runF, mAsg, aName, mNx, mChain, fnM, startR, isiF, isT, isTN, askT, tyN, isF, asks, truD, mTru, truS, isNoneD, isBoolD, mRaise, raiseM, oneD, mDrop, aTup, aCons, aNil, twoK, mPar, mU1, mM1, strOf, List.replicate, e1, e2, e3, e4, lc, hb]
        · have b1 : (decide (1 ≤ z.length) && decide (z.length ≤ 12)) = false := by
            rw [Bool.and_eq_false_iff, decide_eq_false_iff_not, decide_eq_false_iff_not]
            by_cases q : 1 ≤ z.length
            · exact .inr fun q2 => h1 ⟨q, q2⟩
            · exact .inl q
          rw [b1] at e1
          have fin : isNameD (.str z) = false := by
            unfold isNameD isName
            rcases Bool.and_eq_false_iff.mp b1 with q | q <;> simp [q]
          rw [fin]
          simp only [m_is_name]
          generalize mChain leF leF (mK (.d (.int 1))) (mCB lenF (mCons (mVar [] 0) mNil)) (mK (.d (.int 12))) = CH at e1 ⊢
          simp [M.bind, M.ret, M.st, mT, mOp, mVar, mK, use, keep, lft, boolOf, optM, mCB, useAll, mCons, mNil, mTup, mLst, mFz, keepD, mSeq, mRet, mIfS, mAnd, mOr, mNot, mAndV, mOrV, mNotV, mIfE, mCall, keepAll, runF, mAsg, aName, mNx, mChain, fnM, startR, isiF, isT, isTN, askT, tyN, isF, asks, truD, mTru, truS, isNoneD, isBoolD, mRaise, raiseM, oneD, mDrop, aTup, aCons, aNil, twoK, mPar, mU1, mM1, strOf, List.replicate, e1]
      | _ => rfl
    · rw [if_neg hf] at h
      exact absurd rfl h
  · exact absurd rfl h
theorem words_split : splitF ("num name add sub mul div mod less same not at has int own may read edit skip let new drop set take put swap move test then else end look as in if while do row call both and proc tells with kind module needs none thing copy load store lend give jump fork meet back mark code face" : Str) " " = some (.d (.list (wordsL.map PyData.str))) := by
  unfold splitF
  rw [if_pos (by decide +kernel)]
  have e : Txt.split ("num name add sub mul div mod less same not at has int own may read edit skip let new drop set take put swap move test then else end look as in if while do row call both and proc tells with kind module needs none thing copy load store lend give jump fork meet back mark code face" : Str) (" " : Str) = wordsL := by decide +kernel
  rw [e]
theorem words_cat : addF (.d (.str "num name add sub mul div mod less same not at has int own may read edit skip let new drop set take put swap move test then")) (.d (.str " else end look as in if while do row call both and proc tells with kind module needs none thing copy load store lend give jump fork meet back mark code face")) = some (.d (.str "num name add sub mul div mod less same not at has int own may read edit skip let new drop set take put swap move test then else end look as in if while do row call both and proc tells with kind module needs none thing copy load store lend give jump fork meet back mark code face")) := by
  unfold addF
  simp only
  rw [if_pos (by decide +kernel)]
  have e : (("num name add sub mul div mod less same not at has int own may read edit skip let new drop set take put swap move test then" : Str) ++ (" else end look as in if while do row call both and proc tells with kind module needs none thing copy load store lend give jump fork meet back mark code face" : Str)) = "num name add sub mul div mod less same not at has int own may read edit skip let new drop set take put swap move test then else end look as in if while do row call both and proc tells with kind module needs none thing copy load store lend give jump fork meet back mark code face" := by decide +kernel
  rw [e]
theorem both_mem (c : Nat) : decide (c ∈ bothS.cps.toList) = (decide (c ∈ letS.cps.toList) || decide (c ∈ digS.cps.toList)) := by
  have e : bothS.cps.toList = letS.cps.toList ++ digS.cps.toList := by decide +kernel
  rw [e, ← Bool.decide_or]
  congr 1
  rw [List.mem_append]
theorem strs_shaped : ∀ {zs : List Str}, (∀ z ∈ zs, PyData.strOk z = true) → PyData.canLayAll0 (zs.map PyData.str) = true ∧ PyData.depthAll (zs.map PyData.str) = 0
  | [], _ => ⟨rfl, rfl⟩
  | z :: zs, h => by
    obtain ⟨h1, h2⟩ := strs_shaped fun y hy => h y (List.mem_cons_of_mem z hy)
    refine ⟨?_, ?_⟩
    · rw [List.map_cons]
      unfold PyData.canLayAll0
      rw [h1, Bool.and_true]
      exact h z List.mem_cons_self
    · rw [List.map_cons]
      unfold PyData.depthAll
      rw [h2]
      rfl
theorem shaped_strs {zs : List Str} (h : ∀ z ∈ zs, PyData.strOk z = true) : SeqAt.shaped (.list (zs.map PyData.str)) = true := by
  obtain ⟨h1, h2⟩ := strs_shaped h
  unfold SeqAt.shaped
  rw [Bool.and_eq_true]
  refine ⟨h1, decide_eq_true ?_⟩
  show PyData.depthAll (zs.map PyData.str) + 1 ≤ 64
  omega
theorem eq_nil_list (ds : List PyData) (h : SeqAt.shaped (.list ds) = true) : eqF (.d (.list ds)) (.d (.list [])) = some (.d (.bool ds.isEmpty)) := by
  have h2 : SeqAt.shaped (.list []) = true := rfl
  have e : PyData.eqv (.list ds) (.list []) = ds.isEmpty := by cases ds <;> rfl
  unfold eqF eqOk
  simp only [h, h2, Bool.and_self, Bool.or_true, if_true, e]
theorem ne_nil_list (ds : List PyData) (h : SeqAt.shaped (.list ds) = true) : neF (.d (.list ds)) (.d (.list [])) = some (.d (.bool (!ds.isEmpty))) := by
  have h2 : SeqAt.shaped (.list []) = true := rfl
  have e : PyData.eqv (.list ds) (.list []) = ds.isEmpty := by cases ds <;> rfl
  unfold neF eqOk
  simp only [h, h2, Bool.and_self, Bool.or_true, if_true, e]
theorem fine_cps {z : Str} (h : fine (.str z) = true) : PyData.strOk z = true := by
  unfold fine at h
  rw [Bool.and_eq_true, Bool.and_eq_true] at h
  exact h.1.1
theorem sign_ok {z : Str} (h : PyData.strOk z = true) {c : Nat} (hc : c ∈ z.cps.toList) : PyData.strOk ⟨#[c]⟩ = true := by
  have hb : c < 0x110000 := by
    unfold PyData.strOk at h
    rw [Array.all_eq_true'] at h
    exact of_decide_eq_true (h c (by simpa using hc))
  simp [PyData.strOk, hb]
theorem e_lname : ∀ xs t, F__law_is_name xs t ≠ .st → fnM 3 m__law_is_name xs t = F__law_is_name xs t := by
  intro xs t h
  unfold F__law_is_name F_is_name at h ⊢
  split at h
  · rename_i v
    by_cases hf : fine v = true
    · simp only [hf, if_true]
      have w1 := words_split
      have w2 := words_cat
      generalize (Str.ofString "num name add sub mul div mod less same not at has int own may read edit skip let new drop set take put swap move test then else end look as in if while do row call both and proc tells with kind module needs none thing copy load store lend give jump fork meet back mark code face") = wA at w1 w2
      simp only [m__law_is_name]
      generalize (Sl.d (PyData.str (Str.ofString "num name add sub mul div mod less same not at has int own may read edit skip let new drop set take put swap move test then"))) = wB at w2 ⊢
      generalize (Sl.d (PyData.str (Str.ofString " else end look as in if while do row call both and proc tells with kind module needs none thing copy load store lend give jump fork meet back mark code face"))) = wC at w2 ⊢
      cases v with
      | str z =>
        have hl := fine_len hf
        have e1 := chain_len z [some (.d (.str z)), some (.d (.list (wordsL.map PyData.str))), none] t rfl hl
        have e2 := in_lst z wordsL
        generalize mChain leF leF (mK (.d (.int 1))) (mCB lenF (mCons (mVar [] 0) mNil)) (mK (.d (.int 12))) = CH at e1 ⊢
        by_cases h1 : 1 ≤ z.length ∧ z.length ≤ 12
        · have b1 : (decide (1 ≤ z.length) && decide (z.length ≤ 12)) = true := by simp [h1.1, h1.2]
          rw [b1] at e1
          by_cases h2 : z ∈ wordsL
          · rw [decide_eq_true h2] at e2
            have fin : isNameD (.str z) = false := by
              unfold isNameD isName
              simp [h2]
            rw [fin]
            generalize wordsL.map PyData.str = WL at *
            simp [M.bind, M.ret, M.st, mT, mOp, mVar, mK, use, keep, lft, boolOf, optM, mCB, useAll, mCons, mNil, mTup, mLst, mFz, keepD, mSeq, mRet, mIfS, mAnd, mOr, mNot, mAndV, mOrV, mNotV, mIfE, mCall, keepAll, runF, mAsg, aName, mNx, mChain, fnM, startR, isiF, isT, isTN, askT, tyN, isF, asks, truD, mTru, truS, isNoneD, isBoolD, mRaise, raiseM, oneD, mDrop, aTup, aCons, aNil, twoK, mPar, mU1, mM1, strOf, List.replicate, e1, e2, w1, w2]
          · rw [decide_eq_false h2] at e2
            obtain ⟨c, cr, hc⟩ : ∃ c cr, z.cps.toList = c :: cr := by
              cases hz : z.cps.toList with
              | nil => rw [cps_size, hz] at h1; exact absurd h1.1 (by simp)
              | cons c cr => exact ⟨c, cr, rfl⟩
            have e3 := at_sign hc hl
            have e4 := in_sign c letS
            have lc := signs_lc (test := mT (mOp (inF true) (mVar [] 2) (mK (.d (.str bothS))))) (elt := mVar [] 2) (p := fun c => !decide (c ∈ bothS.cps.toList)) (g := fun c => PyData.str ⟨#[c]⟩) (z := z) (r := [some (.d (.str z)), some (.d (.list (wordsL.map PyData.str))), none]) (t := t) (i := 2) rfl (Nat.lt_succ_self 2) (by omega) (fun c => by
              have g1 := nin_sign c bothS
              generalize wordsL.map PyData.str = WL
              simp [M.bind, M.ret, M.st, mT, mOp, mVar, mK, use, keep, lft, boolOf, optM, mCB, useAll, mCons, mNil, mTup, mLst, mFz, keepD, mSeq, mRet, mIfS, mAnd, mOr, mNot, mAndV, mOrV, mNotV, mIfE, mCall, keepAll, runF, mAsg, aName, mNx, mChain, fnM, startR, isiF, isT, isTN, askT, tyN, isF, asks, truD, mTru, truS, isNoneD, isBoolD, mRaise, raiseM, oneD, mDrop, aTup, aCons, aNil, twoK, mPar, mU1, mM1, strOf, List.replicate, g1]) (fun c _ => rfl)
            have em : (z.cps.toList.filter fun c => !decide (c ∈ bothS.cps.toList)).map (fun c => PyData.str ⟨#[c]⟩) = ((z.cps.toList.filter fun c => !decide (c ∈ bothS.cps.toList)).map fun c => (⟨#[c]⟩ : Str)).map PyData.str := by
              rw [List.map_map]
              rfl
            have sh : SeqAt.shaped (.list ((z.cps.toList.filter fun c => !decide (c ∈ bothS.cps.toList)).map (fun c => PyData.str ⟨#[c]⟩))) = true := by
              rw [em]
              refine shaped_strs fun y hy => ?_
              obtain ⟨c, hc2, rfl⟩ := List.mem_map.mp hy
              exact sign_ok (fine_cps hf) (List.mem_filter.mp hc2).1
            have eq0 := eq_nil_list _ sh
            have eb : ((z.cps.toList.filter fun c => !decide (c ∈ bothS.cps.toList)).map (fun c => PyData.str ⟨#[c]⟩)).isEmpty = z.cps.toList.all fun c => decide (c ∈ letS.cps.toList) || decide (c ∈ digS.cps.toList) := by
              rw [List.isEmpty_map, Bool.eq_iff_iff, List.isEmpty_iff, List.filter_eq_nil_iff, List.all_eq_true]
              constructor
              · intro q c hc3
                have := q c hc3
                rw [← both_mem]
                simpa using this
              · intro q c hc3
                have := q c hc3
                rw [← both_mem] at this
                simpa using this
            rw [eb] at eq0
            have fin : isNameD (.str z) = (decide (c ∈ letS.cps.toList) && z.cps.toList.all fun c => decide (c ∈ letS.cps.toList) || decide (c ∈ digS.cps.toList)) := by
              unfold isNameD isName
              simp [h1.1, h1.2, h2, hc]
            rw [fin]
            have eL : letS = Str.ofString "abcdefghijklmnopqrstuvwxyz" := rfl
            have eB : bothS = Str.ofString "abcdefghijklmnopqrstuvwxyz0123456789" := rfl
            simp only [← eL, ← eB]
            generalize (z.cps.toList.all fun c => decide (c ∈ letS.cps.toList) || decide (c ∈ digS.cps.toList)) = BB at eq0 ⊢
            generalize (z.cps.toList.filter fun c => !decide (c ∈ bothS.cps.toList)).map (fun c => PyData.str ⟨#[c]⟩) = LL at eq0 lc
            generalize decide (c ∈ letS.cps.toList) = AA at e4 ⊢
            generalize mLc (mIter (mVar [] 0)) [2] (aName 2) (mT (mOp (inF true) (mVar [] 2) (mK (.d (.str bothS))))) (mVar [] 2) = LC at lc ⊢
            generalize (Sl.d (PyData.str letS)) = LS at e4 ⊢
            generalize wordsL.map PyData.str = WL at *
            cases AA <;> simp [M.bind, M.ret, M.st, mT, mOp, mVar, mK, use, keep, lft, boolOf, optM, mCB, useAll, mCons, mNil, mTup, mLst, mFz, keepD, mSeq, mRet, mIfS, mAnd, mOr, mNot, mAndV, mOrV, mNotV, mIfE, mCall, keepAll, runF, mAsg, aName, mNx, mChain, fnM, startR, isiF, isT, isTN, askT, tyN, isF, asks, truD, mTru, truS, isNoneD, isBoolD, mRaise, raiseM, oneD, mDrop, aTup, aCons, aNil, twoK, mPar, mU1, mM1, strOf, List.replicate, e1, e2, e3, e4, lc, eq0, w1, w2]
        · have b1 : (decide (1 ≤ z.length) && decide (z.length ≤ 12)) = false := by
            rw [Bool.and_eq_false_iff, decide_eq_false_iff_not, decide_eq_false_iff_not]
            by_cases q : 1 ≤ z.length
            · exact .inr fun q2 => h1 ⟨q, q2⟩
            · exact .inl q
          rw [b1] at e1
          have fin : isNameD (.str z) = false := by
            unfold isNameD isName
            rcases Bool.and_eq_false_iff.mp b1 with q | q <;> simp [q]
          rw [fin]
          generalize wordsL.map PyData.str = WL at *
          simp [M.bind, M.ret, M.st, mT, mOp, mVar, mK, use, keep, lft, boolOf, optM, mCB, useAll, mCons, mNil, mTup, mLst, mFz, keepD, mSeq, mRet, mIfS, mAnd, mOr, mNot, mAndV, mOrV, mNotV, mIfE, mCall, keepAll, runF, mAsg, aName, mNx, mChain, fnM, startR, isiF, isT, isTN, askT, tyN, isF, asks, truD, mTru, truS, isNoneD, isBoolD, mRaise, raiseM, oneD, mDrop, aTup, aCons, aNil, twoK, mPar, mU1, mM1, strOf, List.replicate, e1, w1, w2]
      | _ =>
        generalize wordsL.map PyData.str = WL at *
        simp [M.bind, M.ret, M.st, mT, mOp, mVar, mK, use, keep, lft, boolOf, optM, mCB, useAll, mCons, mNil, mTup, mLst, mFz, keepD, mSeq, mRet, mIfS, mAnd, mOr, mNot, mAndV, mOrV, mNotV, mIfE, mCall, keepAll, runF, mAsg, aName, mNx, mChain, fnM, startR, isiF, isT, isTN, askT, tyN, isF, asks, truD, mTru, truS, isNoneD, isBoolD, mRaise, raiseM, oneD, mDrop, aTup, aCons, aNil, twoK, mPar, mU1, mM1, strOf, List.replicate, w1, w2, isNameD]
    · rw [if_neg hf] at h
      exact absurd rfl h
  · exact absurd rfl h
end K01
end
section
set_option maxRecDepth 100000
set_option maxHeartbeats 4000000
namespace K01
open PySem PySem.Spec DL
theorem cut_to {α : Type} (xs : List α) {k : Int} (h : 0 ≤ k) : cutL xs none (some k) = xs.take k.toNat := by
  unfold cutL
  rw [HT.sIx_none]
  have e : HT.sIx xs.length xs.length (some k) = min k.toNat xs.length := by
    have := HT.sIx_nat xs.length xs.length k.toNat
    rw [show ((k.toNat : Nat) : Int) = k by omega] at this
    exact this
  rw [e, List.drop_zero, Nat.sub_zero]
  by_cases h2 : xs.length ≤ k.toNat
  · rw [Nat.min_eq_right h2, List.take_length, List.take_of_length_le h2]
  · rw [Nat.min_eq_left (by omega)]
theorem cut_from {α : Type} (xs : List α) {k : Int} (h : 0 ≤ k) : cutL xs (some k) none = xs.drop k.toNat := by
  unfold cutL
  rw [HT.sIx_none]
  have e : HT.sIx xs.length 0 (some k) = min k.toNat xs.length := by
    have := HT.sIx_nat xs.length 0 k.toNat
    rw [show ((k.toNat : Nat) : Int) = k by omega] at this
    exact this
  rw [e]
  have e2 : (xs.drop (min k.toNat xs.length)).take (xs.length - min k.toNat xs.length) = xs.drop (min k.toNat xs.length) := by
    apply List.take_of_length_le
    rw [List.length_drop]
    omega
  rw [e2]
  by_cases h2 : xs.length ≤ k.toNat
  · rw [Nat.min_eq_right h2, List.drop_length, List.drop_of_length_le h2]
  · rw [Nat.min_eq_left (by omega)]
/-! parts of what is fine -/
theorem fine_parts : ∀ {vs : List PyData}, PyData.canLayAll0 vs = true → PyData.depthAll vs ≤ 64 → PyData.weightAll vs ≤ 500000 → ∀ x ∈ vs, fine x = true
  | [], _, _, _, x, hx => absurd hx (by simp)
  | v :: vs, h1, h2, h3, x, hx => by
    unfold PyData.canLayAll0 at h1
    unfold PyData.depthAll at h2
    unfold PyData.weightAll at h3
    rw [Bool.and_eq_true] at h1
    rcases List.mem_cons.mp hx with rfl | hx
    · unfold fine
      rw [h1.1, decide_eq_true (show x.depth ≤ 64 by omega), decide_eq_true (show x.weight ≤ 500000 by omega)]
      rfl
    · exact fine_parts h1.2 (by omega) (by omega) x hx
theorem weight_len : ∀ vs : List PyData, vs.length ≤ PyData.weightAll vs
  | [] => Nat.le_refl _
  | v :: vs => by
    have := weight_len vs
    unfold PyData.weightAll
    rw [List.length_cons]
    omega
theorem fine_tup {vs : List PyData} (h : fine (.tuple vs) = true) : (∀ x ∈ vs, fine x = true) ∧ vs.length ≤ 500000 := by
  unfold fine at h
  rw [Bool.and_eq_true, Bool.and_eq_true] at h
  have h1 : PyData.canLayAll0 vs = true := h.1.1
  have h2 : PyData.depthAll vs + 1 ≤ 64 := of_decide_eq_true h.1.2
  have h3 : PyData.weightAll vs ≤ 500000 := of_decide_eq_true h.2
  have := weight_len vs
  exact ⟨fine_parts h1 (by omega) (by omega), by omega⟩
theorem fine_lst {vs : List PyData} (h : fine (.list vs) = true) : (∀ x ∈ vs, fine x = true) ∧ vs.length ≤ 500000 := fine_tup (vs := vs) h
theorem fine_shaped {v : PyData} (h : fine v = true) : SeqAt.shaped v = true := by
  unfold fine at h
  rw [Bool.and_eq_true] at h
  exact h.1
theorem asc_zip : ∀ zs : List Str, ascL zs = (zs.zip (zs.drop 1)).all fun p => decide (p.1.cps.toList < p.2.cps.toList)
  | [] => rfl
  | [_] => rfl
  | a :: b :: r => by
    have ih := asc_zip (b :: r)
    show (decide (a.cps.toList < b.cps.toList) && ascL (b :: r)) = _
    rw [ih]
    rfl
theorem strsIn_ok {xs : List Sl} {zs : List Str} (h : strsIn xs = some zs) : xs = [.d (.list (zs.map PyData.str))] := by
  unfold strsIn at h
  split at h
  · rw [strsOf_ok h]
  · cases h
theorem e_asc : ∀ xs t, F_are_ascending xs t ≠ .st → fnM 3 m_are_ascending xs t = F_are_ascending xs t := by
  intro xs t h
  unfold F_are_ascending at h ⊢
  cases hs : strsIn xs with
  | none => rw [hs] at h; exact absurd rfl h
  | some zs =>
    rw [hs] at h
    have e := strsIn_ok hs
    subst e
    by_cases hz : zs.length ≤ 4000
    · simp only [if_pos hz]
      have hzip : mZip (mCons (mVar [] 0) (mCons (mSl (mVar [] 0) (mPart (mK (.d (.int 1)))) mNoP) mNil)) [some (.d (.list (zs.map PyData.str))), none, none] t = .ok ((((zs.zip (zs.drop 1)).map fun p => (PyData.str p.1, PyData.str p.2))).map pairS) [some (.d (.list (zs.map PyData.str))), none, none] t := by
        have e1 : cutL (zs.map PyData.str) (some 1) none = (zs.drop 1).map PyData.str := by
          rw [cut_from _ (by decide), List.map_drop]
          rfl
        have e2 : zipF [.d (.list (zs.map PyData.str)), .d (.list ((zs.drop 1).map PyData.str))] = some ((((zs.zip (zs.drop 1)).map fun p => (PyData.str p.1, PyData.str p.2))).map pairS) := by
          unfold zipF
          simp only
          rw [List.zip_map]
          rfl
        simp [-List.drop_one, -List.map_map, -List.map_drop, mZip, mSl, mPart, mNoP, intOf, slF, M.bind, M.ret, M.st, mT, mOp, mVar, mK, use, keep, lft, boolOf, optM, mCB, useAll, mCons, mNil, mTup, mLst, mFz, keepD, mSeq, mRet, mIfS, mAnd, mOr, mNot, mAndV, mOrV, mNotV, mIfE, mCall, keepAll, runF, mAsg, aName, mNx, mChain, fnM, startR, isiF, isT, isTN, askT, tyN, isF, asks, truD, mTru, truS, isNoneD, isBoolD, mRaise, raiseM, oneD, mDrop, aTup, aCons, aNil, twoK, mPar, mU1, mM1, strOf, List.replicate, e1, e2]
      have lc := lc2v (mi := mZip (mCons (mVar [] 0) (mCons (mSl (mVar [] 0) (mPart (mK (.d (.int 1)))) mNoP) mNil))) (i := 1) (j := 2) (test := M.ret true) (elt := mOp ltF (mVar [] 1) (mVar [] 2)) (p := fun _ => true) (g := fun q => match q with
        | (.str a, .str b) => .bool (decide (a.cps.toList < b.cps.toList))
        | _ => .none) (by decide) hzip (by simp; omega) (by simp) (by simp) (fun _ _ => rfl) (fun d hd _ => by
          obtain ⟨p, _, rfl⟩ := List.mem_map.mp hd
          simp [M.bind, M.ret, M.st, mT, mOp, mVar, mK, use, keep, lft, boolOf, optM, mCB, useAll, mCons, mNil, mTup, mLst, mFz, keepD, mSeq, mRet, mIfS, mAnd, mOr, mNot, mAndV, mOrV, mNotV, mIfE, mCall, keepAll, runF, mAsg, aName, mNx, mChain, fnM, startR, isiF, isT, isTN, askT, tyN, isF, asks, truD, mTru, truS, isNoneD, isBoolD, mRaise, raiseM, oneD, mDrop, aTup, aCons, aNil, twoK, mPar, mU1, mM1, strOf, List.replicate, ltF])
      have hfil : ∀ l : List (PyData × PyData), l.filter (fun _ => true) = l := fun l => List.filter_eq_self.mpr fun _ _ => rfl
      rw [hfil, List.map_map] at lc
      have hb := all_bools (fun p : Str × Str => decide (p.1.cps.toList < p.2.cps.toList)) (zs.zip (zs.drop 1))
      rw [← asc_zip] at hb
      have em : (zs.zip (zs.drop 1)).map ((fun q : PyData × PyData => match q with
        | (.str a, .str b) => PyData.bool (decide (a.cps.toList < b.cps.toList))
        | _ => .none) ∘ fun p => (PyData.str p.1, PyData.str p.2)) = (zs.zip (zs.drop 1)).map fun p => PyData.bool (decide (p.1.cps.toList < p.2.cps.toList)) := rfl
      rw [em] at lc
      generalize (zs.zip (zs.drop 1)).map (fun p => PyData.bool (decide (p.1.cps.toList < p.2.cps.toList))) = LL at lc hb
      simp only [m_are_ascending]
      generalize mLc (mZip (mCons (mVar [] 0) (mCons (mSl (mVar [] 0) (mPart (mK (.d (.int 1)))) mNoP) mNil))) [1, 2] (aTup 2 (aCons (aName 1) (aCons (aName 2) aNil))) (M.ret true) (mOp ltF (mVar [] 1) (mVar [] 2)) = LC at lc ⊢
      simp [M.bind, M.ret, M.st, mT, mOp, mVar, mK, use, keep, lft, boolOf, optM, mCB, useAll, mCons, mNil, mTup, mLst, mFz, keepD, mSeq, mRet, mIfS, mAnd, mOr, mNot, mAndV, mOrV, mNotV, mIfE, mCall, keepAll, runF, mAsg, aName, mNx, mChain, fnM, startR, isiF, isT, isTN, askT, tyN, isF, asks, truD, mTru, truS, isNoneD, isBoolD, mRaise, raiseM, oneD, mDrop, aTup, aCons, aNil, twoK, mPar, mU1, mM1, strOf, List.replicate, lc, hb]
    · simp only [if_neg hz] at h
      exact absurd rfl h
theorem cnt_nodup {α : Type} [DecidableEq α] [BEq α] [LawfulBEq α] (key : Nat → α) : ∀ j, SetX.cnt key j = j ↔ ((List.range j).map key).Nodup
  | 0 => by simp [SetX.cnt]
  | j + 1 => by
    have ih := cnt_nodup key j
    have le := SetX.cnt_le key j
    rw [List.range_succ, List.map_append, List.nodup_append]
    unfold SetX.cnt
    by_cases hm : key j ∈ (List.range j).map key
    · rw [if_pos (decide_eq_true hm)]
      constructor
      · intro q
        omega
      · rintro ⟨_, _, q⟩
        exact absurd rfl (q (key j) hm (key j) (by simp))
    · rw [if_neg (by rw [decide_eq_false hm]; exact Bool.false_ne_true)]
      constructor
      · intro q
        refine ⟨ih.mp (by omega), by simp, fun a ha b hb => ?_⟩
        have : b = key j := by simpa using hb
        rw [this]
        exact fun z => hm (z ▸ ha)
      · rintro ⟨q, _, _⟩
        rw [ih.mpr q]
theorem dcnt_nodup (zs : List Str) : decide (dcnt zs = zs.length) = decide zs.Nodup := by
  have e : (List.range zs.length).map (fun i => zs.getD i Str.empty) = zs := by
    apply List.ext_getElem
    · simp
    · intro i h1 h2
      simp [List.getD_eq_getElem?_getD, h2]
  have := cnt_nodup (fun i => zs.getD i Str.empty) zs.length
  rw [e] at this
  exact decide_eq_decide.mpr this
theorem int_beq (j i : Int) : (j == i) = decide (j = i) := by
  by_cases h : j = i
  · subst h; simp
  · simp [h]
theorem e_unlike : ∀ xs t, F_are_unlike xs t ≠ .st → fnM 1 m_are_unlike xs t = F_are_unlike xs t := by
  intro xs t h
  unfold F_are_unlike at h ⊢
  cases hs : strsIn xs with
  | none => rw [hs] at h; exact absurd rfl h
  | some zs =>
    rw [hs] at h
    have e := strsIn_ok hs
    subst e
    by_cases hz : zs.length ≤ 4000
    · simp only [if_pos hz]
      have e1 : lenSetF (.d (.list (zs.map PyData.str))) = some (.d (.int (dcnt zs : Nat))) := by
        unfold lenSetF
        simp only [strsOf_map, if_pos hz]
      have e2 : eqF (.d (.int (dcnt zs : Nat))) (.d (.int (zs.length : Nat))) = some (.d (.bool (decide zs.Nodup))) := by
        unfold eqF eqOk scalD
        simp only [Bool.true_or, if_true, PyData.eqv]
        rw [← dcnt_nodup, int_beq]
        congr 3
        exact decide_eq_decide.mpr (by omega)
      simp [m_are_unlike, M.bind, M.ret, M.st, mT, mOp, mVar, mK, use, keep, lft, boolOf, optM, mCB, useAll, mCons, mNil, mTup, mLst, mFz, keepD, mSeq, mRet, mIfS, mAnd, mOr, mNot, mAndV, mOrV, mNotV, mIfE, mCall, keepAll, runF, mAsg, aName, mNx, mChain, fnM, startR, isiF, isT, isTN, askT, tyN, isF, asks, truD, mTru, truS, isNoneD, isBoolD, mRaise, raiseM, oneD, mDrop, aTup, aCons, aNil, twoK, mPar, mU1, mM1, strOf, List.replicate, e1, e2, lenF]
    · simp only [if_neg hz] at h
      exact absurd rfl h
theorem eq_strs (z y : Str) : eqF (.d (.str z)) (.d (.str y)) = some (.d (.bool (decide (z = y)))) := by
  unfold eqF eqOk scalD
  by_cases h : z = y
  · subst h; simp [PyData.eqv]
  · simp [PyData.eqv, h]
theorem ne_strs (z y : Str) : neF (.d (.str z)) (.d (.str y)) = some (.d (.bool (!decide (z = y)))) := by
  unfold neF eqOk scalD
  by_cases h : z = y
  · subst h; simp [PyData.eqv]
  · simp [PyData.eqv, h]
theorem name_call {v : PyData} (h : fine v = true) (t : Option Deal) : F_is_name [.d v] t = .ok (.d (.bool (isNameD v))) t := if_pos h
theorem e_type : ∀ xs t, F_is_type xs t ≠ .st → fnM 1 (m_is_type F_is_name) xs t = F_is_type xs t := by
  intro xs t h
  unfold F_is_type at h ⊢
  split at h
  · rename_i v
    by_cases hf : fine v = true
    · simp only [hf, if_true]
      cases v with
      | str z =>
        have e1 := eq_strs z "int"
        have e2 := name_call hf t
        by_cases hz : z = "int"
        · rw [decide_eq_true hz] at e1
          have fin : isTypeD (.str z) = true := by simp [isTypeD, hz]
          rw [fin]
          simp [m_is_type, M.bind, M.ret, M.st, mT, mOp, mVar, mK, use, keep, lft, boolOf, optM, mCB, useAll, mCons, mNil, mTup, mLst, mFz, keepD, mSeq, mRet, mIfS, mAnd, mOr, mNot, mAndV, mOrV, mNotV, mIfE, mCall, keepAll, runF, mAsg, aName, mNx, mChain, fnM, startR, isiF, isT, isTN, askT, tyN, isF, asks, truD, mTru, truS, isNoneD, isBoolD, mRaise, raiseM, oneD, mDrop, aTup, aCons, aNil, twoK, mPar, mU1, mM1, strOf, List.replicate, e1, e2]
        · rw [decide_eq_false hz] at e1
          have fin : isTypeD (.str z) = isNameD (.str z) := by simp [isTypeD, hz, isNameD]
          rw [fin]
          simp [m_is_type, M.bind, M.ret, M.st, mT, mOp, mVar, mK, use, keep, lft, boolOf, optM, mCB, useAll, mCons, mNil, mTup, mLst, mFz, keepD, mSeq, mRet, mIfS, mAnd, mOr, mNot, mAndV, mOrV, mNotV, mIfE, mCall, keepAll, runF, mAsg, aName, mNx, mChain, fnM, startR, isiF, isT, isTN, askT, tyN, isF, asks, truD, mTru, truS, isNoneD, isBoolD, mRaise, raiseM, oneD, mDrop, aTup, aCons, aNil, twoK, mPar, mU1, mM1, strOf, List.replicate, e1, e2]
      | _ => rfl
    · rw [if_neg hf] at h
      exact absurd rfl h
  · exact absurd rfl h
theorem type_call {v : PyData} (h : fine v = true) (t : Option Deal) : F_is_type [.d v] t = .ok (.d (.bool (isTypeD v))) t := if_pos h
theorem len_eq (n : Nat) (k : Int) (j : Nat) (hk : k = j) : eqF (.d (.int (n : Nat))) (.d (.int k)) = some (.d (.bool (decide (n = j)))) := by
  subst hk
  unfold eqF eqOk scalD
  simp only [Bool.true_or, if_true, PyData.eqv, int_beq]
  congr 3
  exact decide_eq_decide.mpr (by omega)
theorem len_ne (n : Nat) (k : Int) (j : Nat) (hk : k = j) : neF (.d (.int (n : Nat))) (.d (.int k)) = some (.d (.bool (!decide (n = j)))) := by
  subst hk
  unfold neF eqOk scalD
  simp only [Bool.true_or, if_true, PyData.eqv, int_beq]
  congr 4
  exact decide_eq_decide.mpr (by omega)
theorem unField_pair (a b : PyData) : (unField (.tuple [a, b])).isSome = (isNameD a && isTypeD b) := by
  cases a with
  | str x =>
    cases b with
    | str y =>
      show (if isName x && isTypeD (.str y) then some (x, y) else none).isSome = (isName x && isTypeD (.str y))
      cases isName x && isTypeD (.str y) <;> rfl
    | _ => simp [unField, isNameD, isTypeD]
  | _ => simp [unField, isNameD]
theorem e_field : ∀ xs t, F_is_field xs t ≠ .st → fnM 1 (m_is_field F_is_name F_is_type) xs t = F_is_field xs t := by
  intro xs t h
  unfold F_is_field at h ⊢
  split at h
  · rename_i v
    by_cases hf : fine v = true
    · simp only [hf, if_true]
      cases v with
      | tuple vs =>
        obtain ⟨hv, _⟩ := fine_tup hf
        have e1 := len_eq vs.length 2 2 rfl
        by_cases hl : vs.length = 2
        · match vs, hl with
          | [a, b], _ =>
            have ha := name_call (hv a (by simp)) t
            have hb := type_call (hv b (by simp)) t
            have fin := unField_pair a b
            rw [fin]
            have e2 : eqF (.d (.int 2)) (.d (.int 2)) = some (.d (.bool true)) := len_eq 2 2 2 rfl
            generalize isNameD a = x at ha ⊢
            generalize isTypeD b = y at hb ⊢
            cases x <;> simp [m_is_field, M.bind, M.ret, M.st, mT, mOp, mVar, mK, use, keep, lft, boolOf, optM, mCB, useAll, mCons, mNil, mTup, mLst, mFz, keepD, mSeq, mRet, mIfS, mAnd, mOr, mNot, mAndV, mOrV, mNotV, mIfE, mCall, keepAll, runF, mAsg, aName, mNx, mChain, fnM, startR, isiF, isT, isTN, askT, tyN, isF, asks, truD, mTru, truS, isNoneD, isBoolD, mRaise, raiseM, oneD, mDrop, aTup, aCons, aNil, twoK, mPar, mU1, mM1, strOf, List.replicate, e2, lenF, atF, L2.atI, L2.ixN, ha, hb]
        · rw [decide_eq_false hl] at e1
          have fin : (unField (.tuple vs)).isSome = false := by
            unfold unField
            split
            · rename_i heq
              injection heq with heq
              rw [heq] at hl
              exact absurd rfl hl
            · rfl
          rw [fin]
          simp [m_is_field, M.bind, M.ret, M.st, mT, mOp, mVar, mK, use, keep, lft, boolOf, optM, mCB, useAll, mCons, mNil, mTup, mLst, mFz, keepD, mSeq, mRet, mIfS, mAnd, mOr, mNot, mAndV, mOrV, mNotV, mIfE, mCall, keepAll, runF, mAsg, aName, mNx, mChain, fnM, startR, isiF, isT, isTN, askT, tyN, isF, asks, truD, mTru, truS, isNoneD, isBoolD, mRaise, raiseM, oneD, mDrop, aTup, aCons, aNil, twoK, mPar, mU1, mM1, strOf, List.replicate, e1, lenF]
      | _ => rfl
    · rw [if_neg hf] at h
      exact absurd rfl h
  · exact absurd rfl h
theorem field_call {v : PyData} (h : fine v = true) (t : Option Deal) : F_is_field [.d v] t = .ok (.d (.bool (unField v).isSome)) t := if_pos h
theorem unField_ok {v : PyData} {p : Fd} (h : unField v = some p) : v = fD p ∧ isName p.1 = true ∧ isTypeD (.str p.2) = true := by
  unfold unField at h
  split at h
  · split at h
    · rename_i hc
      cases h
      rw [Bool.and_eq_true] at hc
      exact ⟨rfl, hc⟩
    · cases h
  · cases h
theorem unField_fD {p : Fd} (h1 : isName p.1 = true) (h2 : isTypeD (.str p.2) = true) : unField (fD p) = some p := by
  unfold unField fD
  simp only [h1, h2, Bool.and_self, if_true]
theorem allSome_ok {α β : Type} {f : α → Option β} {g : β → α} (hfg : ∀ x y, f x = some y → x = g y) : ∀ {xs : List α} {ys : List β}, allSome (xs.map f) = some ys → xs = ys.map g ∧ xs.all (fun x => (f x).isSome) = true
  | [], ys, h => by
    cases h
    exact ⟨rfl, rfl⟩
  | x :: xs, ys, h => by
    rw [List.map_cons] at h
    cases e : f x with
    | none => rw [e] at h; cases h
    | some y =>
      rw [e] at h
      unfold allSome at h
      cases e2 : allSome (xs.map f) with
      | none => rw [e2] at h; cases h
      | some ys' =>
        rw [e2] at h
        cases h
        obtain ⟨h1, h2⟩ := allSome_ok hfg e2
        exact ⟨by rw [List.map_cons, ← h1, ← hfg x y e], by rw [List.all_cons, e, h2]; rfl⟩
theorem allSome_all {α β : Type} {f : α → Option β} : ∀ {xs : List α}, xs.all (fun x => (f x).isSome) = true → ∃ ys, allSome (xs.map f) = some ys
  | [], _ => ⟨[], rfl⟩
  | x :: xs, h => by
    rw [List.all_cons, Bool.and_eq_true] at h
    obtain ⟨y, e⟩ := Option.isSome_iff_exists.mp h.1
    obtain ⟨ys, e2⟩ := allSome_all h.2
    refine ⟨y :: ys, ?_⟩
    rw [List.map_cons, e]
    unfold allSome
    rw [e2]
theorem allSome_none {α β : Type} {f : α → Option β} {xs : List α} (h : xs.all (fun x => (f x).isSome) = false) : allSome (xs.map f) = none := by
  cases e : allSome (xs.map f) with
  | none => rfl
  | some ys =>
    exfalso
    have : ∀ {xs : List α} {ys : List β}, allSome (xs.map f) = some ys → xs.all (fun x => (f x).isSome) = true := by
      intro xs
      induction xs with
      | nil => intro _ _; rfl
      | cons x xs ih =>
        intro ys h
        rw [List.map_cons] at h
        cases e : f x with
        | none => rw [e] at h; cases h
        | some y =>
          rw [e] at h
          unfold allSome at h
          cases e2 : allSome (xs.map f) with
          | none => rw [e2] at h; cases h
          | some ys' => rw [List.all_cons, e, ih e2]; rfl
    rw [this e] at h
    cases h
end K01
end
section
set_option maxRecDepth 100000
set_option maxHeartbeats 4000000
namespace K01
open PySem PySem.Spec DL
def isStr (s : Str) : PyData → Bool
  | .str z => decide (z = s)
  | _ => false
theorem ne_str {k : PyData} (hk : fine k = true) {s : Str} (hs : SeqAt.shaped (.str s) = true) : neF (.d k) (.d (.str s)) = some (.d (.bool (!isStr s k))) := by
  have h1 := fine_shaped hk
  have e : PyData.eqv k (.str s) = isStr s k := by
    cases k with
    | str z =>
      show PyData.eqv (.str z) (.str s) = decide (z = s)
      by_cases h : z = s
      · subst h; simp [PyData.eqv]
      · simp [PyData.eqv, h]
    | _ => simp [PyData.eqv, isStr]
  unfold neF eqOk
  simp only [h1, hs, Bool.and_self, Bool.or_true, if_true, e]
theorem eq_str {k : PyData} (hk : fine k = true) {s : Str} (hs : SeqAt.shaped (.str s) = true) : eqF (.d k) (.d (.str s)) = some (.d (.bool (isStr s k))) := by
  have h1 := fine_shaped hk
  have e : PyData.eqv k (.str s) = isStr s k := by
    cases k with
    | str z =>
      show PyData.eqv (.str z) (.str s) = decide (z = s)
      by_cases h : z = s
      · subst h; simp [PyData.eqv]
      · simp [PyData.eqv, h]
    | _ => simp [PyData.eqv, isStr]
  unfold eqF eqOk
  simp only [h1, hs, Bool.and_self, Bool.or_true, if_true, e]
theorem len_gt (n : Nat) (k : Int) (j : Nat) (hk : k = j) : gtF (.d (.int (n : Nat))) (.d (.int k)) = some (.d (.bool (decide (j < n)))) := by
  subst hk
  unfold gtF cmpF
  simp only
  congr 3
  exact decide_eq_decide.mpr (by omega)
theorem kind_shaped : SeqAt.shaped (.str "kind") = true := by decide +kernel
theorem int_shaped : SeqAt.shaped (.str "int") = true := by decide +kernel
theorem unKind_eq (k n : PyData) (fs : List PyData) : (unKind (.tuple [k, n, .tuple fs])).isSome = (isStr "kind" k && (isNameD n && (decide (fs.length ≤ 12) && (match allSome (fs.map unField) with
    | some ps => decide ((ps.map (·.1)).Nodup)
    | none => false)))) := by
  cases k with
  | str z =>
    cases n with
    | str y =>
      show (if decide (z = "kind") && isName y && decide (fs.length ≤ 12) then _ else none : Option Kd).isSome = (decide (z = "kind") && (isName y && (decide (fs.length ≤ 12) && _)))
      cases decide (z = "kind") <;> cases isName y <;> cases decide (fs.length ≤ 12) <;> try rfl
      simp only [Bool.and_self, if_true, Bool.true_and]
      cases allSome (fs.map unField) with
      | none => rfl
      | some ps =>
        simp only
        cases decide ((ps.map (·.1)).Nodup) <;> rfl
    | _ => simp [unKind, isNameD]
  | _ => simp [unKind, isStr]
theorem unKind_3 {k n f : PyData} (hf : ∀ fs, f ≠ .tuple fs) : unKind (.tuple [k, n, f]) = none := by
  unfold unKind
  split
  · rename_i heq
    injection heq with heq
    injection heq with _ heq
    injection heq with _ heq
    injection heq with heq _
    exact absurd heq (hf _)
  · rfl
theorem unKind_len {vs : List PyData} (h : vs.length ≠ 3) : unKind (.tuple vs) = none := by
  unfold unKind
  split
  · rename_i heq
    injection heq with heq
    rw [heq] at h
    exact absurd rfl h
  · rfl
theorem row_lc {test : M Bool} {elt : M Tk} {p : PyData → Bool} {g : PyData → PyData} {vs : List PyData} {r : Rho} {t : Option Deal} {i j : Nat} {v : PyData} (hv : seqD v = some vs) (h : r[j]? = some (some (.d v))) (hi : i < r.length) (hl : vs.length < 1000000)
    (hT : ∀ x ∈ vs, test (r.set i (some (.d x))) t = .ok (p x) (r.set i (some (.d x))) t) (hE : ∀ x ∈ vs, p x = true → elt (r.set i (some (.d x))) t = .ok (.v (.d (g x))) (r.set i (some (.d x))) t) :
    mLc (mIter (mVar [] j)) [i] (aName i) test elt r t = .ok ((vs.filter p).map g) r t := by
  have key := lc1 (mi := mIter (mVar [] j)) (i := i) (test := test) (elt := elt) (r := r) (t := t) (p := fun d => match d with
    | .d x => p x
    | _ => false) (g := fun d => match d with
    | .d x => g x
    | _ => .none) (ds := vs.map Sl.d) (iter_seq h hv (by simp)) (by simpa using hl) hi ?_ ?_
  · rw [key, List.filter_map, List.map_map]
    rfl
  · intro d hd
    obtain ⟨x, hx, rfl⟩ := List.mem_map.mp hd
    exact hT x hx
  · intro d hd hp
    obtain ⟨x, hx, rfl⟩ := List.mem_map.mp hd
    exact hE x hx hp
theorem row_all {elt : M Tk} {g : PyData → PyData} {vs : List PyData} {r : Rho} {t : Option Deal} {i j : Nat} {v : PyData} (hv : seqD v = some vs) (h : r[j]? = some (some (.d v))) (hi : i < r.length) (hl : vs.length < 1000000)
    (hE : ∀ x ∈ vs, elt (r.set i (some (.d x))) t = .ok (.v (.d (g x))) (r.set i (some (.d x))) t) : mLc (mIter (mVar [] j)) [i] (aName i) (M.ret true) elt r t = .ok (vs.map g) r t := by
  have := row_lc (test := M.ret true) (p := fun _ => true) hv h hi hl (fun _ _ => rfl) (fun x hx _ => hE x hx)
  rw [this, List.filter_eq_self.mpr fun _ _ => rfl]
theorem e_kind : ∀ xs t, F_is_kind xs t ≠ .st → fnM 3 (m_is_kind F_is_name F_is_field F_are_unlike) xs t = F_is_kind xs t := by
  intro xs t h
  unfold F_is_kind at h ⊢
  split at h
  · rename_i v
    by_cases hf : fine v = true
    · simp only [hf, if_true]
      cases v with
      | tuple vs =>
        obtain ⟨hv, _⟩ := fine_tup hf
        have e1 := len_ne vs.length 3 3 rfl
        by_cases hl : vs.length = 3
        · match vs, hl with
          | [k, n, f], _ =>
            have e2 : neF (.d (.int 3)) (.d (.int 3)) = some (.d (.bool false)) := len_ne 3 3 3 rfl
            have e3 := ne_str (hv k (by simp)) kind_shaped
            have hn := name_call (hv n (by simp)) t
            have hff := hv f (by simp)
            have lA : lenF [.d (.tuple [k, n, f])] = some (.d (.int 3)) := rfl
            have a0 : atF (.d (.tuple [k, n, f])) (.d (.int 0)) = some (.d k) := rfl
            have a1 : atF (.d (.tuple [k, n, f])) (.d (.int 1)) = some (.d n) := rfl
            have a2 : atF (.d (.tuple [k, n, f])) (.d (.int 2)) = some (.d f) := rfl
            by_cases hft : ∃ fs, f = .tuple fs
            · obtain ⟨fs, rfl⟩ := hft
              obtain ⟨hfs, hfl⟩ := fine_tup hff
              rw [unKind_eq]
              have lB : lenF [.d (.tuple fs)] = some (.d (.int (fs.length : Nat))) := rfl
              have e4 := len_gt fs.length 12 12 rfl
              have lc1 := row_all (elt := mCall 1 F_is_field (mCons (mVar [] 2) mNil)) (g := fun x => PyData.bool (unField x).isSome) (vs := fs) (r := [some (.d (.tuple [k, n, .tuple fs])), some (.d (.tuple fs)), none]) (t := t) (i := 2) (j := 1) rfl rfl (Nat.lt_succ_self 2) (by omega) (fun x hx => by
                have := field_call (hfs x hx) t
                simp [M.bind, M.ret, M.st, mT, mOp, mVar, mK, use, keep, lft, boolOf, optM, mCB, useAll, mCons, mNil, mTup, mLst, mFz, keepD, mSeq, mRet, mIfS, mAnd, mOr, mNot, mAndV, mOrV, mNotV, mIfE, mCall, keepAll, runF, mAsg, aName, mNx, mChain, fnM, startR, isiF, isT, isTN, askT, tyN, isF, asks, truD, mTru, truS, isNoneD, isBoolD, mRaise, raiseM, oneD, mDrop, aTup, aCons, aNil, twoK, mPar, mU1, mM1, strOf, List.replicate, this])
              have hb := all_bools (fun x => (unField x).isSome) fs
              generalize fs.map (fun x => PyData.bool (unField x).isSome) = LL at lc1 hb
              have hdec : decide (fs.length ≤ 12) = !decide (12 < fs.length) := by
                rw [← decide_not]
                exact decide_eq_decide.mpr (by omega)
              rw [hdec]
              simp only [m_is_kind]
              by_cases hall : fs.all (fun x => (unField x).isSome) = true
              · obtain ⟨ps, hps⟩ := allSome_all hall
                obtain ⟨efs, _⟩ := allSome_ok (g := fD) (fun x y q => (unField_ok q).1) hps
                rw [hps]
                dsimp only
                rw [hall] at hb
                have lc2 := row_all (elt := mOp atF (mVar [] 2) (mK (.d (.int 0)))) (g := fun x => match x with
                  | .tuple (a :: _) => a
                  | _ => .none) (vs := fs) (r := [some (.d (.tuple [k, n, .tuple fs])), some (.d (.tuple fs)), none]) (t := t) (i := 2) (j := 1) rfl rfl (Nat.lt_succ_self 2) (by omega) (fun x hx => by
                  rw [efs] at hx
                  obtain ⟨p, _, rfl⟩ := List.mem_map.mp hx
                  simp [M.bind, M.ret, M.st, mT, mOp, mVar, mK, use, keep, lft, boolOf, optM, mCB, useAll, mCons, mNil, mTup, mLst, mFz, keepD, mSeq, mRet, mIfS, mAnd, mOr, mNot, mAndV, mOrV, mNotV, mIfE, mCall, keepAll, runF, mAsg, aName, mNx, mChain, fnM, startR, isiF, isT, isTN, askT, tyN, isF, asks, truD, mTru, truS, isNoneD, isBoolD, mRaise, raiseM, oneD, mDrop, aTup, aCons, aNil, twoK, mPar, mU1, mM1, strOf, List.replicate, fD, atF, L2.atI, L2.ixN])
                have em : (fs.map fun x => match x with
                  | .tuple (a :: _) => a
                  | _ => PyData.none) = (ps.map (·.1)).map PyData.str := by
                  rw [efs, List.map_map, List.map_map]
                  rfl
                rw [em] at lc2
                have hpl : ps.length ≤ 500000 := by
                  have := congrArg List.length efs
                  rw [List.length_map] at this
                  omega
                have un : ∀ (hh : fs.length ≤ 12), F_are_unlike [.d (.list ((ps.map (·.1)).map PyData.str))] t = .ok (.d (.bool (decide ((ps.map (·.1)).Nodup)))) t := fun hh => by
                  unfold F_are_unlike strsIn
                  simp only [strsOf_map]
                  rw [if_pos]
                  have := congrArg List.length efs
                  rw [List.length_map] at this ⊢
                  omega
                generalize (ps.map (·.1)).map PyData.str = NN at lc2 un
                generalize mLc (mIter (mVar [] 1)) [2] (aName 2) (M.ret true) (mCall 1 F_is_field (mCons (mVar [] 2) mNil)) = LC1 at lc1 ⊢
                generalize mLc (mIter (mVar [] 1)) [2] (aName 2) (M.ret true) (mOp atF (mVar [] 2) (mK (.d (.int 0)))) = LC2 at lc2 ⊢
                generalize decide ((ps.map (·.1)).Nodup) = ND at un ⊢
                by_cases h12 : 12 < fs.length
                · rw [decide_eq_true h12] at e4 ⊢
                  generalize isNameD n = N1 at hn ⊢
                  generalize isStr "kind" k = K1 at e3 ⊢
                  cases K1 <;> cases N1 <;> simp [M.bind, M.ret, M.st, mT, mOp, mVar, mK, use, keep, lft, boolOf, optM, mCB, useAll, mCons, mNil, mTup, mLst, mFz, keepD, mSeq, mRet, mIfS, mAnd, mOr, mNot, mAndV, mOrV, mNotV, mIfE, mCall, keepAll, runF, mAsg, aName, mNx, mChain, fnM, startR, isiF, isT, isTN, askT, tyN, isF, asks, truD, mTru, truS, isNoneD, isBoolD, mRaise, raiseM, oneD, mDrop, aTup, aCons, aNil, twoK, mPar, mU1, mM1, strOf, List.replicate, lA, a0, a1, a2, e2, e3, hn, lB, e4, lc1, hb]
                · have un' := un (by omega)
                  rw [decide_eq_false h12] at e4 ⊢
                  generalize isNameD n = N1 at hn ⊢
                  generalize isStr "kind" k = K1 at e3 ⊢
                  cases K1 <;> cases N1 <;> simp [M.bind, M.ret, M.st, mT, mOp, mVar, mK, use, keep, lft, boolOf, optM, mCB, useAll, mCons, mNil, mTup, mLst, mFz, keepD, mSeq, mRet, mIfS, mAnd, mOr, mNot, mAndV, mOrV, mNotV, mIfE, mCall, keepAll, runF, mAsg, aName, mNx, mChain, fnM, startR, isiF, isT, isTN, askT, tyN, isF, asks, truD, mTru, truS, isNoneD, isBoolD, mRaise, raiseM, oneD, mDrop, aTup, aCons, aNil, twoK, mPar, mU1, mM1, strOf, List.replicate, lA, a0, a1, a2, e2, e3, hn, lB, e4, lc1, hb, lc2, un']
              · have hall' : fs.all (fun x => (unField x).isSome) = false := by simpa using hall
                rw [hall'] at hb
                rw [allSome_none hall']
                generalize mLc (mIter (mVar [] 1)) [2] (aName 2) (M.ret true) (mCall 1 F_is_field (mCons (mVar [] 2) mNil)) = LC1 at lc1 ⊢
                generalize mLc (mIter (mVar [] 1)) [2] (aName 2) (M.ret true) (mOp atF (mVar [] 2) (mK (.d (.int 0)))) = LC2
                generalize decide (12 < fs.length) = D1 at e4 ⊢
                generalize isNameD n = N1 at hn ⊢
                generalize isStr "kind" k = K1 at e3 ⊢
                cases K1 <;> cases N1 <;> cases D1 <;> simp [M.bind, M.ret, M.st, mT, mOp, mVar, mK, use, keep, lft, boolOf, optM, mCB, useAll, mCons, mNil, mTup, mLst, mFz, keepD, mSeq, mRet, mIfS, mAnd, mOr, mNot, mAndV, mOrV, mNotV, mIfE, mCall, keepAll, runF, mAsg, aName, mNx, mChain, fnM, startR, isiF, isT, isTN, askT, tyN, isF, asks, truD, mTru, truS, isNoneD, isBoolD, mRaise, raiseM, oneD, mDrop, aTup, aCons, aNil, twoK, mPar, mU1, mM1, strOf, List.replicate, lA, a0, a1, a2, e2, e3, hn, lB, e4, lc1, hb]
            · have hno : ∀ fs, f ≠ .tuple fs := fun fs q => hft ⟨fs, q⟩
              rw [unKind_3 hno]
              generalize isNameD n = N1 at hn
              generalize isStr "kind" k = K1 at e3
              simp only [m_is_kind]
              generalize mLc (mIter (mVar [] 1)) [2] (aName 2) (M.ret true) (mCall 1 F_is_field (mCons (mVar [] 2) mNil)) = LC1
              generalize mLc (mIter (mVar [] 1)) [2] (aName 2) (M.ret true) (mOp atF (mVar [] 2) (mK (.d (.int 0)))) = LC2
              cases f with
              | tuple fs => exact absurd rfl (hno fs)
              | _ => cases K1 <;> cases N1 <;> simp [M.bind, M.ret, M.st, mT, mOp, mVar, mK, use, keep, lft, boolOf, optM, mCB, useAll, mCons, mNil, mTup, mLst, mFz, keepD, mSeq, mRet, mIfS, mAnd, mOr, mNot, mAndV, mOrV, mNotV, mIfE, mCall, keepAll, runF, mAsg, aName, mNx, mChain, fnM, startR, isiF, isT, isTN, askT, tyN, isF, asks, truD, mTru, truS, isNoneD, isBoolD, mRaise, raiseM, oneD, mDrop, aTup, aCons, aNil, twoK, mPar, mU1, mM1, strOf, List.replicate, lA, a0, a1, a2, e2, e3, hn]
        · rw [decide_eq_false hl] at e1
          rw [unKind_len hl]
          have lB : lenF [.d (.tuple vs)] = some (.d (.int (vs.length : Nat))) := rfl
          simp only [m_is_kind]
          generalize mLc (mIter (mVar [] 1)) [2] (aName 2) (M.ret true) (mCall 1 F_is_field (mCons (mVar [] 2) mNil)) = LC1
          generalize mLc (mIter (mVar [] 1)) [2] (aName 2) (M.ret true) (mOp atF (mVar [] 2) (mK (.d (.int 0)))) = LC2
          simp [M.bind, M.ret, M.st, mT, mOp, mVar, mK, use, keep, lft, boolOf, optM, mCB, useAll, mCons, mNil, mTup, mLst, mFz, keepD, mSeq, mRet, mIfS, mAnd, mOr, mNot, mAndV, mOrV, mNotV, mIfE, mCall, keepAll, runF, mAsg, aName, mNx, mChain, fnM, startR, isiF, isT, isTN, askT, tyN, isF, asks, truD, mTru, truS, isNoneD, isBoolD, mRaise, raiseM, oneD, mDrop, aTup, aCons, aNil, twoK, mPar, mU1, mM1, strOf, List.replicate, lB, e1]
      | _ => rfl
    · rw [if_neg hf] at h
      exact absurd rfl h
  · exact absurd rfl h
theorem kind_call {v : PyData} (h : fine v = true) (t : Option Deal) : F_is_kind [.d v] t = .ok (.d (.bool (unKind v).isSome)) t := if_pos h
theorem unKind_ok {v : PyData} {k : Kd} (h : unKind v = some k) : v = kD k ∧ isName k.1 = true ∧ k.2.length ≤ 12 ∧ (k.2.map (·.1)).Nodup ∧ (∀ f ∈ k.2, isName f.1 = true ∧ isTypeD (.str f.2) = true) := by
  unfold unKind at h
  split at h
  · rename_i k n fs
    split at h
    · rename_i hc
      rw [Bool.and_eq_true, Bool.and_eq_true, decide_eq_true_iff, decide_eq_true_iff] at hc
      cases e : allSome (fs.map unField) with
      | none => rw [e] at h; cases h
      | some ps =>
        rw [e] at h
        simp only at h
        split at h
        · rename_i hn
          cases h
          obtain ⟨efs, ha⟩ := allSome_ok (g := fD) (fun x y q => (unField_ok q).1) e
          refine ⟨by rw [hc.1.1, efs] <;> rfl, hc.1.2, ?_, of_decide_eq_true hn, fun f hf => ?_⟩
          · have := congrArg List.length efs
            rw [List.length_map] at this
            show ps.length ≤ 12
            omega
          · have hm : fD f ∈ fs := by rw [efs]; exact List.mem_map_of_mem hf
            have hs := List.all_eq_true.mp ha _ hm
            obtain ⟨q, hq⟩ := Option.isSome_iff_exists.mp hs
            obtain ⟨h1, h2, h3⟩ := unField_ok hq
            have : f = q := by
              obtain ⟨a, b⟩ := f
              obtain ⟨c, d⟩ := q
              unfold fD at h1
              injection h1 with h1
              injection h1 with h1 h4
              injection h4 with h4 _
              injection h1 with h1
              injection h4 with h4
              simp only at h1 h4
              rw [h1, h4]
            rw [this]
            exact ⟨h2, h3⟩
        · cases h
    · cases h
  · cases h
end K01
end
section
set_option maxRecDepth 100000
set_option maxHeartbeats 4000000
namespace K01
open PySem PySem.Spec DL
theorem fm_nest {α β γ : Type} (f : α → List β) (g : β → γ) : ∀ l : List α, (l.flatMap fun a => (f a).map g) = (l.flatMap f).map g
  | [] => rfl
  | a :: l => by rw [List.flatMap_cons, List.flatMap_cons, List.map_append, fm_nest f g l]
theorem sum_le (n : Nat) {α : Type} (f : α → Nat) : ∀ l : List α, (∀ x ∈ l, f x ≤ n) → (l.map f).sum ≤ n * l.length
  | [], _ => by simp
  | x :: l, h => by
    have ih := sum_le n f l fun y hy => h y (List.mem_cons_of_mem _ hy)
    have hx := h x List.mem_cons_self
    rw [List.map_cons, List.sum_cons, List.length_cons, Nat.mul_succ]
    omega
def fieldsOf : Sl → List Sl
  | .d v => (match unKind v with
    | some k => k.2.map fun f => Sl.d (fD f)
    | none => [])
  | _ => []
theorem unKind_kD {k : Kd} (h1 : isName k.1 = true) (h2 : k.2.length ≤ 12) (h3 : (k.2.map (·.1)).Nodup) (h4 : ∀ f ∈ k.2, isName f.1 = true ∧ isTypeD (.str f.2) = true) : unKind (kD k) = some k := by
  have e : allSome ((k.2.map fD).map unField) = some k.2 := by
    generalize k.2 = l at h4
    clear h2 h3
    induction l with
    | nil => rfl
    | cons f l ih =>
      rw [List.map_cons, List.map_cons, unField_fD (h4 f List.mem_cons_self).1 (h4 f List.mem_cons_self).2]
      unfold allSome
      rw [ih fun g hg => h4 g (List.mem_cons_of_mem _ hg)]
  unfold unKind kD
  simp only [decide_true, Bool.true_and, h1, List.length_map, decide_eq_true h2, Bool.and_self, if_true, e, decide_eq_true h3]
theorem unKinds_ok {v : PyData} {ks : List Kd} (h : unKinds v = some ks) : v = ksD ks ∧ ks.length ≤ 40 ∧ ascL (ks.map (·.1)) = true ∧ typesOk ks = true ∧ ∀ k ∈ ks, unKind (kD k) = some k := by
  unfold unKinds at h
  split at h
  · rename_i vs
    split at h
    · rename_i hl
      cases e : allSome (vs.map unKind) with
      | none => rw [e] at h; cases h
      | some ks' =>
        rw [e] at h
        simp only at h
        split at h
        · rename_i hc
          cases h
          rw [Bool.and_eq_true] at hc
          obtain ⟨ev, ha⟩ := allSome_ok (g := kD) (fun x y q => (unKind_ok q).1) e
          refine ⟨by rw [ev] <;> rfl, ?_, hc.1, hc.2, fun k hk => ?_⟩
          · have := congrArg List.length ev
            rw [List.length_map] at this
            omega
          · have hm : kD k ∈ vs := by rw [ev]; exact List.mem_map_of_mem hk
            -- at its own place k is what is read
            have : ∀ {vs : List PyData} {ks : List Kd}, allSome (vs.map unKind) = some ks → ∀ k ∈ ks, ∃ v ∈ vs, unKind v = some k := by
              intro vs
              induction vs with
              | nil => intro ks h k hk; cases h; exact absurd hk (by simp)
              | cons v vs ih =>
                intro ks h k hk
                rw [List.map_cons] at h
                cases e : unKind v with
                | none => rw [e] at h; cases h
                | some y =>
                  rw [e] at h
                  unfold allSome at h
                  cases e2 : allSome (vs.map unKind) with
                  | none => rw [e2] at h; cases h
                  | some ys =>
                    rw [e2] at h
                    cases h
                    rcases List.mem_cons.mp hk with rfl | hk
                    · exact ⟨v, List.mem_cons_self, e⟩
                    · obtain ⟨w, hw, hw2⟩ := ih e2 k hk
                      exact ⟨w, List.mem_cons_of_mem _ hw, hw2⟩
            obtain ⟨w, _, hw⟩ := this e k hk
            have := (unKind_ok hw).1
            rw [← this]
            exact hw
        · cases h
    · cases h
  · cases h
theorem all_types (ks : List Kd) : typesOk ks = (ks.flatMap (·.2)).all fun f => decide (f.2 ∈ ks.map (·.1) ++ [("int" : Str)]) := by
  unfold typesOk
  rw [List.all_flatMap]
  congr 1
  funext k
  congr 1
  funext f
  rw [← Bool.decide_or]
  congr 1
  rw [List.mem_append, List.mem_singleton]
  exact propext ⟨fun h => h.symm, fun h => h.symm⟩
theorem e_kinds : ∀ xs t, F_are_kinds xs t ≠ .st → fnM 4 (m_are_kinds F_is_kind F_are_ascending) xs t = F_are_kinds xs t := by
  intro xs t h
  unfold F_are_kinds at h ⊢
  split at h
  · rename_i v
    by_cases hf : fine v = true
    · simp only [hf, if_true]
      cases v with
      | tuple vs =>
        obtain ⟨hv, hvl⟩ := fine_tup hf
        have lB : lenF [.d (.tuple vs)] = some (.d (.int (vs.length : Nat))) := rfl
        have e1 := len_gt vs.length 40 40 rfl
        have lc1 := row_all (elt := mCall 1 F_is_kind (mCons (mVar [] 2) mNil)) (g := fun x => PyData.bool (unKind x).isSome) (vs := vs) (r := [some (.d (.tuple vs)), none, none, none]) (t := t) (i := 2) (j := 0) rfl rfl (Nat.lt_of_lt_of_le (by decide : 2 < 4) (Nat.le_refl _)) (by omega) (fun x hx => by
          have := kind_call (hv x hx) t
          simp [M.bind, M.ret, M.st, mT, mOp, mVar, mK, use, keep, lft, boolOf, optM, mCB, useAll, mCons, mNil, mTup, mLst, mFz, keepD, mSeq, mRet, mIfS, mAnd, mOr, mNot, mAndV, mOrV, mNotV, mIfE, mCall, keepAll, runF, mAsg, aName, mNx, mChain, fnM, startR, isiF, isT, isTN, askT, tyN, isF, asks, truD, mTru, truS, isNoneD, isBoolD, mRaise, raiseM, oneD, mDrop, aTup, aCons, aNil, twoK, mPar, mU1, mM1, strOf, List.replicate, this])
        have hb := all_bools (fun x => (unKind x).isSome) vs
        generalize vs.map (fun x => PyData.bool (unKind x).isSome) = LL at lc1 hb
        simp only [m_are_kinds]
        generalize mLc (mIter (mVar [] 0)) [2] (aName 2) (M.ret true) (mCall 1 F_is_kind (mCons (mVar [] 2) mNil)) = LC1 at lc1 ⊢
        by_cases h40 : vs.length ≤ 40
        · rw [decide_eq_false (by omega)] at e1
          by_cases hall : vs.all (fun x => (unKind x).isSome) = true
          · rw [hall] at hb
            obtain ⟨ks, hks⟩ := allSome_all hall
            obtain ⟨ev, _⟩ := allSome_ok (g := kD) (fun x y q => (unKind_ok q).1) hks
            have fin : (unKinds (.tuple vs)).isSome = (ascL (ks.map (·.1)) && typesOk ks) := by
              unfold unKinds
              simp only [if_pos h40, hks]
              cases ascL (ks.map (·.1)) && typesOk ks <;> rfl
            rw [fin]
            have hkl : ks.length ≤ 40 := by
              have := congrArg List.length ev
              rw [List.length_map] at this
              omega
            have each : ∀ k ∈ ks, unKind (kD k) = some k := fun k hk => by
              have hm : kD k ∈ vs := by rw [ev]; exact List.mem_map_of_mem hk
              have hs := List.all_eq_true.mp hall _ hm
              obtain ⟨q, hq⟩ := Option.isSome_iff_exists.mp hs
              have e2 := (unKind_ok hq).1
              have : k = q := by
                obtain ⟨a, b⟩ := k
                obtain ⟨c, d⟩ := q
                unfold kD at e2
                injection e2 with e2
                injection e2 with _ e2
                injection e2 with e3 e2
                injection e2 with e4 _
                injection e3 with e3
                injection e4 with e4
                simp only at e3 e4
                have inj : ∀ (l m : List Fd), l.map fD = m.map fD → l = m := by
                  intro l
                  induction l with
                  | nil => intro m q; cases m with
                    | nil => rfl
                    | cons _ _ => cases q
                  | cons x l ih =>
                    intro m q
                    cases m with
                    | nil => cases q
                    | cons y m =>
                      rw [List.map_cons, List.map_cons] at q
                      injection q with q1 q2
                      unfold fD at q1
                      injection q1 with q1
                      injection q1 with q1 q3
                      injection q3 with q3 _
                      injection q1 with q1
                      injection q3 with q3
                      rw [ih m q2, Prod.ext q1 q3]
                rw [e3, inj b d e4]
              rw [hq, this]
            have lc2 := row_all (elt := mOp atF (mVar [] 2) (mK (.d (.int 1)))) (g := fun x => match x with
              | .tuple (_ :: a :: _) => a
              | _ => .none) (vs := vs) (r := [some (.d (.tuple vs)), none, none, none]) (t := t) (i := 2) (j := 0) rfl rfl (Nat.lt_of_lt_of_le (by decide : 2 < 4) (Nat.le_refl _)) (by omega) (fun x hx => by
              rw [ev] at hx
              obtain ⟨k, _, rfl⟩ := List.mem_map.mp hx
              simp [M.bind, M.ret, M.st, mT, mOp, mVar, mK, use, keep, lft, boolOf, optM, mCB, useAll, mCons, mNil, mTup, mLst, mFz, keepD, mSeq, mRet, mIfS, mAnd, mOr, mNot, mAndV, mOrV, mNotV, mIfE, mCall, keepAll, runF, mAsg, aName, mNx, mChain, fnM, startR, isiF, isT, isTN, askT, tyN, isF, asks, truD, mTru, truS, isNoneD, isBoolD, mRaise, raiseM, oneD, mDrop, aTup, aCons, aNil, twoK, mPar, mU1, mM1, strOf, List.replicate, kD, atF, L2.atI, L2.ixN])
            have em : (vs.map fun x => match x with
              | .tuple (_ :: a :: _) => a
              | _ => PyData.none) = (ks.map (·.1)).map PyData.str := by
              rw [ev, List.map_map, List.map_map]
              rfl
            rw [em] at lc2
            have asc : F_are_ascending [.d (.list ((ks.map (·.1)).map PyData.str))] t = .ok (.d (.bool (ascL (ks.map (·.1))))) t := by
              unfold F_are_ascending strsIn
              simp only [strsOf_map]
              rw [if_pos (by rw [List.length_map]; omega)]
            -- the types
            have lc3 := lcc (mi := mIter (mVar [] 0)) (mi1 := mIter (mOp atF (mVar [] 2) (mK (.d (.int 2))))) (i := 2) (j := 3) (elt := mOp (inF false) (mOp atF (mVar [] 3) (mK (.d (.int 1)))) (mOp addF (mVar [] 1) (mFz (mLst (mCons (mK (.d (.str "int"))) mNil))))) (r := [some (.d (.tuple vs)), some (.d (.list ((ks.map (·.1)).map PyData.str))), none, none]) (t := t)
              (items := fieldsOf) (g := fun _ e => match e with
                | .d (.tuple [_, .str y]) => PyData.bool (decide (y ∈ ks.map (·.1) ++ [("int" : Str)]))
                | _ => .none) (ds := vs.map Sl.d) (by decide) (iter_seq rfl rfl (by simp)) (Nat.lt_of_lt_of_le (by decide : 2 < 4) (Nat.le_refl _)) (Nat.lt_of_lt_of_le (by decide : 3 < 4) (Nat.le_refl _))
              (fun d hd => by
                obtain ⟨x, hx, rfl⟩ := List.mem_map.mp hd
                rw [ev] at hx
                obtain ⟨k, hk, rfl⟩ := List.mem_map.mp hx
                have e2 : fieldsOf (.d (kD k)) = k.2.map fun f => Sl.d (fD f) := by
                  unfold fieldsOf
                  simp only [each k hk]
                rw [e2]
                simp [M.bind, M.ret, M.st, mT, mOp, mVar, mK, use, keep, lft, boolOf, optM, mCB, useAll, mCons, mNil, mTup, mLst, mFz, keepD, mSeq, mRet, mIfS, mAnd, mOr, mNot, mAndV, mOrV, mNotV, mIfE, mCall, keepAll, runF, mAsg, aName, mNx, mChain, fnM, startR, isiF, isT, isTN, askT, tyN, isF, asks, truD, mTru, truS, isNoneD, isBoolD, mRaise, raiseM, oneD, mDrop, aTup, aCons, aNil, twoK, mPar, mU1, mM1, strOf, List.replicate, mIter, itemsOf, kD, atF, L2.atI, L2.ixN])
              (by
                refine Nat.lt_of_le_of_lt (sum_le 12 _ _ fun d hd => ?_) (show 12 * (vs.map Sl.d).length < 1000000 by rw [List.length_map]; omega)
                obtain ⟨x, hx, rfl⟩ := List.mem_map.mp hd
                rw [ev] at hx
                obtain ⟨k, hk, rfl⟩ := List.mem_map.mp hx
                unfold fieldsOf
                simp only [each k hk, List.length_map]
                exact (unKind_ok (each k hk)).2.2.1)
              (fun d hd => by
                obtain ⟨x, hx, rfl⟩ := List.mem_map.mp hd
                rw [ev] at hx
                obtain ⟨k, hk, rfl⟩ := List.mem_map.mp hx
                have e2 : fieldsOf (.d (kD k)) = k.2.map fun f => Sl.d (fD f) := by
                  unfold fieldsOf
                  simp only [each k hk]
                rw [e2]
                simp [M.bind, M.ret, M.st, mT, mOp, mVar, mK, use, keep, lft, boolOf, optM, mCB, useAll, mCons, mNil, mTup, mLst, mFz, keepD, mSeq, mRet, mIfS, mAnd, mOr, mNot, mAndV, mOrV, mNotV, mIfE, mCall, keepAll, runF, mAsg, aName, mNx, mChain, fnM, startR, isiF, isT, isTN, askT, tyN, isF, asks, truD, mTru, truS, isNoneD, isBoolD, mRaise, raiseM, oneD, mDrop, aTup, aCons, aNil, twoK, mPar, mU1, mM1, strOf, List.replicate, mIter, itemsOf, kD, atF, L2.atI, L2.ixN])
              (fun d hd e he => by
                obtain ⟨x, hx, rfl⟩ := List.mem_map.mp hd
                rw [ev] at hx
                obtain ⟨k, hk, rfl⟩ := List.mem_map.mp hx
                have e2 : fieldsOf (.d (kD k)) = k.2.map fun f => Sl.d (fD f) := by
                  unfold fieldsOf
                  simp only [each k hk]
                rw [e2] at he
                obtain ⟨f, _, rfl⟩ := List.mem_map.mp he
                have e3 := in_lst f.2 (ks.map (·.1) ++ [("int" : Str)])
                have e4 : addF (.d (.list ((ks.map (·.1)).map PyData.str))) (.d (.list [.str "int"])) = some (.d (.list ((ks.map (·.1) ++ [("int" : Str)]).map PyData.str))) := by
                  unfold addF
                  simp only
                  rw [if_pos (by simp; omega), List.map_append]
                  rfl
                generalize (ks.map (·.1) ++ [("int" : Str)]).map PyData.str = L1 at e3 e4
                generalize (ks.map (·.1)).map PyData.str = L0 at e4 ⊢
                generalize hD0 : decide (f.2 ∈ ks.map (·.1) ++ [("int" : Str)]) = D0 at e3
                simp [M.bind, M.ret, M.st, mT, mOp, mVar, mK, use, keep, lft, boolOf, optM, mCB, useAll, mCons, mNil, mTup, mLst, mFz, keepD, mSeq, mRet, mIfS, mAnd, mOr, mNot, mAndV, mOrV, mNotV, mIfE, mCall, keepAll, runF, mAsg, aName, mNx, mChain, fnM, startR, isiF, isT, isTN, askT, tyN, isF, asks, truD, mTru, truS, isNoneD, isBoolD, mRaise, raiseM, oneD, mDrop, aTup, aCons, aNil, twoK, mPar, mU1, mM1, strOf, List.replicate, fD, atF, L2.atI, L2.ixN, e4, e3]
                exact hD0.symm)
            have em3 : ((vs.map Sl.d).flatMap fun d => (fieldsOf d).map fun e => match e with
                | .d (.tuple [_, .str y]) => PyData.bool (decide (y ∈ ks.map (·.1) ++ [("int" : Str)]))
                | _ => PyData.none) = (ks.flatMap (·.2)).map fun f => PyData.bool (decide (f.2 ∈ ks.map (·.1) ++ [("int" : Str)])) := by
              rw [ev, List.map_map, List.flatMap_map, ← fm_nest]
              have : ∀ l : List Kd, (∀ k ∈ l, unKind (kD k) = some k) → (l.flatMap fun k => (fieldsOf ((Sl.d ∘ kD) k)).map fun e => match e with
                | .d (.tuple [_, .str y]) => PyData.bool (decide (y ∈ ks.map (·.1) ++ [("int" : Str)]))
                | _ => PyData.none) = l.flatMap fun k => k.2.map fun f => PyData.bool (decide (f.2 ∈ ks.map (·.1) ++ [("int" : Str)])) := by
                intro l
                induction l with
                | nil => intro _; rfl
                | cons k l ih =>
                  intro hl
                  rw [List.flatMap_cons, List.flatMap_cons, ih fun q hq => hl q (List.mem_cons_of_mem _ hq)]
                  congr 1
                  have e2 : fieldsOf ((Sl.d ∘ kD) k) = k.2.map fun f => Sl.d (fD f) := by
                    show fieldsOf (.d (kD k)) = _
                    unfold fieldsOf
                    simp only [hl k List.mem_cons_self]
                  rw [e2, List.map_map]
                  rfl
              exact this ks each
            rw [em3] at lc3
            have hb3 := all_bools (fun f : Fd => decide (f.2 ∈ ks.map (·.1) ++ [("int" : Str)])) (ks.flatMap (·.2))
            rw [← all_types] at hb3
            generalize (ks.flatMap (·.2)).map (fun f => PyData.bool (decide (f.2 ∈ ks.map (·.1) ++ [("int" : Str)]))) = L3 at lc3 hb3
            generalize (ks.map (·.1)).map PyData.str = NN at lc2 lc3 asc
            generalize mLc (mIter (mVar [] 0)) [2] (aName 2) (M.ret true) (mOp atF (mVar [] 2) (mK (.d (.int 1)))) = LC2 at lc2 ⊢
            generalize mLc2 (mIter (mVar [] 0)) [2, 3] (aName 2) (M.ret true) (mIter (mOp atF (mVar [] 2) (mK (.d (.int 2))))) [3] (aName 3) (M.ret true) (mOp (inF false) (mOp atF (mVar [] 3) (mK (.d (.int 1)))) (mOp addF (mVar [] 1) (mFz (mLst (mCons (mK (.d (.str "int"))) mNil))))) = LC3 at lc3 ⊢
            generalize ascL (ks.map (·.1)) = A1 at asc ⊢
            generalize typesOk ks = A2 at hb3 ⊢
            cases A1 <;> simp [M.bind, M.ret, M.st, mT, mOp, mVar, mK, use, keep, lft, boolOf, optM, mCB, useAll, mCons, mNil, mTup, mLst, mFz, keepD, mSeq, mRet, mIfS, mAnd, mOr, mNot, mAndV, mOrV, mNotV, mIfE, mCall, keepAll, runF, mAsg, aName, mNx, mChain, fnM, startR, isiF, isT, isTN, askT, tyN, isF, asks, truD, mTru, truS, isNoneD, isBoolD, mRaise, raiseM, oneD, mDrop, aTup, aCons, aNil, twoK, mPar, mU1, mM1, strOf, List.replicate, lB, e1, lc1, hb, lc2, asc, lc3, hb3]
          · have hall' : vs.all (fun x => (unKind x).isSome) = false := by simpa using hall
            rw [hall'] at hb
            have fin : unKinds (.tuple vs) = none := by
              unfold unKinds
              simp only [if_pos h40, allSome_none hall']
            rw [fin]
            generalize mLc (mIter (mVar [] 0)) [2] (aName 2) (M.ret true) (mOp atF (mVar [] 2) (mK (.d (.int 1)))) = LC2
            generalize mLc2 (mIter (mVar [] 0)) [2, 3] (aName 2) (M.ret true) (mIter (mOp atF (mVar [] 2) (mK (.d (.int 2))))) [3] (aName 3) (M.ret true) (mOp (inF false) (mOp atF (mVar [] 3) (mK (.d (.int 1)))) (mOp addF (mVar [] 1) (mFz (mLst (mCons (mK (.d (.str "int"))) mNil))))) = LC3
            simp [M.bind, M.ret, M.st, mT, mOp, mVar, mK, use, keep, lft, boolOf, optM, mCB, useAll, mCons, mNil, mTup, mLst, mFz, keepD, mSeq, mRet, mIfS, mAnd, mOr, mNot, mAndV, mOrV, mNotV, mIfE, mCall, keepAll, runF, mAsg, aName, mNx, mChain, fnM, startR, isiF, isT, isTN, askT, tyN, isF, asks, truD, mTru, truS, isNoneD, isBoolD, mRaise, raiseM, oneD, mDrop, aTup, aCons, aNil, twoK, mPar, mU1, mM1, strOf, List.replicate, lB, e1, lc1, hb]
        · rw [decide_eq_true (by omega)] at e1
          have fin : unKinds (.tuple vs) = none := by
            unfold unKinds
            simp only [if_neg h40]
          rw [fin]
          generalize mLc (mIter (mVar [] 0)) [2] (aName 2) (M.ret true) (mOp atF (mVar [] 2) (mK (.d (.int 1)))) = LC2
          generalize mLc2 (mIter (mVar [] 0)) [2, 3] (aName 2) (M.ret true) (mIter (mOp atF (mVar [] 2) (mK (.d (.int 2))))) [3] (aName 3) (M.ret true) (mOp (inF false) (mOp atF (mVar [] 3) (mK (.d (.int 1)))) (mOp addF (mVar [] 1) (mFz (mLst (mCons (mK (.d (.str "int"))) mNil))))) = LC3
          simp [M.bind, M.ret, M.st, mT, mOp, mVar, mK, use, keep, lft, boolOf, optM, mCB, useAll, mCons, mNil, mTup, mLst, mFz, keepD, mSeq, mRet, mIfS, mAnd, mOr, mNot, mAndV, mOrV, mNotV, mIfE, mCall, keepAll, runF, mAsg, aName, mNx, mChain, fnM, startR, isiF, isT, isTN, askT, tyN, isF, asks, truD, mTru, truS, isNoneD, isBoolD, mRaise, raiseM, oneD, mDrop, aTup, aCons, aNil, twoK, mPar, mU1, mM1, strOf, List.replicate, lB, e1]
      | _ => rfl
    · rw [if_neg hf] at h
      exact absurd rfl h
  · exact absurd rfl h
theorem kinds_call {v : PyData} (h : fine v = true) (t : Option Deal) : F_are_kinds [.d v] t = .ok (.d (.bool (unKinds v).isSome)) t := if_pos h
theorem e_checked : ∀ xs t, F_checked_kinds xs t ≠ .st → fnM 1 (m_checked_kinds F_are_kinds) xs t = F_checked_kinds xs t := by
  intro xs t h
  unfold F_checked_kinds at h ⊢
  split at h
  · rename_i v
    by_cases hf : fine v = true
    · simp only [hf, if_true]
      have e := kinds_call hf t
      generalize (unKinds v).isSome = b at e ⊢
      cases b <;> simp [m_checked_kinds, M.bind, M.ret, M.st, mT, mOp, mVar, mK, use, keep, lft, boolOf, optM, mCB, useAll, mCons, mNil, mTup, mLst, mFz, keepD, mSeq, mRet, mIfS, mAnd, mOr, mNot, mAndV, mOrV, mNotV, mIfE, mCall, keepAll, runF, mAsg, aName, mNx, mChain, fnM, startR, isiF, isT, isTN, askT, tyN, isF, asks, truD, mTru, truS, isNoneD, isBoolD, mRaise, raiseM, oneD, mDrop, aTup, aCons, aNil, twoK, mPar, mU1, mM1, strOf, List.replicate, e]
    · rw [if_neg hf] at h
      exact absurd rfl h
  · exact absurd rfl h
noncomputable def namedB : M Fl := (mIfS (mT (mOp eqF (mOp atF (mVar [] 2) (mK (.d (.int 1)))) (mVar [] 1))) (mRet (mVar [] 2)) mNx)
theorem named_loop (z : Str) (v : Sl) (t : Option Deal) : ∀ (ks : List Kd) (o : Option Sl), ∃ o', forL (aName 2) namedB (ks.map fun k => Sl.d (kD k)) [some v, some (.d (.str z)), o] t = (match named ks z with
    | some k => .ok (.rt (.d (kD k))) [some v, some (.d (.str z)), o'] t
    | none => .ok .nx [some v, some (.d (.str z)), o'] t)
  | [], o => ⟨o, rfl⟩
  | k :: ks, o => by
    have e1 := eq_strs k.1 z
    by_cases hk : k.1 = z
    · refine ⟨some (.d (kD k)), ?_⟩
      have fin : named (k :: ks) z = some k := by
        unfold named
        rw [List.find?_cons]
        simp [hk]
      rw [fin, List.map_cons]
      rw [decide_eq_true hk] at e1
      unfold forL
      simp [namedB, M.bind, M.ret, M.st, mT, mOp, mVar, mK, use, keep, lft, boolOf, optM, mCB, useAll, mCons, mNil, mTup, mLst, mFz, keepD, mSeq, mRet, mIfS, mAnd, mOr, mNot, mAndV, mOrV, mNotV, mIfE, mCall, keepAll, runF, mAsg, aName, mNx, mChain, fnM, startR, isiF, isT, isTN, askT, tyN, isF, asks, truD, mTru, truS, isNoneD, isBoolD, mRaise, raiseM, oneD, mDrop, aTup, aCons, aNil, twoK, mPar, mU1, mM1, strOf, List.replicate, kD, atF, L2.atI, L2.ixN, e1, afterF]
    · obtain ⟨o', e⟩ := named_loop z v t ks (some (.d (kD k)))
      refine ⟨o', ?_⟩
      have fin : named (k :: ks) z = named ks z := by
        unfold named
        rw [List.find?_cons]
        simp [hk]
      rw [fin, List.map_cons]
      rw [decide_eq_false hk] at e1
      have eb : namedB [some v, some (.d (.str z)), some (.d (kD k))] t = .ok .nx [some v, some (.d (.str z)), some (.d (kD k))] t := by
        simp [namedB, M.bind, M.ret, M.st, mT, mOp, mVar, mK, use, keep, lft, boolOf, optM, mCB, useAll, mCons, mNil, mTup, mLst, mFz, keepD, mSeq, mRet, mIfS, mAnd, mOr, mNot, mAndV, mOrV, mNotV, mIfE, mCall, keepAll, runF, mAsg, aName, mNx, mChain, fnM, startR, isiF, isT, isTN, askT, tyN, isF, asks, truD, mTru, truS, isNoneD, isBoolD, mRaise, raiseM, oneD, mDrop, aTup, aCons, aNil, twoK, mPar, mU1, mM1, strOf, List.replicate, kD, atF, L2.atI, L2.ixN, e1]
      rw [← e]
      exact forL_cons (r1 := [some v, some (.d (.str z)), some (.d (kD k))]) rfl eb
theorem e_named : ∀ xs t, F_kind_named xs t ≠ .st → fnM 3 m_kind_named xs t = F_kind_named xs t := by
  intro xs t h
  unfold F_kind_named at h ⊢
  split at h
  · rename_i v z
    cases e : unKinds v with
    | none => rw [e] at h; exact absurd rfl h
    | some ks =>
      have ev := (unKinds_ok e).1
      obtain ⟨o', el⟩ := named_loop z (.d v) t ks none
      have em : mFor (mIter (mVar [] 0)) (aName 2) namedB [some (.d v), some (.d (.str z)), none] t = forL (aName 2) namedB (ks.map fun k => Sl.d (kD k)) [some (.d v), some (.d (.str z)), none] t := by
        have ei := iter_seq (j := 0) (ow := []) (r := [some (.d v), some (.d (.str z)), none]) (t := t) (v := v) (vs := ks.map kD) rfl (by rw [ev] <;> rfl) (by simp)
        unfold mFor M.bind
        rw [ei]
        simp only [List.map_map]
        rfl
      have ed : m_kind_named = mSeq (mFor (mIter (mVar [] 0)) (aName 2) namedB) (mRet (mK (.d .none))) := rfl
      rw [ed]
      generalize mFor (mIter (mVar [] 0)) (aName 2) namedB = LC at em ⊢
      rw [el] at em
      cases en : named ks z with
      | none =>
        rw [en] at em
        simp [M.bind, M.ret, M.st, mT, mOp, mVar, mK, use, keep, lft, boolOf, optM, mCB, useAll, mCons, mNil, mTup, mLst, mFz, keepD, mSeq, mRet, mIfS, mAnd, mOr, mNot, mAndV, mOrV, mNotV, mIfE, mCall, keepAll, runF, mAsg, aName, mNx, mChain, fnM, startR, isiF, isT, isTN, askT, tyN, isF, asks, truD, mTru, truS, isNoneD, isBoolD, mRaise, raiseM, oneD, mDrop, aTup, aCons, aNil, twoK, mPar, mU1, mM1, strOf, List.replicate, em, en]
      | some k =>
        rw [en] at em
        simp [M.bind, M.ret, M.st, mT, mOp, mVar, mK, use, keep, lft, boolOf, optM, mCB, useAll, mCons, mNil, mTup, mLst, mFz, keepD, mSeq, mRet, mIfS, mAnd, mOr, mNot, mAndV, mOrV, mNotV, mIfE, mCall, keepAll, runF, mAsg, aName, mNx, mChain, fnM, startR, isiF, isT, isTN, askT, tyN, isF, asks, truD, mTru, truS, isNoneD, isBoolD, mRaise, raiseM, oneD, mDrop, aTup, aCons, aNil, twoK, mPar, mU1, mM1, strOf, List.replicate, em, en]
  · exact absurd rfl h
theorem is_none (v : PyData) : isF false (.d v) (.d .none) = some (.d (.bool (isNoneD v))) := by
  cases v <;> rfl
theorem e_cname : ∀ xs t, F_checked_kind_name xs t ≠ .st → fnM 4 (m_checked_kind_name F_is_name F_kind_named) xs t = F_checked_kind_name xs t := by
  intro xs t h
  unfold F_checked_kind_name at h ⊢
  split at h
  · rename_i v n at_
    by_cases hf : fine n = true
    · simp only [hf, if_true] at h ⊢
      cases e : unKinds v with
      | none => rw [e] at h; exact absurd rfl h
      | some ks =>
        simp only
        have e1 := name_call hf t
        by_cases hn : isNameD n = true
        · cases n with
          | str z =>
            rw [hn] at e1
            have e2 : F_kind_named [.d v, .d (.str z)] t = .ok (.d (match named ks z with | some k => kD k | none => .none)) t := by
              unfold F_kind_named
              simp only [e]
              all_goals (cases named ks z <;> rfl)
            have fin : nameIn ks (.str z) = named ks z := by
              unfold nameIn
              exact if_pos hn
            rw [fin]
            cases en : named ks z with
            | none =>
              rw [en] at e2
              simp [m_checked_kind_name, M.bind, M.ret, M.st, mT, mOp, mVar, mK, use, keep, lft, boolOf, optM, mCB, useAll, mCons, mNil, mTup, mLst, mFz, keepD, mSeq, mRet, mIfS, mAnd, mOr, mNot, mAndV, mOrV, mNotV, mIfE, mCall, keepAll, runF, mAsg, aName, mNx, mChain, fnM, startR, isiF, isT, isTN, askT, tyN, isF, asks, truD, mTru, truS, isNoneD, isBoolD, mRaise, raiseM, oneD, mDrop, aTup, aCons, aNil, twoK, mPar, mU1, mM1, strOf, List.replicate, e1, e2, en]
            | some k =>
              rw [en] at e2
              simp [m_checked_kind_name, M.bind, M.ret, M.st, mT, mOp, mVar, mK, use, keep, lft, boolOf, optM, mCB, useAll, mCons, mNil, mTup, mLst, mFz, keepD, mSeq, mRet, mIfS, mAnd, mOr, mNot, mAndV, mOrV, mNotV, mIfE, mCall, keepAll, runF, mAsg, aName, mNx, mChain, fnM, startR, isiF, isT, isTN, askT, tyN, isF, asks, truD, mTru, truS, isNoneD, isBoolD, mRaise, raiseM, oneD, mDrop, aTup, aCons, aNil, twoK, mPar, mU1, mM1, strOf, List.replicate, e1, e2, kD, en]
          | _ => cases hn
        · have hn' : isNameD n = false := by simpa using hn
          rw [hn'] at e1
          have fin : nameIn ks n = none := by
            unfold nameIn
            cases n with
            | str z => exact if_neg hn
            | _ => rfl
          rw [fin]
          simp [m_checked_kind_name, M.bind, M.ret, M.st, mT, mOp, mVar, mK, use, keep, lft, boolOf, optM, mCB, useAll, mCons, mNil, mTup, mLst, mFz, keepD, mSeq, mRet, mIfS, mAnd, mOr, mNot, mAndV, mOrV, mNotV, mIfE, mCall, keepAll, runF, mAsg, aName, mNx, mChain, fnM, startR, isiF, isT, isTN, askT, tyN, isF, asks, truD, mTru, truS, isNoneD, isBoolD, mRaise, raiseM, oneD, mDrop, aTup, aCons, aNil, twoK, mPar, mU1, mM1, strOf, List.replicate, e1]
    · simp only [if_neg hf] at h
      exact absurd rfl h
  · exact absurd rfl h
theorem checked_call {v : PyData} (h : fine v = true) (t : Option Deal) : F_checked_kinds [.d v] t = if (unKinds v).isSome then .ok (.d .none) t else .ex "InvalidKind" (.int 0) t := if_pos h
theorem cname_call {v n : PyData} {ks : List Kd} (h : unKinds v = some ks) (hn : fine n = true) (i : Int) (t : Option Deal) : F_checked_kind_name [.d v, .d n, .d (.int i)] t = (match nameIn ks n with
    | some k => .ok (.d (kD k)) t
    | none => .ex "InvalidQuestion" (.int i) t) := by
  unfold F_checked_kind_name
  simp only [hn, if_true, h]
  all_goals (cases nameIn ks n <;> rfl)
theorem e_fields : ∀ xs t, F_fields_of xs t ≠ .st → fnM 2 (m_fields_of F_checked_kinds F_checked_kind_name) xs t = F_fields_of xs t := by
  intro xs t h
  unfold F_fields_of at h ⊢
  split at h
  · rename_i v n
    by_cases hf : (fine v && fine n) = true
    · simp only [hf, if_true]
      rw [Bool.and_eq_true] at hf
      have e1 := checked_call hf.1 t
      cases e : unKinds v with
      | none =>
        rw [e] at e1
        simp at e1
        simp [m_fields_of, M.bind, M.ret, M.st, mT, mOp, mVar, mK, use, keep, lft, boolOf, optM, mCB, useAll, mCons, mNil, mTup, mLst, mFz, keepD, mSeq, mRet, mIfS, mAnd, mOr, mNot, mAndV, mOrV, mNotV, mIfE, mCall, keepAll, runF, mAsg, aName, mNx, mChain, fnM, startR, isiF, isT, isTN, askT, tyN, isF, asks, truD, mTru, truS, isNoneD, isBoolD, mRaise, raiseM, oneD, mDrop, aTup, aCons, aNil, twoK, mPar, mU1, mM1, strOf, List.replicate, e1]
      | some ks =>
        rw [e] at e1
        simp at e1
        have e2 := cname_call e hf.2 1 t
        cases en : nameIn ks n with
        | none =>
          rw [en] at e2
          simp [m_fields_of, M.bind, M.ret, M.st, mT, mOp, mVar, mK, use, keep, lft, boolOf, optM, mCB, useAll, mCons, mNil, mTup, mLst, mFz, keepD, mSeq, mRet, mIfS, mAnd, mOr, mNot, mAndV, mOrV, mNotV, mIfE, mCall, keepAll, runF, mAsg, aName, mNx, mChain, fnM, startR, isiF, isT, isTN, askT, tyN, isF, asks, truD, mTru, truS, isNoneD, isBoolD, mRaise, raiseM, oneD, mDrop, aTup, aCons, aNil, twoK, mPar, mU1, mM1, strOf, List.replicate, e1, e2, en]
        | some k =>
          rw [en] at e2
          have e3 : atF (.d (kD k)) (.d (.int 2)) = some (.d (.tuple (k.2.map fD))) := rfl
          simp [m_fields_of, M.bind, M.ret, M.st, mT, mOp, mVar, mK, use, keep, lft, boolOf, optM, mCB, useAll, mCons, mNil, mTup, mLst, mFz, keepD, mSeq, mRet, mIfS, mAnd, mOr, mNot, mAndV, mOrV, mNotV, mIfE, mCall, keepAll, runF, mAsg, aName, mNx, mChain, fnM, startR, isiF, isT, isTN, askT, tyN, isF, asks, truD, mTru, truS, isNoneD, isBoolD, mRaise, raiseM, oneD, mDrop, aTup, aCons, aNil, twoK, mPar, mU1, mM1, strOf, List.replicate, e1, e2, e3, en]
    · simp only [if_neg hf] at h
      exact absurd rfl h
  · exact absurd rfl h
end K01
end
section
set_option maxRecDepth 100000
set_option maxHeartbeats 4000000
/-! # The law's own small defs, for all laws: draw, of, mixed, same -/
namespace DL
open PySem PySem.Spec
noncomputable def mOf (F__law_any : FM) : M Fl := (mRet (mOp atF (mVar [] 1) (mCall 2 F__law_any (mCons (mVar [] 0) (mCons (mCB lenF (mCons (mVar [] 1) mNil)) mNil)))))
noncomputable def mMixed (F__law_any : FM) : M Fl := (mSeq (mParOO 2 3 (mCBF listF (mCons (mVar [2, 3] 1) mNil)) (mLst mNil)) (mSeq (mWhile (mT (mOp neF (mVar [2, 3] 2) (mFz (mLst mNil)))) (mDrop (has 3 (mAppend 3 (mCons (has 2 (mPopAt 2 (mCons (mCall 2 F__law_any (mCons (mVar [2, 3] 0) (mCons (mCB lenF (mCons (mVar [2, 3] 2) mNil)) mNil))) mNil))) mNil))))) (mRet (mVar [2, 3] 3))))
noncomputable def mSame (F__law_same : FM) : M Fl := (mSeq (mIfS (mTru (mIsi2 "tuple" "list" (mVar [] 1))) (mSeq (mIfS (mOr (mT (mOp neF (mCB isiF (mCons (mVar [] 1) (mCons (mK (.raw (.ty "tuple"))) mNil))) (mCB isiF (mCons (mVar [] 0) (mCons (mK (.raw (.ty "tuple"))) mNil))))) (mOr (mNot (mTru (mIsi2 "tuple" "list" (mVar [] 0)))) (mT (mOp neF (mCB lenF (mCons (mVar [] 0) mNil)) (mCB lenF (mCons (mVar [] 1) mNil)))))) (mRet (mK (.d (.bool false)))) mNx) (mRet (mOp eqF (mFz (mLc (mZip (mCons (mVar [] 0) (mCons (mVar [] 1) mNil))) [2, 3] (aTup 2 (aCons (aName 2) (aCons (aName 3) aNil))) (mNot (mTru (mCall 2 F__law_same (mCons (mVar [] 2) (mCons (mVar [] 3) mNil))))) (mK (.d (.int 0))))) (mFz (mLst mNil))))) mNx) (mSeq (mIfS (mT (mOp (isF false) (mVar [] 1) (mK (.d .none)))) (mRet (mOp (isF false) (mVar [] 0) (mK (.d .none)))) mNx) (mSeq (mIfS (mT (mOp (isF false) (mVar [] 1) (mK (.d (.bool true))))) (mRet (mOp (isF false) (mVar [] 0) (mK (.d (.bool true))))) mNx) (mSeq (mIfS (mT (mOp (isF false) (mVar [] 1) (mK (.d (.bool false))))) (mRet (mOp (isF false) (mVar [] 0) (mK (.d (.bool false))))) mNx) (mSeq (mIfS (mTru (mCB isiF (mCons (mVar [] 1) (mCons (mK (.raw (.ty "int"))) mNil)))) (mRet (mAndV (mCB isiF (mCons (mVar [] 0) (mCons (mK (.raw (.ty "int"))) mNil))) (mAndV (mNotV (mCB isiF (mCons (mVar [] 0) (mCons (mK (.raw (.ty "bool"))) mNil)))) (mOp eqF (mVar [] 0) (mVar [] 1))))) mNx) (mRet (mAndV (mCB isiF (mCons (mVar [] 0) (mCons (mK (.raw (.ty "str"))) mNil))) (mOp eqF (mVar [] 0) (mVar [] 1)))))))))
noncomputable def mDraw : M Fl := (mSeq (mAsg (aName 2) (mFz (mLc (mIter (mSl (mVar [] 0) mNoP (mPart (mK (.d (.int 48)))))) [4] (aName 4) (M.ret true) (mCB absF (mCons (mCB intF (mCons (mVar [] 4) mNil)) mNil))))) (mSeq (mAsg (aName 3) (mOp addF (mK (.d (.int 7919))) (mOp mulF (mK (.d (.int 104729))) (mVar [] 1)))) (mSeq (mFor (mIter (mVar [] 2)) (aName 4) (mAsg (aName 3) (mOp modF (mCB intF (mCons (mOp addF (mOp addF (mOp mulF (mVar [] 3) (mK (.d (.int 48271)))) (mOp modF (mVar [] 4) (mK (.d (.int 2147483549))))) (mK (.d (.int 11)))) mNil)) (mK (.d (.int 2147483647)))))) (mRet (mFz (mLst (mCons (mFz (mRev (mFz (mLc (mIter (mVar [] 2)) [4] (aName 4) (mT (mOp geF (mVar [] 4) (mOp powF (mK (.d (.int 10))) (mK (.d (.int 18)))))) (mVar [] 4))))) (mCons (mVar [] 3) mNil))))))))
def ofFM : FM := fun xs t => match xs, t with
  | [.deal, .d (.list vs)], some dl => if vs ≠ [] ∧ vs.length ≤ 1000 ∧ fineD dl then (match vs[(anyD dl vs.length).1.toNat]? with
    | some v => .ok (.d v) (some (anyD dl vs.length).2)
    | none => .st) else .st
  | _, _ => .st
def mixD : Nat → List PyData → Deal → List PyData × Deal
  | 0, _, dl => ([], dl)
  | n + 1, vs, dl => if vs = [] then ([], dl) else
    match vs[(anyD dl vs.length).1.toNat]? with
    | some v => let r := mixD n (vs.eraseIdx (anyD dl vs.length).1.toNat) (anyD dl vs.length).2
      (v :: r.1, r.2)
    | none => ([], dl)
def lay1 (x : PyData) : Bool := x.canLay0 && decide (x.depth ≤ 60)
def mixFM : FM := fun xs t => match xs, t with
  | [.deal, .d (.list vs)], some dl => if vs.length ≤ 1000 ∧ vs.all lay1 = true ∧ fineD dl then .ok (.d (.list (mixD vs.length vs dl).1)) (some (mixD vs.length vs dl).2) else .st
  | _, _ => .st
def allO : List (Option Bool) → Option Bool
  | [] => some true
  | some a :: r => (match allO r with
    | some b => some (a && b)
    | none => none)
  | none :: _ => none
/-- data without dicts, so many deep -/
def eqN : Nat → PyData → PyData → Option Bool
  | 0, _, _ => none
  | _ + 1, v, .none => some (match v with | .none => true | _ => false)
  | _ + 1, v, .bool b => some (match v with | .bool c => c == b | _ => false)
  | _ + 1, v, .int i => some (match v with | .int j => decide (j = i) | _ => false)
  | _ + 1, v, .str z => some (match v with | .str y => decide (y = z) | _ => false)
  | n + 1, v, .list ds => (match v with
    | .list vs => if vs.length = ds.length then (if vs.length < 100000 then allO ((vs.zip ds).map fun p => eqN n p.1 p.2) else none) else some false
    | _ => some false)
  | n + 1, v, .tuple ds => (match v with
    | .tuple vs => if vs.length = ds.length then (if vs.length < 100000 then allO ((vs.zip ds).map fun p => eqN n p.1 p.2) else none) else some false
    | _ => some false)
  | _ + 1, _, .dict _ => none
def sameFM (n : Nat) : FM := fun xs t => match xs with
  | [.d v, .d d] => (match eqN n v d with
    | some b => .ok (.d (.bool b)) t
    | none => .st)
  | _ => .st
def drawC (ns : List Int) : List Int := ((ns.take 48).map (fun i => ((i.natAbs : Nat) : Int)))
def drawB (ns : List Int) (salt : Int) : Int := (drawC ns).foldl (fun b c => (b * 48271 + c % 2147483549 + 11) % 2147483647) (7919 + 104729 * salt)
def drawFM : FM := fun xs t => match xs with
  | [.scr ns, .d (.int salt)] => if 0 ≤ salt ∧ salt ≤ 1000 then .ok (.d (.list [.list (((drawC ns).filter (fun c => decide (10 ^ 18 ≤ c))).reverse.map PyData.int), .int (drawB ns salt)])) t else .st
  | _ => .st
theorem log2_lt' {m n : Nat} (h : m < 2 ^ n) (hn : 0 < n) : m.log2 < n := by
  by_cases z : m = 0
  · rw [z]; exact hn
  · exact (Nat.log2_lt z).mpr h
theorem lc_gen {elt : M Tk} {test : M Bool} {p : PyData → Bool} {g : PyData → PyData} {v : PyData} {vs : List PyData} {i j : Nat} {r : Rho} {t : Option Deal}
    (hT : ∀ (x : PyData) (r' : Rho), x ∈ vs → r'[i]? = some (some (.d x)) → test r' t = .ok (p x) r' t) (hE : ∀ (x : PyData) (r' : Rho), x ∈ vs → p x = true → r'[i]? = some (some (.d x)) → elt r' t = .ok (.v (.d (g x))) r' t)
    (hv : seqD v = some vs) (hl : vs.length < 1000000) (h0 : r[j]? = some (some (.d v))) (hi : i < r.length) :
    mLc (mIter (mVar [] j)) [i] (aName i) test elt r t = .ok ((vs.filter p).map g) r t := by
  have e3 : itemsOf (.d v) = some (vs.map Sl.d) := by
    cases v with
    | list ws => cases hv; rfl
    | tuple ws => cases hv; rfl
    | _ => cases hv
  have := mLc_map (mi := mIter (mVar [] j)) (vs := [i]) (f := aName i) (test := test) (elt := elt) (r := r) (t := t) (p := fun d => match d with
    | .d x => p x
    | _ => false) (g := fun d => match d with
    | .d x => g x
    | _ => .none) (ds := vs.map Sl.d) ?_ (by simpa using hl) ?_ ?_
  · rw [this, List.filter_map, List.map_map]
    rfl
  · unfold mIter
    simp only [M.bind, mVar, h0, List.not_mem_nil, if_false, keep, optM, e3]
  · show ((wipeR r []).set i none |>.set i (r[i]?.getD none)) = r
    exact set_self hi
  · intro d hd
    obtain ⟨x, hx, rfl⟩ := List.mem_map.mp hd
    have hl2 : (r.set i none).length = r.length := List.length_set
    refine ⟨(r.set i none).set i (some (.d x)), ?_, ?_⟩
    · have g1 : ((r.set i none).set i (some (Sl.d x)))[i]? = some (some (.d x)) := List.getElem?_set_self (by rw [List.length_set]; exact hi)
      have w1 : wipeR (wipeR r [i]) [i] = r.set i none := by
        show ((r.set i none).set i none) = _
        rw [List.set_set]
      unfold lcOne
      simp only [M.bind, wipeM, w1, aName, hT x _ hx g1]
      cases hp : p x with
      | true => simp only [if_true, M.bind, hE x _ hx hp g1, dataOf, optM, M.ret]
      | false => simp [M.ret]
    · show (((r.set i none).set i (some (Sl.d x))).set i none) = r.set i none
      rw [List.set_set, List.set_set]
theorem atI_in {α : Type} {xs : List α} {i : Int} (h0 : 0 ≤ i) (h1 : i < xs.length) : L2.atI xs i = xs[i.toNat]? := by
  unfold L2.atI L2.ixN
  rw [if_pos h0, if_pos h1]
  rfl
theorem any_call {dl : Deal} {n : Nat} (h0 : 0 < n) (h1 : n ≤ 1000) (hf : fineD dl) : anyFM [.deal, .d (.int n)] (some dl) = .ok (.d (.int (anyD dl n).1)) (some (anyD dl n).2) := by
  have a1 : (0 : Int) < n := by omega
  have a2 : (n : Int).natAbs.log2 < 9000 := by
    have : (n : Int).natAbs < 2 ^ 10 := by omega
    have := log2_lt' this (by decide)
    omega
  exact if_pos ⟨a1, a2, hf⟩
theorem e_of : ∀ xs t, ofFM xs t ≠ .st → fnM 2 (mOf anyFM) xs t = ofFM xs t := by
  intro xs t h
  unfold ofFM at h
  split at h
  · rename_i vs dl
    by_cases hc : vs ≠ [] ∧ vs.length ≤ 1000 ∧ fineD dl
    · obtain ⟨h1, h2, h3⟩ := hc
      have hl : 0 < vs.length := List.length_pos_iff.mpr h1
      have e := any_call hl h2 h3
      have hr := anyD_range dl (b := vs.length) (by omega)
      have ha := atI_in (xs := vs) hr.1 hr.2
      have hg : vs[(anyD dl vs.length).1.toNat]? = some (vs[(anyD dl vs.length).1.toNat]'(by omega)) := List.getElem?_eq_getElem _
      simp [mOf, M.bind, M.ret, M.st, mT, mOp, mVar, mK, use, keep, lft, boolOf, optM, mCB, useAll, mCons, mNil, mTup, mLst, mFz, keepD, mSeq, mRet, mIfS, mAnd, mOr, mNot, mAndV, mOrV, mNotV, mIfE, mCall, keepAll, runF, mAsg, aName, mNx, mChain, fnM, startR, isiF, isT, isTN, askT, tyN, lenF, gtF, ltF, leF, geF, cmpF, eqF, neF, eqOk, scalD, atF, addF, subF, mulF, fdivF, modF, mTru, truS, isF, asks, truD, isNoneD, isBoolD, mRaise, raiseM, oneD, List.replicate, allF, boolsOf, mDrop, aTup, aCons, aNil, twoK, mPar, e, ha, hg, ofFM, h1, h2, h3]
    · rw [if_neg hc] at h
      exact absurd rfl h
  · exact absurd rfl h
noncomputable def mixC : M Bool := mT (mOp neF (mVar [2, 3] 2) (mFz (mLst mNil)))
noncomputable def mixB : M Fl := mDrop (has 3 (mAppend 3 (mCons (has 2 (mPopAt 2 (mCons (mCall 2 anyFM (mCons (mVar [2, 3] 0) (mCons (mCB lenF (mCons (mVar [2, 3] 2) mNil)) mNil))) mNil))) mNil)))
theorem lays : ∀ {vs : List PyData}, vs.all lay1 = true → PyData.canLayAll0 vs = true ∧ PyData.depthAll vs ≤ 60
  | [], _ => ⟨rfl, Nat.zero_le _⟩
  | x :: vs, h => by
    rw [List.all_cons, Bool.and_eq_true] at h
    obtain ⟨a, b⟩ := lays h.2
    have hx := h.1
    unfold lay1 at hx
    rw [Bool.and_eq_true, decide_eq_true_iff] at hx
    refine ⟨?_, ?_⟩
    · show (PyData.canLay0 x && PyData.canLayAll0 vs) = true
      rw [a, hx.1] <;> rfl
    · show max (PyData.depth x) (PyData.depthAll vs) ≤ 60
      omega
theorem shaped_lays {vs : List PyData} (h : vs.all lay1 = true) : SeqAt.shaped (.list vs) = true := by
  obtain ⟨a, b⟩ := lays h
  unfold SeqAt.shaped
  rw [Bool.and_eq_true]
  refine ⟨a, decide_eq_true ?_⟩
  show PyData.depthAll vs + 1 ≤ 64
  omega
theorem eqv_nil' (vs : List PyData) : PyData.eqv (.list vs) (.list []) = vs.isEmpty := by cases vs <;> rfl
theorem mixC_e (v1 : Sl) (left found : List PyData) (t : Option Deal) (h : left.all lay1 = true) : mixC [some .deal, some v1, some (.d (.list left)), some (.d (.list found))] t = .ok (!left.isEmpty) [some .deal, some v1, some (.d (.list left)), some (.d (.list found))] t := by
  have hs := shaped_lays h
  have h0 : SeqAt.shaped (.list []) = true := by decide
  simp [mixC, M.bind, M.ret, M.st, mT, mOp, mVar, mK, use, keep, lft, boolOf, optM, mCB, useAll, mCons, mNil, mTup, mLst, mFz, keepD, mSeq, mRet, mIfS, mAnd, mOr, mNot, mAndV, mOrV, mNotV, mIfE, mCall, keepAll, runF, mAsg, aName, mNx, mChain, fnM, startR, isiF, isT, isTN, askT, tyN, lenF, gtF, ltF, leF, geF, cmpF, eqF, neF, eqOk, scalD, atF, addF, subF, mulF, fdivF, modF, mTru, truS, isF, asks, truD, isNoneD, isBoolD, mRaise, raiseM, oneD, List.replicate, allF, boolsOf, mDrop, aTup, aCons, aNil, twoK, mPar, hs, h0, eqv_nil']
theorem mixB_e (v1 : Sl) (left found : List PyData) (dl : Deal) (hl : 0 < left.length) (hz : left.length ≤ 1000) (hf : found.length ≤ 1000) (hd : fineD dl) :
    mixB [some .deal, some v1, some (.d (.list left)), some (.d (.list found))] (some dl) = .ok .nx [some .deal, some v1, some (.d (.list (left.eraseIdx (anyD dl left.length).1.toNat))), some (.d (.list (found ++ [left[(anyD dl left.length).1.toNat]'(by have := anyD_range dl (b := left.length) (by omega); omega)])))] (some (anyD dl left.length).2) := by
  have e := any_call hl hz hd
  have hr := anyD_range dl (b := left.length) (by omega)
  have hg : left[(anyD dl left.length).1.toNat]? = some (left[(anyD dl left.length).1.toNat]'(by omega)) := List.getElem?_eq_getElem _
  have h1 : (anyD dl left.length).1 < 1000000 := by omega
  have h2 : found.length < 16777216 := by omega
  simp [mixB, M.bind, M.ret, M.st, mT, mOp, mVar, mK, use, keep, lft, boolOf, optM, mCB, useAll, mCons, mNil, mTup, mLst, mFz, keepD, mSeq, mRet, mIfS, mAnd, mOr, mNot, mAndV, mOrV, mNotV, mIfE, mCall, keepAll, runF, mAsg, aName, mNx, mChain, fnM, startR, isiF, isT, isTN, askT, tyN, lenF, gtF, ltF, leF, geF, cmpF, eqF, neF, eqOk, scalD, atF, addF, subF, mulF, fdivF, modF, mTru, truS, isF, asks, truD, isNoneD, isBoolD, mRaise, raiseM, oneD, List.replicate, allF, boolsOf, mDrop, aTup, aCons, aNil, twoK, mPar, has, mAppend, mPopAt, getO, setO, e, hg, hr.1, h1, h2, intOf]
theorem mix_loop (v1 : Sl) : ∀ (n : Nat) (left found : List PyData) (dl : Deal), left.length = n → left.length + found.length ≤ 1000 → left.all lay1 = true → fineD dl →
    whileN mixC mixB (n + 1) [some .deal, some v1, some (.d (.list left)), some (.d (.list found))] (some dl) = .ok .nx [some .deal, some v1, some (.d (.list [])), some (.d (.list (found ++ (mixD n left dl).1)))] (some (mixD n left dl).2) := by
  intro n
  induction n with
  | zero =>
    intro left found dl hn hl hs hd
    have e : left = [] := List.eq_nil_of_length_eq_zero hn
    subst e
    rw [whileN_stop (mixC_e v1 [] found (some dl) rfl)]
    simp [mixD]
  | succ n ih =>
    intro left found dl hn hl hs hd
    have hp : 0 < left.length := by omega
    have hne : left ≠ [] := List.length_pos_iff.mp hp
    have hr := anyD_range dl (b := left.length) (by omega)
    have hi : (anyD dl left.length).1.toNat < left.length := by omega
    have he : left.isEmpty = false := by
      cases left with
      | nil => exact absurd rfl hne
      | cons _ _ => rfl
    rw [whileN_go (by rw [mixC_e v1 left found (some dl) hs, he]; rfl) (mixB_e v1 left found dl hp (by omega) (by omega) hd)]
    have hlen : (left.eraseIdx (anyD dl left.length).1.toNat).length = n := by
      rw [List.length_eraseIdx_of_lt hi]
      omega
    have hs' : (left.eraseIdx (anyD dl left.length).1.toNat).all lay1 = true := by
      rw [List.all_eq_true] at hs ⊢
      exact fun x hx => hs x (List.mem_of_mem_eraseIdx hx)
    rw [ih _ _ _ hlen (by rw [hlen]; simp; omega) hs' (anyD_fine hd)]
    have em : mixD (n + 1) left dl = (left[(anyD dl left.length).1.toNat] :: (mixD n (left.eraseIdx (anyD dl left.length).1.toNat) (anyD dl left.length).2).1, (mixD n (left.eraseIdx (anyD dl left.length).1.toNat) (anyD dl left.length).2).2) := by
      conv => lhs; unfold mixD
      rw [if_neg hne, List.getElem?_eq_getElem hi]
    rw [em]
    simp
theorem e_mixed : ∀ xs t, mixFM xs t ≠ .st → fnM 4 (mMixed anyFM) xs t = mixFM xs t := by
  intro xs t h
  have e2 : mMixed anyFM = mSeq (mParOO 2 3 (mCBF listF (mCons (mVar [2, 3] 1) mNil)) (mLst mNil)) (mSeq (mWhile mixC mixB) (mRet (mVar [2, 3] 3))) := rfl
  unfold mixFM at h
  split at h
  · rename_i vs dl
    by_cases hc : vs.length ≤ 1000 ∧ vs.all lay1 = true ∧ fineD dl
    · obtain ⟨h1, h2, h3⟩ := hc
      have e := mix_loop (.d (.list vs)) vs.length vs [] dl rfl (by simpa using h1) h2 h3
      have e3 : mWhile mixC mixB [some .deal, some (.d (.list vs)), some (.d (.list vs)), some (.d (.list []))] (some dl) = .ok .nx [some .deal, some (.d (.list vs)), some (.d (.list [])), some (.d (.list (mixD vs.length vs dl).1))] (some (mixD vs.length vs dl).2) := by
        rw [mWhile_of (n := vs.length + 1) (by rw [e]; intro z; cases z), e]
        simp
      have e4 : mixFM [.deal, .d (.list vs)] (some dl) = .ok (.d (.list (mixD vs.length vs dl).1)) (some (mixD vs.length vs dl).2) := if_pos ⟨h1, h2, h3⟩
      rw [e4, e2]
      simp [M.bind, M.ret, M.st, mT, mOp, mVar, mK, use, keep, lft, boolOf, optM, mCB, useAll, mCons, mNil, mTup, mLst, mFz, keepD, mSeq, mRet, mIfS, mAnd, mOr, mNot, mAndV, mOrV, mNotV, mIfE, mCall, keepAll, runF, mAsg, aName, mNx, mChain, fnM, startR, isiF, isT, isTN, askT, tyN, lenF, gtF, ltF, leF, geF, cmpF, eqF, neF, eqOk, scalD, atF, addF, subF, mulF, fdivF, modF, mTru, truS, isF, asks, truD, isNoneD, isBoolD, mRaise, raiseM, oneD, List.replicate, allF, boolsOf, mDrop, aTup, aCons, aNil, twoK, mPar, mParOO, mCBF, listF, setO, e3]
    · rw [if_neg hc] at h
      exact absurd rfl h
  · exact absurd rfl h
noncomputable def samZ (F : FM) : M Tk := (mOp eqF (mFz (mLc (mZip (mCons (mVar [] 0) (mCons (mVar [] 1) mNil))) [2, 3] (aTup 2 (aCons (aName 2) (aCons (aName 3) aNil))) (mNot (mTru (mCall 2 F (mCons (mVar [] 2) (mCons (mVar [] 3) mNil))))) (mK (.d (.int 0))))) (mFz (mLst mNil)))
theorem allO_some : ∀ {l : List (Option Bool)} {b : Bool}, allO l = some b → (∀ o ∈ l, ∃ c, o = some c) ∧ b = l.all (fun o => o == some true)
  | [], b, h => by
    cases h
    exact ⟨by simp, rfl⟩
  | some a :: r, b, h => by
    unfold allO at h
    cases e : allO r with
    | none => rw [e] at h; cases h
    | some c =>
      rw [e] at h
      cases h
      obtain ⟨h1, h2⟩ := allO_some e
      refine ⟨fun o ho => ?_, ?_⟩
      · rcases List.mem_cons.mp ho with z | z
        · exact ⟨a, z⟩
        · exact h1 o z
      · rw [List.all_cons, ← h2]
        cases a <;> rfl
  | none :: r, b, h => by cases h
theorem zeros_lay {α : Type} : ∀ (l : List α), PyData.canLayAll0 (l.map fun _ => PyData.int 0) = true ∧ PyData.depthAll (l.map fun _ => PyData.int 0) = 0
  | [] => ⟨rfl, rfl⟩
  | x :: l => by
    obtain ⟨a, b⟩ := zeros_lay l
    refine ⟨?_, ?_⟩
    · show (PyData.canLay0 (.int 0) && PyData.canLayAll0 (l.map fun _ => PyData.int 0)) = true
      rw [a] <;> rfl
    · show max (PyData.depth (.int 0)) (PyData.depthAll (l.map fun _ => PyData.int 0)) = 0
      rw [b] <;> rfl
theorem samZ_e {n : Nat} {v d : PyData} {vs ds : List PyData} {b : Bool} (t : Option Deal) (hz : zipF [.d v, .d d] = some ((vs.zip ds).map fun p => Sl.d (.tuple [p.1, p.2]))) (hl : vs.length < 100000) (ha : allO ((vs.zip ds).map fun p => eqN n p.1 p.2) = some b) :
    samZ (sameFM n) [some (.d v), some (.d d), none, none] t = .ok (.v (.d (.bool b))) [some (.d v), some (.d d), none, none] t := by
  obtain ⟨h1, h2⟩ := allO_some ha
  have hlz : (vs.zip ds).length < 100000 := by rw [List.length_zip]; omega
  have hm := mLc_map (mi := mZip (mCons (mVar [] 0) (mCons (mVar [] 1) mNil))) (vs := [2, 3]) (f := aTup 2 (aCons (aName 2) (aCons (aName 3) aNil))) (test := mNot (mTru (mCall 2 (sameFM n) (mCons (mVar [] 2) (mCons (mVar [] 3) mNil))))) (elt := mK (.d (.int 0)))
    (r := [some (.d v), some (.d d), none, none]) (t := t) (p := fun s => match s with
      | .d (.tuple [x, y]) => !(eqN n x y == some true)
      | _ => false) (g := fun _ => .int 0) (ds := (vs.zip ds).map fun p => Sl.d (.tuple [p.1, p.2])) ?_ (by rw [List.length_map]; omega) rfl ?_
  · have e0 : SeqAt.shaped (.list []) = true := by decide
    have hS : SeqAt.shaped (.list (List.map (fun _ => PyData.int 0) (List.filter (fun s => match s with
      | Sl.d (.tuple [x, y]) => !(eqN n x y == some true)
      | _ => false) ((vs.zip ds).map fun p => Sl.d (.tuple [p.1, p.2]))))) = true := by
      have hz2 := zeros_lay (List.filter (fun s => match s with
        | Sl.d (.tuple [x, y]) => !(eqN n x y == some true)
        | _ => false) ((vs.zip ds).map fun p => Sl.d (.tuple [p.1, p.2])))
      unfold SeqAt.shaped
      rw [Bool.and_eq_true]
      refine ⟨hz2.1, decide_eq_true ?_⟩
      show PyData.depthAll _ + 1 ≤ 64
      rw [hz2.2]
      decide
    have hE : List.isEmpty (List.map (fun _ => PyData.int 0) (List.filter (fun s => match s with
      | Sl.d (.tuple [x, y]) => !(eqN n x y == some true)
      | _ => false) ((vs.zip ds).map fun p => Sl.d (.tuple [p.1, p.2])))) = b := by
      rw [h2, List.isEmpty_map]
      rw [List.filter_map, List.isEmpty_map]
      rw [Bool.eq_iff_iff, List.isEmpty_iff, List.filter_eq_nil_iff, List.all_eq_true]
      constructor
      · intro q o ho
        obtain ⟨p, hp, rfl⟩ := List.mem_map.mp ho
        have := q p hp
        simpa using this
      · intro q p hp
        have := q _ (List.mem_map_of_mem hp)
        simpa using this
    unfold samZ
    generalize mLc (mZip (mCons (mVar [] 0) (mCons (mVar [] 1) mNil))) [2, 3] (aTup 2 (aCons (aName 2) (aCons (aName 3) aNil))) (mNot (mTru (mCall 2 (sameFM n) (mCons (mVar [] 2) (mCons (mVar [] 3) mNil))))) (mK (.d (.int 0))) = mm at hm ⊢
    simp only [mOp, mFz, mLst, mNil, keepD, M.bind, M.ret, hm, use, optM, eqF, eqOk, hS, e0, eqv_nil', hE, List.length_nil, Nat.zero_le, if_true, Bool.and_self, Bool.or_true, lft]
  · unfold mZip
    simp [mCons, mNil, M.bind, mVar, M.ret, keepAll, optM, hz]
  · intro s hs
    obtain ⟨p, hp, rfl⟩ := List.mem_map.mp hs
    obtain ⟨c, hc⟩ := h1 _ (List.mem_map_of_mem (f := fun p : PyData × PyData => eqN n p.1 p.2) hp)
    have hF : sameFM n [.d p.1, .d p.2] t = .ok (.d (.bool c)) t := by
      unfold sameFM
      simp only [hc]
    have hc2 : (!(eqN n p.1 p.2 == some true)) = !c := by rw [hc]; cases c <;> rfl
    refine ⟨[some (.d v), some (.d d), some (.d p.1), some (.d p.2)], ?_, rfl⟩
    simp only [hc2]
    cases c with
    | true => simp [lcOne, wipeM, wipeR, aTup, aCons, aNil, M.bind, M.ret, M.st, mT, mOp, mVar, mK, use, keep, lft, boolOf, optM, mCB, useAll, mCons, mNil, mTup, mLst, mFz, keepD, mSeq, mRet, mIfS, mAnd, mOr, mNot, mAndV, mOrV, mNotV, mIfE, mCall, keepAll, runF, mAsg, aName, mNx, mChain, fnM, startR, isiF, isT, isTN, askT, tyN, lenF, gtF, ltF, leF, geF, cmpF, eqF, neF, eqOk, scalD, atF, addF, subF, mulF, fdivF, modF, mTru, truS, isF, asks, truD, isNoneD, isBoolD, mRaise, raiseM, oneD, List.replicate, allF, boolsOf, mDrop, aTup, aCons, aNil, twoK, mPar, hF]
    | false => simp [lcOne, wipeM, wipeR, aTup, aCons, aNil, M.bind, M.ret, M.st, mT, mOp, mVar, mK, use, keep, lft, boolOf, optM, mCB, useAll, mCons, mNil, mTup, mLst, mFz, keepD, mSeq, mRet, mIfS, mAnd, mOr, mNot, mAndV, mOrV, mNotV, mIfE, mCall, keepAll, runF, mAsg, aName, mNx, mChain, fnM, startR, isiF, isT, isTN, askT, tyN, lenF, gtF, ltF, leF, geF, cmpF, eqF, neF, eqOk, scalD, atF, addF, subF, mulF, fdivF, modF, mTru, truS, isF, asks, truD, isNoneD, isBoolD, mRaise, raiseM, oneD, List.replicate, allF, boolsOf, mDrop, aTup, aCons, aNil, twoK, mPar, hF, dataOf]
theorem int_beq (j i : Int) : (j == i) = decide (j = i) := by
  by_cases h : j = i
  · subst h; simp
  · rw [decide_eq_false h, beq_eq_false_iff_ne]; exact h
theorem str_beq' (y z : Str) : (y == z) = decide (y = z) := by
  by_cases h : y = z
  · subst h; simp
  · rw [decide_eq_false h, beq_eq_false_iff_ne]; exact h
theorem e_same (n : Nat) : ∀ xs t, sameFM (n + 1) xs t ≠ .st → fnM 4 (mSame (sameFM n)) xs t = sameFM (n + 1) xs t := by
  intro xs t h
  unfold sameFM at h
  split at h
  · rename_i v d
    cases he : eqN (n + 1) v d with
    | none => rw [he] at h; exact absurd rfl h
    | some b =>
      have e4 : sameFM (n + 1) [.d v, .d d] t = .ok (.d (.bool b)) t := by
        unfold sameFM
        simp only [he]
      rw [e4]
      have e2 : mSame (sameFM n) = (mSeq (mIfS (mTru (mIsi2 "tuple" "list" (mVar [] 1))) (mSeq (mIfS (mOr (mT (mOp neF (mCB isiF (mCons (mVar [] 1) (mCons (mK (.raw (.ty "tuple"))) mNil))) (mCB isiF (mCons (mVar [] 0) (mCons (mK (.raw (.ty "tuple"))) mNil))))) (mOr (mNot (mTru (mIsi2 "tuple" "list" (mVar [] 0)))) (mT (mOp neF (mCB lenF (mCons (mVar [] 0) mNil)) (mCB lenF (mCons (mVar [] 1) mNil)))))) (mRet (mK (.d (.bool false)))) mNx) (mRet (samZ (sameFM n)))) mNx) (mSeq (mIfS (mT (mOp (isF false) (mVar [] 1) (mK (.d .none)))) (mRet (mOp (isF false) (mVar [] 0) (mK (.d .none)))) mNx) (mSeq (mIfS (mT (mOp (isF false) (mVar [] 1) (mK (.d (.bool true))))) (mRet (mOp (isF false) (mVar [] 0) (mK (.d (.bool true))))) mNx) (mSeq (mIfS (mT (mOp (isF false) (mVar [] 1) (mK (.d (.bool false))))) (mRet (mOp (isF false) (mVar [] 0) (mK (.d (.bool false))))) mNx) (mSeq (mIfS (mTru (mCB isiF (mCons (mVar [] 1) (mCons (mK (.raw (.ty "int"))) mNil)))) (mRet (mAndV (mCB isiF (mCons (mVar [] 0) (mCons (mK (.raw (.ty "int"))) mNil))) (mAndV (mNotV (mCB isiF (mCons (mVar [] 0) (mCons (mK (.raw (.ty "bool"))) mNil)))) (mOp eqF (mVar [] 0) (mVar [] 1))))) mNx) (mRet (mAndV (mCB isiF (mCons (mVar [] 0) (mCons (mK (.raw (.ty "str"))) mNil))) (mOp eqF (mVar [] 0) (mVar [] 1))))))))) := rfl
      rw [e2]
      cases d with
      | none =>
        cases v <;> (simp [eqN] at he; subst he; simp [M.bind, M.ret, M.st, mT, mOp, mVar, mK, use, keep, lft, boolOf, optM, mCB, useAll, mCons, mNil, mTup, mLst, mFz, keepD, mSeq, mRet, mIfS, mAnd, mOr, mNot, mAndV, mOrV, mNotV, mIfE, mCall, keepAll, runF, mAsg, aName, mNx, mChain, fnM, startR, isiF, isT, isTN, askT, tyN, lenF, gtF, ltF, leF, geF, cmpF, eqF, neF, eqOk, scalD, atF, addF, subF, mulF, fdivF, modF, mTru, truS, isF, asks, truD, isNoneD, isBoolD, mRaise, raiseM, oneD, List.replicate, allF, boolsOf, mDrop, aTup, aCons, aNil, twoK, mPar, mIsi2])
      | bool c =>
        cases c <;> cases v <;> (simp [eqN] at he; subst he; simp [M.bind, M.ret, M.st, mT, mOp, mVar, mK, use, keep, lft, boolOf, optM, mCB, useAll, mCons, mNil, mTup, mLst, mFz, keepD, mSeq, mRet, mIfS, mAnd, mOr, mNot, mAndV, mOrV, mNotV, mIfE, mCall, keepAll, runF, mAsg, aName, mNx, mChain, fnM, startR, isiF, isT, isTN, askT, tyN, lenF, gtF, ltF, leF, geF, cmpF, eqF, neF, eqOk, scalD, atF, addF, subF, mulF, fdivF, modF, mTru, truS, isF, asks, truD, isNoneD, isBoolD, mRaise, raiseM, oneD, List.replicate, allF, boolsOf, mDrop, aTup, aCons, aNil, twoK, mPar, mIsi2])
      | int i =>
        cases v <;> (simp [eqN] at he; subst he; simp [M.bind, M.ret, M.st, mT, mOp, mVar, mK, use, keep, lft, boolOf, optM, mCB, useAll, mCons, mNil, mTup, mLst, mFz, keepD, mSeq, mRet, mIfS, mAnd, mOr, mNot, mAndV, mOrV, mNotV, mIfE, mCall, keepAll, runF, mAsg, aName, mNx, mChain, fnM, startR, isiF, isT, isTN, askT, tyN, lenF, gtF, ltF, leF, geF, cmpF, eqF, neF, eqOk, scalD, atF, addF, subF, mulF, fdivF, modF, mTru, truS, isF, asks, truD, isNoneD, isBoolD, mRaise, raiseM, oneD, List.replicate, allF, boolsOf, mDrop, aTup, aCons, aNil, twoK, mPar, mIsi2, PyData.eqv, int_beq])
      | str z =>
        cases v <;> (simp [eqN] at he; subst he; simp [M.bind, M.ret, M.st, mT, mOp, mVar, mK, use, keep, lft, boolOf, optM, mCB, useAll, mCons, mNil, mTup, mLst, mFz, keepD, mSeq, mRet, mIfS, mAnd, mOr, mNot, mAndV, mOrV, mNotV, mIfE, mCall, keepAll, runF, mAsg, aName, mNx, mChain, fnM, startR, isiF, isT, isTN, askT, tyN, lenF, gtF, ltF, leF, geF, cmpF, eqF, neF, eqOk, scalD, atF, addF, subF, mulF, fdivF, modF, mTru, truS, isF, asks, truD, isNoneD, isBoolD, mRaise, raiseM, oneD, List.replicate, allF, boolsOf, mDrop, aTup, aCons, aNil, twoK, mPar, mIsi2, PyData.eqv, str_beq'])
      | list ds =>
        cases v with
        | list vs =>
          by_cases hl : vs.length = ds.length
          · by_cases hz : vs.length < 100000
            · simp only [eqN, if_pos hl, if_pos hz] at he
              have hs := samZ_e (v := .list vs) (d := .list ds) t rfl hz he
              have hl' : ((vs.length : Int) == (ds.length : Int)) = true := by rw [beq_iff_eq]; omega
              simp [M.bind, M.ret, M.st, mT, mOp, mVar, mK, use, keep, lft, boolOf, optM, mCB, useAll, mCons, mNil, mTup, mLst, mFz, keepD, mSeq, mRet, mIfS, mAnd, mOr, mNot, mAndV, mOrV, mNotV, mIfE, mCall, keepAll, runF, mAsg, aName, mNx, mChain, fnM, startR, isiF, isT, isTN, askT, tyN, lenF, gtF, ltF, leF, geF, cmpF, eqF, neF, eqOk, scalD, atF, addF, subF, mulF, fdivF, modF, mTru, truS, isF, asks, truD, isNoneD, isBoolD, mRaise, raiseM, oneD, List.replicate, allF, boolsOf, mDrop, aTup, aCons, aNil, twoK, mPar, mIsi2, hs, PyData.eqv, hl']
            · simp only [eqN, if_pos hl, if_neg hz] at he
              cases he
          · simp only [eqN, if_neg hl] at he
            cases he
            have hl' : ((vs.length : Int) == (ds.length : Int)) = false := by rw [beq_eq_false_iff_ne]; omega
            simp [M.bind, M.ret, M.st, mT, mOp, mVar, mK, use, keep, lft, boolOf, optM, mCB, useAll, mCons, mNil, mTup, mLst, mFz, keepD, mSeq, mRet, mIfS, mAnd, mOr, mNot, mAndV, mOrV, mNotV, mIfE, mCall, keepAll, runF, mAsg, aName, mNx, mChain, fnM, startR, isiF, isT, isTN, askT, tyN, lenF, gtF, ltF, leF, geF, cmpF, eqF, neF, eqOk, scalD, atF, addF, subF, mulF, fdivF, modF, mTru, truS, isF, asks, truD, isNoneD, isBoolD, mRaise, raiseM, oneD, List.replicate, allF, boolsOf, mDrop, aTup, aCons, aNil, twoK, mPar, mIsi2, PyData.eqv, hl']
        | _ => simp [eqN] at he; subst he; simp [M.bind, M.ret, M.st, mT, mOp, mVar, mK, use, keep, lft, boolOf, optM, mCB, useAll, mCons, mNil, mTup, mLst, mFz, keepD, mSeq, mRet, mIfS, mAnd, mOr, mNot, mAndV, mOrV, mNotV, mIfE, mCall, keepAll, runF, mAsg, aName, mNx, mChain, fnM, startR, isiF, isT, isTN, askT, tyN, lenF, gtF, ltF, leF, geF, cmpF, eqF, neF, eqOk, scalD, atF, addF, subF, mulF, fdivF, modF, mTru, truS, isF, asks, truD, isNoneD, isBoolD, mRaise, raiseM, oneD, List.replicate, allF, boolsOf, mDrop, aTup, aCons, aNil, twoK, mPar, mIsi2, PyData.eqv]
      | tuple ds =>
        cases v with
        | tuple vs =>
          by_cases hl : vs.length = ds.length
          · by_cases hz : vs.length < 100000
            · simp only [eqN, if_pos hl, if_pos hz] at he
              have hs := samZ_e (v := .tuple vs) (d := .tuple ds) t rfl hz he
              have hl' : ((vs.length : Int) == (ds.length : Int)) = true := by rw [beq_iff_eq]; omega
              simp [M.bind, M.ret, M.st, mT, mOp, mVar, mK, use, keep, lft, boolOf, optM, mCB, useAll, mCons, mNil, mTup, mLst, mFz, keepD, mSeq, mRet, mIfS, mAnd, mOr, mNot, mAndV, mOrV, mNotV, mIfE, mCall, keepAll, runF, mAsg, aName, mNx, mChain, fnM, startR, isiF, isT, isTN, askT, tyN, lenF, gtF, ltF, leF, geF, cmpF, eqF, neF, eqOk, scalD, atF, addF, subF, mulF, fdivF, modF, mTru, truS, isF, asks, truD, isNoneD, isBoolD, mRaise, raiseM, oneD, List.replicate, allF, boolsOf, mDrop, aTup, aCons, aNil, twoK, mPar, mIsi2, hs, PyData.eqv, hl']
            · simp only [eqN, if_pos hl, if_neg hz] at he
              cases he
          · simp only [eqN, if_neg hl] at he
            cases he
            have hl' : ((vs.length : Int) == (ds.length : Int)) = false := by rw [beq_eq_false_iff_ne]; omega
            simp [M.bind, M.ret, M.st, mT, mOp, mVar, mK, use, keep, lft, boolOf, optM, mCB, useAll, mCons, mNil, mTup, mLst, mFz, keepD, mSeq, mRet, mIfS, mAnd, mOr, mNot, mAndV, mOrV, mNotV, mIfE, mCall, keepAll, runF, mAsg, aName, mNx, mChain, fnM, startR, isiF, isT, isTN, askT, tyN, lenF, gtF, ltF, leF, geF, cmpF, eqF, neF, eqOk, scalD, atF, addF, subF, mulF, fdivF, modF, mTru, truS, isF, asks, truD, isNoneD, isBoolD, mRaise, raiseM, oneD, List.replicate, allF, boolsOf, mDrop, aTup, aCons, aNil, twoK, mPar, mIsi2, PyData.eqv, hl']
        | _ => simp [eqN] at he; subst he; simp [M.bind, M.ret, M.st, mT, mOp, mVar, mK, use, keep, lft, boolOf, optM, mCB, useAll, mCons, mNil, mTup, mLst, mFz, keepD, mSeq, mRet, mIfS, mAnd, mOr, mNot, mAndV, mOrV, mNotV, mIfE, mCall, keepAll, runF, mAsg, aName, mNx, mChain, fnM, startR, isiF, isT, isTN, askT, tyN, lenF, gtF, ltF, leF, geF, cmpF, eqF, neF, eqOk, scalD, atF, addF, subF, mulF, fdivF, modF, mTru, truS, isF, asks, truD, isNoneD, isBoolD, mRaise, raiseM, oneD, List.replicate, allF, boolsOf, mDrop, aTup, aCons, aNil, twoK, mPar, mIsi2, PyData.eqv]
      | dict kvs => simp [eqN] at he
  · exact absurd rfl h
theorem cut48 (xs : List PyData) : cutL xs none (some 48) = xs.take 48 := by
  unfold cutL
  rw [HT.sIx_none, show HT.sIx xs.length xs.length (some 48) = min 48 xs.length from HT.sIx_nat xs.length _ 48]
  rw [List.drop_zero, Nat.sub_zero]
  by_cases h : xs.length ≤ 48
  · rw [Nat.min_eq_right h, List.take_length, List.take_of_length_le h]
  · rw [Nat.min_eq_left (by omega)]
noncomputable def drE1 : M Tk := (mCB absF (mCons (mCB intF (mCons (mVar [] 4) mNil)) mNil))
noncomputable def drI : M (List Sl) := mIter (mSl (mVar [] 0) mNoP (mPart (mK (.d (.int 48)))))
theorem drI_e (ns : List Int) (r : Rho) (t : Option Deal) (h : r[0]? = some (some (.scr ns))) : drI r t = .ok ((ns.take 48).map fun i => Sl.d (.int i)) r t := by
  have e : cutL (ns.map PyData.int) none (some 48) = (ns.take 48).map PyData.int := by rw [cut48, List.map_take]
  simp [drI, mIter, mSl, mNoP, mPart, M.bind, M.ret, M.st, mT, mOp, mVar, mK, use, keep, lft, boolOf, optM, mCB, useAll, mCons, mNil, mTup, mLst, mFz, keepD, mSeq, mRet, mIfS, mAnd, mOr, mNot, mAndV, mOrV, mNotV, mIfE, mCall, keepAll, runF, mAsg, aName, mNx, mChain, fnM, startR, isiF, isT, isTN, askT, tyN, lenF, gtF, ltF, leF, geF, cmpF, eqF, neF, eqOk, scalD, atF, addF, subF, mulF, fdivF, modF, mTru, truS, isF, asks, truD, isNoneD, isBoolD, mRaise, raiseM, oneD, List.replicate, allF, boolsOf, mDrop, aTup, aCons, aNil, twoK, mPar, h, intOf, slF, e, itemsOf]
  rfl
theorem drE1_e (i : Int) (r : Rho) (t : Option Deal) (h : r[4]? = some (some (.d (.int i)))) : drE1 r t = .ok (.v (.d (.int ((i.natAbs : Nat) : Int)))) r t := by
  have e : (if i < 0 then -i else i) = ((i.natAbs : Nat) : Int) := by
    split <;> omega
  simp [drE1, M.bind, M.ret, M.st, mT, mOp, mVar, mK, use, keep, lft, boolOf, optM, mCB, useAll, mCons, mNil, mTup, mLst, mFz, keepD, mSeq, mRet, mIfS, mAnd, mOr, mNot, mAndV, mOrV, mNotV, mIfE, mCall, keepAll, runF, mAsg, aName, mNx, mChain, fnM, startR, isiF, isT, isTN, askT, tyN, lenF, gtF, ltF, leF, geF, cmpF, eqF, neF, eqOk, scalD, atF, addF, subF, mulF, fdivF, modF, mTru, truS, isF, asks, truD, isNoneD, isBoolD, mRaise, raiseM, oneD, List.replicate, allF, boolsOf, mDrop, aTup, aCons, aNil, twoK, mPar, h, intF, absF, e]
theorem dr_cells (ns : List Int) (salt : Int) (t : Option Deal) : mLc drI [4] (aName 4) (M.ret true) drE1 [some (.scr ns), some (.d (.int salt)), none, none, none] t = .ok ((drawC ns).map PyData.int) [some (.scr ns), some (.d (.int salt)), none, none, none] t := by
  have := mLc_map (mi := drI) (vs := [4]) (f := aName 4) (test := M.ret true) (elt := drE1) (r := [some (.scr ns), some (.d (.int salt)), none, none, none]) (t := t) (p := fun _ => true) (g := fun d => match d with
    | .d (.int i) => .int ((i.natAbs : Nat) : Int)
    | _ => .none) (ds := (ns.take 48).map fun i => Sl.d (.int i)) (drI_e ns _ t rfl) (by rw [List.length_map, List.length_take]; omega) rfl ?_
  · rw [this, List.filter_eq_self.mpr (fun _ _ => rfl), List.map_map]
    unfold drawC
    rw [List.map_map]
    rfl
  · intro d hd
    obtain ⟨i, _, rfl⟩ := List.mem_map.mp hd
    refine ⟨[some (.scr ns), some (.d (.int salt)), none, none, some (.d (.int i))], ?_, rfl⟩
    have e := drE1_e i [some (.scr ns), some (.d (.int salt)), none, none, some (.d (.int i))] t rfl
    simp [lcOne, wipeM, wipeR, M.bind, aName, M.ret, e, dataOf, optM]
noncomputable def drB : M Fl := (mAsg (aName 3) (mOp modF (mCB intF (mCons (mOp addF (mOp addF (mOp mulF (mVar [] 3) (mK (.d (.int 48271)))) (mOp modF (mVar [] 4) (mK (.d (.int 2147483549))))) (mK (.d (.int 11)))) mNil)) (mK (.d (.int 2147483647)))))
theorem drB_e (s a : Sl) (cs : PyData) (b c : Int) (hb : b.natAbs < 2 ^ 40) (t : Option Deal) : drB [some s, some a, some (.d cs), some (.d (.int b)), some (.d (.int c))] t = .ok .nx [some s, some a, some (.d cs), some (.d (.int ((b * 48271 + c % 2147483549 + 11) % 2147483647))), some (.d (.int c))] t := by
  have l := log2_lt' hb (by decide)
  have d1 : b.natAbs.log2 + (48271 : Int).natAbs.log2 < 1000000 := by
    have : (48271 : Int).natAbs.log2 < 20 := by decide
    omega
  have d2 : b.natAbs.log2 + Nat.log2 48271 < 1000000 := d1
  simp [drB, M.bind, M.ret, M.st, mT, mOp, mVar, mK, use, keep, lft, boolOf, optM, mCB, useAll, mCons, mNil, mTup, mLst, mFz, keepD, mSeq, mRet, mIfS, mAnd, mOr, mNot, mAndV, mOrV, mNotV, mIfE, mCall, keepAll, runF, mAsg, aName, mNx, mChain, fnM, startR, isiF, isT, isTN, askT, tyN, lenF, gtF, ltF, leF, geF, cmpF, eqF, neF, eqOk, scalD, atF, addF, subF, mulF, fdivF, modF, mTru, truS, isF, asks, truD, isNoneD, isBoolD, mRaise, raiseM, oneD, List.replicate, allF, boolsOf, mDrop, aTup, aCons, aNil, twoK, mPar, intF, d1, d2]
theorem dr_loop (s a : Sl) (cs : PyData) (t : Option Deal) : ∀ (l : List Int) (b : Int) (o : Option Sl), b.natAbs < 2 ^ 40 →
    ∃ o', forL (aName 4) drB (l.map fun i => Sl.d (.int i)) [some s, some a, some (.d cs), some (.d (.int b)), o] t = .ok .nx [some s, some a, some (.d cs), some (.d (.int (l.foldl (fun b c => (b * 48271 + c % 2147483549 + 11) % 2147483647) b))), o'] t
  | [], b, o, _ => ⟨o, rfl⟩
  | c :: l, b, o, hb => by
    have m0 := Int.emod_nonneg (b * 48271 + c % 2147483549 + 11) (show (2147483647 : Int) ≠ 0 by decide)
    have m1 := Int.emod_lt_of_pos (b * 48271 + c % 2147483549 + 11) (show (0 : Int) < 2147483647 by decide)
    obtain ⟨o', ih⟩ := dr_loop s a cs t l ((b * 48271 + c % 2147483549 + 11) % 2147483647) (some (.d (.int c))) (by omega)
    refine ⟨o', ?_⟩
    rw [List.map_cons, forL_cons (r1 := [some s, some a, some (.d cs), some (.d (.int b)), some (.d (.int c))]) (t1 := t) rfl (drB_e s a cs b c hb t)]
    exact ih
noncomputable def drT : M Bool := (mT (mOp geF (mVar [] 4) (mOp powF (mK (.d (.int 10))) (mK (.d (.int 18))))))
theorem drT_e (i : Int) (r : Rho) (t : Option Deal) (h : r[4]? = some (some (.d (.int i)))) : drT r t = .ok (decide (10 ^ 18 ≤ i)) r t := by
  simp [drT, M.bind, M.ret, M.st, mT, mOp, mVar, mK, use, keep, lft, boolOf, optM, mCB, useAll, mCons, mNil, mTup, mLst, mFz, keepD, mSeq, mRet, mIfS, mAnd, mOr, mNot, mAndV, mOrV, mNotV, mIfE, mCall, keepAll, runF, mAsg, aName, mNx, mChain, fnM, startR, isiF, isT, isTN, askT, tyN, lenF, gtF, ltF, leF, geF, cmpF, eqF, neF, eqOk, scalD, atF, addF, subF, mulF, fdivF, modF, mTru, truS, isF, asks, truD, isNoneD, isBoolD, mRaise, raiseM, oneD, List.replicate, allF, boolsOf, mDrop, aTup, aCons, aNil, twoK, mPar, h, powF]
theorem dr_keep (s a : Sl) (l : List Int) (b : Sl) (o : Option Sl) (hl : l.length < 1000) (t : Option Deal) : mLc (mIter (mVar [] 2)) [4] (aName 4) drT (mVar [] 4) [some s, some a, some (.d (.list (l.map PyData.int))), some b, o] t = .ok ((l.filter fun c => decide (10 ^ 18 ≤ c)).map PyData.int) [some s, some a, some (.d (.list (l.map PyData.int))), some b, o] t := by
  have e := lc_gen (elt := mVar [] 4) (test := drT) (p := fun x => match x with
    | .int i => decide (10 ^ 18 ≤ i)
    | _ => false) (g := fun x => x) (v := .list (l.map PyData.int)) (vs := l.map PyData.int) (i := 4) (j := 2) (r := [some s, some a, some (.d (.list (l.map PyData.int))), some b, o]) (t := t) ?_ ?_ rfl (by rw [List.length_map]; omega) rfl (by show 4 < 5; decide)
  · rw [e, List.filter_map, List.map_map]
    rfl
  · intro x r' hx hr
    obtain ⟨i, _, rfl⟩ := List.mem_map.mp hx
    exact drT_e i r' t hr
  · intro x r' hx _ hr
    simp [mVar, hr]
theorem e_draw : ∀ xs t, drawFM xs t ≠ .st → fnM 5 mDraw xs t = drawFM xs t := by
  intro xs t h
  have e2 : mDraw = (mSeq (mAsg (aName 2) (mFz (mLc drI [4] (aName 4) (M.ret true) drE1))) (mSeq (mAsg (aName 3) (mOp addF (mK (.d (.int 7919))) (mOp mulF (mK (.d (.int 104729))) (mVar [] 1)))) (mSeq (mFor (mIter (mVar [] 2)) (aName 4) drB) (mRet (mFz (mLst (mCons (mFz (mRev (mFz (mLc (mIter (mVar [] 2)) [4] (aName 4) drT (mVar [] 4))))) (mCons (mVar [] 3) mNil)))))))) := rfl
  unfold drawFM at h
  split at h
  · rename_i ns salt
    by_cases hc : 0 ≤ salt ∧ salt ≤ 1000
    · obtain ⟨h1, h2⟩ := hc
      have hC := dr_cells ns salt t
      have hlen : (drawC ns).length < 1000 := by
        unfold drawC
        rw [List.length_map, List.length_take]
        omega
      have hb0 : (7919 + 104729 * salt).natAbs < 2 ^ 40 := by omega
      obtain ⟨o', hL⟩ := dr_loop (.scr ns) (.d (.int salt)) (.list ((drawC ns).map PyData.int)) t (drawC ns) (7919 + 104729 * salt) none hb0
      have hF : mFor (mIter (mVar [] 2)) (aName 4) drB [some (.scr ns), some (.d (.int salt)), some (.d (.list ((drawC ns).map PyData.int))), some (.d (.int (7919 + 104729 * salt))), none] t = .ok .nx [some (.scr ns), some (.d (.int salt)), some (.d (.list ((drawC ns).map PyData.int))), some (.d (.int (drawB ns salt))), o'] t := by
        unfold mFor mIter
        simp only [M.bind, mVar, List.getElem?_cons_succ, List.getElem?_cons_zero, List.not_mem_nil, if_false, keep, optM, itemsOf, List.map_map]
        exact hL
      have hK := dr_keep (.scr ns) (.d (.int salt)) (drawC ns) (.d (.int (drawB ns salt))) o' hlen t
      have hs : (104729 : Int).natAbs.log2 + salt.natAbs.log2 < 1000000 := by
        have : salt.natAbs < 2 ^ 10 := by omega
        have := log2_lt' this (by decide)
        have : (104729 : Int).natAbs.log2 < 20 := by decide
        omega
      have hs2 : Nat.log2 104729 + salt.natAbs.log2 < 1000000 := hs
      have e4 : drawFM [.scr ns, .d (.int salt)] t = .ok (.d (.list [.list (((drawC ns).filter (fun c => decide (10 ^ 18 ≤ c))).reverse.map PyData.int), .int (drawB ns salt)])) t := if_pos ⟨h1, h2⟩
      rw [e4, e2]
      generalize mLc drI [4] (aName 4) (M.ret true) drE1 = m1 at hC ⊢
      generalize mFor (mIter (mVar [] 2)) (aName 4) drB = m2 at hF ⊢
      generalize mLc (mIter (mVar [] 2)) [4] (aName 4) drT (mVar [] 4) = m3 at hK ⊢
      simp [M.bind, M.ret, M.st, mT, mOp, mVar, mK, use, keep, lft, boolOf, optM, mCB, useAll, mCons, mNil, mTup, mLst, mFz, keepD, mSeq, mRet, mIfS, mAnd, mOr, mNot, mAndV, mOrV, mNotV, mIfE, mCall, keepAll, runF, mAsg, aName, mNx, mChain, fnM, startR, isiF, isT, isTN, askT, tyN, lenF, gtF, ltF, leF, geF, cmpF, eqF, neF, eqOk, scalD, atF, addF, subF, mulF, fdivF, modF, mTru, truS, isF, asks, truD, isNoneD, isBoolD, mRaise, raiseM, oneD, List.replicate, allF, boolsOf, mDrop, aTup, aCons, aNil, twoK, mPar, hC, hF, hK, hs, hs2, mRev, revF, List.map_reverse]
    · rw [if_neg hc] at h
      exact absurd rfl h
  · exact absurd rfl h
end DL
end
section
set_option maxRecDepth 100000
set_option maxHeartbeats 4000000
namespace K01
open PySem PySem.Spec DL
theorem nodup_len {α : Type} [DecidableEq α] : ∀ {l m : List α}, l.Nodup → (∀ x ∈ l, x ∈ m) → l.length ≤ m.length
  | [], _, _, _ => Nat.zero_le _
  | x :: l, m, hn, hs => by
    have hx := hs x List.mem_cons_self
    rw [List.nodup_cons] at hn
    have ih := nodup_len (l := l) (m := m.erase x) hn.2 fun y hy => by
      have ne : y ≠ x := fun z => hn.1 (z ▸ hy)
      exact (List.mem_erase_of_ne ne).mpr (hs y (List.mem_cons_of_mem _ hy))
    rw [List.length_erase_of_mem hx] at ih
    have := List.length_pos_of_mem hx
    rw [List.length_cons]
    omega
/-! ### kinds that tell of each other -/
structure Good (ks : List Kd) : Prop where
  len : ks.length ≤ 40
  typ : ∀ k ∈ ks, ∀ s : Str, s ∈ k.2.map (·.2) → s = "int" ∨ ∃ q, named ks s = some q
  fld : ∀ k ∈ ks, k.2.length ≤ 12
theorem named_mem {ks : List Kd} {z : Str} {k : Kd} (h : named ks z = some k) : k ∈ ks ∧ k.1 = z := by
  unfold named at h
  have h1 := List.find?_some h
  exact ⟨List.mem_of_find?_eq_some h, of_decide_eq_true h1⟩
theorem named_of {ks : List Kd} {z : Str} (h : z ∈ ks.map (·.1)) : ∃ k, named ks z = some k := by
  unfold named
  cases e : ks.find? (fun k => decide (k.1 = z)) with
  | some k => exact ⟨k, rfl⟩
  | none =>
    rw [List.find?_eq_none] at e
    obtain ⟨k, hk, hz⟩ := List.mem_map.mp h
    exact absurd (decide_eq_true hz) (e k hk)
theorem good_of {v : PyData} {ks : List Kd} (h : unKinds v = some ks) : Good ks := by
  obtain ⟨_, h1, _, h3, h4⟩ := unKinds_ok h
  refine ⟨h1, fun k hk s hs => ?_, fun k hk => (unKind_ok (h4 k hk)).2.2.1⟩
  unfold typesOk at h3
  have a := List.all_eq_true.mp h3 k hk
  obtain ⟨f, hf, rfl⟩ := List.mem_map.mp hs
  have b := List.all_eq_true.mp a f hf
  rw [Bool.or_eq_true, decide_eq_true_iff, decide_eq_true_iff] at b
  rcases b with b | b
  · exact .inl b
  · exact .inr (named_of b)
def kq (ks : List Kd) (z : Str) : PyData := match named ks z with
  | some k => kD k
  | none => .none
theorem named_call {v : PyData} {ks : List Kd} (h : unKinds v = some ks) (z : Str) (t : Option Deal) : F_kind_named [.d v, .d (.str z)] t = .ok (.d (kq ks z)) t := by
  unfold F_kind_named kq
  simp only [h]
  all_goals (cases named ks z <;> rfl)
/-- what one kind's types add -/
theorem addT_new (ks : List Kd) : ∀ (ss : List Str) (wait found : List Str), found.Nodup → ∃ new, addT ks ss (wait, found) = (wait ++ new, found ++ new) ∧ (found ++ new).Nodup ∧ (∀ x : Str, x ∈ new → x ∈ ss ∧ x ≠ "int") ∧ (∀ s : Str, s ∈ ss → s = "int" ∨ s ∈ found ++ new)
  | [], wait, found, h => ⟨[], by simp [addT], by simpa using h, by simp, by simp⟩
  | s :: ss, wait, found, h => by
    by_cases hc : s = "int" ∨ s ∈ found
    · obtain ⟨new, h1, h2, h3, h4⟩ := addT_new ks ss wait found h
      refine ⟨new, ?_, h2, fun x hx => ⟨List.mem_cons_of_mem _ (h3 x hx).1, (h3 x hx).2⟩, fun x hx => ?_⟩
      · unfold addT
        rw [if_pos hc]
        exact h1
      · rcases List.mem_cons.mp hx with rfl | hx
        · rcases hc with hc | hc
          · exact .inl hc
          · exact .inr (List.mem_append_left _ hc)
        · exact h4 x hx
    · rw [not_or] at hc
      have hn : (found ++ [s]).Nodup := by
        rw [List.nodup_append]
        refine ⟨h, by simp, fun a ha b hb => ?_⟩
        have : b = s := by simpa using hb
        rw [this]
        exact fun z => hc.2 (z ▸ ha)
      obtain ⟨new, h1, h2, h3, h4⟩ := addT_new ks ss (wait ++ [s]) (found ++ [s]) hn
      refine ⟨s :: new, ?_, by simpa using h2, fun x hx => ?_, fun x hx => ?_⟩
      · unfold addT
        rw [if_neg (by rw [not_or]; exact hc), h1]
        simp
      · rcases List.mem_cons.mp hx with rfl | hx
        · exact ⟨List.mem_cons_self, hc.1⟩
        · exact ⟨List.mem_cons_of_mem _ (h3 x hx).1, (h3 x hx).2⟩
      · have e : found ++ s :: new = found ++ [s] ++ new := by simp
        rw [e]
        rcases List.mem_cons.mp hx with rfl | hx
        · exact .inr (List.mem_append_left _ (List.mem_append_right _ (List.mem_singleton.mpr rfl)))
        · exact h4 x hx
noncomputable def wiBB : M Fl := (mIfS (mAnd (mT (mOp neF (mVar [2, 3] 5) (mK (.d (.str "int"))))) (mT (mOp (inF true) (mVar [2, 3] 5) (mVar [2, 3] 3)))) (mSeq (mDrop (has 3 (mAppend 3 (mCons (mVar [2, 3] 5) mNil)))) (mDrop (has 2 (mAppend 2 (mCons (mCall 2 F_kind_named (mCons (mVar [2, 3] 0) (mCons (mVar [2, 3] 5) mNil))) mNil))))) mNx)
noncomputable def wiC : M Bool := mT (mOp neF (mVar [2, 3] 2) (mFz (mLst mNil)))
noncomputable def wiB : M Fl := mFor (mIter (mOp atF (mPop 2) (mK (.d (.int 2))))) (aTup 2 (aCons (aName 4) (aCons (aName 5) aNil))) wiBB
theorem wi_one {v : PyData} {ks : List Kd} (h : unKinds v = some ks) (n : Sl) (f : Fd) (wait found : List Str) (o4 : Sl) (t : Option Deal) (hw : wait.length < 1000) (hf : found.length < 1000) :
    wiBB [some (.d v), some n, some (.d (.list (wait.map (kq ks)))), some (.d (.list (found.map PyData.str))), some o4, some (.d (.str f.2))] t = .ok .nx [some (.d v), some n, some (.d (.list ((addT ks [f.2] (wait, found)).1.map (kq ks)))), some (.d (.list ((addT ks [f.2] (wait, found)).2.map PyData.str))), some o4, some (.d (.str f.2))] t := by
  have e1 := ne_strs f.2 "int"
  have e2 := nin_lst f.2 found
  have e3 := named_call h f.2 t
  have l1 : (found.map PyData.str).length < 16777216 := by rw [List.length_map]; omega
  have l2 : (wait.map (kq ks)).length < 16777216 := by rw [List.length_map]; omega
  unfold addT
  by_cases h1 : f.2 = "int"
  · rw [if_pos (Or.inl h1)]
    rw [decide_eq_true h1] at e1
    simp [wiBB, M.bind, M.ret, M.st, mT, mOp, mVar, mK, use, keep, lft, boolOf, optM, mCB, useAll, mCons, mNil, mTup, mLst, mFz, keepD, mSeq, mRet, mIfS, mAnd, mOr, mNot, mAndV, mOrV, mNotV, mIfE, mCall, keepAll, runF, mAsg, aName, mNx, mChain, fnM, startR, isiF, isT, isTN, askT, tyN, isF, asks, truD, mTru, truS, isNoneD, isBoolD, mRaise, raiseM, oneD, mDrop, aTup, aCons, aNil, twoK, mPar, mU1, mM1, strOf, List.replicate, e1, addT]
  · rw [decide_eq_false h1] at e1
    by_cases h2 : f.2 ∈ found
    · rw [if_pos (Or.inr h2)]
      rw [decide_eq_true h2] at e2
      simp [wiBB, M.bind, M.ret, M.st, mT, mOp, mVar, mK, use, keep, lft, boolOf, optM, mCB, useAll, mCons, mNil, mTup, mLst, mFz, keepD, mSeq, mRet, mIfS, mAnd, mOr, mNot, mAndV, mOrV, mNotV, mIfE, mCall, keepAll, runF, mAsg, aName, mNx, mChain, fnM, startR, isiF, isT, isTN, askT, tyN, isF, asks, truD, mTru, truS, isNoneD, isBoolD, mRaise, raiseM, oneD, mDrop, aTup, aCons, aNil, twoK, mPar, mU1, mM1, strOf, List.replicate, e1, e2, addT]
    · rw [if_neg (by rw [not_or]; exact ⟨h1, h2⟩)]
      rw [decide_eq_false h2] at e2
      have m1 : (found ++ [f.2]).map PyData.str = found.map PyData.str ++ [.str f.2] := by simp
      have m2 : (wait ++ [f.2]).map (kq ks) = wait.map (kq ks) ++ [kq ks f.2] := by simp
      unfold addT
      rw [m1, m2]
      generalize found.map PyData.str = FF at *
      generalize wait.map (kq ks) = WW at *
      simp [wiBB, M.bind, M.ret, M.st, mT, mOp, mVar, mK, use, keep, lft, boolOf, optM, mCB, useAll, mCons, mNil, mTup, mLst, mFz, keepD, mSeq, mRet, mIfS, mAnd, mOr, mNot, mAndV, mOrV, mNotV, mIfE, mCall, keepAll, runF, mAsg, aName, mNx, mChain, fnM, startR, isiF, isT, isTN, askT, tyN, isF, asks, truD, mTru, truS, isNoneD, isBoolD, mRaise, raiseM, oneD, mDrop, aTup, aCons, aNil, twoK, mPar, mU1, mM1, strOf, List.replicate, e1, e2, has, mAppend, getO, setO, l1, l2, e3]
theorem addT_cons (ks : List Kd) (s : Str) (ss : List Str) (p : List Str × List Str) : addT ks (s :: ss) p = addT ks ss (addT ks [s] p) := by
  obtain ⟨wait, found⟩ := p
  by_cases hc : s = "int" ∨ s ∈ found
  · have e1 : addT ks (s :: ss) (wait, found) = addT ks ss (wait, found) := by
      show (if s = "int" ∨ s ∈ found then _ else _) = _
      rw [if_pos hc]
    have e2 : addT ks [s] (wait, found) = (wait, found) := by
      show (if s = "int" ∨ s ∈ found then _ else _) = _
      rw [if_pos hc]
      rfl
    rw [e1, e2]
  · have e1 : addT ks (s :: ss) (wait, found) = addT ks ss (wait ++ [s], found ++ [s]) := by
      show (if s = "int" ∨ s ∈ found then _ else _) = _
      rw [if_neg hc]
    have e2 : addT ks [s] (wait, found) = (wait ++ [s], found ++ [s]) := by
      show (if s = "int" ∨ s ∈ found then _ else _) = _
      rw [if_neg hc]
      rfl
    rw [e1, e2]
theorem wi_fields {v : PyData} {ks : List Kd} (h : unKinds v = some ks) (n : Sl) (t : Option Deal) : ∀ (fs : List Fd) (wait found : List Str) (o4 o5 : Option Sl), wait.length + fs.length < 1000 → found.length + fs.length < 1000 →
    ∃ o4' o5', forL (aTup 2 (aCons (aName 4) (aCons (aName 5) aNil))) wiBB (fs.map fun f => Sl.d (fD f)) [some (.d v), some n, some (.d (.list (wait.map (kq ks)))), some (.d (.list (found.map PyData.str))), o4, o5] t = .ok .nx [some (.d v), some n, some (.d (.list ((addT ks (fs.map (·.2)) (wait, found)).1.map (kq ks)))), some (.d (.list ((addT ks (fs.map (·.2)) (wait, found)).2.map PyData.str))), o4', o5'] t
  | [], wait, found, o4, o5, _, _ => ⟨o4, o5, rfl⟩
  | f :: fs, wait, found, o4, o5, hw, hf => by
    rw [List.length_cons] at hw hf
    have e1 := wi_one h n f wait found (.d (.str f.1)) t (by omega) (by omega)
    have len : (addT ks [f.2] (wait, found)).1.length ≤ wait.length + 1 ∧ (addT ks [f.2] (wait, found)).2.length ≤ found.length + 1 := by
      unfold addT
      split
      · exact ⟨Nat.le_succ _, Nat.le_succ _⟩
      · unfold addT
        simp
    obtain ⟨o4', o5', e2⟩ := wi_fields h n t fs (addT ks [f.2] (wait, found)).1 (addT ks [f.2] (wait, found)).2 (some (.d (.str f.1))) (some (.d (.str f.2))) (by omega) (by omega)
    refine ⟨o4', o5', ?_⟩
    rw [List.map_cons, List.map_cons, addT_cons]
    rw [← e2]
    refine forL_cons (r1 := [some (.d v), some n, some (.d (.list (wait.map (kq ks)))), some (.d (.list (found.map PyData.str))), some (.d (.str f.1)), some (.d (.str f.2))]) (t1 := t) ?_ e1
    simp [aTup, fD, aCons, aName, aNil, M.bind, M.ret]
theorem kq_shaped {ks : List Kd} (hk : ∀ k ∈ ks, fine (kD k) = true) : ∀ (wait : List Str), PyData.canLayAll0 (wait.map (kq ks)) = true ∧ PyData.depthAll (wait.map (kq ks)) ≤ 60
  | [] => ⟨rfl, Nat.zero_le _⟩
  | z :: wait => by
    obtain ⟨a, b⟩ := kq_shaped hk wait
    have hz : PyData.canLay0 (kq ks z) = true ∧ PyData.depth (kq ks z) ≤ 60 := by
      unfold kq
      cases e : named ks z with
      | none => exact ⟨rfl, Nat.zero_le _⟩
      | some k =>
        have hf := hk k (named_mem e).1
        unfold fine at hf
        rw [Bool.and_eq_true, Bool.and_eq_true] at hf
        refine ⟨hf.1.1, ?_⟩
        have : ∀ l : List Fd, PyData.depthAll (l.map fD) ≤ 1 := by
          intro l
          induction l with
          | nil => exact Nat.zero_le _
          | cons f l ih =>
            show max (PyData.depth (fD f)) (PyData.depthAll (l.map fD)) ≤ 1
            have : PyData.depth (fD f) = 1 := rfl
            omega
        have h2 : PyData.depth (kD k) ≤ 3 := by
          show PyData.depthAll [PyData.str "kind", .str k.1, .tuple (k.2.map fD)] + 1 ≤ 3
          have e3 : PyData.depthAll [PyData.str "kind", .str k.1, .tuple (k.2.map fD)] = max 0 (max 0 (max (PyData.depthAll (k.2.map fD) + 1) 0)) := rfl
          have := this k.2
          omega
        show PyData.depth (kD k) ≤ 60
        omega
    refine ⟨?_, ?_⟩
    · show (PyData.canLay0 (kq ks z) && PyData.canLayAll0 (wait.map (kq ks))) = true
      rw [a, hz.1] <;> rfl
    · show max (PyData.depth (kq ks z)) (PyData.depthAll (wait.map (kq ks))) ≤ 60
      omega
theorem wiC_e {ks : List Kd} (hk : ∀ k ∈ ks, fine (kD k) = true) (a b d e f : Option Sl) (wait : List Str) (t : Option Deal) : wiC [a, b, some (.d (.list (wait.map (kq ks)))), d, e, f] t = .ok (!wait.isEmpty) [a, b, some (.d (.list (wait.map (kq ks)))), d, e, f] t := by
  obtain ⟨h1, h2⟩ := kq_shaped hk wait
  have hs : SeqAt.shaped (.list (wait.map (kq ks))) = true := by
    unfold SeqAt.shaped
    rw [Bool.and_eq_true]
    refine ⟨h1, decide_eq_true ?_⟩
    show PyData.depthAll _ + 1 ≤ 64
    omega
  have e1 := ne_nil_list _ hs
  rw [List.isEmpty_map] at e1
  generalize wait.map (kq ks) = WW at *
  simp [wiC, M.bind, M.ret, M.st, mT, mOp, mVar, mK, use, keep, lft, boolOf, optM, mCB, useAll, mCons, mNil, mTup, mLst, mFz, keepD, mSeq, mRet, mIfS, mAnd, mOr, mNot, mAndV, mOrV, mNotV, mIfE, mCall, keepAll, runF, mAsg, aName, mNx, mChain, fnM, startR, isiF, isT, isTN, askT, tyN, isF, asks, truD, mTru, truS, isNoneD, isBoolD, mRaise, raiseM, oneD, mDrop, aTup, aCons, aNil, twoK, mPar, mU1, mM1, strOf, List.replicate, e1]
/-- the whole of the loop -/
theorem wi_loop {v : PyData} {ks : List Kd} (h : unKinds v = some ks) (hk : ∀ k ∈ ks, fine (kD k) = true) (n : Sl) (t : Option Deal) : ∀ (m : Nat) (wait found : List Str) (o4 o5 : Option Sl), found.Nodup → (∀ x ∈ found, x ∈ ks.map (·.1)) → (∀ x ∈ wait, ∃ k, named ks x = some k) → wait.length ≤ found.length + 1 → wait.length + (ks.length - found.length) < m →
    (wk ks m wait found).Nodup ∧ (∀ x ∈ wk ks m wait found, x ∈ ks.map (·.1)) ∧ ∃ o4' o5', whileN wiC wiB m [some (.d v), some n, some (.d (.list (wait.map (kq ks)))), some (.d (.list (found.map PyData.str))), o4, o5] t = .ok .nx [some (.d v), some n, some (.d (.list [])), some (.d (.list ((wk ks m wait found).map PyData.str))), o4', o5'] t := by
  have G := good_of h
  intro m
  induction m with
  | zero => intro wait found o4 o5 _ _ _ _ hm; omega
  | succ m ih =>
    intro wait found o4 o5 hn hs hw hwl hm
    have fl : found.length ≤ ks.length := by
      have := nodup_len hn hs
      rwa [List.length_map] at this
    have hkl := G.len
    cases hg : wait.getLast? with
    | none =>
      have e : wait = [] := List.getLast?_eq_none_iff.mp hg
      subst e
      have ew : wk ks (m + 1) [] found = found := rfl
      rw [ew]
      refine ⟨hn, hs, o4, o5, ?_⟩
      exact whileN_stop (wiC_e hk _ _ _ _ _ [] t)
    | some z =>
      have hne : wait ≠ [] := fun q => by rw [q] at hg; cases hg
      have hzm : z ∈ wait := List.mem_of_getLast? hg
      obtain ⟨k, ek⟩ := hw z hzm
      have hkm := (named_mem ek).1
      have ewk : wk ks (m + 1) wait found = wk ks m (addT ks (k.2.map (·.2)) (wait.dropLast, found)).1 (addT ks (k.2.map (·.2)) (wait.dropLast, found)).2 := by
        conv => lhs; unfold wk
        simp only [hg, ek]
      obtain ⟨new, a1, a2, a3, a4⟩ := addT_new ks (k.2.map (·.2)) wait.dropLast found hn
      have k12 := G.fld k hkm
      have hsub : ∀ x ∈ found ++ new, x ∈ ks.map (·.1) := fun x hx => by
        rcases List.mem_append.mp hx with hx | hx
        · exact hs x hx
        · rcases G.typ k hkm x (a3 x hx).1 with q | ⟨q, hq⟩
          · exact absurd q (a3 x hx).2
          · have := named_mem hq
            rw [← this.2]
            exact List.mem_map_of_mem this.1
      have hnl : found.length + new.length ≤ ks.length := by
        have := nodup_len a2 hsub
        rwa [List.length_append, List.length_map] at this
      have hpos : 0 < wait.length := List.length_pos_iff.mpr hne
      obtain ⟨o4a, o5a, ef⟩ := wi_fields h n t k.2 wait.dropLast found o4 o5 (by rw [List.length_dropLast]; omega) (by omega)
      rw [ewk]
      rw [a1] at ef ⊢
      simp only at ef ⊢
      have dl : wait.dropLast.length = wait.length - 1 := List.length_dropLast
      obtain ⟨i1, i2, o4', o5', i3⟩ := ih (wait.dropLast ++ new) (found ++ new) o4a o5a a2 hsub (fun x hx => by
        rcases List.mem_append.mp hx with hx | hx
        · exact hw x ((List.dropLast_sublist wait).subset hx)
        · rcases G.typ k hkm x (a3 x hx).1 with q | q
          · exact absurd q (a3 x hx).2
          · exact q) (by rw [List.length_append, List.length_append]; omega) (by rw [List.length_append, List.length_append]; omega)
      refine ⟨i1, i2, o4', o5', ?_⟩
      rw [← i3]
      have he : wait.isEmpty = false := by
        cases wait with
        | nil => exact absurd rfl hne
        | cons _ _ => rfl
      refine whileN_go (r1 := [some (.d v), some n, some (.d (.list (wait.map (kq ks)))), some (.d (.list (found.map PyData.str))), o4, o5]) (t1 := t) (by rw [wiC_e hk, he]; rfl) ?_
      have gl : (wait.map (kq ks)).getLast? = some (kD k) := by
        rw [List.getLast?_map, hg]
        show some (kq ks z) = _
        unfold kq
        rw [ek]
      have dm : (wait.map (kq ks)).dropLast = wait.dropLast.map (kq ks) := by rw [List.map_dropLast]
      have ei : mIter (mOp atF (mPop 2) (mK (.d (.int 2)))) [some (.d v), some n, some (.d (.list (wait.map (kq ks)))), some (.d (.list (found.map PyData.str))), o4, o5] t = .ok (k.2.map fun f => Sl.d (fD f)) [some (.d v), some n, some (.d (.list (wait.dropLast.map (kq ks)))), some (.d (.list (found.map PyData.str))), o4, o5] t := by
        rw [← dm]
        generalize wait.map (kq ks) = WW at gl ⊢
        simp [mIter, itemsOf, mPop, getO, setO, M.bind, M.ret, M.st, mT, mOp, mVar, mK, use, keep, lft, boolOf, optM, mCB, useAll, mCons, mNil, mTup, mLst, mFz, keepD, mSeq, mRet, mIfS, mAnd, mOr, mNot, mAndV, mOrV, mNotV, mIfE, mCall, keepAll, runF, mAsg, aName, mNx, mChain, fnM, startR, isiF, isT, isTN, askT, tyN, isF, asks, truD, mTru, truS, isNoneD, isBoolD, mRaise, raiseM, oneD, mDrop, aTup, aCons, aNil, twoK, mPar, mU1, mM1, strOf, List.replicate, gl, kD, atF, L2.atI, L2.ixN]
      unfold wiB mFor M.bind
      rw [ei]
      exact ef
theorem fine_kinds {ks : List Kd} (h : fine (ksD ks) = true) : ∀ k ∈ ks, fine (kD k) = true := fun k hk => (fine_tup h).1 (kD k) (List.mem_map_of_mem hk)
theorem e_within : ∀ xs t, F_within_kinds xs t ≠ .st → fnM 6 (m_within_kinds F_checked_kinds F_checked_kind_name F_kind_named) xs t = F_within_kinds xs t := by
  intro xs t h
  unfold F_within_kinds at h ⊢
  split at h
  · rename_i v n
    by_cases hf : (fine v && fine n) = true
    · simp only [hf, if_true]
      rw [Bool.and_eq_true] at hf
      have e1 := checked_call hf.1 t
      have ed : m_within_kinds F_checked_kinds F_checked_kind_name F_kind_named = (mSeq (mDrop (mCall 1 F_checked_kinds (mCons (mVar [2, 3] 0) mNil))) (mSeq (mParOO 2 3 (mLst (mCons (mCall 3 F_checked_kind_name (mCons (mVar [2, 3] 0) (mCons (mVar [2, 3] 1) (mCons (mK (.d (.int 1))) mNil)))) mNil)) (mLst mNil)) (mSeq (mWhile wiC wiB) (mRet (mCB tupF (mCons (mCB sortF (mCons (mVar [2, 3] 3) mNil)) mNil)))))) := rfl
      rw [ed]
      cases e : unKinds v with
      | none =>
        rw [e] at e1
        simp at e1
        simp [M.bind, M.ret, M.st, mT, mOp, mVar, mK, use, keep, lft, boolOf, optM, mCB, useAll, mCons, mNil, mTup, mLst, mFz, keepD, mSeq, mRet, mIfS, mAnd, mOr, mNot, mAndV, mOrV, mNotV, mIfE, mCall, keepAll, runF, mAsg, aName, mNx, mChain, fnM, startR, isiF, isT, isTN, askT, tyN, isF, asks, truD, mTru, truS, isNoneD, isBoolD, mRaise, raiseM, oneD, mDrop, aTup, aCons, aNil, twoK, mPar, mU1, mM1, strOf, List.replicate, e1]
      | some ks =>
        rw [e] at e1
        simp at e1
        have e2 := cname_call e hf.2 1 t
        cases en : nameIn ks n with
        | none =>
          rw [en] at e2
          simp [M.bind, M.ret, M.st, mT, mOp, mVar, mK, use, keep, lft, boolOf, optM, mCB, useAll, mCons, mNil, mTup, mLst, mFz, keepD, mSeq, mRet, mIfS, mAnd, mOr, mNot, mAndV, mOrV, mNotV, mIfE, mCall, keepAll, runF, mAsg, aName, mNx, mChain, fnM, startR, isiF, isT, isTN, askT, tyN, isF, asks, truD, mTru, truS, isNoneD, isBoolD, mRaise, raiseM, oneD, mDrop, aTup, aCons, aNil, twoK, mPar, mU1, mM1, strOf, List.replicate, e1, e2, en, mParOO]
        | some k =>
          rw [en] at e2
          simp only [en]
          have hnk : named ks k.1 = some k := by
            unfold nameIn at en
            split at en
            · split at en
              · rw [(named_mem en).2]
                exact en
              · cases en
            · cases en
          have hkq : kq ks k.1 = kD k := by
            unfold kq
            rw [hnk]
          have hfk := fine_kinds (ks := ks) (by rw [← (unKinds_ok e).1]; exact hf.1)
          obtain ⟨i1, i2, o4, o5, i3⟩ := wi_loop e hfk (.d n) t (ks.length + 2) [k.1] [] none none List.nodup_nil (by simp) (by intro x hx; rw [List.mem_singleton.mp hx]; exact ⟨k, hnk⟩) (by simp) (by simp; omega)
          have e3 : mWhile wiC wiB [some (.d v), some (.d n), some (.d (.list [kD k])), some (.d (.list [])), none, none] t = .ok .nx [some (.d v), some (.d n), some (.d (.list [])), some (.d (.list ((wk ks (ks.length + 2) [k.1] []).map PyData.str))), o4, o5] t := by
            have i3' : whileN wiC wiB (ks.length + 2) [some (.d v), some (.d n), some (.d (.list [kD k])), some (.d (.list [])), none, none] t = .ok .nx [some (.d v), some (.d n), some (.d (.list [])), some (.d (.list ((wk ks (ks.length + 2) [k.1] []).map PyData.str))), o4, o5] t := by
              rw [← i3, ← hkq]
              rfl
            rw [mWhile_of (n := ks.length + 2) (by rw [i3']; intro z; cases z), i3']
          have hl := nodup_len i1 i2
          rw [List.length_map] at hl
          have hkl := (good_of e).len
          have e4 : sortF [.d (.list ((wk ks (ks.length + 2) [k.1] []).map PyData.str))] = some (.d (.list ((withinL ks k.1).map PyData.str))) := by
            unfold sortF withinL
            simp only [strsOf_map]
            rw [if_pos (by omega)]
          generalize (wk ks (ks.length + 2) [k.1] []).map PyData.str = W1 at e3 e4
          unfold strT
          generalize (withinL ks k.1).map PyData.str = W2 at e4 ⊢
          simp [M.bind, M.ret, M.st, mT, mOp, mVar, mK, use, keep, lft, boolOf, optM, mCB, useAll, mCons, mNil, mTup, mLst, mFz, keepD, mSeq, mRet, mIfS, mAnd, mOr, mNot, mAndV, mOrV, mNotV, mIfE, mCall, keepAll, runF, mAsg, aName, mNx, mChain, fnM, startR, isiF, isT, isTN, askT, tyN, isF, asks, truD, mTru, truS, isNoneD, isBoolD, mRaise, raiseM, oneD, mDrop, aTup, aCons, aNil, twoK, mPar, mU1, mM1, strOf, List.replicate, e1, e2, en, mParOO, setO, e3, e4, tupF]
    · simp only [if_neg hf] at h
      exact absurd rfl h
  · exact absurd rfl h
end K01
end
section
set_option maxRecDepth 100000
set_option maxHeartbeats 4000000
namespace K01
open PySem PySem.Spec DL
def F__law_same : FM := sameFM 8
theorem same_str (k : PyData) (s : Str) (t : Option Deal) : F__law_same [.d k, .d (.str s)] t = .ok (.d (.bool (isStr s k))) t := by
  have e : eqN 8 k (.str s) = some (isStr s k) := by
    cases k <;> rfl
  unfold F__law_same sameFM
  simp only [e]
theorem lname_call {v : PyData} (h : fine v = true) (t : Option Deal) : F__law_is_name [.d v] t = .ok (.d (.bool (isNameD v))) t := if_pos h
theorem once_len : ∀ (zs acc : List Str), acc.Nodup → (once acc zs).length ≤ acc.length + zs.length ∧ ((once acc zs).length = acc.length + zs.length ↔ (acc ++ zs).Nodup)
  | [], acc, h => ⟨Nat.le_refl _, by simp [once, h]⟩
  | z :: zs, acc, h => by
    unfold once
    by_cases hz : z ∈ acc
    · rw [if_pos hz]
      obtain ⟨h1, h2⟩ := once_len zs acc h
      refine ⟨by rw [List.length_cons]; omega, ?_⟩
      rw [List.length_cons]
      constructor
      · intro q; omega
      · intro q
        rw [List.nodup_append] at q
        exact absurd rfl (q.2.2 z hz z List.mem_cons_self)
    · rw [if_neg hz]
      have hn : (acc ++ [z]).Nodup := by
        rw [List.nodup_append]
        refine ⟨h, by simp, fun a ha b hb => ?_⟩
        have : b = z := by simpa using hb
        rw [this]
        exact fun q => hz (q ▸ ha)
      obtain ⟨h1, h2⟩ := once_len zs (acc ++ [z]) hn
      rw [List.length_append, List.length_singleton] at h1 h2
      rw [List.length_cons]
      refine ⟨by omega, ?_⟩
      have e : acc ++ z :: zs = acc ++ [z] ++ zs := by simp
      rw [e, ← h2]
      omega
theorem once_id : ∀ (zs acc : List Str), (acc ++ zs).Nodup → once acc zs = acc ++ zs
  | [], acc, _ => by simp [once]
  | z :: zs, acc, h => by
    unfold once
    have e : acc ++ z :: zs = acc ++ [z] ++ zs := by simp
    have hz : z ∉ acc := fun q => by
      rw [List.nodup_append] at h
      exact absurd rfl (h.2.2 z q z List.mem_cons_self)
    rw [if_neg hz, e]
    exact once_id zs (acc ++ [z]) (by rw [← e]; exact h)
theorem once_nodup : ∀ (zs acc : List Str), acc.Nodup → (once acc zs).Nodup
  | [], _, h => h
  | z :: zs, acc, h => by
    unfold once
    by_cases hz : z ∈ acc
    · rw [if_pos hz]
      exact once_nodup zs acc h
    · rw [if_neg hz]
      refine once_nodup zs _ ?_
      rw [List.nodup_append]
      refine ⟨h, by simp, fun a ha b hb => ?_⟩
      have : b = z := by simpa using hb
      rw [this]
      exact fun q => hz (q ▸ ha)
theorem once_mem : ∀ (zs acc : List Str) (x : Str), x ∈ once acc zs ↔ x ∈ acc ∨ x ∈ zs
  | [], acc, x => by simp [once]
  | z :: zs, acc, x => by
    unfold once
    by_cases hz : z ∈ acc
    · rw [if_pos hz, once_mem zs acc x, List.mem_cons]
      constructor
      · rintro (q | q)
        · exact .inl q
        · exact .inr (.inr q)
      · rintro (q | q | q)
        · exact .inl q
        · exact .inl (q ▸ hz)
        · exact .inr q
    · rw [if_neg hz, once_mem zs _ x, List.mem_append, List.mem_singleton, List.mem_cons, or_assoc]
theorem asc_pair : ∀ {zs : List Str}, ascL zs = true ↔ zs.Pairwise (fun a b => a.cps.toList < b.cps.toList)
  | [] => ⟨fun _ => List.Pairwise.nil, fun _ => rfl⟩
  | [a] => ⟨fun _ => List.pairwise_singleton _ _, fun _ => rfl⟩
  | a :: b :: r => by
    have ih := asc_pair (zs := b :: r)
    show (decide (a.cps.toList < b.cps.toList) && ascL (b :: r)) = true ↔ _
    rw [Bool.and_eq_true, decide_eq_true_iff, ih, List.pairwise_cons (a := a)]
    constructor
    · rintro ⟨h1, h2⟩
      refine ⟨fun c hc => ?_, h2⟩
      rcases List.mem_cons.mp hc with rfl | hc
      · exact h1
      · exact List.lt_trans h1 ((List.pairwise_cons.mp h2).1 c hc)
    · rintro ⟨h1, h2⟩
      exact ⟨h1 b List.mem_cons_self, h2⟩
theorem cps_inj {a b : Str} (h : a.cps.toList = b.cps.toList) : a = b := by
  obtain ⟨⟨x⟩⟩ := a
  obtain ⟨⟨y⟩⟩ := b
  have : x = y := h
  rw [this]
theorem asc_sorted (zs : List Str) : decide (sortS (once [] zs) = zs) = ascL zs := by
  rw [Bool.eq_iff_iff, decide_eq_true_iff, asc_pair]
  constructor
  · intro h
    have h1 := sortS_up (once [] zs)
    have h2 : (sortS (once [] zs)).Nodup := (sortS_perm _).nodup_iff.mpr (once_nodup zs [] List.nodup_nil)
    rw [h] at h1 h2
    refine (h1.and h2).imp ?_
    rintro a b ⟨q1, q2⟩
    unfold leS at q1
    simp only [Bool.not_eq_true', decide_eq_false_iff_not] at q1
    by_cases q3 : a.cps.toList < b.cps.toList
    · exact q3
    · exact absurd (cps_inj (List.le_antisymm (List.not_lt.mp q1) (List.not_lt.mp q3))) q2
  · intro h
    have hn : zs.Nodup := h.imp fun {a b} q z => by
      rw [z] at q
      exact List.lt_irrefl _ q
    have e := once_id zs [] (by simpa using hn)
    rw [e, List.nil_append]
    have hs : zs.Pairwise (fun a b => leS a b = true) := h.imp fun {a b} q => by
      unfold leS
      simp only [Bool.not_eq_true', decide_eq_false_iff_not]
      exact List.lt_asymm q
    exact (List.Perm.eq_of_pairwise (le := fun a b => leS a b = true) (fun _ _ _ _ => leS_anti) (sortS_up zs) hs (sortS_perm zs))
noncomputable def lkB : M Fl := (mSeq (mIfS (mOr (mNot (mTru (mCB isiF (mCons (mVar [] 1) (mCons (mK (.raw (.ty "tuple"))) mNil))))) (mOr (mT (mOp neF (mCB lenF (mCons (mVar [] 1) mNil)) (mK (.d (.int 2))))) (mNot (mTru (mCall 1 F__law_is_name (mCons (mOp atF (mVar [] 1) (mK (.d (.int 0)))) mNil)))))) (mRet (mK (.d (.bool false)))) mNx) (mIfS (mAnd (mNot (mTru (mCall 2 F__law_same (mCons (mOp atF (mVar [] 1) (mK (.d (.int 1)))) (mCons (mK (.d (.str "int"))) mNil))))) (mNot (mTru (mCall 1 F__law_is_name (mCons (mOp atF (mVar [] 1) (mK (.d (.int 1)))) mNil))))) (mRet (mK (.d (.bool false)))) mNx))
theorem type_split (b : PyData) : isTypeD b = (isStr "int" b || isNameD b) := by
  cases b <;> rfl
theorem lkB_e (v : Option Sl) {x : PyData} (hx : fine x = true) (t : Option Deal) : lkB [v, some (.d x)] t = .ok (if (unField x).isSome then .nx else .rt (.d (.bool false))) [v, some (.d x)] t := by
  cases x with
  | tuple vs =>
    obtain ⟨hv, _⟩ := fine_tup hx
    have e1 := len_ne vs.length 2 2 rfl
    by_cases hl : vs.length = 2
    · match vs, hl with
      | [a, b], _ =>
        have e2 : neF (.d (.int 2)) (.d (.int 2)) = some (.d (.bool false)) := len_ne 2 2 2 rfl
        have lA : lenF [.d (.tuple [a, b])] = some (.d (.int 2)) := rfl
        have a0 : atF (.d (.tuple [a, b])) (.d (.int 0)) = some (.d a) := rfl
        have a1 : atF (.d (.tuple [a, b])) (.d (.int 1)) = some (.d b) := rfl
        have n0 := lname_call (hv a (by simp)) t
        have n1 := lname_call (hv b (by simp)) t
        have s1 := same_str b "int" t
        rw [unField_pair, type_split]
        generalize isNameD a = A at n0 ⊢
        generalize isNameD b = B at n1 ⊢
        generalize isStr "int" b = C at s1 ⊢
        cases A <;> cases C <;> cases B <;> simp [lkB, M.bind, M.ret, M.st, mT, mOp, mVar, mK, use, keep, lft, boolOf, optM, mCB, useAll, mCons, mNil, mTup, mLst, mFz, keepD, mSeq, mRet, mIfS, mAnd, mOr, mNot, mAndV, mOrV, mNotV, mIfE, mCall, keepAll, runF, mAsg, aName, mNx, mChain, fnM, startR, isiF, isT, isTN, askT, tyN, isF, asks, truD, mTru, truS, isNoneD, isBoolD, mRaise, raiseM, oneD, mDrop, aTup, aCons, aNil, twoK, mPar, mU1, mM1, strOf, List.replicate, lA, a0, a1, e2, n0, n1, s1]
    · rw [decide_eq_false hl] at e1
      have fin : (unField (.tuple vs)).isSome = false := by
        unfold unField
        split
        · rename_i heq
          injection heq with heq
          rw [heq] at hl
          exact absurd rfl hl
        · rfl
      have lB : lenF [.d (.tuple vs)] = some (.d (.int (vs.length : Nat))) := rfl
      rw [fin]
      simp [lkB, M.bind, M.ret, M.st, mT, mOp, mVar, mK, use, keep, lft, boolOf, optM, mCB, useAll, mCons, mNil, mTup, mLst, mFz, keepD, mSeq, mRet, mIfS, mAnd, mOr, mNot, mAndV, mOrV, mNotV, mIfE, mCall, keepAll, runF, mAsg, aName, mNx, mChain, fnM, startR, isiF, isT, isTN, askT, tyN, isF, asks, truD, mTru, truS, isNoneD, isBoolD, mRaise, raiseM, oneD, mDrop, aTup, aCons, aNil, twoK, mPar, mU1, mM1, strOf, List.replicate, lB, e1]
  | _ => simp [lkB, M.bind, M.ret, M.st, mT, mOp, mVar, mK, use, keep, lft, boolOf, optM, mCB, useAll, mCons, mNil, mTup, mLst, mFz, keepD, mSeq, mRet, mIfS, mAnd, mOr, mNot, mAndV, mOrV, mNotV, mIfE, mCall, keepAll, runF, mAsg, aName, mNx, mChain, fnM, startR, isiF, isT, isTN, askT, tyN, isF, asks, truD, mTru, truS, isNoneD, isBoolD, mRaise, raiseM, oneD, mDrop, aTup, aCons, aNil, twoK, mPar, mU1, mM1, strOf, List.replicate, unField]
theorem lk_loop (v : Option Sl) (t : Option Deal) : ∀ (fs : List PyData) (o : Option Sl), (∀ x ∈ fs, fine x = true) → ∃ o', forL (aName 1) lkB (fs.map Sl.d) [v, o] t = .ok (if fs.all (fun x => (unField x).isSome) then .nx else .rt (.d (.bool false))) [v, o'] t
  | [], o, _ => ⟨o, rfl⟩
  | x :: fs, o, h => by
    have e1 := lkB_e v (h x List.mem_cons_self) t
    by_cases hx : (unField x).isSome = true
    · obtain ⟨o', e2⟩ := lk_loop v t fs (some (.d x)) fun y hy => h y (List.mem_cons_of_mem _ hy)
      refine ⟨o', ?_⟩
      rw [if_pos hx] at e1
      rw [List.map_cons, List.all_cons, hx, Bool.true_and]
      rw [← e2]
      exact forL_cons (r1 := [v, some (.d x)]) (t1 := t) rfl e1
    · refine ⟨some (.d x), ?_⟩
      rw [if_neg hx] at e1
      have hx' : (unField x).isSome = false := by simpa using hx
      rw [List.map_cons, List.all_cons, hx', Bool.false_and]
      unfold forL
      have es : ([v, o] : Rho).set 1 (some (.d x)) = [v, some (.d x)] := rfl
      simp only [M.bind, aName, es, e1]
      rfl
theorem e_lkind : ∀ xs t, F__law_is_kind xs t ≠ .st → fnM 2 (m__law_is_kind F__law_same F__law_is_name) xs t = F__law_is_kind xs t := by
  intro xs t h
  unfold F__law_is_kind F_is_kind at h ⊢
  split at h
  · rename_i v
    by_cases hf : fine v = true
    · simp only [hf, if_true]
      have ed : m__law_is_kind F__law_same F__law_is_name = (mSeq (mIfS (mOr (mNot (mTru (mCB isiF (mCons (mVar [] 0) (mCons (mK (.raw (.ty "tuple"))) mNil))))) (mOr (mT (mOp neF (mCB lenF (mCons (mVar [] 0) mNil)) (mK (.d (.int 3))))) (mOr (mNot (mTru (mCall 2 F__law_same (mCons (mOp atF (mVar [] 0) (mK (.d (.int 0)))) (mCons (mK (.d (.str "kind"))) mNil))))) (mNot (mTru (mCall 1 F__law_is_name (mCons (mOp atF (mVar [] 0) (mK (.d (.int 1)))) mNil))))))) (mRet (mK (.d (.bool false)))) mNx) (mSeq (mIfS (mOr (mNot (mTru (mCB isiF (mCons (mOp atF (mVar [] 0) (mK (.d (.int 2)))) (mCons (mK (.raw (.ty "tuple"))) mNil))))) (mT (mOp gtF (mCB lenF (mCons (mOp atF (mVar [] 0) (mK (.d (.int 2)))) mNil)) (mK (.d (.int 12)))))) (mRet (mK (.d (.bool false)))) mNx) (mSeq (mFor (mIter (mOp atF (mVar [] 0) (mK (.d (.int 2))))) (aName 1) lkB) (mRet (mOp eqF (mCB lenDF (mCons (mFz (mLc (mIter (mOp atF (mVar [] 0) (mK (.d (.int 2))))) [1] (aName 1) (M.ret true) (mTup (mCons (mOp atF (mVar [] 1) (mK (.d (.int 0)))) (mCons (mK (.d (.int 1))) mNil))))) mNil)) (mCB lenF (mCons (mOp atF (mVar [] 0) (mK (.d (.int 2)))) mNil))))))) := rfl
      rw [ed]
      cases v with
      | tuple vs =>
        obtain ⟨hv, _⟩ := fine_tup hf
        have e1 := len_ne vs.length 3 3 rfl
        by_cases hl : vs.length = 3
        · match vs, hl with
          | [k, n, f], _ =>
            have e2 : neF (.d (.int 3)) (.d (.int 3)) = some (.d (.bool false)) := len_ne 3 3 3 rfl
            have e3 := same_str k "kind" t
            have hn := lname_call (hv n (by simp)) t
            have hff := hv f (by simp)
            have lA : lenF [.d (.tuple [k, n, f])] = some (.d (.int 3)) := rfl
            have a0 : atF (.d (.tuple [k, n, f])) (.d (.int 0)) = some (.d k) := rfl
            have a1 : atF (.d (.tuple [k, n, f])) (.d (.int 1)) = some (.d n) := rfl
            have a2 : atF (.d (.tuple [k, n, f])) (.d (.int 2)) = some (.d f) := rfl
            by_cases hft : ∃ fs, f = .tuple fs
            · obtain ⟨fs, rfl⟩ := hft
              obtain ⟨hfs, hfl⟩ := fine_tup hff
              rw [unKind_eq]
              have lB : lenF [.d (.tuple fs)] = some (.d (.int (fs.length : Nat))) := rfl
              have e4 := len_gt fs.length 12 12 rfl
              have hit : ∀ o : Option Sl, mIter (mOp atF (mVar [] 0) (mK (.d (.int 2)))) [some (.d (.tuple [k, n, .tuple fs])), o] t = .ok (fs.map Sl.d) [some (.d (.tuple [k, n, .tuple fs])), o] t := fun o => by
                simp [mIter, itemsOf, M.bind, M.ret, M.st, mT, mOp, mVar, mK, use, keep, lft, boolOf, optM, mCB, useAll, mCons, mNil, mTup, mLst, mFz, keepD, mSeq, mRet, mIfS, mAnd, mOr, mNot, mAndV, mOrV, mNotV, mIfE, mCall, keepAll, runF, mAsg, aName, mNx, mChain, fnM, startR, isiF, isT, isTN, askT, tyN, isF, asks, truD, mTru, truS, isNoneD, isBoolD, mRaise, raiseM, oneD, mDrop, aTup, aCons, aNil, twoK, mPar, mU1, mM1, strOf, List.replicate, a2]
              obtain ⟨o', lp⟩ := lk_loop (some (.d (.tuple [k, n, .tuple fs]))) t fs none hfs
              have lp2 : mFor (mIter (mOp atF (mVar [] 0) (mK (.d (.int 2))))) (aName 1) lkB [some (.d (.tuple [k, n, .tuple fs])), none] t = .ok (if fs.all (fun x => (unField x).isSome) then .nx else .rt (.d (.bool false))) [some (.d (.tuple [k, n, .tuple fs])), o'] t := by
                unfold mFor M.bind
                rw [hit]
                exact lp
              have hdec : decide (fs.length ≤ 12) = !decide (12 < fs.length) := by
                rw [← decide_not]
                exact decide_eq_decide.mpr (by omega)
              rw [hdec]
              by_cases hall : fs.all (fun x => (unField x).isSome) = true
              · obtain ⟨ps, hps⟩ := allSome_all hall
                obtain ⟨efs, _⟩ := allSome_ok (g := fD) (fun x y q => (unField_ok q).1) hps
                rw [hps]
                dsimp only
                rw [if_pos hall] at lp2
                have lc := lc1 (mi := mIter (mOp atF (mVar [] 0) (mK (.d (.int 2))))) (i := 1) (test := M.ret true) (elt := mTup (mCons (mOp atF (mVar [] 1) (mK (.d (.int 0)))) (mCons (mK (.d (.int 1))) mNil))) (r := [some (.d (.tuple [k, n, .tuple fs])), o']) (t := t) (p := fun _ => true) (g := fun d => match d with
                  | .d (.tuple (a :: _)) => .tuple [a, .int 1]
                  | _ => .none) (ds := fs.map Sl.d) (hit o') (by rw [List.length_map]; omega) (Nat.lt_succ_self 1) (fun _ _ => rfl) (fun d hd _ => by
                  obtain ⟨x, hx, rfl⟩ := List.mem_map.mp hd
                  rw [efs] at hx
                  obtain ⟨p, _, rfl⟩ := List.mem_map.mp hx
                  simp [M.bind, M.ret, M.st, mT, mOp, mVar, mK, use, keep, lft, boolOf, optM, mCB, useAll, mCons, mNil, mTup, mLst, mFz, keepD, mSeq, mRet, mIfS, mAnd, mOr, mNot, mAndV, mOrV, mNotV, mIfE, mCall, keepAll, runF, mAsg, aName, mNx, mChain, fnM, startR, isiF, isT, isTN, askT, tyN, isF, asks, truD, mTru, truS, isNoneD, isBoolD, mRaise, raiseM, oneD, mDrop, aTup, aCons, aNil, twoK, mPar, mU1, mM1, strOf, List.replicate, fD, atF, L2.atI, L2.ixN])
                rw [List.filter_eq_self.mpr (fun _ _ => rfl)] at lc
                have em : (fs.map Sl.d).map (fun d => match d with
                  | .d (.tuple (a :: _)) => PyData.tuple [a, .int 1]
                  | _ => .none) = (ps.map (·.1)).map fun z => PyData.tuple [.str z, .int 1] := by
                  rw [efs, List.map_map, List.map_map, List.map_map]
                  rfl
                rw [em] at lc
                have pk : ∀ zs : List Str, pairKs (zs.map fun z => PyData.tuple [.str z, .int 1]) = some zs := by
                  intro zs
                  induction zs with
                  | nil => rfl
                  | cons z zs ih =>
                    rw [List.map_cons]
                    unfold pairKs
                    rw [ih]
                have ld : lenDF [.d (.list ((ps.map (·.1)).map fun z => PyData.tuple [.str z, .int 1]))] = some (.d (.int ((once [] (ps.map (·.1))).length : Nat))) := by
                  unfold lenDF keysF
                  simp only [pk]
                have hpl : fs.length = (ps.map (·.1)).length := by
                  have := congrArg List.length efs
                  rw [List.length_map] at this ⊢
                  exact this
                have eqq : eqF (.d (.int ((once [] (ps.map (·.1))).length : Nat))) (.d (.int (fs.length : Nat))) = some (.d (.bool (decide ((ps.map (·.1)).Nodup)))) := by
                  unfold eqF eqOk scalD
                  simp only [Bool.true_or, if_true, PyData.eqv, int_beq]
                  congr 3
                  have := (once_len (ps.map (·.1)) [] List.nodup_nil).2
                  simp only [List.length_nil, Nat.zero_add, List.nil_append] at this
                  refine decide_eq_decide.mpr ?_
                  rw [← this, hpl]
                  omega
                generalize (ps.map (·.1)).map (fun z => PyData.tuple [.str z, .int 1]) = LL at lc ld
                generalize mLc (mIter (mOp atF (mVar [] 0) (mK (.d (.int 2))))) [1] (aName 1) (M.ret true) (mTup (mCons (mOp atF (mVar [] 1) (mK (.d (.int 0)))) (mCons (mK (.d (.int 1))) mNil))) = LC at lc ⊢
                generalize mFor (mIter (mOp atF (mVar [] 0) (mK (.d (.int 2))))) (aName 1) lkB = FO at lp2 ⊢
                generalize decide ((ps.map (·.1)).Nodup) = ND at eqq ⊢
                generalize (once [] (ps.map (·.1))).length = OL at ld eqq
                generalize decide (12 < fs.length) = D1 at e4 ⊢
                generalize isNameD n = N1 at hn ⊢
                generalize isStr "kind" k = K1 at e3 ⊢
                cases K1 <;> cases N1 <;> cases D1 <;> simp [M.bind, M.ret, M.st, mT, mOp, mVar, mK, use, keep, lft, boolOf, optM, mCB, useAll, mCons, mNil, mTup, mLst, mFz, keepD, mSeq, mRet, mIfS, mAnd, mOr, mNot, mAndV, mOrV, mNotV, mIfE, mCall, keepAll, runF, mAsg, aName, mNx, mChain, fnM, startR, isiF, isT, isTN, askT, tyN, isF, asks, truD, mTru, truS, isNoneD, isBoolD, mRaise, raiseM, oneD, mDrop, aTup, aCons, aNil, twoK, mPar, mU1, mM1, strOf, List.replicate, lA, a0, a1, a2, e2, e3, hn, lB, e4, lp2, lc, ld, eqq]
              · have hall' : fs.all (fun x => (unField x).isSome) = false := by simpa using hall
                rw [allSome_none hall']
                dsimp only
                rw [if_neg hall] at lp2
                generalize mLc (mIter (mOp atF (mVar [] 0) (mK (.d (.int 2))))) [1] (aName 1) (M.ret true) (mTup (mCons (mOp atF (mVar [] 1) (mK (.d (.int 0)))) (mCons (mK (.d (.int 1))) mNil))) = LC
                generalize mFor (mIter (mOp atF (mVar [] 0) (mK (.d (.int 2))))) (aName 1) lkB = FO at lp2 ⊢
                generalize decide (12 < fs.length) = D1 at e4 ⊢
                generalize isNameD n = N1 at hn ⊢
                generalize isStr "kind" k = K1 at e3 ⊢
                cases K1 <;> cases N1 <;> cases D1 <;> simp [M.bind, M.ret, M.st, mT, mOp, mVar, mK, use, keep, lft, boolOf, optM, mCB, useAll, mCons, mNil, mTup, mLst, mFz, keepD, mSeq, mRet, mIfS, mAnd, mOr, mNot, mAndV, mOrV, mNotV, mIfE, mCall, keepAll, runF, mAsg, aName, mNx, mChain, fnM, startR, isiF, isT, isTN, askT, tyN, isF, asks, truD, mTru, truS, isNoneD, isBoolD, mRaise, raiseM, oneD, mDrop, aTup, aCons, aNil, twoK, mPar, mU1, mM1, strOf, List.replicate, lA, a0, a1, a2, e2, e3, hn, lB, e4, lp2]
            · have hno : ∀ fs, f ≠ .tuple fs := fun fs q => hft ⟨fs, q⟩
              rw [unKind_3 hno]
              generalize isNameD n = N1 at hn
              generalize isStr "kind" k = K1 at e3
              generalize mLc (mIter (mOp atF (mVar [] 0) (mK (.d (.int 2))))) [1] (aName 1) (M.ret true) (mTup (mCons (mOp atF (mVar [] 1) (mK (.d (.int 0)))) (mCons (mK (.d (.int 1))) mNil))) = LC
              generalize mFor (mIter (mOp atF (mVar [] 0) (mK (.d (.int 2))))) (aName 1) lkB = FO
              cases f with
              | tuple fs => exact absurd rfl (hno fs)
              | _ => cases K1 <;> cases N1 <;> simp [M.bind, M.ret, M.st, mT, mOp, mVar, mK, use, keep, lft, boolOf, optM, mCB, useAll, mCons, mNil, mTup, mLst, mFz, keepD, mSeq, mRet, mIfS, mAnd, mOr, mNot, mAndV, mOrV, mNotV, mIfE, mCall, keepAll, runF, mAsg, aName, mNx, mChain, fnM, startR, isiF, isT, isTN, askT, tyN, isF, asks, truD, mTru, truS, isNoneD, isBoolD, mRaise, raiseM, oneD, mDrop, aTup, aCons, aNil, twoK, mPar, mU1, mM1, strOf, List.replicate, lA, a0, a1, a2, e2, e3, hn]
        · rw [decide_eq_false hl] at e1
          rw [unKind_len hl]
          have lB : lenF [.d (.tuple vs)] = some (.d (.int (vs.length : Nat))) := rfl
          generalize mLc (mIter (mOp atF (mVar [] 0) (mK (.d (.int 2))))) [1] (aName 1) (M.ret true) (mTup (mCons (mOp atF (mVar [] 1) (mK (.d (.int 0)))) (mCons (mK (.d (.int 1))) mNil))) = LC
          generalize mFor (mIter (mOp atF (mVar [] 0) (mK (.d (.int 2))))) (aName 1) lkB = FO
          simp [M.bind, M.ret, M.st, mT, mOp, mVar, mK, use, keep, lft, boolOf, optM, mCB, useAll, mCons, mNil, mTup, mLst, mFz, keepD, mSeq, mRet, mIfS, mAnd, mOr, mNot, mAndV, mOrV, mNotV, mIfE, mCall, keepAll, runF, mAsg, aName, mNx, mChain, fnM, startR, isiF, isT, isTN, askT, tyN, isF, asks, truD, mTru, truS, isNoneD, isBoolD, mRaise, raiseM, oneD, mDrop, aTup, aCons, aNil, twoK, mPar, mU1, mM1, strOf, List.replicate, lB, e1]
      | _ => rfl
    · rw [if_neg hf] at h
      exact absurd rfl h
  · exact absurd rfl h
end K01
end
section
set_option maxRecDepth 100000
set_option maxHeartbeats 4000000
namespace K01
open PySem PySem.Spec DL
theorem lkind_call {v : PyData} (h : fine v = true) (t : Option Deal) : F__law_is_kind [.d v] t = .ok (.d (.bool (unKind v).isSome)) t := if_pos h
theorem eqv_strs : ∀ (a b : List Str), PyData.eqvAll (a.map PyData.str) (b.map PyData.str) = decide (a = b)
  | [], [] => rfl
  | [], _ :: _ => rfl
  | _ :: _, [] => rfl
  | x :: a, y :: b => by
    have ih := eqv_strs a b
    rw [List.map_cons, List.map_cons]
    unfold PyData.eqvAll
    rw [ih]
    have e : PyData.eqv (.str x) (.str y) = decide (x = y) := by
      by_cases h : x = y
      · subst h; simp [PyData.eqv]
      · simp [PyData.eqv, h]
    rw [e, ← Bool.decide_and]
    congr 1
    simp
theorem ne_lists {a b : List Str} (ha : ∀ z ∈ a, PyData.strOk z = true) (hb : ∀ z ∈ b, PyData.strOk z = true) : neF (.d (.list (a.map PyData.str))) (.d (.list (b.map PyData.str))) = some (.d (.bool (!decide (a = b)))) := by
  have h1 := shaped_strs ha
  have h2 := shaped_strs hb
  have e : PyData.eqv (.list (a.map PyData.str)) (.list (b.map PyData.str)) = decide (a = b) := by
    rw [← eqv_strs]
    simp [PyData.eqv]
  unfold neF eqOk
  simp only [h1, h2, Bool.and_self, Bool.or_true, if_true, e]
theorem lays_of : ∀ {l : List PyData}, (∀ x ∈ l, x.canLay0 = true ∧ x.depth ≤ 60) → SeqAt.shaped (.list l) = true := fun {l} h => by
  refine shaped_lays ?_
  rw [List.all_eq_true]
  intro x hx
  unfold lay1
  rw [(h x hx).1, decide_eq_true (h x hx).2]
  rfl
theorem fD_lay {f : Fd} (h : fine (fD f) = true) : (fD f).canLay0 = true ∧ (fD f).depth ≤ 60 := by
  unfold fine at h
  rw [Bool.and_eq_true, Bool.and_eq_true] at h
  refine ⟨h.1.1, ?_⟩
  have : (fD f).depth = 1 := rfl
  omega
noncomputable def lakT : M Bool := (mAnd (mT (mOp neF (mOp atF (mVar [] 3) (mK (.d (.int 1)))) (mK (.d (.str "int"))))) (mT (mOp (inF true) (mOp atF (mVar [] 3) (mK (.d (.int 1)))) (mVar [] 1))))
noncomputable def lakL : M (List PyData) := (mLc (mIter (mOp atF (mVar [] 2) (mK (.d (.int 2))))) [3] (aName 3) lakT (mVar [] 3))
noncomputable def lakB : M Fl := (mIfS (mT (mOp neF (mFz lakL) (mFz (mLst mNil)))) (mRet (mK (.d (.bool false)))) mNx)
theorem lak_one (v : Option Sl) (ns : List Str) (k : Kd) (o4 : Option Sl) (t : Option Deal) (hf : ∀ f ∈ k.2, fine (fD f) = true) (hl : k.2.length ≤ 12) : lakB [v, some (.d (.list (ns.map PyData.str))), some (.d (kD k)), none, o4] t = .ok (if (k.2.all fun f : Fd => decide (f.2 = ("int" : Str)) || decide (f.2 ∈ ns)) then .nx else .rt (.d (.bool false))) [v, some (.d (.list (ns.map PyData.str))), some (.d (kD k)), none, o4] t := by
  have lc := lc1 (mi := mIter (mOp atF (mVar [] 2) (mK (.d (.int 2))))) (i := 3) (test := lakT) (elt := mVar [] 3) (r := [v, some (.d (.list (ns.map PyData.str))), some (.d (kD k)), none, o4]) (t := t) (p := fun d => match d with
    | .d (.tuple [_, .str y]) => !decide (y = ("int" : Str)) && !decide (y ∈ ns)
    | _ => false) (g := fun d => match d with
    | .d x => x
    | _ => .none) (ds := k.2.map fun f => Sl.d (fD f)) (by simp [mIter, itemsOf, M.bind, M.ret, M.st, mT, mOp, mVar, mK, use, keep, lft, boolOf, optM, mCB, useAll, mCons, mNil, mTup, mLst, mFz, keepD, mSeq, mRet, mIfS, mAnd, mOr, mNot, mAndV, mOrV, mNotV, mIfE, mCall, keepAll, runF, mAsg, aName, mNx, mChain, fnM, startR, isiF, isT, isTN, askT, tyN, isF, asks, truD, mTru, truS, isNoneD, isBoolD, mRaise, raiseM, oneD, mDrop, aTup, aCons, aNil, twoK, mPar, mU1, mM1, strOf, List.replicate, kD, atF, L2.atI, L2.ixN]) (by rw [List.length_map]; omega) (Nat.lt_of_lt_of_le (by decide : 3 < 5) (Nat.le_refl _)) (fun d hd => by
      obtain ⟨f, _, rfl⟩ := List.mem_map.mp hd
      have e1 := ne_strs f.2 "int"
      have e2 := nin_lst f.2 ns
      by_cases h1 : f.2 = "int"
      · rw [decide_eq_true h1] at e1
        have fin : (!decide (f.2 = ("int" : Str)) && !decide (f.2 ∈ ns)) = false := by rw [decide_eq_true h1]; rfl
        show lakT _ t = .ok (!decide (f.2 = ("int" : Str)) && !decide (f.2 ∈ ns)) _ t
        rw [fin]
        generalize ns.map PyData.str = NN at *
        simp [lakT, M.bind, M.ret, M.st, mT, mOp, mVar, mK, use, keep, lft, boolOf, optM, mCB, useAll, mCons, mNil, mTup, mLst, mFz, keepD, mSeq, mRet, mIfS, mAnd, mOr, mNot, mAndV, mOrV, mNotV, mIfE, mCall, keepAll, runF, mAsg, aName, mNx, mChain, fnM, startR, isiF, isT, isTN, askT, tyN, isF, asks, truD, mTru, truS, isNoneD, isBoolD, mRaise, raiseM, oneD, mDrop, aTup, aCons, aNil, twoK, mPar, mU1, mM1, strOf, List.replicate, fD, atF, L2.atI, L2.ixN, e1]
      · rw [decide_eq_false h1] at e1
        have fin : (!decide (f.2 = ("int" : Str)) && !decide (f.2 ∈ ns)) = !decide (f.2 ∈ ns) := by rw [decide_eq_false h1]; rfl
        show lakT _ t = .ok (!decide (f.2 = ("int" : Str)) && !decide (f.2 ∈ ns)) _ t
        rw [fin]
        generalize ns.map PyData.str = NN at *
        generalize decide (f.2 ∈ ns) = DD at *
        simp [lakT, M.bind, M.ret, M.st, mT, mOp, mVar, mK, use, keep, lft, boolOf, optM, mCB, useAll, mCons, mNil, mTup, mLst, mFz, keepD, mSeq, mRet, mIfS, mAnd, mOr, mNot, mAndV, mOrV, mNotV, mIfE, mCall, keepAll, runF, mAsg, aName, mNx, mChain, fnM, startR, isiF, isT, isTN, askT, tyN, isF, asks, truD, mTru, truS, isNoneD, isBoolD, mRaise, raiseM, oneD, mDrop, aTup, aCons, aNil, twoK, mPar, mU1, mM1, strOf, List.replicate, fD, atF, L2.atI, L2.ixN, e1, e2]) (fun d hd _ => by
      obtain ⟨f, _, rfl⟩ := List.mem_map.mp hd
      simp [mVar])
  have em : ((k.2.map fun f => Sl.d (fD f)).filter fun d => match d with
    | .d (.tuple [_, .str y]) => !decide (y = ("int" : Str)) && !decide (y ∈ ns)
    | _ => false).map (fun d => match d with
    | .d x => x
    | _ => .none) = (k.2.filter fun f : Fd => !decide (f.2 = ("int" : Str)) && !decide (f.2 ∈ ns)).map fD := by
    rw [List.filter_map, List.map_map]
    rfl
  rw [em] at lc
  have sh : SeqAt.shaped (.list ((k.2.filter fun f : Fd => !decide (f.2 = ("int" : Str)) && !decide (f.2 ∈ ns)).map fD)) = true := lays_of fun x hx => by
    obtain ⟨f, hf2, rfl⟩ := List.mem_map.mp hx
    exact fD_lay (hf f (List.mem_filter.mp hf2).1)
  have ne0 := ne_nil_list _ sh
  have eb : (!((k.2.filter fun f : Fd => !decide (f.2 = ("int" : Str)) && !decide (f.2 ∈ ns)).map fD).isEmpty) = !(k.2.all fun f : Fd => decide (f.2 = ("int" : Str)) || decide (f.2 ∈ ns)) := by
    congr 1
    rw [List.isEmpty_map, Bool.eq_iff_iff, List.isEmpty_iff, List.filter_eq_nil_iff, List.all_eq_true]
    constructor
    · intro q f hf3
      have := q f hf3
      cases h1 : decide (f.2 = ("int" : Str)) <;> cases h2 : decide (f.2 ∈ ns) <;> simp [h1, h2] at this ⊢
    · intro q f hf3
      have := q f hf3
      cases h1 : decide (f.2 = ("int" : Str)) <;> cases h2 : decide (f.2 ∈ ns) <;> simp [h1, h2] at this ⊢
  rw [eb] at ne0
  have el : lakL [v, some (.d (.list (ns.map PyData.str))), some (.d (kD k)), none, o4] t = .ok ((k.2.filter fun f : Fd => !decide (f.2 = ("int" : Str)) && !decide (f.2 ∈ ns)).map fD) [v, some (.d (.list (ns.map PyData.str))), some (.d (kD k)), none, o4] t := lc
  unfold lakB
  generalize (k.2.filter fun f : Fd => !decide (f.2 = ("int" : Str)) && !decide (f.2 ∈ ns)).map fD = LL at *
  generalize lakL = LC at *
  generalize (k.2.all fun f : Fd => decide (f.2 = ("int" : Str)) || decide (f.2 ∈ ns)) = AA at *
  generalize ns.map PyData.str = NN at *
  cases AA <;> simp [M.bind, M.ret, M.st, mT, mOp, mVar, mK, use, keep, lft, boolOf, optM, mCB, useAll, mCons, mNil, mTup, mLst, mFz, keepD, mSeq, mRet, mIfS, mAnd, mOr, mNot, mAndV, mOrV, mNotV, mIfE, mCall, keepAll, runF, mAsg, aName, mNx, mChain, fnM, startR, isiF, isT, isTN, askT, tyN, isF, asks, truD, mTru, truS, isNoneD, isBoolD, mRaise, raiseM, oneD, mDrop, aTup, aCons, aNil, twoK, mPar, mU1, mM1, strOf, List.replicate, el, ne0]
theorem lak_loop (v : Option Sl) (ns : List Str) (o4 : Option Sl) (t : Option Deal) : ∀ (ks : List Kd) (o : Option Sl), (∀ k ∈ ks, (∀ f ∈ k.2, fine (fD f) = true) ∧ k.2.length ≤ 12) → ∃ o', forL (aName 2) lakB (ks.map fun k => Sl.d (kD k)) [v, some (.d (.list (ns.map PyData.str))), o, none, o4] t = .ok (if (ks.all fun k => k.2.all fun f : Fd => decide (f.2 = ("int" : Str)) || decide (f.2 ∈ ns)) then .nx else .rt (.d (.bool false))) [v, some (.d (.list (ns.map PyData.str))), o', none, o4] t
  | [], o, _ => ⟨o, rfl⟩
  | k :: ks, o, h => by
    have e1 := lak_one v ns k o4 t (h k List.mem_cons_self).1 (h k List.mem_cons_self).2
    cases hx : (k.2.all fun f : Fd => decide (f.2 = ("int" : Str)) || decide (f.2 ∈ ns)) with
    | true =>
      obtain ⟨o', e2⟩ := lak_loop v ns o4 t ks (some (.d (kD k))) fun y hy => h y (List.mem_cons_of_mem _ hy)
      refine ⟨o', ?_⟩
      rw [hx, if_pos rfl] at e1
      rw [List.map_cons, List.all_cons, hx, Bool.true_and]
      rw [← e2]
      exact forL_cons (r1 := [v, some (.d (.list (ns.map PyData.str))), some (.d (kD k)), none, o4]) (t1 := t) rfl e1
    | false =>
      refine ⟨some (.d (kD k)), ?_⟩
      rw [hx, if_neg Bool.false_ne_true] at e1
      rw [List.map_cons, List.all_cons, hx, Bool.false_and]
      unfold forL
      have es : ([v, some (.d (.list (ns.map PyData.str))), o, none, o4] : Rho).set 2 (some (.d (kD k))) = [v, some (.d (.list (ns.map PyData.str))), some (.d (kD k)), none, o4] := rfl
      simp only [M.bind, aName, es, e1]
      rfl
theorem e_lkinds : ∀ xs t, F__law_are_kinds xs t ≠ .st → fnM 5 (m__law_are_kinds F__law_is_kind) xs t = F__law_are_kinds xs t := by
  intro xs t h
  unfold F__law_are_kinds F_are_kinds at h ⊢
  split at h
  · rename_i v
    by_cases hf : fine v = true
    · simp only [hf, if_true]
      have ed : m__law_are_kinds F__law_is_kind = (mSeq (mIfS (mOr (mNot (mTru (mCB isiF (mCons (mVar [] 0) (mCons (mK (.raw (.ty "tuple"))) mNil))))) (mOr (mT (mOp gtF (mCB lenF (mCons (mVar [] 0) mNil)) (mK (.d (.int 40))))) (mT (mOp neF (mFz (mLc (mIter (mVar [] 0)) [3] (aName 3) (mNot (mTru (mCall 1 F__law_is_kind (mCons (mVar [] 3) mNil)))) (mVar [] 3))) (mFz (mLst mNil)))))) (mRet (mK (.d (.bool false)))) mNx) (mSeq (mAsg (aName 1) (mFz (mLc (mIter (mVar [] 0)) [3] (aName 3) (M.ret true) (mOp atF (mVar [] 3) (mK (.d (.int 1))))))) (mSeq (mIfS (mT (mOp neF (mCB sortDF (mCons (mFz (mLc (mIter (mVar [] 1)) [4] (aName 4) (M.ret true) (mTup (mCons (mVar [] 4) (mCons (mK (.d (.int 1))) mNil))))) mNil)) (mVar [] 1))) (mRet (mK (.d (.bool false)))) mNx) (mSeq (mFor (mIter (mVar [] 0)) (aName 2) lakB) (mRet (mK (.d (.bool true)))))))) := rfl
      rw [ed]
      cases v with
      | tuple vs =>
        obtain ⟨hv, hvl⟩ := fine_tup hf
        have lB : lenF [.d (.tuple vs)] = some (.d (.int (vs.length : Nat))) := rfl
        have e1 := len_gt vs.length 40 40 rfl
        have lcA := row_lc (test := mNot (mTru (mCall 1 F__law_is_kind (mCons (mVar [] 3) mNil)))) (elt := mVar [] 3) (p := fun x => !(unKind x).isSome) (g := fun x => x) (vs := vs) (r := [some (.d (.tuple vs)), none, none, none, none]) (t := t) (i := 3) (j := 0) rfl rfl (Nat.lt_of_lt_of_le (by decide : 3 < 5) (Nat.le_refl _)) (by omega) (fun x hx => by
          have := lkind_call (hv x hx) t
          generalize (unKind x).isSome = b at this
          cases b <;> simp [M.bind, M.ret, M.st, mT, mOp, mVar, mK, use, keep, lft, boolOf, optM, mCB, useAll, mCons, mNil, mTup, mLst, mFz, keepD, mSeq, mRet, mIfS, mAnd, mOr, mNot, mAndV, mOrV, mNotV, mIfE, mCall, keepAll, runF, mAsg, aName, mNx, mChain, fnM, startR, isiF, isT, isTN, askT, tyN, isF, asks, truD, mTru, truS, isNoneD, isBoolD, mRaise, raiseM, oneD, mDrop, aTup, aCons, aNil, twoK, mPar, mU1, mM1, strOf, List.replicate, this]) (fun x hx _ => by simp [mVar])
        rw [List.map_id'] at lcA
        have hlay : ∀ x ∈ vs.filter (fun x => !(unKind x).isSome), fine x = true := fun x hx => hv x (List.mem_filter.mp hx).1
        by_cases h40 : vs.length ≤ 40
        · rw [decide_eq_false (by omega)] at e1
          have shA : SeqAt.shaped (.list (vs.filter (fun x => !(unKind x).isSome))) = true := by
            -- parts of what is fine, no deeper than it
            have hs := fine_shaped hf
            unfold SeqAt.shaped at hs ⊢
            rw [Bool.and_eq_true, decide_eq_true_iff] at hs
            rw [Bool.and_eq_true]
            have sub : ∀ l : List PyData, PyData.canLayAll0 l = true → PyData.canLayAll0 (l.filter fun x => !(unKind x).isSome) = true ∧ PyData.depthAll (l.filter fun x => !(unKind x).isSome) ≤ PyData.depthAll l := by
              intro l
              induction l with
              | nil => intro _; exact ⟨rfl, Nat.le_refl _⟩
              | cons x l ih =>
                intro hc
                unfold PyData.canLayAll0 at hc
                rw [Bool.and_eq_true] at hc
                obtain ⟨i1, i2⟩ := ih hc.2
                rw [List.filter_cons]
                split
                · refine ⟨?_, ?_⟩
                  · unfold PyData.canLayAll0
                    rw [hc.1, i1]
                    rfl
                  · unfold PyData.depthAll
                    omega
                · refine ⟨i1, ?_⟩
                  conv => rhs; unfold PyData.depthAll
                  omega
            obtain ⟨s1, s2⟩ := sub vs hs.1
            refine ⟨s1, decide_eq_true ?_⟩
            have d1 : (PyData.tuple vs).depth = PyData.depthAll vs + 1 := rfl
            show PyData.depthAll _ + 1 ≤ 64
            omega
          have neA := ne_nil_list _ shA
          have ebA : (!(vs.filter (fun x => !(unKind x).isSome)).isEmpty) = !(vs.all (fun x => (unKind x).isSome)) := by
            congr 1
            rw [Bool.eq_iff_iff, List.isEmpty_iff, List.filter_eq_nil_iff, List.all_eq_true]
            constructor
            · intro q x hx
              have := q x hx
              cases hh : (unKind x).isSome with
              | true => rfl
              | false => rw [hh] at this; exact absurd rfl this
            · intro q x hx
              rw [q x hx]
              exact Bool.false_ne_true
          rw [ebA] at neA
          by_cases hall : vs.all (fun x => (unKind x).isSome) = true
          · rw [hall] at neA
            obtain ⟨ks, hks⟩ := allSome_all hall
            obtain ⟨ev, _⟩ := allSome_ok (g := kD) (fun x y q => (unKind_ok q).1) hks
            have fin : (unKinds (.tuple vs)).isSome = (ascL (ks.map (·.1)) && typesOk ks) := by
              unfold unKinds
              simp only [if_pos h40, hks]
              cases ascL (ks.map (·.1)) && typesOk ks <;> rfl
            rw [fin]
            have hkl : ks.length ≤ 40 := by
              have := congrArg List.length ev
              rw [List.length_map] at this
              omega
            have hfk : ∀ k ∈ ks, fine (kD k) = true := fun k hk => hv _ (by rw [ev]; exact List.mem_map_of_mem hk)
            have hfn : ∀ k ∈ ks, PyData.strOk k.1 = true := fun k hk => fine_cps ((fine_tup (hfk k hk)).1 (.str k.1) (by simp))
            have hff : ∀ k ∈ ks, (∀ f ∈ k.2, fine (fD f) = true) ∧ k.2.length ≤ 12 := fun k hk => by
              have h3 := (fine_tup (hfk k hk)).1 (.tuple (k.2.map fD)) (by simp)
              refine ⟨fun f hf2 => (fine_tup h3).1 _ (List.mem_map_of_mem hf2), ?_⟩
              have hm : kD k ∈ vs := by rw [ev]; exact List.mem_map_of_mem hk
              have hs := List.all_eq_true.mp hall _ hm
              obtain ⟨q, hq⟩ := Option.isSome_iff_exists.mp hs
              obtain ⟨q1, _, q3, _⟩ := unKind_ok hq
              have := congrArg (fun x => match x with
                | PyData.tuple [_, _, .tuple l] => l.length
                | _ => 0) q1
              simp only [kD, List.length_map] at this
              omega
            have hns : ∀ z ∈ ks.map (·.1), PyData.strOk z = true := fun z hz => by
              obtain ⟨k, hk, rfl⟩ := List.mem_map.mp hz
              exact hfn k hk
            have lcB := row_all (elt := mOp atF (mVar [] 3) (mK (.d (.int 1)))) (g := fun x => match x with
              | .tuple (_ :: a :: _) => a
              | _ => .none) (vs := vs) (r := [some (.d (.tuple vs)), none, none, none, none]) (t := t) (i := 3) (j := 0) rfl rfl (Nat.lt_of_lt_of_le (by decide : 3 < 5) (Nat.le_refl _)) (by omega) (fun x hx => by
              rw [ev] at hx
              obtain ⟨k, _, rfl⟩ := List.mem_map.mp hx
              simp [M.bind, M.ret, M.st, mT, mOp, mVar, mK, use, keep, lft, boolOf, optM, mCB, useAll, mCons, mNil, mTup, mLst, mFz, keepD, mSeq, mRet, mIfS, mAnd, mOr, mNot, mAndV, mOrV, mNotV, mIfE, mCall, keepAll, runF, mAsg, aName, mNx, mChain, fnM, startR, isiF, isT, isTN, askT, tyN, isF, asks, truD, mTru, truS, isNoneD, isBoolD, mRaise, raiseM, oneD, mDrop, aTup, aCons, aNil, twoK, mPar, mU1, mM1, strOf, List.replicate, kD, atF, L2.atI, L2.ixN])
            have em : (vs.map fun x => match x with
              | .tuple (_ :: a :: _) => a
              | _ => PyData.none) = (ks.map (·.1)).map PyData.str := by
              rw [ev, List.map_map, List.map_map]
              rfl
            rw [em] at lcB
            have lcC := row_all (elt := mTup (mCons (mVar [] 4) (mCons (mK (.d (.int 1))) mNil))) (g := fun x => .tuple [x, .int 1]) (v := .list ((ks.map (·.1)).map PyData.str)) (vs := (ks.map (·.1)).map PyData.str) (r := [some (.d (.tuple vs)), some (.d (.list ((ks.map (·.1)).map PyData.str))), none, none, none]) (t := t) (i := 4) (j := 1) rfl rfl (Nat.lt_of_lt_of_le (by decide : 4 < 5) (Nat.le_refl _)) (by rw [List.length_map, List.length_map]; omega) (fun x hx => by
              generalize (ks.map (·.1)).map PyData.str = NN
              simp [M.bind, M.ret, M.st, mT, mOp, mVar, mK, use, keep, lft, boolOf, optM, mCB, useAll, mCons, mNil, mTup, mLst, mFz, keepD, mSeq, mRet, mIfS, mAnd, mOr, mNot, mAndV, mOrV, mNotV, mIfE, mCall, keepAll, runF, mAsg, aName, mNx, mChain, fnM, startR, isiF, isT, isTN, askT, tyN, isF, asks, truD, mTru, truS, isNoneD, isBoolD, mRaise, raiseM, oneD, mDrop, aTup, aCons, aNil, twoK, mPar, mU1, mM1, strOf, List.replicate])
            have emC : ((ks.map (·.1)).map PyData.str).map (fun x => PyData.tuple [x, .int 1]) = (ks.map (·.1)).map fun z => PyData.tuple [.str z, .int 1] := by
              rw [List.map_map]
              rfl
            rw [emC] at lcC
            have pk : ∀ zs : List Str, pairKs (zs.map fun z => PyData.tuple [.str z, .int 1]) = some zs := by
              intro zs
              induction zs with
              | nil => rfl
              | cons z zs ih =>
                rw [List.map_cons]
                unfold pairKs
                rw [ih]
            have ol := (once_len (ks.map (·.1)) [] List.nodup_nil).1
            simp only [List.length_nil, Nat.zero_add, List.length_map] at ol
            have ld : sortDF [.d (.list ((ks.map (·.1)).map fun z => PyData.tuple [.str z, .int 1]))] = some (.d (.list ((sortS (once [] (ks.map (·.1)))).map PyData.str))) := by
              unfold sortDF keysF
              simp only [pk]
              rw [if_pos (by omega)]
            have neC := ne_lists (a := sortS (once [] (ks.map (·.1)))) (b := ks.map (·.1)) (fun z hz => hns z (by
              have := (sortS_perm _).mem_iff.mp hz
              rcases (once_mem _ _ _).mp this with q | q
              · exact absurd q (by simp)
              · exact q)) hns
            rw [asc_sorted] at neC
            obtain ⟨o', lp⟩ := lak_loop (some (.d (.tuple vs))) (ks.map (·.1)) none t ks none hff
            have lp2 : mFor (mIter (mVar [] 0)) (aName 2) lakB [some (.d (.tuple vs)), some (.d (.list ((ks.map (·.1)).map PyData.str))), none, none, none] t = .ok (if typesOk ks then .nx else .rt (.d (.bool false))) [some (.d (.tuple vs)), some (.d (.list ((ks.map (·.1)).map PyData.str))), o', none, none] t := by
              have ei := iter_seq (j := 0) (ow := []) (r := [some (.d (.tuple vs)), some (.d (.list ((ks.map (·.1)).map PyData.str))), none, none, none]) (t := t) (v := .tuple vs) (vs := vs) rfl rfl (by simp)
              have e5 : vs.map Sl.d = ks.map fun k => Sl.d (kD k) := by
                rw [ev, List.map_map]
                rfl
              rw [e5] at ei
              unfold mFor M.bind
              rw [ei]
              exact lp
            generalize (ks.map (·.1)).map (fun z => PyData.tuple [.str z, .int 1]) = PP at lcC ld
            generalize (sortS (once [] (ks.map (·.1)))).map PyData.str = SS at ld neC
            generalize (ks.map (·.1)).map PyData.str = NN at lcB lcC neC lp2
            generalize vs.filter (fun x => !(unKind x).isSome) = FF at lcA neA
            generalize mLc (mIter (mVar [] 0)) [3] (aName 3) (mNot (mTru (mCall 1 F__law_is_kind (mCons (mVar [] 3) mNil)))) (mVar [] 3) = LA at lcA ⊢
            generalize mLc (mIter (mVar [] 0)) [3] (aName 3) (M.ret true) (mOp atF (mVar [] 3) (mK (.d (.int 1)))) = LB at lcB ⊢
            generalize mLc (mIter (mVar [] 1)) [4] (aName 4) (M.ret true) (mTup (mCons (mVar [] 4) (mCons (mK (.d (.int 1))) mNil))) = LC at lcC ⊢
            generalize mFor (mIter (mVar [] 0)) (aName 2) lakB = FO at lp2 ⊢
            generalize ascL (ks.map (·.1)) = A1 at neC ⊢
            generalize typesOk ks = A2 at lp2 ⊢
            cases A2 with
            | true =>
              rw [if_pos rfl] at lp2
              cases A1 <;> simp [M.bind, M.ret, M.st, mT, mOp, mVar, mK, use, keep, lft, boolOf, optM, mCB, useAll, mCons, mNil, mTup, mLst, mFz, keepD, mSeq, mRet, mIfS, mAnd, mOr, mNot, mAndV, mOrV, mNotV, mIfE, mCall, keepAll, runF, mAsg, aName, mNx, mChain, fnM, startR, isiF, isT, isTN, askT, tyN, isF, asks, truD, mTru, truS, isNoneD, isBoolD, mRaise, raiseM, oneD, mDrop, aTup, aCons, aNil, twoK, mPar, mU1, mM1, strOf, List.replicate, lB, e1, lcA, neA, lcB, lcC, ld, neC, lp2]
            | false =>
              rw [if_neg Bool.false_ne_true] at lp2
              cases A1 <;> simp [M.bind, M.ret, M.st, mT, mOp, mVar, mK, use, keep, lft, boolOf, optM, mCB, useAll, mCons, mNil, mTup, mLst, mFz, keepD, mSeq, mRet, mIfS, mAnd, mOr, mNot, mAndV, mOrV, mNotV, mIfE, mCall, keepAll, runF, mAsg, aName, mNx, mChain, fnM, startR, isiF, isT, isTN, askT, tyN, isF, asks, truD, mTru, truS, isNoneD, isBoolD, mRaise, raiseM, oneD, mDrop, aTup, aCons, aNil, twoK, mPar, mU1, mM1, strOf, List.replicate, lB, e1, lcA, neA, lcB, lcC, ld, neC, lp2]
          · have hall' : vs.all (fun x => (unKind x).isSome) = false := by simpa using hall
            rw [hall'] at neA
            have fin : unKinds (.tuple vs) = none := by
              unfold unKinds
              simp only [if_pos h40, allSome_none hall']
            rw [fin]
            generalize vs.filter (fun x => !(unKind x).isSome) = FF at lcA neA
            generalize mLc (mIter (mVar [] 0)) [3] (aName 3) (mNot (mTru (mCall 1 F__law_is_kind (mCons (mVar [] 3) mNil)))) (mVar [] 3) = LA at lcA ⊢
            generalize mLc (mIter (mVar [] 0)) [3] (aName 3) (M.ret true) (mOp atF (mVar [] 3) (mK (.d (.int 1)))) = LB
            generalize mLc (mIter (mVar [] 1)) [4] (aName 4) (M.ret true) (mTup (mCons (mVar [] 4) (mCons (mK (.d (.int 1))) mNil))) = LC
            generalize mFor (mIter (mVar [] 0)) (aName 2) lakB = FO
            simp [M.bind, M.ret, M.st, mT, mOp, mVar, mK, use, keep, lft, boolOf, optM, mCB, useAll, mCons, mNil, mTup, mLst, mFz, keepD, mSeq, mRet, mIfS, mAnd, mOr, mNot, mAndV, mOrV, mNotV, mIfE, mCall, keepAll, runF, mAsg, aName, mNx, mChain, fnM, startR, isiF, isT, isTN, askT, tyN, isF, asks, truD, mTru, truS, isNoneD, isBoolD, mRaise, raiseM, oneD, mDrop, aTup, aCons, aNil, twoK, mPar, mU1, mM1, strOf, List.replicate, lB, e1, lcA, neA]
        · rw [decide_eq_true (by omega)] at e1
          have fin : unKinds (.tuple vs) = none := by
            unfold unKinds
            simp only [if_neg h40]
          rw [fin]
          generalize mLc (mIter (mVar [] 0)) [3] (aName 3) (mNot (mTru (mCall 1 F__law_is_kind (mCons (mVar [] 3) mNil)))) (mVar [] 3) = LA
          generalize mLc (mIter (mVar [] 0)) [3] (aName 3) (M.ret true) (mOp atF (mVar [] 3) (mK (.d (.int 1)))) = LB
          generalize mLc (mIter (mVar [] 1)) [4] (aName 4) (M.ret true) (mTup (mCons (mVar [] 4) (mCons (mK (.d (.int 1))) mNil))) = LC
          generalize mFor (mIter (mVar [] 0)) (aName 2) lakB = FO
          simp [M.bind, M.ret, M.st, mT, mOp, mVar, mK, use, keep, lft, boolOf, optM, mCB, useAll, mCons, mNil, mTup, mLst, mFz, keepD, mSeq, mRet, mIfS, mAnd, mOr, mNot, mAndV, mOrV, mNotV, mIfE, mCall, keepAll, runF, mAsg, aName, mNx, mChain, fnM, startR, isiF, isT, isTN, askT, tyN, isF, asks, truD, mTru, truS, isNoneD, isBoolD, mRaise, raiseM, oneD, mDrop, aTup, aCons, aNil, twoK, mPar, mU1, mM1, strOf, List.replicate, lB, e1]
      | _ => rfl
    · rw [if_neg hf] at h
      exact absurd rfl h
  · exact absurd rfl h
end K01
end
section
set_option maxRecDepth 100000
set_option maxHeartbeats 4000000
namespace K01
open PySem PySem.Spec DL
theorem e_kof : ∀ xs t, F__law_kind_of xs t ≠ .st → fnM 3 m__law_kind_of xs t = F__law_kind_of xs t := by
  intro xs t h
  unfold F__law_kind_of at h ⊢
  split at h
  · rename_i v z
    cases e : unKinds v with
    | none => rw [e] at h; exact absurd rfl h
    | some ks =>
      rw [e] at h
      simp only at h ⊢
      cases en : named ks z with
      | none => rw [en] at h; exact absurd rfl h
      | some k =>
        have ev := (unKinds_ok e).1
        have hkl := (good_of e).len
        have lc := row_lc (test := mT (mOp eqF (mOp atF (mVar [] 2) (mK (.d (.int 1)))) (mVar [] 1))) (elt := mOp atF (mVar [] 2) (mK (.d (.int 2)))) (p := fun x => match x with
          | .tuple (_ :: .str y :: _) => decide (y = z)
          | _ => false) (g := fun x => match x with
          | .tuple [_, _, f] => f
          | _ => .none) (v := v) (vs := ks.map kD) (r := [some (.d v), some (.d (.str z)), none]) (t := t) (i := 2) (j := 0) (by rw [ev] <;> rfl) rfl (Nat.lt_succ_self 2) (by rw [List.length_map]; omega) (fun x hx => by
            obtain ⟨q, _, rfl⟩ := List.mem_map.mp hx
            have e1 := eq_strs q.1 z
            show _ = Out.ok (decide (q.1 = z)) _ t
            generalize decide (q.1 = z) = D at e1 ⊢
            simp [M.bind, M.ret, M.st, mT, mOp, mVar, mK, use, keep, lft, boolOf, optM, mCB, useAll, mCons, mNil, mTup, mLst, mFz, keepD, mSeq, mRet, mIfS, mAnd, mOr, mNot, mAndV, mOrV, mNotV, mIfE, mCall, keepAll, runF, mAsg, aName, mNx, mChain, fnM, startR, isiF, isT, isTN, askT, tyN, isF, asks, truD, mTru, truS, isNoneD, isBoolD, mRaise, raiseM, oneD, mDrop, aTup, aCons, aNil, twoK, mPar, mU1, mM1, strOf, List.replicate, kD, atF, L2.atI, L2.ixN, e1]) (fun x hx _ => by
            obtain ⟨q, _, rfl⟩ := List.mem_map.mp hx
            simp [M.bind, M.ret, M.st, mT, mOp, mVar, mK, use, keep, lft, boolOf, optM, mCB, useAll, mCons, mNil, mTup, mLst, mFz, keepD, mSeq, mRet, mIfS, mAnd, mOr, mNot, mAndV, mOrV, mNotV, mIfE, mCall, keepAll, runF, mAsg, aName, mNx, mChain, fnM, startR, isiF, isT, isTN, askT, tyN, isF, asks, truD, mTru, truS, isNoneD, isBoolD, mRaise, raiseM, oneD, mDrop, aTup, aCons, aNil, twoK, mPar, mU1, mM1, strOf, List.replicate, kD, atF, L2.atI, L2.ixN])
        have em : ((ks.map kD).filter fun x => match x with
          | .tuple (_ :: .str y :: _) => decide (y = z)
          | _ => false).map (fun x => match x with
          | .tuple [_, _, f] => f
          | _ => PyData.none) = (ks.filter fun q => decide (q.1 = z)).map fun q => PyData.tuple (q.2.map fD) := by
          rw [List.filter_map, List.map_map]
          rfl
        rw [em] at lc
        have hh : (ks.filter fun q => decide (q.1 = z)).head? = some k := by
          rw [← en]
          unfold named
          exact List.head?_filter ..
        obtain ⟨rest, hr⟩ : ∃ rest, (ks.filter fun q => decide (q.1 = z)) = k :: rest := by
          cases hq : ks.filter fun q => decide (q.1 = z) with
          | nil => rw [hq] at hh; cases hh
          | cons a r => rw [hq] at hh; cases hh; exact ⟨r, rfl⟩
        rw [hr, List.map_cons] at lc
        simp only [m__law_kind_of]
        generalize mLc (mIter (mVar [] 0)) [2] (aName 2) (mT (mOp eqF (mOp atF (mVar [] 2) (mK (.d (.int 1)))) (mVar [] 1))) (mOp atF (mVar [] 2) (mK (.d (.int 2)))) = LC at lc ⊢
        simp [M.bind, M.ret, M.st, mT, mOp, mVar, mK, use, keep, lft, boolOf, optM, mCB, useAll, mCons, mNil, mTup, mLst, mFz, keepD, mSeq, mRet, mIfS, mAnd, mOr, mNot, mAndV, mOrV, mNotV, mIfE, mCall, keepAll, runF, mAsg, aName, mNx, mChain, fnM, startR, isiF, isT, isTN, askT, tyN, isF, asks, truD, mTru, truS, isNoneD, isBoolD, mRaise, raiseM, oneD, mDrop, aTup, aCons, aNil, twoK, mPar, mU1, mM1, strOf, List.replicate, lc, atF, L2.atI, L2.ixN]
  · exact absurd rfl h
theorem kof_call {v : PyData} {ks : List Kd} {z : Str} {k : Kd} (h : unKinds v = some ks) (hk : named ks z = some k) (t : Option Deal) : F__law_kind_of [.d v, .d (.str z)] t = .ok (.d (.tuple (k.2.map fD))) t := by
  unfold F__law_kind_of
  simp only [h, hk]
noncomputable def lwI : M (List Sl) := (mIter (mCB sortDF (mCons (mFz (mLc (mIter (mCall 2 F__law_kind_of (mCons (mVar [] 0) (mCons (mVar [] 4) mNil)))) [6, 5] (aTup 2 (aCons (aName 6) (aCons (aName 5) aNil))) (M.ret true) (mTup (mCons (mVar [] 5) (mCons (mK (.d (.int 1))) mNil))))) mNil)))
noncomputable def lwT : M Bool := (mAnd (mT (mOp neF (mVar [] 5) (mK (.d (.str "int"))))) (mT (mOp (inF true) (mVar [] 5) (mVar [] 2))))
noncomputable def lwB : M Fl := (mAsg (aName 2) (mOp addF (mVar [] 2) (mFz (mLc lwI [5] (aName 5) lwT (mVar [] 5)))))
/-- the state of the law's loops -/
abbrev lwS (v : PyData) (z : Sl) (found : List Str) (o3 o4 o5 o6 : Option Sl) : Rho := [some (.d v), some z, some (.d (.list (found.map PyData.str))), o3, o4, o5, o6]
theorem lwI_e {v : PyData} {ks : List Kd} (h : unKinds v = some ks) (z : Sl) (found : List Str) (o3 : Option Sl) (x : Str) {k : Kd} (hk : named ks x = some k) (o5 o6 : Option Sl) (t : Option Deal) : lwI (lwS v z found o3 (some (.d (.str x))) o5 o6) t = .ok ((sortS (once [] (k.2.map (·.2)))).map fun y => Sl.d (.str y)) (lwS v z found o3 (some (.d (.str x))) o5 o6) t := by
  have G := good_of h
  have k12 := G.fld k (named_mem hk).1
  have e1 := kof_call h hk t
  have hit : mIter (mCall 2 F__law_kind_of (mCons (mVar [] 0) (mCons (mVar [] 4) mNil))) (lwS v z found o3 (some (.d (.str x))) o5 o6) t = .ok ((k.2.map fun f => (PyData.str f.1, PyData.str f.2)).map pairS) (lwS v z found o3 (some (.d (.str x))) o5 o6) t := by
    have e2 : (k.2.map fD).map Sl.d = (k.2.map fun f => (PyData.str f.1, PyData.str f.2)).map pairS := by
      rw [List.map_map, List.map_map]
      rfl
    unfold lwS
    generalize found.map PyData.str = FF
    rw [← e2]
    simp [mIter, itemsOf, M.bind, M.ret, M.st, mT, mOp, mVar, mK, use, keep, lft, boolOf, optM, mCB, useAll, mCons, mNil, mTup, mLst, mFz, keepD, mSeq, mRet, mIfS, mAnd, mOr, mNot, mAndV, mOrV, mNotV, mIfE, mCall, keepAll, runF, mAsg, aName, mNx, mChain, fnM, startR, isiF, isT, isTN, askT, tyN, isF, asks, truD, mTru, truS, isNoneD, isBoolD, mRaise, raiseM, oneD, mDrop, aTup, aCons, aNil, twoK, mPar, mU1, mM1, strOf, List.replicate, e1]
  have lc := lc2v (mi := mIter (mCall 2 F__law_kind_of (mCons (mVar [] 0) (mCons (mVar [] 4) mNil)))) (i := 6) (j := 5) (test := M.ret true) (elt := mTup (mCons (mVar [] 5) (mCons (mK (.d (.int 1))) mNil))) (p := fun _ => true) (g := fun q => .tuple [q.2, .int 1]) (by decide) hit (by rw [List.length_map]; omega) (show 6 < 7 by decide) (show 5 < 7 by decide) (fun _ _ => rfl) (fun d hd _ => by
    unfold lwS
    generalize found.map PyData.str = FF
    simp [M.bind, M.ret, M.st, mT, mOp, mVar, mK, use, keep, lft, boolOf, optM, mCB, useAll, mCons, mNil, mTup, mLst, mFz, keepD, mSeq, mRet, mIfS, mAnd, mOr, mNot, mAndV, mOrV, mNotV, mIfE, mCall, keepAll, runF, mAsg, aName, mNx, mChain, fnM, startR, isiF, isT, isTN, askT, tyN, isF, asks, truD, mTru, truS, isNoneD, isBoolD, mRaise, raiseM, oneD, mDrop, aTup, aCons, aNil, twoK, mPar, mU1, mM1, strOf, List.replicate])
  rw [List.filter_eq_self.mpr fun _ _ => rfl] at lc
  have em : (k.2.map fun f => (PyData.str f.1, PyData.str f.2)).map (fun q => PyData.tuple [q.2, .int 1]) = (k.2.map (·.2)).map fun y => PyData.tuple [.str y, .int 1] := by
    rw [List.map_map, List.map_map]
    rfl
  rw [em] at lc
  have pk : ∀ zs : List Str, pairKs (zs.map fun z => PyData.tuple [.str z, .int 1]) = some zs := by
    intro zs
    induction zs with
    | nil => rfl
    | cons z zs ih =>
      rw [List.map_cons]
      unfold pairKs
      rw [ih]
  have ol := (once_len (k.2.map (·.2)) [] List.nodup_nil).1
  simp only [List.length_nil, Nat.zero_add, List.length_map] at ol
  have ld : sortDF [.d (.list ((k.2.map (·.2)).map fun z => PyData.tuple [.str z, .int 1]))] = some (.d (.list ((sortS (once [] (k.2.map (·.2)))).map PyData.str))) := by
    unfold sortDF keysF
    simp only [pk]
    rw [if_pos (by omega)]
  have e4 : ((sortS (once [] (k.2.map (·.2)))).map PyData.str).map Sl.d = (sortS (once [] (k.2.map (·.2)))).map fun y => Sl.d (.str y) := by
    rw [List.map_map]
    rfl
  rw [← e4]
  generalize (k.2.map (·.2)).map (fun y => PyData.tuple [.str y, .int 1]) = PP at lc ld
  generalize (sortS (once [] (k.2.map (·.2)))).map PyData.str = SS at ld ⊢
  unfold lwI
  generalize mLc (mIter (mCall 2 F__law_kind_of (mCons (mVar [] 0) (mCons (mVar [] 4) mNil)))) [6, 5] (aTup 2 (aCons (aName 6) (aCons (aName 5) aNil))) (M.ret true) (mTup (mCons (mVar [] 5) (mCons (mK (.d (.int 1))) mNil))) = LC at lc ⊢
  generalize lwS v z found o3 (some (.d (.str x))) o5 o6 = R at lc ⊢
  simp [mIter, itemsOf, M.bind, M.ret, M.st, mT, mOp, mVar, mK, use, keep, lft, boolOf, optM, mCB, useAll, mCons, mNil, mTup, mLst, mFz, keepD, mSeq, mRet, mIfS, mAnd, mOr, mNot, mAndV, mOrV, mNotV, mIfE, mCall, keepAll, runF, mAsg, aName, mNx, mChain, fnM, startR, isiF, isT, isTN, askT, tyN, isF, asks, truD, mTru, truS, isNoneD, isBoolD, mRaise, raiseM, oneD, mDrop, aTup, aCons, aNil, twoK, mPar, mU1, mM1, strOf, List.replicate, lc, ld]
theorem lawOne_eq {ks : List Kd} {x : Str} {k : Kd} (hk : named ks x = some k) (found : List Str) : lawOne ks found x = found ++ (sortS (once [] (k.2.map (·.2)))).filter fun s : Str => decide (s ≠ ("int" : Str)) && !decide (s ∈ found) := by
  unfold lawOne
  rw [hk]
theorem lwB_e {v : PyData} {ks : List Kd} (h : unKinds v = some ks) (z : Sl) (found : List Str) (o3 : Option Sl) (x : Str) {k : Kd} (hk : named ks x = some k) (o5 o6 : Option Sl) (t : Option Deal) (hl : found.length ≤ 1000) : lwB (lwS v z found o3 (some (.d (.str x))) o5 o6) t = .ok .nx (lwS v z (lawOne ks found x) o3 (some (.d (.str x))) o5 o6) t := by
  have G := good_of h
  have k12 := G.fld k (named_mem hk).1
  have ol := (once_len (k.2.map (·.2)) [] List.nodup_nil).1
  simp only [List.length_nil, Nat.zero_add, List.length_map] at ol
  have sl : (sortS (once [] (k.2.map (·.2)))).length ≤ 12 := by
    rw [(sortS_perm _).length_eq]
    omega
  have hit := lwI_e h z found o3 x hk o5 o6 t
  have lc := lc1 (mi := lwI) (i := 5) (test := lwT) (elt := mVar [] 5) (r := lwS v z found o3 (some (.d (.str x))) o5 o6) (t := t) (p := fun d => match d with
    | .d (.str y) => decide (y ≠ ("int" : Str)) && !decide (y ∈ found)
    | _ => false) (g := fun d => match d with
    | .d x => x
    | _ => .none) (ds := (sortS (once [] (k.2.map (·.2)))).map fun y => Sl.d (.str y)) hit (by rw [List.length_map]; omega) (show 5 < 7 by decide) (fun d hd => by
      obtain ⟨y, _, rfl⟩ := List.mem_map.mp hd
      have e1 := ne_strs y "int"
      have e2 := nin_lst y found
      show lwT _ t = .ok (decide (y ≠ ("int" : Str)) && !decide (y ∈ found)) _ t
      by_cases h1 : y = ("int" : Str)
      · rw [decide_eq_true h1] at e1
        have fin : (decide (y ≠ ("int" : Str)) && !decide (y ∈ found)) = false := by rw [decide_eq_false (not_not_intro h1)]; rfl
        rw [fin]
        unfold lwS
        generalize found.map PyData.str = FF at *
        simp [lwT, M.bind, M.ret, M.st, mT, mOp, mVar, mK, use, keep, lft, boolOf, optM, mCB, useAll, mCons, mNil, mTup, mLst, mFz, keepD, mSeq, mRet, mIfS, mAnd, mOr, mNot, mAndV, mOrV, mNotV, mIfE, mCall, keepAll, runF, mAsg, aName, mNx, mChain, fnM, startR, isiF, isT, isTN, askT, tyN, isF, asks, truD, mTru, truS, isNoneD, isBoolD, mRaise, raiseM, oneD, mDrop, aTup, aCons, aNil, twoK, mPar, mU1, mM1, strOf, List.replicate, e1]
      · rw [decide_eq_false h1] at e1
        have fin : (decide (y ≠ ("int" : Str)) && !decide (y ∈ found)) = !decide (y ∈ found) := by rw [decide_eq_true (show y ≠ ("int" : Str) from h1)]; rfl
        rw [fin]
        unfold lwS
        generalize decide (y ∈ found) = DD at *
        generalize found.map PyData.str = FF at *
        simp [lwT, M.bind, M.ret, M.st, mT, mOp, mVar, mK, use, keep, lft, boolOf, optM, mCB, useAll, mCons, mNil, mTup, mLst, mFz, keepD, mSeq, mRet, mIfS, mAnd, mOr, mNot, mAndV, mOrV, mNotV, mIfE, mCall, keepAll, runF, mAsg, aName, mNx, mChain, fnM, startR, isiF, isT, isTN, askT, tyN, isF, asks, truD, mTru, truS, isNoneD, isBoolD, mRaise, raiseM, oneD, mDrop, aTup, aCons, aNil, twoK, mPar, mU1, mM1, strOf, List.replicate, e1, e2]) (fun d hd _ => by
      obtain ⟨y, _, rfl⟩ := List.mem_map.mp hd
      rfl)
  have em : (((sortS (once [] (k.2.map (·.2)))).map fun y => Sl.d (.str y)).filter fun d => match d with
    | .d (.str y) => decide (y ≠ ("int" : Str)) && !decide (y ∈ found)
    | _ => false).map (fun d => match d with
    | .d x => x
    | _ => PyData.none) = ((sortS (once [] (k.2.map (·.2)))).filter fun s : Str => decide (s ≠ ("int" : Str)) && !decide (s ∈ found)).map PyData.str := by
    rw [List.filter_map, List.map_map]
    rfl
  rw [em] at lc
  have fl : ((sortS (once [] (k.2.map (·.2)))).filter fun s : Str => decide (s ≠ ("int" : Str)) && !decide (s ∈ found)).length ≤ 12 := Nat.le_trans (List.length_filter_le _ _) sl
  have ea : addF (.d (.list (found.map PyData.str))) (.d (.list (((sortS (once [] (k.2.map (·.2)))).filter fun s : Str => decide (s ≠ ("int" : Str)) && !decide (s ∈ found)).map PyData.str))) = some (.d (.list ((lawOne ks found x).map PyData.str))) := by
    unfold addF
    simp only
    rw [if_pos (by rw [List.length_map, List.length_map]; omega), lawOne_eq hk, List.map_append]
  generalize ((sortS (once [] (k.2.map (·.2)))).filter fun s : Str => decide (s ≠ ("int" : Str)) && !decide (s ∈ found)).map PyData.str = NN at lc ea
  unfold lwB
  generalize mLc lwI [5] (aName 5) lwT (mVar [] 5) = LC at lc ⊢
  unfold lwS at lc ⊢
  generalize (lawOne ks found x).map PyData.str = WW at ea ⊢
  generalize found.map PyData.str = FF at lc ea ⊢
  simp [M.bind, M.ret, M.st, mT, mOp, mVar, mK, use, keep, lft, boolOf, optM, mCB, useAll, mCons, mNil, mTup, mLst, mFz, keepD, mSeq, mRet, mIfS, mAnd, mOr, mNot, mAndV, mOrV, mNotV, mIfE, mCall, keepAll, runF, mAsg, aName, mNx, mChain, fnM, startR, isiF, isT, isTN, askT, tyN, isF, asks, truD, mTru, truS, isNoneD, isBoolD, mRaise, raiseM, oneD, mDrop, aTup, aCons, aNil, twoK, mPar, mU1, mM1, strOf, List.replicate, lc, ea]
/-- what a round keeps -/
structure Fnd (ks : List Kd) (found : List Str) : Prop where
  nd : found.Nodup
  nm : ∀ x ∈ found, ∃ k, named ks x = some k
theorem Fnd.len {ks : List Kd} {found : List Str} (f : Fnd ks found) : found.length ≤ ks.length := by
  have := nodup_len f.nd (m := ks.map (·.1)) fun x hx => by
    obtain ⟨k, hk⟩ := f.nm x hx
    rw [← (named_mem hk).2]
    exact List.mem_map_of_mem (named_mem hk).1
  rwa [List.length_map] at this
theorem Fnd.one {ks : List Kd} (G : Good ks) {found : List Str} (f : Fnd ks found) {x : Str} {k : Kd} (hk : named ks x = some k) : Fnd ks (lawOne ks found x) := by
  rw [lawOne_eq hk]
  refine ⟨?_, fun y hy => ?_⟩
  · rw [List.nodup_append]
    refine ⟨f.nd, ?_, fun a ha b hb q => ?_⟩
    · exact ((sortS_perm _).nodup_iff.mpr (once_nodup _ [] List.nodup_nil)).filter _
    · have hb2 := (List.mem_filter.mp hb).2
      rw [Bool.and_eq_true, Bool.not_eq_true', decide_eq_false_iff_not] at hb2
      exact hb2.2 (q ▸ ha)
  · rcases List.mem_append.mp hy with hy | hy
    · exact f.nm y hy
    · obtain ⟨h1, h2⟩ := List.mem_filter.mp hy
      rw [Bool.and_eq_true, decide_eq_true_iff] at h2
      have h3 := (once_mem _ _ _).mp ((sortS_perm _).mem_iff.mp h1)
      rcases h3 with h3 | h3
      · exact absurd h3 (by simp)
      · rcases G.typ k (named_mem hk).1 y h3 with q | q
        · exact absurd q h2.1
        · exact q
theorem lw_round {v : PyData} {ks : List Kd} (h : unKinds v = some ks) (z : Sl) (o3 : Option Sl) (t : Option Deal) : ∀ (todo found : List Str) (o4 o5 o6 : Option Sl), Fnd ks found → (∀ x ∈ todo, ∃ k, named ks x = some k) → Fnd ks (todo.foldl (lawOne ks) found) ∧ ∃ o4', forL (aName 4) lwB (todo.map fun y => Sl.d (.str y)) (lwS v z found o3 o4 o5 o6) t = .ok .nx (lwS v z (todo.foldl (lawOne ks) found) o3 o4' o5 o6) t
  | [], found, o4, o5, o6, f, _ => ⟨f, o4, rfl⟩
  | x :: todo, found, o4, o5, o6, f, hn => by
    obtain ⟨k, hk⟩ := hn x List.mem_cons_self
    have G := good_of h
    have fl := f.len
    have kl := G.len
    have e1 := lwB_e h z found o3 x hk o5 o6 t (by omega)
    obtain ⟨f2, o4', e2⟩ := lw_round h z o3 t todo (lawOne ks found x) (some (.d (.str x))) o5 o6 (f.one G hk) fun y hy => hn y (List.mem_cons_of_mem _ hy)
    refine ⟨f2, o4', ?_⟩
    rw [List.map_cons, List.foldl_cons, ← e2]
    exact forL_cons (r1 := lwS v z found o3 (some (.d (.str x))) o5 o6) (t1 := t) rfl e1
noncomputable def lwR : M Fl := (mFor (mIter (mOp addF (mFz (mLst (mCons (mVar [] 1) mNil))) (mVar [] 2))) (aName 4) lwB)
theorem lwR_e {v : PyData} {ks : List Kd} (h : unKinds v = some ks) {z : Str} {k : Kd} (hz : named ks z = some k) (found : List Str) (o3 o4 o5 o6 : Option Sl) (t : Option Deal) (f : Fnd ks found) : Fnd ks (lawTurn ks z found) ∧ ∃ o4', lwR (lwS v (.d (.str z)) found o3 o4 o5 o6) t = .ok .nx (lwS v (.d (.str z)) (lawTurn ks z found) o3 o4' o5 o6) t := by
  have fl := f.len
  have kl := (good_of h).len
  obtain ⟨f2, o4', e⟩ := lw_round h (.d (.str z)) o3 t (z :: found) found o4 o5 o6 f fun x hx => by
    rcases List.mem_cons.mp hx with rfl | hx
    · exact ⟨k, hz⟩
    · exact f.nm x hx
  refine ⟨f2, o4', ?_⟩
  have ei : mIter (mOp addF (mFz (mLst (mCons (mVar [] 1) mNil))) (mVar [] 2)) (lwS v (.d (.str z)) found o3 o4 o5 o6) t = .ok ((z :: found).map fun y => Sl.d (.str y)) (lwS v (.d (.str z)) found o3 o4 o5 o6) t := by
    have ea : addF (.d (.list [.str z])) (.d (.list (found.map PyData.str))) = some (.d (.list ((z :: found).map PyData.str))) := by
      unfold addF
      simp only
      rw [if_pos (by simp; omega)]
      rfl
    have e4 : ((z :: found).map PyData.str).map Sl.d = (z :: found).map fun y => Sl.d (.str y) := by
      rw [List.map_map]
      rfl
    rw [← e4]
    generalize (z :: found).map PyData.str = ZZ at ea ⊢
    unfold lwS
    generalize found.map PyData.str = FF at ea ⊢
    simp [mIter, itemsOf, M.bind, M.ret, M.st, mT, mOp, mVar, mK, use, keep, lft, boolOf, optM, mCB, useAll, mCons, mNil, mTup, mLst, mFz, keepD, mSeq, mRet, mIfS, mAnd, mOr, mNot, mAndV, mOrV, mNotV, mIfE, mCall, keepAll, runF, mAsg, aName, mNx, mChain, fnM, startR, isiF, isT, isTN, askT, tyN, isF, asks, truD, mTru, truS, isNoneD, isBoolD, mRaise, raiseM, oneD, mDrop, aTup, aCons, aNil, twoK, mPar, mU1, mM1, strOf, List.replicate, ea]
  unfold lwR mFor M.bind
  rw [ei]
  exact e
theorem lw_turns {v : PyData} {ks : List Kd} (h : unKinds v = some ks) {z : Str} {k : Kd} (hz : named ks z = some k) (t : Option Deal) : ∀ (ds : List Sl) (found : List Str) (o3 o4 o5 o6 : Option Sl), Fnd ks found → Fnd ks (lawWithin ks z ds.length found) ∧ ∃ o3' o4', forL (aName 3) lwR ds (lwS v (.d (.str z)) found o3 o4 o5 o6) t = .ok .nx (lwS v (.d (.str z)) (lawWithin ks z ds.length found) o3' o4' o5 o6) t
  | [], found, o3, o4, o5, o6, f => ⟨f, o3, o4, rfl⟩
  | d :: ds, found, o3, o4, o5, o6, f => by
    obtain ⟨f1, o4a, e1⟩ := lwR_e h hz found (some d) o4 o5 o6 t f
    obtain ⟨f2, o3', o4', e2⟩ := lw_turns h hz t ds (lawTurn ks z found) (some d) o4a o5 o6 f1
    refine ⟨f2, o3', o4', ?_⟩
    rw [List.length_cons]
    unfold lawWithin
    rw [← e2]
    exact forL_cons (r1 := lwS v (.d (.str z)) found (some d) o4 o5 o6) (t1 := t) rfl e1
end K01
end
section
set_option maxRecDepth 100000
set_option maxHeartbeats 4000000
namespace K01
open PySem PySem.Spec DL
theorem lw_ed : m__law_within F__law_kind_of = (mSeq (mAsg (aName 2) (mFz (mLst mNil))) (mSeq (mFor (mRange rng1 (mCons (mOp addF (mCB lenF (mCons (mVar [] 0) mNil)) (mK (.d (.int 1)))) mNil)) (aName 3) lwR) (mRet (mCB tupF (mCons (mCB sortF (mCons (mVar [] 2) mNil)) mNil))))) := rfl
theorem lw_for {N0 N1 : Int} {RG : List Sl} {v z : Sl} {t : Option Deal} {BB : M Fl} {RR : Rho} (lB : lenF [v] = some (.d (.int N0))) (ea : addF (.d (.int N0)) (.d (.int 1)) = some (.d (.int N1))) (hrg : rng1 [.d (.int N1)] = some RG)
    (el : forL (aName 3) BB RG [some v, some z, some (.d (.list [])), none, none, none, none] t = .ok .nx RR t) :
    mFor (mRange rng1 (mCons (mOp addF (mCB lenF (mCons (mVar [] 0) mNil)) (mK (.d (.int 1)))) mNil)) (aName 3) BB [some v, some z, some (.d (.list [])), none, none, none, none] t = .ok .nx RR t := by
  have hr0 : ([some v, some z, some (.d (.list [])), none, none, none, none] : Rho)[0]? = some (some v) := rfl
  generalize [some v, some z, some (.d (.list [])), none, none, none, none] = R0 at *
  have m1 : mCB lenF (mCons (mVar [] 0) mNil) R0 t = .ok (.v (.d (.int N0))) R0 t := by
    simp [mCB, mCons, mNil, M.bind, M.ret, mVar, hr0, useAll, use, lB, lft]
  generalize mCB lenF (mCons (mVar [] 0) mNil) = X1 at m1 ⊢
  have m2 : mOp addF X1 (mK (.d (.int 1))) R0 t = .ok (.v (.d (.int N1))) R0 t := by
    simp [mOp, mK, M.bind, M.ret, m1, use, ea, lft]
  generalize mOp addF X1 (mK (.d (.int 1))) = X2 at m2 ⊢
  generalize rng1 = RF at hrg ⊢
  have m3 : mRange RF (mCons X2 mNil) R0 t = .ok RG R0 t := by
    simp [mRange, mCons, mNil, M.bind, M.ret, m2, useAll, use, optM, hrg]
  unfold mFor M.bind
  rw [m3]
  exact el
theorem e_lwithin : ∀ xs t, F__law_within xs t ≠ .st → fnM 7 (m__law_within F__law_kind_of) xs t = F__law_within xs t := by
  intro xs t h
  unfold F__law_within at h ⊢
  split at h
  · rename_i v z
    cases e : unKinds v with
    | none => rw [e] at h; exact absurd rfl h
    | some ks =>
      rw [e] at h
      simp only at h ⊢
      cases en : named ks z with
      | none => rw [en] at h; exact absurd rfl h
      | some k =>
        have kl := (good_of e).len
        have hz : (rangeS 0 (ks.length + 1)).length = ks.length + 1 := by simp [rangeS]
        obtain ⟨f, o3', o4', el⟩ := lw_turns e en t (rangeS 0 (ks.length + 1)) [] none none none none ⟨List.nodup_nil, by simp⟩
        rw [hz] at f el
        have fl := f.len
        rw [lw_ed]
        have ev := (unKinds_ok e).1
        have lB : lenF [.d v] = some (.d (.int (ks.length : Nat))) := by
          rw [ev]
          unfold ksD lenF
          simp
        have hrg : rng1 [.d (.int ((ks.length : Nat) + 1))] = some (rangeS 0 (ks.length + 1)) := by
          unfold rng1
          simp only
          rw [if_pos ⟨by omega, by omega⟩, show (((ks.length : Nat) : Int) + 1).toNat = ks.length + 1 by omega]
        have es : lwS v (.d (.str z)) [] none none none none = [some (.d v), some (.d (.str z)), some (.d (.list [])), none, none, none, none] := by
          unfold lwS
          rw [List.map_nil]
        rw [es] at el
        have ea : addF (.d (.int ((ks.length : Nat) : Int))) (.d (.int 1)) = some (.d (.int (((ks.length : Nat) : Int) + 1))) := rfl
        have eF := lw_for lB ea hrg el
        have e4 : sortF [.d (.list ((lawWithin ks z (ks.length + 1) []).map PyData.str))] = some (.d (.list ((sortS (lawWithin ks z (ks.length + 1) [])).map PyData.str))) := by
          unfold sortF
          simp only [strsOf_map]
          rw [if_pos (by omega)]
        unfold strT
        generalize (sortS (lawWithin ks z (ks.length + 1) [])).map PyData.str = W2 at e4 ⊢
        unfold lwS at eF
        generalize (lawWithin ks z (ks.length + 1) []).map PyData.str = W1 at e4 eF
        generalize mFor (mRange rng1 (mCons (mOp addF (mCB lenF (mCons (mVar [] 0) mNil)) (mK (.d (.int 1)))) mNil)) (aName 3) lwR = FO at eF ⊢
        simp [M.bind, M.ret, M.st, mT, mOp, mVar, mK, use, keep, lft, boolOf, optM, mCB, useAll, mCons, mNil, mTup, mLst, mFz, keepD, mSeq, mRet, mIfS, mAnd, mOr, mNot, mAndV, mOrV, mNotV, mIfE, mCall, keepAll, runF, mAsg, aName, mNx, mChain, fnM, startR, isiF, isT, isTN, askT, tyN, isF, asks, truD, mTru, truS, isNoneD, isBoolD, mRaise, raiseM, oneD, mDrop, aTup, aCons, aNil, twoK, mPar, mU1, mM1, strOf, List.replicate, eF, e4, tupF]
  · exact absurd rfl h
end K01
end
section
set_option maxRecDepth 100000
set_option maxHeartbeats 4000000
namespace K01
open PySem PySem.Spec DL
/-! ### both closures tell the same -/
def succs (ks : List Kd) (x : Str) : List Str := match named ks x with
  | some k => (k.2.map (·.2)).filter fun s : Str => decide (s ≠ ("int" : Str))
  | none => []
inductive Rch (ks : List Kd) (z : Str) : Str → Prop
  | one {x : Str} : x ∈ succs ks z → Rch ks z x
  | more {x y : Str} : Rch ks z y → x ∈ succs ks y → Rch ks z x
theorem succs_of {ks : List Kd} {x : Str} {k : Kd} (h : named ks x = some k) (s : Str) : s ∈ succs ks x ↔ s ∈ k.2.map (·.2) ∧ s ≠ ("int" : Str) := by
  unfold succs
  rw [h]
  simp only [List.mem_filter, decide_eq_true_iff]
def Closed (ks : List Kd) (z : Str) (R : List Str) : Prop := ∀ y, (y = z ∨ y ∈ R) → ∀ s ∈ succs ks y, s ∈ R
theorem closed_all {ks : List Kd} {z : Str} {R : List Str} (h : Closed ks z R) {x : Str} (r : Rch ks z x) : x ∈ R := by
  induction r with
  | one q => exact h z (.inl rfl) _ q
  | more _ q ih => exact h _ (.inr ih) _ q
theorem rch_sub {ks : List Kd} {z : Str} {y : Str} (h : y = z ∨ Rch ks z y) {s : Str} (hs : s ∈ succs ks y) : Rch ks z s := by
  rcases h with rfl | h
  · exact .one hs
  · exact .more h hs
/-- the worklist -/
theorem wk_inv {ks : List Kd} (G : Good ks) (z : Str) : ∀ (m : Nat) (wait found : List Str), found.Nodup → (∀ x ∈ found, ∃ k, named ks x = some k) → (∀ x ∈ wait, ∃ k, named ks x = some k) → wait.length + (ks.length - found.length) < m →
    (∀ x ∈ found, Rch ks z x) → (∀ x ∈ wait, x = z ∨ x ∈ found) → (∀ y, (y = z ∨ y ∈ found) → y ∉ wait → ∀ s ∈ succs ks y, s ∈ found) → (∀ x ∈ wk ks m wait found, Rch ks z x) ∧ Closed ks z (wk ks m wait found) ∧ (wk ks m wait found).Nodup := by
  intro m
  induction m with
  | zero => intro wait found _ _ _ hm; omega
  | succ m ih =>
    intro wait found hn hf hw hm hr hz hc
    have fl : found.length ≤ ks.length := (Fnd.mk hn hf).len
    cases hg : wait.getLast? with
    | none =>
      have e : wait = [] := List.getLast?_eq_none_iff.mp hg
      subst e
      have ew : wk ks (m + 1) [] found = found := rfl
      rw [ew]
      exact ⟨hr, fun y hy => hc y hy (by simp), hn⟩
    | some w =>
      have hne : wait ≠ [] := fun q => by rw [q] at hg; cases hg
      have hwm : w ∈ wait := List.mem_of_getLast? hg
      obtain ⟨k, ek⟩ := hw w hwm
      have hkm := (named_mem ek).1
      have ewk : wk ks (m + 1) wait found = wk ks m (addT ks (k.2.map (·.2)) (wait.dropLast, found)).1 (addT ks (k.2.map (·.2)) (wait.dropLast, found)).2 := by
        conv => lhs; unfold wk
        simp only [hg, ek]
      obtain ⟨new, a1, a2, a3, a4⟩ := addT_new ks (k.2.map (·.2)) wait.dropLast found hn
      rw [ewk, a1]
      simp only
      have nm : ∀ x ∈ new, ∃ k, named ks x = some k := fun x hx => by
        rcases G.typ k hkm x (a3 x hx).1 with q | q
        · exact absurd q (a3 x hx).2
        · exact q
      have hf2 : ∀ x ∈ found ++ new, ∃ k, named ks x = some k := fun x hx => by
        rcases List.mem_append.mp hx with hx | hx
        · exact hf x hx
        · exact nm x hx
      have hnl := (Fnd.mk a2 hf2).len
      rw [List.length_append] at hnl
      have hpos : 0 < wait.length := List.length_pos_iff.mpr hne
      have dl : wait.dropLast.length = wait.length - 1 := List.length_dropLast
      have hwz : w = z ∨ Rch ks z w := by
        rcases hz w hwm with q | q
        · exact .inl q
        · exact .inr (hr w q)
      refine ih (wait.dropLast ++ new) (found ++ new) a2 hf2 (fun x hx => ?_) (by rw [List.length_append, List.length_append]; omega) (fun x hx => ?_) (fun x hx => ?_) (fun y hy hny s hs => ?_)
      · rcases List.mem_append.mp hx with hx | hx
        · exact hw x ((List.dropLast_sublist wait).subset hx)
        · exact nm x hx
      · rcases List.mem_append.mp hx with hx | hx
        · exact hr x hx
        · exact rch_sub hwz ((succs_of ek x).mpr (a3 x hx))
      · rcases List.mem_append.mp hx with hx | hx
        · rcases hz x ((List.dropLast_sublist wait).subset hx) with q | q
          · exact .inl q
          · exact .inr (List.mem_append_left _ q)
        · exact .inr (List.mem_append_right _ hx)
      · rw [List.mem_append, not_or] at hny
        have hy2 : y = z ∨ y ∈ found := by
          rcases hy with q | q
          · exact .inl q
          · rcases List.mem_append.mp q with q | q
            · exact .inr q
            · exact absurd q hny.2
        by_cases hyw : y = w
        · subst hyw
          obtain ⟨s1, s2⟩ := (succs_of ek s).mp hs
          rcases a4 s s1 with q | q
          · exact absurd q s2
          · exact q
        · have hnw : y ∉ wait := fun q => by
            have e1 := List.getLast?_eq_some_getLast hne
            rw [hg] at e1
            injection e1 with e1
            have e := List.dropLast_concat_getLast hne
            rw [← e1] at e
            rw [← e, List.mem_append] at q
            rcases q with q | q
            · exact hny.1 q
            · exact hyw (List.mem_singleton.mp q)
          exact List.mem_append_left _ (hc y hy2 hnw s hs)
/-- the law's rounds -/
theorem lawOne_facts {ks : List Kd} {x : Str} {k : Kd} (hk : named ks x = some k) (found : List Str) : ∃ new, lawOne ks found x = found ++ new ∧ (∀ s ∈ new, s ∈ succs ks x) ∧ (∀ s ∈ succs ks x, s ∈ found ++ new) ∧ ((∀ s ∈ succs ks x, s ∈ found) → new = []) := by
  refine ⟨_, lawOne_eq hk found, fun s hs => ?_, fun s hs => ?_, fun h => ?_⟩
  · obtain ⟨h1, h2⟩ := List.mem_filter.mp hs
    rw [Bool.and_eq_true, decide_eq_true_iff] at h2
    rcases (once_mem _ _ _).mp ((sortS_perm _).mem_iff.mp h1) with q | q
    · exact absurd q (by simp)
    · exact (succs_of hk s).mpr ⟨q, h2.1⟩
  · obtain ⟨h1, h2⟩ := (succs_of hk s).mp hs
    by_cases q : s ∈ found
    · exact List.mem_append_left _ q
    · refine List.mem_append_right _ (List.mem_filter.mpr ⟨(sortS_perm _).mem_iff.mpr ((once_mem _ _ _).mpr (.inr h1)), ?_⟩)
      rw [Bool.and_eq_true, decide_eq_true_iff, decide_eq_false q]
      exact ⟨h2, rfl⟩
  · rw [List.filter_eq_nil_iff]
    intro s hs q
    rw [Bool.and_eq_true, decide_eq_true_iff, Bool.not_eq_true', decide_eq_false_iff_not] at q
    rcases (once_mem _ _ _).mp ((sortS_perm _).mem_iff.mp hs) with q2 | q2
    · exact absurd q2 (by simp)
    · exact q.2 (h s ((succs_of hk s).mpr ⟨q2, q.1⟩))
theorem fold_facts {ks : List Kd} (z : Str) : ∀ (todo found : List Str), (∀ x ∈ todo, ∃ k, named ks x = some k) → (∀ x ∈ todo, x = z ∨ Rch ks z x) → ∃ new, todo.foldl (lawOne ks) found = found ++ new ∧ (∀ s ∈ new, Rch ks z s) ∧ (∀ x ∈ todo, ∀ s ∈ succs ks x, s ∈ found ++ new) ∧ ((∀ x ∈ todo, ∀ s ∈ succs ks x, s ∈ found) → new = [])
  | [], found, _, _ => ⟨[], by simp, by simp, by simp, fun _ => rfl⟩
  | x :: todo, found, hn, hr => by
    obtain ⟨k, hk⟩ := hn x List.mem_cons_self
    obtain ⟨n1, a1, a2, a3, a4⟩ := lawOne_facts hk found
    obtain ⟨n2, b1, b2, b3, b4⟩ := fold_facts z todo (found ++ n1) (fun y hy => hn y (List.mem_cons_of_mem _ hy)) (fun y hy => hr y (List.mem_cons_of_mem _ hy))
    refine ⟨n1 ++ n2, ?_, fun s hs => ?_, fun y hy s hs => ?_, fun h => ?_⟩
    · rw [List.foldl_cons, a1, b1, List.append_assoc]
    · rcases List.mem_append.mp hs with hs | hs
      · exact rch_sub (hr x List.mem_cons_self) (a2 s hs)
      · exact b2 s hs
    · rw [← List.append_assoc]
      rcases List.mem_cons.mp hy with rfl | hy
      · exact List.mem_append_left _ (a3 s hs)
      · exact b3 y hy s hs
    · have e1 := a4 (h x List.mem_cons_self)
      subst e1
      rw [List.append_nil] at b4
      rw [b4 fun y hy => h y (List.mem_cons_of_mem _ hy)]
      rfl
theorem law_inv {ks : List Kd} {z : Str} {k : Kd} (hz : named ks z = some k) (G : Good ks) : ∀ (n : Nat) (found : List Str), Fnd ks found → (∀ x ∈ found, Rch ks z x) → (∀ x ∈ lawWithin ks z n found, Rch ks z x) ∧ Fnd ks (lawWithin ks z n found) ∧ (Closed ks z (lawWithin ks z n found) ∨ found.length + n ≤ (lawWithin ks z n found).length)
  | 0, found, f, hr => ⟨hr, f, .inr (Nat.le_refl _)⟩
  | n + 1, found, f, hr => by
    have hnm : ∀ x ∈ z :: found, ∃ k, named ks x = some k := fun x hx => by
      rcases List.mem_cons.mp hx with rfl | hx
      · exact ⟨k, hz⟩
      · exact f.nm x hx
    obtain ⟨new, a1, a2, a3, a4⟩ := fold_facts z (z :: found) found hnm fun x hx => by
      rcases List.mem_cons.mp hx with rfl | hx
      · exact .inl rfl
      · exact .inr (hr x hx)
    have ht : lawTurn ks z found = found ++ new := a1
    have f2 : Fnd ks (found ++ new) := by
      rw [← ht]
      unfold lawTurn
      have : ∀ (todo fd : List Str), Fnd ks fd → (∀ x ∈ todo, ∃ k, named ks x = some k) → Fnd ks (todo.foldl (lawOne ks) fd) := by
        intro todo
        induction todo with
        | nil => intro fd g _; exact g
        | cons x todo ih =>
          intro fd g hn
          obtain ⟨q, hq⟩ := hn x List.mem_cons_self
          exact ih _ (g.one G hq) fun y hy => hn y (List.mem_cons_of_mem _ hy)
      exact this _ _ f hnm
    have hr2 : ∀ x ∈ found ++ new, Rch ks z x := fun x hx => by
      rcases List.mem_append.mp hx with hx | hx
      · exact hr x hx
      · exact a2 x hx
    obtain ⟨i1, i2, i3⟩ := law_inv hz G n (found ++ new) f2 hr2
    have ew : lawWithin ks z (n + 1) found = lawWithin ks z n (found ++ new) := by
      conv => lhs; unfold lawWithin
      rw [ht]
    rw [ew]
    refine ⟨i1, i2, ?_⟩
    rcases i3 with i3 | i3
    · exact .inl i3
    · by_cases hnew : new = []
      · -- nothing new: closed, and it stays
        subst hnew
        rw [List.append_nil] at *
        have hc : Closed ks z found := fun y hy s hs => by
          have hy2 : y ∈ z :: found := by
            rcases hy with rfl | hy
            · exact List.mem_cons_self
            · exact List.mem_cons_of_mem _ hy
          exact a3 y hy2 s hs
        have stay : ∀ j, lawWithin ks z j found = found := by
          intro j
          induction j with
          | zero => rfl
          | succ j ih =>
            unfold lawWithin
            rw [ht, ih]
        left
        rw [stay n]
        exact hc
      · right
        have := List.length_pos_iff.mpr hnew
        rw [List.length_append] at i3
        omega
theorem perm_of {α : Type} [DecidableEq α] : ∀ {l m : List α}, l.Nodup → m.Nodup → (∀ x, x ∈ l ↔ x ∈ m) → l.Perm m
  | [], m, _, _, h => by
    have : m = [] := by
      cases m with
      | nil => rfl
      | cons x m => exact absurd ((h x).mpr List.mem_cons_self) (by simp)
    rw [this]
  | x :: l, m, h1, h2, h => by
    rw [List.nodup_cons] at h1
    have hx : x ∈ m := (h x).mp List.mem_cons_self
    have ih := perm_of (l := l) (m := m.erase x) h1.2 (h2.erase x) fun y => by
      constructor
      · intro hy
        have ne : y ≠ x := fun q => h1.1 (q ▸ hy)
        exact (List.mem_erase_of_ne ne).mpr ((h y).mp (List.mem_cons_of_mem _ hy))
      · intro hy
        have hm := List.mem_of_mem_erase hy
        have ne : y ≠ x := fun q => by
          rw [q] at hy
          exact absurd hy (List.Nodup.not_mem_erase h2)
        rcases List.mem_cons.mp ((h y).mpr hm) with q | q
        · exact absurd q ne
        · exact q
    exact (List.Perm.cons x ih).trans (List.perm_cons_erase hx).symm
theorem sortS_eq {a b : List Str} (h : a.Perm b) : sortS a = sortS b :=
  List.Perm.eq_of_pairwise (le := fun a b => leS a b = true) (fun _ _ _ _ => leS_anti) (sortS_up a) (sortS_up b) ((sortS_perm a).trans (h.trans (sortS_perm b).symm))
/-- what can stand within a kind: the two reckonings -/
theorem within_same {ks : List Kd} (G : Good ks) {z : Str} {k : Kd} (hz : named ks z = some k) : withinL ks z = sortS (lawWithin ks z (ks.length + 1) []) := by
  unfold withinL
  obtain ⟨a1, a2, a3⟩ := wk_inv G z (ks.length + 2) [z] [] List.nodup_nil (by simp) (by intro x hx; rw [List.mem_singleton.mp hx]; exact ⟨k, hz⟩) (by simp; omega) (by simp) (by intro x hx; exact .inl (List.mem_singleton.mp hx)) (by
    intro y hy hny
    rcases hy with q | q
    · exact absurd (q ▸ List.mem_singleton.mpr rfl) hny
    · exact absurd q (by simp))
  obtain ⟨b1, b2, b3⟩ := law_inv hz G (ks.length + 1) [] ⟨List.nodup_nil, by simp⟩ (by simp)
  have bl := b2.len
  have bc : Closed ks z (lawWithin ks z (ks.length + 1) []) := by
    rcases b3 with q | q
    · exact q
    · simp at q
      omega
  refine sortS_eq (perm_of a3 b2.nd fun x => ⟨fun hx => closed_all bc (a1 x hx), fun hx => closed_all a2 (b1 x hx)⟩)
end K01
end
section
namespace K01
open DL
abbrev F__law_draw : FM := drawFM
abbrev F__law_any : FM := anyFM
abbrev F__law_of : FM := ofFM
abbrev F__law_mixed : FM := mixFM
noncomputable def F__law_some_kinds : FM := fnM 6 (m__law_some_kinds mixFM anyFM ofFM)
noncomputable def F__law_bent : FM := fnM 7 (m__law_bent anyFM ofFM)
end K01
end
section
set_option maxRecDepth 100000
set_option maxHeartbeats 4000000
namespace DL
open PySem PySem.Spec
theorem erase_permG {α : Type} : ∀ (l : List α) (i : Nat) (h : i < l.length), (l[i] :: l.eraseIdx i).Perm l
  | x :: l, 0, _ => .refl _
  | x :: l, i + 1, h => by
    have hi : i < l.length := by simpa using h
    have ih := erase_permG l i hi
    show (l[i] :: x :: l.eraseIdx i).Perm (x :: l)
    exact (List.Perm.swap x _ _).trans (List.Perm.cons x ih)
theorem mix_permG : ∀ (n : Nat) (vs : List PyData) (dl : Deal), vs.length = n → fineD dl → (mixD n vs dl).1.Perm vs ∧ fineD (mixD n vs dl).2
  | 0, vs, dl, hn, hd => by
    have e : vs = [] := List.eq_nil_of_length_eq_zero hn
    subst e
    exact ⟨.nil, hd⟩
  | n + 1, vs, dl, hn, hd => by
    have hr := anyD_range dl (b := (vs.length : Nat)) (by omega)
    have hi : (anyD dl vs.length).1.toNat < vs.length := by omega
    have hne : vs ≠ [] := List.length_pos_iff.mp (by omega)
    have hlen : (vs.eraseIdx (anyD dl vs.length).1.toNat).length = n := by
      rw [List.length_eraseIdx_of_lt hi]
      omega
    obtain ⟨h1, h2⟩ := mix_permG n (vs.eraseIdx (anyD dl vs.length).1.toNat) (anyD dl vs.length).2 hlen (anyD_fine hd)
    unfold mixD
    rw [if_neg hne, List.getElem?_eq_getElem hi]
    exact ⟨(List.Perm.cons _ h1).trans (erase_permG vs _ hi), h2⟩
/-- the law's mixed, of texts -/
theorem mix_call {zs : List Str} {dl : Deal} (hl : zs.length ≤ 1000) (hz : ∀ z ∈ zs, PyData.strOk z = true) (hd : fineD dl) : ∃ (ys : List Str) (dl' : Deal), ys.Perm zs ∧ fineD dl' ∧ mixFM [.deal, .d (.list (zs.map PyData.str))] (some dl) = .ok (.d (.list (ys.map PyData.str))) (some dl') := by
  obtain ⟨h1, h2⟩ := mix_permG (zs.map PyData.str).length (zs.map PyData.str) dl rfl hd
  have hs : ∃ ys : List Str, (mixD (zs.map PyData.str).length (zs.map PyData.str) dl).1 = ys.map PyData.str ∧ ys.Perm zs := by
    have key : ∀ (qs : List PyData), qs.Perm (zs.map PyData.str) → ∃ ys : List Str, qs = ys.map PyData.str := by
      intro qs hq
      have : ∀ x ∈ qs, ∃ z, x = PyData.str z := fun x hx => by
        obtain ⟨z, _, rfl⟩ := List.mem_map.mp (hq.subset hx)
        exact ⟨z, rfl⟩
      clear hq
      induction qs with
      | nil => exact ⟨[], rfl⟩
      | cons x qs ih =>
        obtain ⟨z, rfl⟩ := this x List.mem_cons_self
        obtain ⟨ys, rfl⟩ := ih fun y hy => this y (List.mem_cons_of_mem _ hy)
        exact ⟨z :: ys, rfl⟩
    obtain ⟨ys, e⟩ := key _ h1
    refine ⟨ys, e, ?_⟩
    rw [e] at h1
    have back : ∀ l : List Str, (l.map PyData.str).filterMap (fun x => match x with | .str z => some z | _ => none) = l := by
      intro l
      induction l with
      | nil => rfl
      | cons z l ih => rw [List.map_cons, List.filterMap_cons]; simp only; rw [ih]
    have := h1.filterMap (fun x => match x with | PyData.str z => some z | _ => none)
    rw [back, back] at this
    exact this
  obtain ⟨ys, e, hp⟩ := hs
  refine ⟨ys, _, hp, h2, ?_⟩
  have hlay : (zs.map PyData.str).all lay1 = true := by
    rw [List.all_eq_true]
    intro x hx
    obtain ⟨z, hz2, rfl⟩ := List.mem_map.mp hx
    unfold lay1
    rw [show (PyData.str z).canLay0 = true from hz z hz2]
    rfl
  unfold mixFM
  simp only
  rw [if_pos ⟨by rw [List.length_map]; exact hl, hlay, hd⟩, e]
theorem of_call {vs : List PyData} {dl : Deal} (h0 : vs ≠ []) (h1 : vs.length ≤ 1000) (hd : fineD dl) : ∃ v dl', v ∈ vs ∧ fineD dl' ∧ ofFM [.deal, .d (.list vs)] (some dl) = .ok (.d v) (some dl') := by
  have hpos : 0 < vs.length := List.length_pos_iff.mpr h0
  have hr := anyD_range dl (b := (vs.length : Nat)) (by omega)
  have hi : (anyD dl vs.length).1.toNat < vs.length := by omega
  refine ⟨vs[(anyD dl vs.length).1.toNat], (anyD dl vs.length).2, List.getElem_mem hi, anyD_fine hd, ?_⟩
  unfold ofFM
  simp only
  rw [if_pos ⟨h0, h1, hd⟩, List.getElem?_eq_getElem hi]
theorem any_callN {dl : Deal} (n : Nat) (h0 : 0 < n) (h1 : n ≤ 1000) (hf : fineD dl) : ∃ (i : Int) (dl' : Deal), 0 ≤ i ∧ i < n ∧ fineD dl' ∧ anyFM [.deal, .d (.int (n : Int))] (some dl) = .ok (.d (.int i)) (some dl') := by
  have hr := anyD_range dl (b := (n : Nat)) (by omega)
  exact ⟨_, _, hr.1, hr.2, anyD_fine hf, any_call h0 h1 hf⟩
end DL
namespace K01
open PySem PySem.Spec DL
/-! ### small data -/
structure Sm (B : Nat) (x : PyData) : Prop where
  lay : x.canLay0 = true
  dep : x.depth ≤ 20
  wgt : x.weight ≤ B
theorem Sm.fine {B : Nat} {x : PyData} (h : Sm B x) (hB : B ≤ 500000) : fine x = true := by
  have := h.dep
  have := h.wgt
  unfold K01.fine
  rw [h.lay, decide_eq_true (show x.depth ≤ 64 by omega), decide_eq_true (show x.weight ≤ 500000 by omega)]
  rfl
structure SmA (B d : Nat) (xs : List PyData) : Prop where
  lay : PyData.canLayAll0 xs = true
  dep : PyData.depthAll xs ≤ d
  wgt : PyData.weightAll xs ≤ B
theorem smA_of {d b : Nat} : ∀ {xs : List PyData}, (∀ x ∈ xs, x.canLay0 = true ∧ x.depth ≤ d ∧ x.weight ≤ b) → SmA ((b + 1) * xs.length) d xs
  | [], _ => ⟨rfl, Nat.zero_le _, Nat.zero_le _⟩
  | x :: xs, h => by
    obtain ⟨h1, h2, h3⟩ := h x List.mem_cons_self
    obtain ⟨i1, i2, i3⟩ := smA_of (xs := xs) fun y hy => h y (List.mem_cons_of_mem _ hy)
    refine ⟨?_, ?_, ?_⟩
    · unfold PyData.canLayAll0
      rw [h1, i1]
      rfl
    · unfold PyData.depthAll
      omega
    · unfold PyData.weightAll
      rw [List.length_cons, Nat.mul_succ]
      omega
theorem tup_sm {d b n : Nat} {xs : List PyData} (h : ∀ x ∈ xs, x.canLay0 = true ∧ x.depth ≤ d ∧ x.weight ≤ b) (hn : xs.length ≤ n) : (PyData.tuple xs).canLay0 = true ∧ (PyData.tuple xs).depth ≤ d + 1 ∧ (PyData.tuple xs).weight ≤ (b + 1) * n := by
  obtain ⟨i1, i2, i3⟩ := smA_of h
  refine ⟨i1, ?_, ?_⟩
  · show PyData.depthAll xs + 1 ≤ d + 1
    omega
  · show PyData.weightAll xs ≤ _
    exact Nat.le_trans i3 (Nat.mul_le_mul_left _ hn)
theorem lst_sm {d b n : Nat} {xs : List PyData} (h : ∀ x ∈ xs, x.canLay0 = true ∧ x.depth ≤ d ∧ x.weight ≤ b) (hn : xs.length ≤ n) : (PyData.list xs).canLay0 = true ∧ (PyData.list xs).depth ≤ d + 1 ∧ (PyData.list xs).weight ≤ (b + 1) * n := tup_sm (xs := xs) h hn
theorem str_sm {z : Str} (h1 : PyData.strOk z = true) (h2 : z.length ≤ 12) : (PyData.str z).canLay0 = true ∧ (PyData.str z).depth ≤ 0 ∧ (PyData.str z).weight ≤ 12 := by
  refine ⟨h1, Nat.le_refl _, ?_⟩
  have e : (PyData.str z).weight = z.cps.size := by simp [PyData.weight]
  have e2 : z.length = z.cps.size := rfl
  omega
theorem cps_ok {z : Str} (h : ∀ c ∈ z.cps.toList, c < 0x110000) : PyData.strOk z = true := by
  unfold PyData.strOk
  rw [Array.all_eq_true']
  intro c hc
  exact decide_eq_true (h c (by simpa using hc))
theorem name_sm {z : Str} (h : isName z = true) : PyData.strOk z = true ∧ z.length ≤ 12 := by
  unfold isName at h
  rw [Bool.and_eq_true, Bool.and_eq_true, Bool.and_eq_true, Bool.and_eq_true, decide_eq_true_iff, decide_eq_true_iff] at h
  refine ⟨cps_ok fun c hc => ?_, h.1.2.1⟩
  have hs := List.all_eq_true.mp h.2.2 c hc
  rw [← both_mem, decide_eq_true_iff] at hs
  have : bothS.cps.toList.all (fun c => decide (c < 0x110000)) = true := by decide +kernel
  exact of_decide_eq_true (List.all_eq_true.mp this c hs)
theorem type_sm {z : Str} (h : isTypeD (.str z) = true) : PyData.strOk z = true ∧ z.length ≤ 12 := by
  unfold isTypeD at h
  rw [Bool.or_eq_true, decide_eq_true_iff] at h
  rcases h with rfl | h
  · decide +kernel
  · exact name_sm h
structure GoodK (k : Kd) : Prop where
  nm : isName k.1 = true
  len : k.2.length ≤ 12
  nd : (k.2.map (·.1)).Nodup
  fd : ∀ f ∈ k.2, isName f.1 = true ∧ isTypeD (.str f.2) = true
theorem fD_sm {f : Fd} (h1 : isName f.1 = true) (h2 : isTypeD (.str f.2) = true) : (fD f).canLay0 = true ∧ (fD f).depth ≤ 1 ∧ (fD f).weight ≤ 26 := by
  obtain ⟨a, b⟩ := name_sm h1
  obtain ⟨c, d⟩ := type_sm h2
  refine tup_sm (n := 2) (b := 12) (d := 0) (fun x hx => ?_) (Nat.le_refl _)
  rcases List.mem_cons.mp hx with rfl | hx
  · exact str_sm a b
  · rw [List.mem_singleton.mp hx]
    exact str_sm c d
theorem flds_sm {k : Kd} (h : GoodK k) : (PyData.tuple (k.2.map fD)).canLay0 = true ∧ (PyData.tuple (k.2.map fD)).depth ≤ 2 ∧ (PyData.tuple (k.2.map fD)).weight ≤ 324 := by
  refine tup_sm (n := 12) (b := 26) (d := 1) (fun x hx => ?_) (by rw [List.length_map]; exact h.len)
  obtain ⟨f, hf, rfl⟩ := List.mem_map.mp hx
  exact fD_sm (h.fd f hf).1 (h.fd f hf).2
theorem kind_str_sm : (PyData.str "kind").canLay0 = true ∧ (PyData.str "kind").depth ≤ 0 ∧ (PyData.str "kind").weight ≤ 12 := str_sm (by decide +kernel) (by decide +kernel)
theorem kD_sm {k : Kd} (h : GoodK k) : (kD k).canLay0 = true ∧ (kD k).depth ≤ 3 ∧ (kD k).weight ≤ 975 := by
  obtain ⟨a, b⟩ := name_sm h.nm
  refine tup_sm (n := 3) (b := 324) (d := 2) (fun x hx => ?_) (Nat.le_refl _)
  simp only [List.mem_cons, List.not_mem_nil, or_false] at hx
  rcases hx with rfl | rfl | rfl
  · obtain ⟨i, j, l⟩ := kind_str_sm
    exact ⟨i, by omega, by omega⟩
  · obtain ⟨i, j, l⟩ := str_sm a b
    exact ⟨i, by omega, by omega⟩
  · exact flds_sm h
/-- kinds as the law makes them -/
structure Made (ks : List Kd) : Prop where
  ne : ks ≠ []
  len : ks.length ≤ 7
  each : ∀ k ∈ ks, GoodK k ∧ k.1 ≠ "zzzz"
  asc : ascL (ks.map (·.1)) = true
  typ : typesOk ks = true
theorem Made.unKinds {ks : List Kd} (h : Made ks) : unKinds (ksD ks) = some ks := by
  have e : allSome ((ks.map kD).map unKind) = some ks := by
    have he := h.each
    generalize ks = l at he
    clear h
    induction l with
    | nil => rfl
    | cons k l ih =>
      obtain ⟨g, _⟩ := he k List.mem_cons_self
      rw [List.map_cons, List.map_cons, unKind_kD g.nm g.len g.nd g.fd]
      unfold allSome
      rw [ih fun q hq => he q (List.mem_cons_of_mem _ hq)]
  have hl := h.len
  unfold K01.unKinds ksD
  simp only [List.length_map]
  rw [if_pos (by omega)]
  simp only [e, h.asc, h.typ, Bool.and_self, if_true]
theorem Made.sm {ks : List Kd} (h : Made ks) : Sm 6832 (ksD ks) := by
  obtain ⟨a, b, c⟩ := tup_sm (n := 7) (b := 975) (d := 3) (xs := ks.map kD) (fun x hx => by
    obtain ⟨k, hk, rfl⟩ := List.mem_map.mp hx
    exact kD_sm (h.each k hk).1) (by rw [List.length_map]; exact h.len)
  exact ⟨a, by show (PyData.tuple (ks.map kD)).depth ≤ 20; omega, c⟩
theorem Made.fine {ks : List Kd} (h : Made ks) : fine (ksD ks) = true := h.sm.fine (by decide)
end K01
end
section
set_option maxRecDepth 100000
set_option maxHeartbeats 4000000
namespace K01
open PySem PySem.Spec DL
def names7 : List Str := ["item", "shelf", "box", "tree", "n1", "z", "abcdefghijkl"]
def flds7 : List Str := ["n", "next", "left", "right", "m", "first", "k2"]
theorem names7_ok : ∀ z ∈ names7, isName z = true ∧ z ≠ "zzzz" ∧ z ≠ "int" := by
  have : names7.all (fun z => isName z && !decide (z = "zzzz") && !decide (z = "int")) = true := by decide +kernel
  intro z hz
  have := List.all_eq_true.mp this z hz
  rw [Bool.and_eq_true, Bool.and_eq_true, Bool.not_eq_true', Bool.not_eq_true', decide_eq_false_iff_not, decide_eq_false_iff_not] at this
  exact ⟨this.1.1, this.1.2, this.2⟩
theorem flds7_ok : ∀ z ∈ flds7, isName z = true := by
  have : flds7.all isName = true := by decide +kernel
  exact List.all_eq_true.mp this
/-- the state of the printed loop -/
abbrev skS (ns : List Str) (found : List PyData) (name : Sl) (zs : List Str) (o5 : Option Sl) : Rho := [some .deal, some (.d (.list (ns.map PyData.str))), some (.d (.list found)), some name, some (.d (.list (zs.map PyData.str))), o5]
noncomputable def skE : M Tk := (mTup (mCons (mVar [2] 5) (mCons (mCall 2 ofFM (mCons (mVar [2] 0) (mCons (mOp addF (mFz (mLst (mCons (mK (.d (.str "int"))) (mCons (mK (.d (.str "int"))) mNil)))) (mVar [2] 1)) mNil))) mNil)))
noncomputable def skL : M (List PyData) := (mLc (mIter (mVar [2] 4)) [5] (aName 5) (M.ret true) skE)
noncomputable def skB : M Fl := (mSeq (mAsg (aName 4) (mSl (mCall 2 mixFM (mCons (mVar [2] 0) (mCons (mFz (mLst (mCons (mK (.d (.str "n"))) (mCons (mK (.d (.str "next"))) (mCons (mK (.d (.str "left"))) (mCons (mK (.d (.str "right"))) (mCons (mK (.d (.str "m"))) (mCons (mK (.d (.str "first"))) (mCons (mK (.d (.str "k2"))) mNil))))))))) mNil))) mNoP (mPart (mCall 2 anyFM (mCons (mVar [2] 0) (mCons (mK (.d (.int 5))) mNil)))))) (mDrop (has 2 (mAppend 2 (mCons (mTup (mCons (mK (.d (.str "kind"))) (mCons (mVar [2] 3) (mCons (mCB tupF (mCons (mFz skL) mNil)) mNil)))) mNil)))))
theorem skE_e (ns : List Str) (hns : ns.length ≤ 7) (found : List PyData) (name : Sl) (zs : List Str) (z : Str) {dl : Deal} (hd : fineD dl) : ∃ (ty : Str) (dl' : Deal), (ty = ("int" : Str) ∨ ty ∈ ns) ∧ fineD dl' ∧ skE (skS ns found name zs (some (.d (.str z)))) (some dl) = .ok (.v (.d (fD (z, ty)))) (skS ns found name zs (some (.d (.str z)))) (some dl') := by
  obtain ⟨v, dl', hv, hf, e⟩ := of_call (vs := [PyData.str "int", .str "int"] ++ ns.map PyData.str) (dl := dl) (by simp) (by simp; omega) hd
  have ea : addF (.d (.list [PyData.str "int", .str "int"])) (.d (.list (ns.map PyData.str))) = some (.d (.list ([PyData.str "int", .str "int"] ++ ns.map PyData.str))) := by
    unfold addF
    simp only
    rw [if_pos (by simp; omega)]
  have hty : ∃ ty : Str, v = .str ty ∧ (ty = "int" ∨ ty ∈ ns) := by
    rcases List.mem_append.mp hv with hv | hv
    · simp only [List.mem_cons, List.not_mem_nil, or_false] at hv
      exact ⟨"int", by rcases hv with rfl | rfl <;> rfl, .inl rfl⟩
    · obtain ⟨y, hy, rfl⟩ := List.mem_map.mp hv
      exact ⟨y, rfl, .inr hy⟩
  obtain ⟨ty, rfl, ht⟩ := hty
  refine ⟨ty, dl', ht, hf, ?_⟩
  generalize [PyData.str "int", .str "int"] ++ ns.map PyData.str = VV at e ea
  unfold skS
  generalize ns.map PyData.str = NN at ea ⊢
  generalize zs.map PyData.str = ZZ
  simp [skE, M.bind, M.ret, M.st, mT, mOp, mVar, mK, use, keep, lft, boolOf, optM, mCB, useAll, mCons, mNil, mTup, mLst, mFz, keepD, mSeq, mRet, mIfS, mAnd, mOr, mNot, mAndV, mOrV, mNotV, mIfE, mCall, keepAll, runF, mAsg, aName, mNx, mChain, fnM, startR, isiF, isT, isTN, askT, tyN, isF, asks, truD, mTru, truS, isNoneD, isBoolD, mRaise, raiseM, oneD, mDrop, aTup, aCons, aNil, twoK, mPar, mU1, mM1, strOf, List.replicate, ea, e, fD]
theorem skL_in (ns : List Str) (hns : ns.length ≤ 7) (found : List PyData) (name : Sl) (all : List Str) : ∀ (zs : List Str) (acc : List PyData) (o5 : Option Sl) (dl : Deal), fineD dl → acc.length + zs.length ≤ 1000 → ∃ (fs : List Fd) (o5' : Option Sl) (dl' : Deal), fs.map (·.1) = zs ∧ (∀ f ∈ fs, f.2 = "int" ∨ f.2 ∈ ns) ∧ fineD dl' ∧ lcL [5] (aName 5) (M.ret true) skE (zs.map fun z => Sl.d (.str z)) acc (skS ns found name all o5) (some dl) = .ok (acc ++ fs.map fD) (skS ns found name all o5') (some dl')
  | [], acc, o5, dl, hd, _ => ⟨[], o5, dl, rfl, by simp, hd, by simp [lcL, M.ret]⟩
  | z :: zs, acc, o5, dl, hd, hl => by
    obtain ⟨ty, d1, ht, hf, e⟩ := skE_e ns hns found name all z hd
    obtain ⟨fs, o5', d2, h1, h2, h3, e2⟩ := skL_in ns hns found name all zs (acc ++ [fD (z, ty)]) (some (.d (.str z))) d1 hf (by simp at hl ⊢; omega)
    refine ⟨(z, ty) :: fs, o5', d2, by rw [List.map_cons, h1], fun f hf2 => ?_, h3, ?_⟩
    · rcases List.mem_cons.mp hf2 with rfl | hf2
      · exact ht
      · exact h2 f hf2
    · have hacc : acc.length < 16777216 := by simp at hl; omega
      have e0 : lcOne [5] (aName 5) (M.ret true) skE (.d (.str z)) (skS ns found name all o5) (some dl) = .ok (some (fD (z, ty))) (skS ns found name all (some (.d (.str z)))) (some d1) := by
        have es : ((skS ns found name all o5).set 5 none).set 5 (some (.d (.str z))) = skS ns found name all (some (.d (.str z))) := rfl
        simp only [lcOne, M.bind, M.ret, wipeM, wipeR, aName, es, if_true, e, optM, dataOf]
      rw [List.map_cons]
      unfold lcL M.bind
      rw [e0]
      simp only [lcPut, if_pos hacc]
      rw [e2]
      simp
theorem skB_e (ns : List Str) (hns : ns.length ≤ 7) (ks : List Kd) (hk : ks.length ≤ 100) (name : Str) (hn : isName name = true) (hnn : name ≠ "zzzz") (hnt : ∀ y ∈ ns, isTypeD (.str y) = true) (o4 o5 : Option Sl) {dl : Deal} (hd : fineD dl) : ∃ (k : Kd) (o4' o5' : Option Sl) (dl' : Deal), k.1 = name ∧ GoodK k ∧ (∀ f ∈ k.2, f.2 = "int" ∨ f.2 ∈ ns) ∧ fineD dl' ∧ skB [some .deal, some (.d (.list (ns.map PyData.str))), some (.d (.list (ks.map kD))), some (.d (.str name)), o4, o5] (some dl) = .ok .nx [some .deal, some (.d (.list (ns.map PyData.str))), some (.d (.list ((ks ++ [k]).map kD))), some (.d (.str name)), o4', o5'] (some dl') := by
  obtain ⟨ys, d1, hp, h1, em⟩ := mix_call (zs := flds7) (dl := dl) (by decide) (fun z hz => (name_sm (flds7_ok z hz)).1) hd
  obtain ⟨i, d2, i0, i5, h2, ea⟩ := any_callN 5 (by decide) (by decide) h1
  have hys : ∀ z ∈ ys.take i.toNat, isName z = true := fun z hz => flds7_ok z (hp.subset (List.mem_of_mem_take hz))
  obtain ⟨fs, o5', d3, g1, g2, g3, el⟩ := skL_in ns hns (ks.map kD) (.d (.str name)) (ys.take i.toNat) (ys.take i.toNat) [] none d2 h2 (by simp; omega)
  have hlen : fs.length = (ys.take i.toNat).length := by
    have := congrArg List.length g1
    rwa [List.length_map] at this
  refine ⟨(name, fs), some (.d (.list ((ys.take i.toNat).map PyData.str))), o5, d3, rfl, ⟨hn, ?_, ?_, fun f hf => ⟨?_, ?_⟩⟩, g2, g3, ?_⟩
  · show fs.length ≤ 12
    rw [hlen, List.length_take]
    omega
  · show (fs.map (·.1)).Nodup
    rw [g1]
    have nd : flds7.Nodup := by decide +kernel
    exact (hp.nodup_iff.mpr nd).sublist (List.take_sublist _ _)
  · refine hys f.1 ?_
    rw [← g1]
    exact List.mem_map_of_mem hf
  · rcases g2 f hf with q | q
    · unfold isTypeD
      rw [Bool.or_eq_true]
      exact .inl (decide_eq_true q)
    · exact hnt _ q
  · have em' : mixFM [.deal, .d (.list [.str "n", .str "next", .str "left", .str "right", .str "m", .str "first", .str "k2"])] (some dl) = .ok (.d (.list (ys.map PyData.str))) (some d1) := em
    have ea' : anyFM [.deal, .d (.int 5)] (some d1) = .ok (.d (.int i)) (some d2) := ea
    have es : slF none (some i) (.d (.list (ys.map PyData.str))) = some (.d (.list ((ys.take i.toNat).map PyData.str))) := by
      unfold slF
      simp only
      rw [cut_to _ i0, List.map_take]
    have ll : skL (skS ns (ks.map kD) (.d (.str name)) (ys.take i.toNat) o5) (some d2) = .ok (fs.map fD) (skS ns (ks.map kD) (.d (.str name)) (ys.take i.toNat) o5) (some d3) := by
      have hit : mIter (mVar [2] 4) (skS ns (ks.map kD) (.d (.str name)) (ys.take i.toNat) o5) (some d2) = .ok ((ys.take i.toNat).map fun z => Sl.d (.str z)) (skS ns (ks.map kD) (.d (.str name)) (ys.take i.toNat) o5) (some d2) := by
        have := iter_seq (j := 4) (ow := [2]) (r := skS ns (ks.map kD) (.d (.str name)) (ys.take i.toNat) o5) (t := some d2) (v := .list ((ys.take i.toNat).map PyData.str)) (vs := (ys.take i.toNat).map PyData.str) rfl rfl (by decide)
        rw [List.map_map] at this
        exact this
      unfold skL mLc M.bind
      rw [hit]
      have w5 : wipeR (skS ns (ks.map kD) (.d (.str name)) (ys.take i.toNat) o5) [5] = skS ns (ks.map kD) (.d (.str name)) (ys.take i.toNat) none := rfl
      simp only [inComp, noX, w5, el, List.nil_append]
      rfl
    have mk : (ks ++ [((name, fs) : Kd)]).map kD = ks.map kD ++ [.tuple [.str "kind", .str name, .tuple (fs.map fD)]] := by
      rw [List.map_append]
      rfl
    have lk : (ks.map kD).length < 16777216 := by rw [List.length_map]; omega
    rw [mk]
    unfold skS at ll
    unfold skB
    generalize (ys.take i.toNat).map PyData.str = TT at es ll ⊢
    generalize ys.map PyData.str = YY at em' es
    generalize ks.map kD = KK at ll lk ⊢
    generalize fs.map fD = FF at ll ⊢
    generalize ns.map PyData.str = NN at ll ⊢
    generalize skL = LC at ll ⊢
    simp [M.bind, M.ret, M.st, mT, mOp, mVar, mK, use, keep, lft, boolOf, optM, mCB, useAll, mCons, mNil, mTup, mLst, mFz, keepD, mSeq, mRet, mIfS, mAnd, mOr, mNot, mAndV, mOrV, mNotV, mIfE, mCall, keepAll, runF, mAsg, aName, mNx, mChain, fnM, startR, isiF, isT, isTN, askT, tyN, isF, asks, truD, mTru, truS, isNoneD, isBoolD, mRaise, raiseM, oneD, mDrop, aTup, aCons, aNil, twoK, mPar, mU1, mM1, strOf, List.replicate, mSl, mNoP, mPart, intOf, em', ea', es, has, mAppend, getO, setO, ll, lk, tupF]
theorem sk_loop (ns : List Str) (hns : ns.length ≤ 7) (hnt : ∀ y ∈ ns, isTypeD (.str y) = true) : ∀ (todo : List Str) (ks : List Kd) (o3 o4 o5 : Option Sl) (dl : Deal), (∀ y ∈ todo, isName y = true ∧ y ≠ "zzzz") → ks.length + todo.length ≤ 100 → (∀ k ∈ ks, (GoodK k ∧ k.1 ≠ "zzzz") ∧ ∀ f ∈ k.2, f.2 = "int" ∨ f.2 ∈ ns) → fineD dl →
    ∃ (ks' : List Kd) (o3' o4' o5' : Option Sl) (dl' : Deal), ks'.map (·.1) = ks.map (·.1) ++ todo ∧ (∀ k ∈ ks', (GoodK k ∧ k.1 ≠ "zzzz") ∧ ∀ f ∈ k.2, f.2 = "int" ∨ f.2 ∈ ns) ∧ fineD dl' ∧ forL (aName 3) skB (todo.map fun z => Sl.d (.str z)) [some .deal, some (.d (.list (ns.map PyData.str))), some (.d (.list (ks.map kD))), o3, o4, o5] (some dl) = .ok .nx [some .deal, some (.d (.list (ns.map PyData.str))), some (.d (.list (ks'.map kD))), o3', o4', o5'] (some dl')
  | [], ks, o3, o4, o5, dl, _, _, hk, hd => ⟨ks, o3, o4, o5, dl, by simp, hk, hd, rfl⟩
  | y :: todo, ks, o3, o4, o5, dl, hy, hl, hk, hd => by
    rw [List.length_cons] at hl
    obtain ⟨k, o4a, o5a, d1, k1, k2, k3, k4, e1⟩ := skB_e ns hns ks (by omega) y (hy y List.mem_cons_self).1 (hy y List.mem_cons_self).2 hnt o4 o5 hd
    obtain ⟨ks', o3', o4', o5', d2, l1, l2, l3, e2⟩ := sk_loop ns hns hnt todo (ks ++ [k]) (some (.d (.str y))) o4a o5a d1 (fun z hz => hy z (List.mem_cons_of_mem _ hz)) (by simp; omega) (fun q hq => by
      rcases List.mem_append.mp hq with hq | hq
      · exact hk q hq
      · rw [List.mem_singleton.mp hq]
        exact ⟨⟨k2, by rw [k1]; exact (hy y List.mem_cons_self).2⟩, k3⟩) k4
    refine ⟨ks', o3', o4', o5', d2, ?_, l2, l3, ?_⟩
    · rw [l1, List.map_append, List.map_cons, List.map_nil, k1]
      simp
    · rw [List.map_cons, ← e2]
      exact forL_cons (r1 := [some .deal, some (.d (.list (ns.map PyData.str))), some (.d (.list (ks.map kD))), some (.d (.str y)), o4, o5]) (t1 := some dl) rfl e1
theorem some_call {dl : Deal} (hd : fineD dl) : ∃ (ks : List Kd) (dl' : Deal), Made ks ∧ fineD dl' ∧ F__law_some_kinds [.deal] (some dl) = .ok (.d (ksD ks)) (some dl') := by
  obtain ⟨ys, d1, hp, h1, em⟩ := mix_call (zs := names7) (dl := dl) (by decide) (fun z hz => (name_sm (names7_ok z hz).1).1) hd
  obtain ⟨i, d2, i0, i4, h2, ea⟩ := any_callN 4 (by decide) (by decide) h1
  have em' : mixFM [.deal, .d (.list [.str "item", .str "shelf", .str "box", .str "tree", .str "n1", .str "z", .str "abcdefghijkl"])] (some dl) = .ok (.d (.list (ys.map PyData.str))) (some d1) := em
  have ea' : anyFM [.deal, .d (.int 4)] (some d1) = .ok (.d (.int i)) (some d2) := ea
  have es : slF none (some (1 + i)) (.d (.list (ys.map PyData.str))) = some (.d (.list ((ys.take (1 + i).toNat).map PyData.str))) := by
    unfold slF
    simp only
    rw [cut_to _ (by omega), List.map_take]
  have ll : ys.length = 7 := hp.length_eq
  have tl : (ys.take (1 + i).toNat).length ≤ 7 := by rw [List.length_take]; omega
  have tp : 0 < (ys.take (1 + i).toNat).length := by rw [List.length_take]; omega
  have so : sortF [.d (.list ((ys.take (1 + i).toNat).map PyData.str))] = some (.d (.list ((sortS (ys.take (1 + i).toNat)).map PyData.str))) := by
    unfold sortF
    simp only [strsOf_map]
    rw [if_pos (by omega)]
  have sp := sortS_perm (ys.take (1 + i).toNat)
  have nsl : (sortS (ys.take (1 + i).toNat)).length ≤ 7 := by rw [sp.length_eq]; exact tl
  have nsp : 0 < (sortS (ys.take (1 + i).toNat)).length := by rw [sp.length_eq]; exact tp
  have nsub : ∀ y ∈ sortS (ys.take (1 + i).toNat), y ∈ names7 := fun y hy => hp.subset (List.mem_of_mem_take (sp.subset hy))
  have nnd : (sortS (ys.take (1 + i).toNat)).Nodup := by
    have nd : names7.Nodup := by decide +kernel
    exact sp.nodup_iff.mpr ((hp.nodup_iff.mpr nd).sublist (List.take_sublist _ _))
  have nasc : ascL (sortS (ys.take (1 + i).toNat)) = true := by
    rw [asc_pair]
    refine ((sortS_up (ys.take (1 + i).toNat)).and nnd).imp ?_
    rintro a b ⟨q1, q2⟩
    unfold leS at q1
    simp only [Bool.not_eq_true', decide_eq_false_iff_not] at q1
    by_cases q3 : a.cps.toList < b.cps.toList
    · exact q3
    · exact absurd (cps_inj (List.le_antisymm (List.not_lt.mp q1) (List.not_lt.mp q3))) q2
  generalize sortS (ys.take (1 + i).toNat) = ns at so nsl nsp nsub nnd nasc
  have hty : ∀ y ∈ ns, isTypeD (.str y) = true := fun y hy => by
    unfold isTypeD
    rw [Bool.or_eq_true]
    exact .inr (names7_ok y (nsub y hy)).1
  obtain ⟨ks, o3, o4, o5, d3, l1, l2, l3, el⟩ := sk_loop ns nsl hty ns [] none none none d2 (fun y hy => ⟨(names7_ok y (nsub y hy)).1, (names7_ok y (nsub y hy)).2.1⟩) (by simp; omega) (by simp) h2
  rw [List.map_nil, List.nil_append] at l1
  have kl : ks.length = ns.length := by
    have := congrArg List.length l1
    rwa [List.length_map] at this
  refine ⟨ks, d3, ⟨?_, by omega, fun k hk => (l2 k hk).1, by rw [l1]; exact nasc, ?_⟩, l3, ?_⟩
  · exact List.length_pos_iff.mp (by omega)
  · unfold typesOk
    rw [List.all_eq_true]
    intro k hk
    rw [List.all_eq_true]
    intro f hf
    rw [Bool.or_eq_true, decide_eq_true_iff, decide_eq_true_iff, l1]
    exact (l2 k hk).2 f hf
  · have eF : mFor (mIter (mVar [2] 1)) (aName 3) skB [some .deal, some (.d (.list (ns.map PyData.str))), some (.d (.list [])), none, none, none] (some d2) = .ok .nx [some .deal, some (.d (.list (ns.map PyData.str))), some (.d (.list (ks.map kD))), o3, o4, o5] (some d3) := by
      have hit := iter_seq (j := 1) (ow := [2]) (r := [some .deal, some (.d (.list (ns.map PyData.str))), some (.d (.list [])), none, none, none]) (t := some d2) (v := .list (ns.map PyData.str)) (vs := ns.map PyData.str) rfl rfl (by decide)
      rw [List.map_map] at hit
      unfold mFor M.bind
      rw [hit]
      exact el
    have ed : m__law_some_kinds mixFM anyFM ofFM = (mSeq (mAsg (aName 1) (mCB sortF (mCons (mSl (mCall 2 mixFM (mCons (mVar [2] 0) (mCons (mFz (mLst (mCons (mK (.d (.str "item"))) (mCons (mK (.d (.str "shelf"))) (mCons (mK (.d (.str "box"))) (mCons (mK (.d (.str "tree"))) (mCons (mK (.d (.str "n1"))) (mCons (mK (.d (.str "z"))) (mCons (mK (.d (.str "abcdefghijkl"))) mNil))))))))) mNil))) mNoP (mPart (mOp addF (mK (.d (.int 1))) (mCall 2 anyFM (mCons (mVar [2] 0) (mCons (mK (.d (.int 4))) mNil)))))) mNil))) (mSeq (mAsgO 2 (mLst mNil)) (mSeq (mFor (mIter (mVar [2] 1)) (aName 3) skB) (mRet (mCB tupF (mCons (mVar [2] 2) mNil)))))) := rfl
    unfold F__law_some_kinds
    rw [ed]
    have ha1 : addF (.d (.int 1)) (.d (.int i)) = some (.d (.int (1 + i))) := rfl
    generalize 1 + i = j at es ha1 so
    unfold ksD
    generalize ks.map kD = KK at eF ⊢
    generalize ns.map PyData.str = NN at so eF
    generalize (ys.take j.toNat).map PyData.str = TT at es so
    generalize ys.map PyData.str = YY at em' es
    generalize mFor (mIter (mVar [2] 1)) (aName 3) skB = FO at eF ⊢
    simp [M.bind, M.ret, M.st, mT, mOp, mVar, mK, use, keep, lft, boolOf, optM, mCB, useAll, mCons, mNil, mTup, mLst, mFz, keepD, mSeq, mRet, mIfS, mAnd, mOr, mNot, mAndV, mOrV, mNotV, mIfE, mCall, keepAll, runF, mAsg, aName, mNx, mChain, fnM, startR, isiF, isT, isTN, askT, tyN, isF, asks, truD, mTru, truS, isNoneD, isBoolD, mRaise, raiseM, oneD, mDrop, aTup, aCons, aNil, twoK, mPar, mU1, mM1, strOf, List.replicate, mSl, mNoP, mPart, intOf, em', ea', ha1, es, so, mAsgO, setO, eF, tupF]
end K01
end
section
set_option maxRecDepth 100000
set_option maxHeartbeats 4000000
namespace K01
open PySem PySem.Spec DL
/-- a small value -/
def Elt (y : PyData) : Prop := y.canLay0 = true ∧ y.depth ≤ 6 ∧ y.weight ≤ 3400
def eltB (y : PyData) : Bool := y.canLay0 && decide (y.depth ≤ 2) && decide (y.weight ≤ 40)
theorem eltB_sm {y : PyData} (h : eltB y = true) : y.canLay0 = true ∧ y.depth ≤ 2 ∧ y.weight ≤ 40 := by
  unfold eltB at h
  rw [Bool.and_eq_true, Bool.and_eq_true, decide_eq_true_iff, decide_eq_true_iff] at h
  exact ⟨h.1.1, h.1.2, h.2⟩
theorem lc_from {mi : M (List Sl)} {vs : List Nat} {f : Sl → M Unit} {test : M Bool} {elt : M Tk} {r r1 : Rho} {t t1 : Option Deal} {ds : List Sl} (hi : mi r t = .ok ds r1 t1) : mLc mi vs f test elt r t = mLc (M.ret ds) vs f test elt r1 t1 := by
  unfold mLc
  simp only [M.bind, M.ret, hi]
def near3 (n : Nat) : Bool := decide ((n : Int).natAbs.log2 < 1920) && decide ((100 + (n : Int)).natAbs.log2 < 1920) && PyData.strOk (("f" : Str) ++ (toString (n : Int) : Str)) && decide ((("f" : Str) ++ (toString (n : Int) : Str)).length ≤ 12) && PyData.strOk (("k" : Str) ++ (toString (100 + (n : Int)) : Str)) && decide ((("k" : Str) ++ (toString (100 + (n : Int)) : Str)).length ≤ 12) && decide ((toString (n : Int) : Str).length ≤ 12) && decide ((toString (100 + (n : Int)) : Str).length ≤ 12)
theorem nums_ok : (List.range 42).all near3 = true := by decide +kernel
structure Num (n : Nat) : Prop where
  l1 : (n : Int).natAbs.log2 < 1920
  l2 : (100 + (n : Int)).natAbs.log2 < 1920
  s1 : PyData.strOk (("f" : Str) ++ (toString (n : Int) : Str)) = true
  n1 : (("f" : Str) ++ (toString (n : Int) : Str)).length ≤ 12
  s2 : PyData.strOk (("k" : Str) ++ (toString (100 + (n : Int)) : Str)) = true
  n2 : (("k" : Str) ++ (toString (100 + (n : Int)) : Str)).length ≤ 12
  m1 : (toString (n : Int) : Str).length ≤ 12
  m2 : (toString (100 + (n : Int)) : Str).length ≤ 12
theorem num_of {n : Nat} (h : n < 42) : Num n := by
  have := List.all_eq_true.mp nums_ok n (List.mem_range.mpr h)
  unfold near3 at this
  simp only [Bool.and_eq_true, decide_eq_true_iff] at this
  obtain ⟨⟨⟨⟨⟨⟨⟨a, b⟩, c⟩, d⟩, e⟩, f⟩, g⟩, i⟩ := this
  exact ⟨a, b, c, d, e, f, g, i⟩
noncomputable def rngB (a b c : Int) : M (List Sl) := mRange rng1 (mCons (mCall 2 ofFM (mCons (mVar [] 0) (mCons (mFz (mLst (mCons (mK (.d (.int a))) (mCons (mK (.d (.int b))) (mCons (mK (.d (.int c))) mNil))))) mNil))) mNil)
theorem rngB_k {a b c N : Int} {RG : List Sl} {r : Rho} {dl dl' : Deal} (hr : rng1 [.d (.int N)] = some RG) (e : ofFM [.deal, .d (.list [.int a, .int b, .int c])] (some dl) = .ok (.d (.int N)) (some dl')) : rngB a b c (some .deal :: r) (some dl) = .ok RG (some .deal :: r) (some dl') := by
  unfold rngB mRange
  generalize rng1 = R1 at hr
  simp [M.bind, M.ret, M.st, mT, mOp, mVar, mK, use, keep, lft, boolOf, optM, mCB, useAll, mCons, mNil, mTup, mLst, mFz, keepD, mSeq, mRet, mIfS, mAnd, mOr, mNot, mAndV, mOrV, mNotV, mIfE, mCall, keepAll, runF, mAsg, aName, mNx, mChain, fnM, startR, isiF, isT, isTN, askT, tyN, isF, asks, truD, mTru, truS, isNoneD, isBoolD, mRaise, raiseM, oneD, mDrop, aTup, aCons, aNil, twoK, mPar, mU1, mM1, strOf, List.replicate, e, hr]
theorem rng1_nat {n : Nat} (h : n ≤ 1000) : rng1 [.d (.int n)] = some (rangeS 0 n) := by
  unfold rng1
  simp only
  rw [if_pos (by omega), Int.toNat_natCast]
theorem rngB_e {a b c : Nat} (ha : a ≤ 41) (hb : b ≤ 41) (hc : c ≤ 41) {r : Rho} {dl : Deal} (hd : fineD dl) : ∃ (n : Nat) (dl' : Deal), n ≤ 41 ∧ fineD dl' ∧ rngB a b c (some .deal :: r) (some dl) = .ok (rangeS 0 n) (some .deal :: r) (some dl') := by
  obtain ⟨v, dl', hv, hf, e⟩ := of_call (vs := [.int a, .int b, .int c]) (dl := dl) (by simp) (by simp) hd
  have hn : ∃ n : Nat, v = .int n ∧ n ≤ 41 := by
    simp only [List.mem_cons, List.not_mem_nil, or_false] at hv
    rcases hv with rfl | rfl | rfl
    · exact ⟨a, rfl, ha⟩
    · exact ⟨b, rfl, hb⟩
    · exact ⟨c, rfl, hc⟩
  obtain ⟨n, rfl, hn⟩ := hn
  exact ⟨n, dl', hn, hf, rngB_k (rng1_nat (by omega)) e⟩
theorem rangeS_mem {n : Nat} {d : Sl} (h : d ∈ rangeS 0 n) : ∃ i : Nat, i < n ∧ d = .d (.int i) := by
  unfold rangeS at h
  obtain ⟨i, hi, rfl⟩ := List.mem_map.mp h
  exact ⟨i, List.mem_range.mp hi, by simp⟩
theorem rangeS_len (n : Nat) : (rangeS 0 n).length = n := by
  unfold rangeS
  rw [List.length_map, List.length_range]
noncomputable def elF : M Tk := (mTup (mCons (mOp addF (mK (.d (.str "f"))) (mCB strF (mCons (mVar [] 6) mNil))) (mCons (mK (.d (.str "int"))) mNil)))
noncomputable def elK : M Tk := (mTup (mCons (mK (.d (.str "kind"))) (mCons (mOp addF (mK (.d (.str "k"))) (mCB strF (mCons (mOp addF (mK (.d (.int 100))) (mVar [] 6)) mNil))) (mCons (mTup mNil) mNil))))
def gF : Sl → PyData
  | .d (.int i) => .tuple [.str (("f" : Str) ++ (toString i : Str)), .str "int"]
  | _ => .none
def gK : Sl → PyData
  | .d (.int i) => .tuple [.str "kind", .str (("k" : Str) ++ (toString (100 + i) : Str)), .tuple []]
  | _ => .none
theorem gF_sm {n : Nat} (h : n < 42) : (gF (.d (.int n))).canLay0 = true ∧ (gF (.d (.int n))).depth ≤ 1 ∧ (gF (.d (.int n))).weight ≤ 26 := by
  have q := num_of h
  refine tup_sm (n := 2) (b := 12) (d := 0) (fun x hx => ?_) (Nat.le_refl _)
  rcases List.mem_cons.mp hx with rfl | hx
  · exact str_sm q.s1 q.n1
  · rw [List.mem_singleton.mp hx]
    exact str_sm (by decide +kernel) (by decide +kernel)
theorem gK_sm {n : Nat} (h : n < 42) : (gK (.d (.int n))).canLay0 = true ∧ (gK (.d (.int n))).depth ≤ 2 ∧ (gK (.d (.int n))).weight ≤ 39 := by
  have q := num_of h
  refine tup_sm (n := 3) (b := 12) (d := 1) (fun x hx => ?_) (Nat.le_refl _)
  simp only [List.mem_cons, List.not_mem_nil, or_false] at hx
  rcases hx with rfl | rfl | rfl
  · obtain ⟨i, j, l⟩ := kind_str_sm
    exact ⟨i, by omega, by omega⟩
  · obtain ⟨i, j, l⟩ := str_sm q.s2 q.n2
    exact ⟨i, by omega, by omega⟩
  · exact ⟨rfl, by decide, by decide⟩
theorem fl1 : ("f" : Str).length = 1 := by decide +kernel
theorem kl1 : ("k" : Str).length = 1 := by decide +kernel
theorem lcF_e {a0 a1 a2 a3 a4 a5 a6 : Option Sl} {t : Option Deal} {n : Nat} (hn : n ≤ 41) : mLc (M.ret (rangeS 0 n)) [6] (aName 6) (M.ret true) elF [a0, a1, a2, a3, a4, a5, a6] t = .ok ((rangeS 0 n).map gF) [a0, a1, a2, a3, a4, a5, a6] t := by
  have := lc1 (mi := M.ret (rangeS 0 n)) (i := 6) (test := M.ret true) (elt := elF) (r := [a0, a1, a2, a3, a4, a5, a6]) (t := t) (p := fun _ => true) (g := gF) (ds := rangeS 0 n) rfl (by rw [rangeS_len]; omega) (by simp) (fun _ _ => rfl) fun d hd _ => ?_
  · rw [this, List.filter_eq_self.mpr (fun _ _ => rfl)]
  · obtain ⟨i, hi, rfl⟩ := rangeS_mem hd
    have q := num_of (n := i) (by omega)
    have es : strF [.d (.int i)] = some (.d (.str (toString (i : Int)))) := if_pos q.l1
    have ea : addF (.d (.str "f")) (.d (.str (toString (i : Int)))) = some (.d (.str (("f" : Str) ++ (toString (i : Int) : Str)))) := if_pos (by rw [fl1]; have := q.m1; omega)
    generalize hz : (Str.ofString (toString (i : Int))) = zz at es ea
    have eg : gF (.d (.int i)) = .tuple [.str (("f" : Str) ++ zz), .str "int"] := by rw [← hz]; rfl
    rw [eg]
    simp [elF, M.bind, M.ret, M.st, mT, mOp, mVar, mK, use, keep, lft, boolOf, optM, mCB, useAll, mCons, mNil, mTup, mLst, mFz, keepD, mSeq, mRet, mIfS, mAnd, mOr, mNot, mAndV, mOrV, mNotV, mIfE, mCall, keepAll, runF, mAsg, aName, mNx, mChain, fnM, startR, isiF, isT, isTN, askT, tyN, isF, asks, truD, mTru, truS, isNoneD, isBoolD, mRaise, raiseM, oneD, mDrop, aTup, aCons, aNil, twoK, mPar, mU1, mM1, strOf, List.replicate, es, ea]
theorem lcK_e {a0 a1 a2 a3 a4 a5 a6 : Option Sl} {t : Option Deal} {n : Nat} (hn : n ≤ 41) : mLc (M.ret (rangeS 0 n)) [6] (aName 6) (M.ret true) elK [a0, a1, a2, a3, a4, a5, a6] t = .ok ((rangeS 0 n).map gK) [a0, a1, a2, a3, a4, a5, a6] t := by
  have := lc1 (mi := M.ret (rangeS 0 n)) (i := 6) (test := M.ret true) (elt := elK) (r := [a0, a1, a2, a3, a4, a5, a6]) (t := t) (p := fun _ => true) (g := gK) (ds := rangeS 0 n) rfl (by rw [rangeS_len]; omega) (by simp) (fun _ _ => rfl) fun d hd _ => ?_
  · rw [this, List.filter_eq_self.mpr (fun _ _ => rfl)]
  · obtain ⟨i, hi, rfl⟩ := rangeS_mem hd
    have q := num_of (n := i) (by omega)
    have e0 : addF (.d (.int 100)) (.d (.int i)) = some (.d (.int (100 + i))) := rfl
    have es : strF [.d (.int (100 + i))] = some (.d (.str (toString (100 + (i : Int))))) := if_pos q.l2
    have ea : addF (.d (.str "k")) (.d (.str (toString (100 + (i : Int))))) = some (.d (.str (("k" : Str) ++ (toString (100 + (i : Int)) : Str)))) := if_pos (by rw [kl1]; have := q.m2; omega)
    generalize hz : (Str.ofString (toString (100 + (i : Int)))) = zz at es ea
    have eg : gK (.d (.int i)) = .tuple [.str "kind", .str (("k" : Str) ++ zz), .tuple []] := by rw [← hz]; rfl
    rw [eg]
    generalize (100 + (i : Int)) = jj at e0 es
    simp [elK, M.bind, M.ret, M.st, mT, mOp, mVar, mK, use, keep, lft, boolOf, optM, mCB, useAll, mCons, mNil, mTup, mLst, mFz, keepD, mSeq, mRet, mIfS, mAnd, mOr, mNot, mAndV, mOrV, mNotV, mIfE, mCall, keepAll, runF, mAsg, aName, mNx, mChain, fnM, startR, isiF, isT, isTN, askT, tyN, isF, asks, truD, mTru, truS, isNoneD, isBoolD, mRaise, raiseM, oneD, mDrop, aTup, aCons, aNil, twoK, mPar, mU1, mM1, strOf, List.replicate, e0, es, ea]
/-- the kind bent -/
noncomputable def bK : M Fl := (mIfS (mT (mOp eqF (mVar [] 3) (mK (.d (.int 0))))) (mAsg (aName 4) (mOp addF (mSl (mVar [] 4) mNoP (mPart (mK (.d (.int 2))))) (mTup (mCons (mOp addF (mOp atF (mVar [] 4) (mK (.d (.int 2)))) (mTup (mCons (mCall 2 ofFM (mCons (mVar [] 0) (mCons (mFz (mLst (mCons (mTup (mCons (mK (.d (.str "n9"))) (mCons (mK (.d (.str "int"))) mNil))) (mCons (mTup (mCons (mK (.d (.str "n9"))) (mCons (mK (.d (.str "item"))) mNil))) (mCons (mTup (mCons (mK (.d (.str "n9"))) (mCons (mK (.d (.str "zzzz"))) mNil))) (mCons (mTup (mCons (mK (.d (.str "int"))) (mCons (mK (.d (.str "int"))) mNil))) (mCons (mTup (mCons (mK (.d (.str "N"))) (mCons (mK (.d (.str "int"))) mNil))) (mCons (mTup (mCons (mK (.d (.str "n9"))) (mCons (mK (.d .none)) mNil))) (mCons (mTup (mCons (mK (.d (.str "n9"))) mNil)) (mCons (mK (.d (.str "n9"))) (mCons (mTup (mCons (mK (.d (.str "n9"))) (mCons (mK (.d (.str "int"))) (mCons (mK (.d (.int 1))) mNil)))) mNil))))))))))) mNil))) mNil))) mNil)))) (mIfS (mT (mOp eqF (mVar [] 3) (mK (.d (.int 1))))) (mAsg (aName 4) (mOp addF (mSl (mVar [] 4) mNoP (mPart (mK (.d (.int 2))))) (mTup (mCons (mOp addF (mOp atF (mVar [] 4) (mK (.d (.int 2)))) (mSl (mOp atF (mVar [] 4) (mK (.d (.int 2)))) mNoP (mPart (mK (.d (.int 1)))))) mNil)))) (mIfS (mT (mOp eqF (mVar [] 3) (mK (.d (.int 2))))) (mAsg (aName 4) (mTup (mCons (mK (.d (.str "kind"))) (mCons (mCall 2 ofFM (mCons (mVar [] 0) (mCons (mFz (mLst (mCons (mK (.d (.str "kind"))) (mCons (mK (.d (.str ""))) (mCons (mK (.d (.str "a"))) (mCons (mK (.d (.str "zzzz"))) (mCons (mK (.d .none)) (mCons (mK (.d (.str "item"))) mNil)))))))) mNil))) (mCons (mOp atF (mVar [] 4) (mK (.d (.int 2)))) mNil))))) (mIfS (mT (mOp eqF (mVar [] 3) (mK (.d (.int 3))))) (mAsg (aName 4) (mCall 2 ofFM (mCons (mVar [] 0) (mCons (mFz (mLst (mCons (mFz (mCBF listF (mCons (mVar [] 4) mNil))) (mCons (mSl (mVar [] 4) mNoP (mPart (mK (.d (.int 2))))) (mCons (mOp addF (mSl (mVar [] 4) mNoP (mPart (mK (.d (.int 2))))) (mTup (mCons (mFz (mCBF listF (mCons (mOp atF (mVar [] 4) (mK (.d (.int 2)))) mNil))) mNil))) (mCons (mOp addF (mTup (mCons (mK (.d (.str "Kind"))) mNil)) (mSl (mVar [] 4) (mPart (mK (.d (.int 1)))) mNoP)) (mCons (mK (.d .none)) mNil))))))) mNil)))) (mIfS (mT (mOp eqF (mVar [] 3) (mK (.d (.int 4))))) (mAsg (aName 4) (mOp addF (mSl (mVar [] 4) mNoP (mPart (mK (.d (.int 2))))) (mTup (mCons (mCB tupF (mCons (mFz (mLc (rngB 11 12 13) [6] (aName 6) (M.ret true) elF)) mNil)) mNil)))) mNx)))))
theorem sl2 (a b c : PyData) : slF none (some 2) (.d (.tuple [a, b, c])) = some (.d (.tuple [a, b])) := rfl
theorem sl1 (a b c : PyData) : slF (some 1) none (.d (.tuple [a, b, c])) = some (.d (.tuple [b, c])) := rfl
theorem at2 (a b c : PyData) : atF (.d (.tuple [a, b, c])) (.d (.int 2)) = some (.d c) := rfl
theorem addT_e {xs ys : List PyData} (h : xs.length + ys.length ≤ 16777216) : addF (.d (.tuple xs)) (.d (.tuple ys)) = some (.d (.tuple (xs ++ ys))) := if_pos h
theorem eqI (i j : Int) : eqF (.d (.int i)) (.d (.int j)) = some (.d (.bool (decide (i = j)))) := by
  simp [eqF, eqOk, scalD, PyData.eqv]
  by_cases h : i = j <;> simp [h]
theorem k3_elt {a b c : PyData} (ha : a.canLay0 = true ∧ a.depth ≤ 3 ∧ a.weight ≤ 600) (hb : b.canLay0 = true ∧ b.depth ≤ 3 ∧ b.weight ≤ 600) (hc : c.canLay0 = true ∧ c.depth ≤ 3 ∧ c.weight ≤ 600) : Elt (.tuple [a, b, c]) := by
  obtain ⟨i, j, l⟩ := tup_sm (xs := [a, b, c]) (n := 3) (b := 600) (d := 3) (fun x hx => by
    simp only [List.mem_cons, List.not_mem_nil, or_false] at hx
    rcases hx with rfl | rfl | rfl
    · exact ha
    · exact hb
    · exact hc) (Nat.le_refl _)
  exact ⟨i, by omega, by omega⟩
theorem up {x : PyData} {d w : Nat} (h : x.canLay0 = true ∧ x.depth ≤ d ∧ x.weight ≤ w) (hd : d ≤ 3) (hw : w ≤ 600) : x.canLay0 = true ∧ x.depth ≤ 3 ∧ x.weight ≤ 600 := ⟨h.1, by have := h.2.1; omega, by have := h.2.2; omega⟩
theorem bK_e {k : Kd} (g : GoodK k) {form : Int} {a1 a2 a5 a6 : Option Sl} {dl : Deal} (hd : fineD dl) : ∃ (y : PyData) (dl' : Deal), Elt y ∧ fineD dl' ∧ bK [some .deal, a1, a2, some (.d (.int form)), some (.d (kD k)), a5, a6] (some dl) = .ok .nx [some .deal, a1, a2, some (.d (.int form)), some (.d y), a5, a6] (some dl') := by
  have hfl := flds_sm g
  have hks := kind_str_sm
  have hnm := str_sm (name_sm g.nm).1 (name_sm g.nm).2
  have hkD := kD_sm g
  have hflen : (k.2.map fD).length ≤ 12 := by rw [List.length_map]; exact g.len
  have hfsm : ∀ x ∈ k.2.map fD, x.canLay0 = true ∧ x.depth ≤ 2 ∧ x.weight ≤ 40 := fun x hx => by
    obtain ⟨f, hf, rfl⟩ := List.mem_map.mp hx
    obtain ⟨i, j, l⟩ := fD_sm (g.fd f hf).1 (g.fd f hf).2
    exact ⟨i, by omega, by omega⟩
  have ek : kD k = .tuple [.str "kind", .str k.1, .tuple (k.2.map fD)] := rfl
  by_cases f0 : form = 0
  · subst f0
    obtain ⟨v, dl', hv, hf, e⟩ := of_call (vs := [.tuple [.str "n9", .str "int"], .tuple [.str "n9", .str "item"], .tuple [.str "n9", .str "zzzz"], .tuple [.str "int", .str "int"], .tuple [.str "N", .str "int"], .tuple [.str "n9", .none], .tuple [.str "n9"], .str "n9", .tuple [.str "n9", .str "int", .int 1]]) (dl := dl) (by simp) (by simp) hd
    have hvs : v.canLay0 = true ∧ v.depth ≤ 2 ∧ v.weight ≤ 40 := by
      have : [PyData.tuple [.str "n9", .str "int"], .tuple [.str "n9", .str "item"], .tuple [.str "n9", .str "zzzz"], .tuple [.str "int", .str "int"], .tuple [.str "N", .str "int"], .tuple [.str "n9", .none], .tuple [.str "n9"], .str "n9", .tuple [.str "n9", .str "int", .int 1]].all eltB = true := by decide +kernel
      exact eltB_sm (List.all_eq_true.mp this v hv)
    refine ⟨.tuple [.str "kind", .str k.1, .tuple (k.2.map fD ++ [v])], dl', k3_elt (up hks (by decide) (by decide)) (up hnm (by decide) (by decide)) (up (tup_sm (n := 13) (b := 40) (d := 2) (fun x hx => ?_) (by simp at hflen ⊢; omega)) (by decide) (by decide)), hf, ?_⟩
    · rcases List.mem_append.mp hx with hx | hx
      · exact hfsm x hx
      · rw [List.mem_singleton.mp hx]
        exact hvs
    · rw [ek]
      have ea : addF (.d (.tuple (k.2.map fD))) (.d (.tuple [v])) = some (.d (.tuple (k.2.map fD ++ [v]))) := addT_e (by simp at hflen ⊢; omega)
      generalize k.2.map fD = FF at ea ⊢
      simp [bK, M.bind, M.ret, M.st, mT, mOp, mVar, mK, use, keep, lft, boolOf, optM, mCB, useAll, mCons, mNil, mTup, mLst, mFz, keepD, mSeq, mRet, mIfS, mAnd, mOr, mNot, mAndV, mOrV, mNotV, mIfE, mCall, keepAll, runF, mAsg, aName, mNx, mChain, fnM, startR, isiF, isT, isTN, askT, tyN, isF, asks, truD, mTru, truS, isNoneD, isBoolD, mRaise, raiseM, oneD, mDrop, aTup, aCons, aNil, twoK, mPar, mU1, mM1, strOf, List.replicate, eqI, mSl, mNoP, mPart, intOf, sl2, at2, e, ea, addT_e]
  · by_cases f1 : form = 1
    · subst f1
      refine ⟨.tuple [.str "kind", .str k.1, .tuple (k.2.map fD ++ (k.2.map fD).take 1)], dl, k3_elt (up hks (by decide) (by decide)) (up hnm (by decide) (by decide)) (up (tup_sm (n := 13) (b := 40) (d := 2) (fun x hx => ?_) (by simp at hflen ⊢; omega)) (by decide) (by decide)), hd, ?_⟩
      · rcases List.mem_append.mp hx with hx | hx
        · exact hfsm x hx
        · exact hfsm x (List.mem_of_mem_take hx)
      · rw [ek]
        have ea : addF (.d (.tuple (k.2.map fD))) (.d (.tuple ((k.2.map fD).take 1))) = some (.d (.tuple (k.2.map fD ++ (k.2.map fD).take 1))) := addT_e (by simp at hflen ⊢; omega)
        have es : slF none (some 1) (.d (.tuple (k.2.map fD))) = some (.d (.tuple ((k.2.map fD).take 1))) := by
          unfold slF
          simp only
          rw [cut_to _ (by decide)]
          rfl
        generalize (k.2.map fD).take 1 = F1 at ea es ⊢
        generalize k.2.map fD = FF at ea es ⊢
        simp [bK, M.bind, M.ret, M.st, mT, mOp, mVar, mK, use, keep, lft, boolOf, optM, mCB, useAll, mCons, mNil, mTup, mLst, mFz, keepD, mSeq, mRet, mIfS, mAnd, mOr, mNot, mAndV, mOrV, mNotV, mIfE, mCall, keepAll, runF, mAsg, aName, mNx, mChain, fnM, startR, isiF, isT, isTN, askT, tyN, isF, asks, truD, mTru, truS, isNoneD, isBoolD, mRaise, raiseM, oneD, mDrop, aTup, aCons, aNil, twoK, mPar, mU1, mM1, strOf, List.replicate, eqI, mSl, mNoP, mPart, intOf, sl2, at2, ea, es, addT_e]
    · by_cases f2 : form = 2
      · subst f2
        obtain ⟨v, dl', hv, hf, e⟩ := of_call (vs := [.str "kind", .str "", .str "a", .str "zzzz", .none, .str "item"]) (dl := dl) (by simp) (by simp) hd
        have hvs : v.canLay0 = true ∧ v.depth ≤ 2 ∧ v.weight ≤ 40 := by
          have : [PyData.str "kind", .str "", .str "a", .str "zzzz", .none, .str "item"].all eltB = true := by decide +kernel
          exact eltB_sm (List.all_eq_true.mp this v hv)
        refine ⟨.tuple [.str "kind", v, .tuple (k.2.map fD)], dl', k3_elt (up hks (by decide) (by decide)) (up hvs (by decide) (by decide)) (up hfl (by decide) (by decide)), hf, ?_⟩
        rw [ek]
        generalize k.2.map fD = FF
        simp [bK, M.bind, M.ret, M.st, mT, mOp, mVar, mK, use, keep, lft, boolOf, optM, mCB, useAll, mCons, mNil, mTup, mLst, mFz, keepD, mSeq, mRet, mIfS, mAnd, mOr, mNot, mAndV, mOrV, mNotV, mIfE, mCall, keepAll, runF, mAsg, aName, mNx, mChain, fnM, startR, isiF, isT, isTN, askT, tyN, isF, asks, truD, mTru, truS, isNoneD, isBoolD, mRaise, raiseM, oneD, mDrop, aTup, aCons, aNil, twoK, mPar, mU1, mM1, strOf, List.replicate, eqI, at2, e]
      · by_cases f3 : form = 3
        · subst f3
          have hl2 : Elt (.list [.str "kind", .str k.1, .tuple (k.2.map fD)]) := k3_elt (up hks (by decide) (by decide)) (up hnm (by decide) (by decide)) (up hfl (by decide) (by decide))
          have hf2 : (PyData.list (k.2.map fD)).canLay0 = true ∧ (PyData.list (k.2.map fD)).depth ≤ 2 ∧ (PyData.list (k.2.map fD)).weight ≤ 324 := hfl
          obtain ⟨v, dl', hv, hf, e⟩ := of_call (vs := [.list [.str "kind", .str k.1, .tuple (k.2.map fD)], .tuple [.str "kind", .str k.1], .tuple [.str "kind", .str k.1, .list (k.2.map fD)], .tuple [.str "Kind", .str k.1, .tuple (k.2.map fD)], .none]) (dl := dl) (by simp) (by simp) hd
          have hvs : Elt v := by
            simp only [List.mem_cons, List.not_mem_nil, or_false] at hv
            rcases hv with rfl | rfl | rfl | rfl | rfl
            · exact hl2
            · obtain ⟨i, j, l⟩ := tup_sm (xs := [.str "kind", .str k.1]) (n := 2) (b := 12) (d := 0) (fun x hx => by
                rcases List.mem_cons.mp hx with rfl | hx
                · exact hks
                · rw [List.mem_singleton.mp hx]
                  exact hnm) (Nat.le_refl _)
              exact ⟨i, by omega, by omega⟩
            · exact k3_elt (up hks (by decide) (by decide)) (up hnm (by decide) (by decide)) (up hf2 (by decide) (by decide))
            · exact k3_elt (up (str_sm (by decide +kernel) (by decide +kernel)) (by decide) (by decide)) (up hnm (by decide) (by decide)) (up hfl (by decide) (by decide))
            · exact ⟨rfl, by decide, by decide⟩
          refine ⟨v, dl', hvs, hf, ?_⟩
          rw [ek]
          generalize k.2.map fD = FF at e ⊢
          simp [bK, M.bind, M.ret, M.st, mT, mOp, mVar, mK, use, keep, lft, boolOf, optM, mCB, useAll, mCons, mNil, mTup, mLst, mFz, keepD, mSeq, mRet, mIfS, mAnd, mOr, mNot, mAndV, mOrV, mNotV, mIfE, mCall, keepAll, runF, mAsg, aName, mNx, mChain, fnM, startR, isiF, isT, isTN, askT, tyN, isF, asks, truD, mTru, truS, isNoneD, isBoolD, mRaise, raiseM, oneD, mDrop, aTup, aCons, aNil, twoK, mPar, mU1, mM1, strOf, List.replicate, eqI, mSl, mNoP, mPart, intOf, mCBF, listF, sl2, sl1, at2, e, addT_e]
        · by_cases f4 : form = 4
          · subst f4
            obtain ⟨n, dl', hn, hf, e⟩ := rngB_e (a := 11) (b := 12) (c := 13) (by decide) (by decide) (by decide) (r := [a1, a2, some (.d (.int 4)), some (.d (kD k)), a5, a6]) hd
            have e' : rngB 11 12 13 [some .deal, a1, a2, some (.d (.int 4)), some (.d (kD k)), a5, a6] (some dl) = .ok (rangeS 0 n) [some .deal, a1, a2, some (.d (.int 4)), some (.d (kD k)), a5, a6] (some dl') := e
            have lc : mLc (rngB 11 12 13) [6] (aName 6) (M.ret true) elF [some .deal, a1, a2, some (.d (.int 4)), some (.d (kD k)), a5, a6] (some dl) = .ok ((rangeS 0 n).map gF) [some .deal, a1, a2, some (.d (.int 4)), some (.d (kD k)), a5, a6] (some dl') := by
              rw [lc_from e', lcF_e hn]
            obtain ⟨i, j, l⟩ := tup_sm (xs := (rangeS 0 n).map gF) (n := 41) (b := 26) (d := 1) (fun x hx => by
              obtain ⟨d, hd2, rfl⟩ := List.mem_map.mp hx
              obtain ⟨i, hi, rfl⟩ := rangeS_mem hd2
              exact gF_sm (by omega)) (by rw [List.length_map, rangeS_len]; exact hn)
            refine ⟨.tuple [.str "kind", .str k.1, .tuple ((rangeS 0 n).map gF)], dl', ?_, hf, ?_⟩
            · obtain ⟨i2, j2, l2⟩ := tup_sm (xs := [.str "kind", .str k.1, .tuple ((rangeS 0 n).map gF)]) (n := 3) (b := 1107) (d := 3) (fun x hx => by
                simp only [List.mem_cons, List.not_mem_nil, or_false] at hx
                rcases hx with rfl | rfl | rfl
                · exact ⟨hks.1, by have := hks.2.1; omega, by have := hks.2.2; omega⟩
                · exact ⟨hnm.1, by have := hnm.2.1; omega, by have := hnm.2.2; omega⟩
                · exact ⟨i, by omega, by omega⟩) (Nat.le_refl _)
              exact ⟨i2, by omega, by omega⟩
            · rw [ek] at lc ⊢
              generalize (rangeS 0 n).map gF = GG at lc ⊢
              generalize k.2.map fD = FF at lc ⊢
              unfold bK
              generalize mLc (rngB 11 12 13) [6] (aName 6) (M.ret true) elF = LC at lc ⊢
              simp [M.bind, M.ret, M.st, mT, mOp, mVar, mK, use, keep, lft, boolOf, optM, mCB, useAll, mCons, mNil, mTup, mLst, mFz, keepD, mSeq, mRet, mIfS, mAnd, mOr, mNot, mAndV, mOrV, mNotV, mIfE, mCall, keepAll, runF, mAsg, aName, mNx, mChain, fnM, startR, isiF, isT, isTN, askT, tyN, isF, asks, truD, mTru, truS, isNoneD, isBoolD, mRaise, raiseM, oneD, mDrop, aTup, aCons, aNil, twoK, mPar, mU1, mM1, strOf, List.replicate, eqI, mSl, mNoP, mPart, intOf, sl2, lc, tupF, addT_e]
          · refine ⟨kD k, dl, ⟨hkD.1, by have := hkD.2.1; omega, by have := hkD.2.2; omega⟩, hd, ?_⟩
            generalize kD k = KK
            simp [bK, M.bind, M.ret, M.st, mT, mOp, mVar, mK, use, keep, lft, boolOf, optM, mCB, useAll, mCons, mNil, mTup, mLst, mFz, keepD, mSeq, mRet, mIfS, mAnd, mOr, mNot, mAndV, mOrV, mNotV, mIfE, mCall, keepAll, runF, mAsg, aName, mNx, mChain, fnM, startR, isiF, isT, isTN, askT, tyN, isF, asks, truD, mTru, truS, isNoneD, isBoolD, mRaise, raiseM, oneD, mDrop, aTup, aCons, aNil, twoK, mPar, mU1, mM1, strOf, List.replicate, eqI, f0, f1, f2, f3, f4]
end K01
end
section
set_option maxRecDepth 100000
set_option maxHeartbeats 4000000
namespace K01
open PySem PySem.Spec DL
noncomputable def bP : M Fl := (mPar 2 3 (mCons (mCall 2 anyFM (mCons (mVar [] 0) (mCons (mCB lenF (mCons (mVar [] 1) mNil)) mNil))) (mCons (mCall 2 anyFM (mCons (mVar [] 0) (mCons (mK (.d (.int 9))) mNil))) mNil)))
noncomputable def bQ : M Fl := (mAsg (aName 4) (mOp atF (mVar [] 1) (mVar [] 2)))
noncomputable def bF : M Fl := (mAsg (aName 5) (mOp addF (mOp addF (mSl (mVar [] 1) mNoP (mPart (mVar [] 2))) (mTup (mCons (mVar [] 4) mNil))) (mSl (mVar [] 1) (mPart (mOp addF (mVar [] 2) (mK (.d (.int 1))))) mNoP)))
noncomputable def bE : M Fl := (mSeq (mIfS (mT (mOp eqF (mVar [] 3) (mK (.d (.int 5))))) (mRet (mRevT (mVar [] 5))) mNx) (mSeq (mIfS (mT (mOp eqF (mVar [] 3) (mK (.d (.int 6))))) (mRet (mOp addF (mVar [] 5) (mVar [] 5))) mNx) (mSeq (mIfS (mT (mOp eqF (mVar [] 3) (mK (.d (.int 7))))) (mRet (mCB tupF (mCons (mFz (mLc (rngB 39 40 41) [6] (aName 6) (M.ret true) elK)) mNil))) mNx) (mRet (mIfE (mT (mOp eqF (mVar [] 3) (mK (.d (.int 8))))) (mFz (mCBF listF (mCons (mVar [] 5) mNil))) (mVar [] 5))))))
theorem bent_eq : m__law_bent anyFM ofFM = mSeq bP (mSeq bQ (mSeq bK (mSeq bF bE))) := rfl
theorem seq_nx {m n : M Fl} {r r' : Rho} {t t' : Option Deal} (h : m r t = .ok .nx r' t') : mSeq m n r t = n r' t' := by
  unfold mSeq M.bind
  rw [h]
def NearL (x : PyData) (xs : List PyData) : Prop := (x = .list xs ∨ x = .tuple xs) ∧ xs.length ≤ 50 ∧ ∀ y ∈ xs, Elt y
theorem NearL.fine {x : PyData} {xs : List PyData} (h : NearL x xs) : fine x = true := by
  obtain ⟨h1, h2, h3⟩ := h
  obtain ⟨i, j, l⟩ := tup_sm (xs := xs) (n := 50) (b := 3400) (d := 6) h3 h2
  rcases h1 with rfl | rfl
  · exact Sm.fine (B := 170050) ⟨i, by show (PyData.tuple xs).depth ≤ 20; omega, l⟩ (by decide)
  · exact Sm.fine (B := 170050) ⟨i, by show (PyData.tuple xs).depth ≤ 20; omega, l⟩ (by decide)
theorem bP_e {ks : List Kd} (hm : Made ks) {dl : Deal} (hd : fineD dl) : ∃ (at_ form : Int) (dl' : Deal), 0 ≤ at_ ∧ at_ < ks.length ∧ fineD dl' ∧ bP [some .deal, some (.d (ksD ks)), none, none, none, none, none] (some dl) = .ok .nx [some .deal, some (.d (ksD ks)), some (.d (.int at_)), some (.d (.int form)), none, none, none] (some dl') := by
  have hl := hm.len
  have hp : 0 < ks.length := List.length_pos_iff.mpr hm.ne
  obtain ⟨i, d1, i0, i1, h1, e1⟩ := any_callN ks.length hp (by omega) hd
  obtain ⟨j, d2, j0, j1, h2, e2⟩ := any_callN 9 (by decide) (by decide) h1
  refine ⟨i, j, d2, i0, i1, h2, ?_⟩
  have e2' : anyFM [.deal, .d (.int 9)] (some d1) = .ok (.d (.int j)) (some d2) := e2
  have el : lenF [.d (ksD ks)] = some (.d (.int (ks.length : Nat))) := by simp [lenF, ksD]
  generalize ((ks.length : Nat) : Int) = N at e1 el
  generalize ksD ks = KS at el ⊢
  unfold bP
  simp [M.bind, M.ret, M.st, mT, mOp, mVar, mK, use, keep, lft, boolOf, optM, mCB, useAll, mCons, mNil, mTup, mLst, mFz, keepD, mSeq, mRet, mIfS, mAnd, mOr, mNot, mAndV, mOrV, mNotV, mIfE, mCall, keepAll, runF, mAsg, aName, mNx, mChain, fnM, startR, isiF, isT, isTN, askT, tyN, isF, asks, truD, mTru, truS, isNoneD, isBoolD, mRaise, raiseM, oneD, mDrop, aTup, aCons, aNil, twoK, mPar, mU1, mM1, strOf, List.replicate, el, e1, e2']
theorem bQ_e {ks : List Kd} {at_ : Int} (h0 : 0 ≤ at_) (h1 : at_ < ks.length) {k : Kd} (hk : ks[at_.toNat]? = some k) {form : Sl} {t : Option Deal} : bQ [some .deal, some (.d (ksD ks)), some (.d (.int at_)), some form, none, none, none] t = .ok .nx [some .deal, some (.d (ksD ks)), some (.d (.int at_)), some form, some (.d (kD k)), none, none] t := by
  have e : atF (.d (ksD ks)) (.d (.int at_)) = some (.d (kD k)) := by
    unfold atF ksD
    simp only
    rw [atI_in h0 (by rw [List.length_map]; exact h1), List.getElem?_map, hk]
    rfl
  generalize kD k = KK at e ⊢
  generalize ksD ks = KS at e ⊢
  simp [bQ, M.bind, M.ret, M.st, mT, mOp, mVar, mK, use, keep, lft, boolOf, optM, mCB, useAll, mCons, mNil, mTup, mLst, mFz, keepD, mSeq, mRet, mIfS, mAnd, mOr, mNot, mAndV, mOrV, mNotV, mIfE, mCall, keepAll, runF, mAsg, aName, mNx, mChain, fnM, startR, isiF, isT, isTN, askT, tyN, isF, asks, truD, mTru, truS, isNoneD, isBoolD, mRaise, raiseM, oneD, mDrop, aTup, aCons, aNil, twoK, mPar, mU1, mM1, strOf, List.replicate, e]
theorem bF_e {ks : List Kd} (hm : Made ks) {at_ : Int} (h0 : 0 ≤ at_) {y : PyData} (hy : Elt y) {form : Sl} {t : Option Deal} : ∃ xs : List PyData, xs.length ≤ 15 ∧ (∀ x ∈ xs, Elt x) ∧ bF [some .deal, some (.d (ksD ks)), some (.d (.int at_)), some form, some (.d y), none, none] t = .ok .nx [some .deal, some (.d (ksD ks)), some (.d (.int at_)), some form, some (.d y), some (.d (.tuple xs)), none] t := by
  have hl := hm.len
  have hks : ∀ x ∈ ks.map kD, Elt x := fun x hx => by
    obtain ⟨k, hk, rfl⟩ := List.mem_map.mp hx
    obtain ⟨i, j, l⟩ := kD_sm (hm.each k hk).1
    exact ⟨i, by omega, by omega⟩
  refine ⟨((ks.map kD).take at_.toNat ++ [y]) ++ (ks.map kD).drop (at_ + 1).toNat, ?_, fun x hx => ?_, ?_⟩
  · simp
    omega
  · rcases List.mem_append.mp hx with hx | hx
    · rcases List.mem_append.mp hx with hx | hx
      · exact hks x (List.mem_of_mem_take hx)
      · rw [List.mem_singleton.mp hx]
        exact hy
    · exact hks x (List.mem_of_mem_drop hx)
  · have e1 : slF none (some at_) (.d (ksD ks)) = some (.d (.tuple ((ks.map kD).take at_.toNat))) := by
      unfold slF ksD
      simp only
      rw [cut_to _ h0]
    have e2 : slF (some (at_ + 1)) none (.d (ksD ks)) = some (.d (.tuple ((ks.map kD).drop (at_ + 1).toNat))) := by
      unfold slF ksD
      simp only
      rw [cut_from _ (by omega)]
    have l1 : ((ks.map kD).take at_.toNat).length ≤ 7 := by simp; omega
    have l2 : ((ks.map kD).drop (at_ + 1).toNat).length ≤ 7 := by simp; omega
    have e3 : addF (.d (.int at_)) (.d (.int 1)) = some (.d (.int (at_ + 1))) := rfl
    generalize (ks.map kD).take at_.toNat = XA at *
    generalize (ks.map kD).drop (at_ + 1).toNat = XB at *
    generalize ksD ks = KS at *
    generalize at_ + 1 = at2_ at *
    have a1 : addF (.d (.tuple XA)) (.d (.tuple [y])) = some (.d (.tuple (XA ++ [y]))) := addT_e (by simp; omega)
    have a2 : addF (.d (.tuple (XA ++ [y]))) (.d (.tuple XB)) = some (.d (.tuple ((XA ++ [y]) ++ XB))) := addT_e (by simp; omega)
    generalize XA ++ [y] ++ XB = XX at a2 ⊢
    generalize XA ++ [y] = XY at a1 a2
    simp [bF, M.bind, M.ret, M.st, mT, mOp, mVar, mK, use, keep, lft, boolOf, optM, mCB, useAll, mCons, mNil, mTup, mLst, mFz, keepD, mSeq, mRet, mIfS, mAnd, mOr, mNot, mAndV, mOrV, mNotV, mIfE, mCall, keepAll, runF, mAsg, aName, mNx, mChain, fnM, startR, isiF, isT, isTN, askT, tyN, isF, asks, truD, mTru, truS, isNoneD, isBoolD, mRaise, raiseM, oneD, mDrop, aTup, aCons, aNil, twoK, mPar, mU1, mM1, strOf, List.replicate, mSl, mNoP, mPart, intOf, e1, e2, e3, a1, a2]
theorem bE_e {xs : List PyData} (hl : xs.length ≤ 15) (hx : ∀ x ∈ xs, Elt x) {a1 a2 a4 : Option Sl} {form : Int} {dl : Deal} (hd : fineD dl) : ∃ (x : PyData) (ys : List PyData) (dl' : Deal), NearL x ys ∧ fineD dl' ∧ bE [some .deal, a1, a2, some (.d (.int form)), a4, some (.d (.tuple xs)), none] (some dl) = .ok (.rt (.d x)) [some .deal, a1, a2, some (.d (.int form)), a4, some (.d (.tuple xs)), none] (some dl') := by
  by_cases f5 : form = 5
  · subst f5
    refine ⟨.tuple xs.reverse, xs.reverse, dl, ⟨.inr rfl, by simp; omega, fun y hy => hx y (List.mem_reverse.mp hy)⟩, hd, ?_⟩
    simp [bE, M.bind, M.ret, M.st, mT, mOp, mVar, mK, use, keep, lft, boolOf, optM, mCB, useAll, mCons, mNil, mTup, mLst, mFz, keepD, mSeq, mRet, mIfS, mAnd, mOr, mNot, mAndV, mOrV, mNotV, mIfE, mCall, keepAll, runF, mAsg, aName, mNx, mChain, fnM, startR, isiF, isT, isTN, askT, tyN, isF, asks, truD, mTru, truS, isNoneD, isBoolD, mRaise, raiseM, oneD, mDrop, aTup, aCons, aNil, twoK, mPar, mU1, mM1, strOf, List.replicate, eqI, mRevT, revTF]
  · by_cases f6 : form = 6
    · subst f6
      refine ⟨.tuple (xs ++ xs), xs ++ xs, dl, ⟨.inr rfl, by simp; omega, fun y hy => by
        rcases List.mem_append.mp hy with hy | hy <;> exact hx y hy⟩, hd, ?_⟩
      simp [bE, M.bind, M.ret, M.st, mT, mOp, mVar, mK, use, keep, lft, boolOf, optM, mCB, useAll, mCons, mNil, mTup, mLst, mFz, keepD, mSeq, mRet, mIfS, mAnd, mOr, mNot, mAndV, mOrV, mNotV, mIfE, mCall, keepAll, runF, mAsg, aName, mNx, mChain, fnM, startR, isiF, isT, isTN, askT, tyN, isF, asks, truD, mTru, truS, isNoneD, isBoolD, mRaise, raiseM, oneD, mDrop, aTup, aCons, aNil, twoK, mPar, mU1, mM1, strOf, List.replicate, eqI, addT_e (show xs.length + xs.length ≤ 16777216 by omega)]
    · by_cases f7 : form = 7
      · subst f7
        obtain ⟨n, dl', hn, hf, e⟩ := rngB_e (a := 39) (b := 40) (c := 41) (by decide) (by decide) (by decide) (r := [a1, a2, some (.d (.int 7)), a4, some (.d (.tuple xs)), none]) hd
        have e' : rngB 39 40 41 [some .deal, a1, a2, some (.d (.int 7)), a4, some (.d (.tuple xs)), none] (some dl) = .ok (rangeS 0 n) [some .deal, a1, a2, some (.d (.int 7)), a4, some (.d (.tuple xs)), none] (some dl') := e
        have lc : mLc (rngB 39 40 41) [6] (aName 6) (M.ret true) elK [some .deal, a1, a2, some (.d (.int 7)), a4, some (.d (.tuple xs)), none] (some dl) = .ok ((rangeS 0 n).map gK) [some .deal, a1, a2, some (.d (.int 7)), a4, some (.d (.tuple xs)), none] (some dl') := by
          rw [lc_from e', lcK_e hn]
        refine ⟨.tuple ((rangeS 0 n).map gK), (rangeS 0 n).map gK, dl', ⟨.inr rfl, by rw [List.length_map, rangeS_len]; omega, fun y hy => ?_⟩, hf, ?_⟩
        · obtain ⟨d, hd2, rfl⟩ := List.mem_map.mp hy
          obtain ⟨i, hi, rfl⟩ := rangeS_mem hd2
          obtain ⟨i, j, l⟩ := gK_sm (n := i) (by omega)
          exact ⟨i, by omega, by omega⟩
        · generalize (rangeS 0 n).map gK = GG at lc ⊢
          unfold bE
          generalize mLc (rngB 39 40 41) [6] (aName 6) (M.ret true) elK = LC at lc ⊢
          simp [M.bind, M.ret, M.st, mT, mOp, mVar, mK, use, keep, lft, boolOf, optM, mCB, useAll, mCons, mNil, mTup, mLst, mFz, keepD, mSeq, mRet, mIfS, mAnd, mOr, mNot, mAndV, mOrV, mNotV, mIfE, mCall, keepAll, runF, mAsg, aName, mNx, mChain, fnM, startR, isiF, isT, isTN, askT, tyN, isF, asks, truD, mTru, truS, isNoneD, isBoolD, mRaise, raiseM, oneD, mDrop, aTup, aCons, aNil, twoK, mPar, mU1, mM1, strOf, List.replicate, eqI, lc, tupF]
      · by_cases f8 : form = 8
        · subst f8
          refine ⟨.list xs, xs, dl, ⟨.inl rfl, by omega, hx⟩, hd, ?_⟩
          simp [bE, M.bind, M.ret, M.st, mT, mOp, mVar, mK, use, keep, lft, boolOf, optM, mCB, useAll, mCons, mNil, mTup, mLst, mFz, keepD, mSeq, mRet, mIfS, mAnd, mOr, mNot, mAndV, mOrV, mNotV, mIfE, mCall, keepAll, runF, mAsg, aName, mNx, mChain, fnM, startR, isiF, isT, isTN, askT, tyN, isF, asks, truD, mTru, truS, isNoneD, isBoolD, mRaise, raiseM, oneD, mDrop, aTup, aCons, aNil, twoK, mPar, mU1, mM1, strOf, List.replicate, eqI, mCBF, listF]
        · refine ⟨.tuple xs, xs, dl, ⟨.inr rfl, by omega, hx⟩, hd, ?_⟩
          simp [bE, M.bind, M.ret, M.st, mT, mOp, mVar, mK, use, keep, lft, boolOf, optM, mCB, useAll, mCons, mNil, mTup, mLst, mFz, keepD, mSeq, mRet, mIfS, mAnd, mOr, mNot, mAndV, mOrV, mNotV, mIfE, mCall, keepAll, runF, mAsg, aName, mNx, mChain, fnM, startR, isiF, isT, isTN, askT, tyN, isF, asks, truD, mTru, truS, isNoneD, isBoolD, mRaise, raiseM, oneD, mDrop, aTup, aCons, aNil, twoK, mPar, mU1, mM1, strOf, List.replicate, eqI, f5, f6, f7, f8]
theorem bent_call {ks : List Kd} (hm : Made ks) {dl : Deal} (hd : fineD dl) : ∃ (x : PyData) (xs : List PyData) (dl' : Deal), NearL x xs ∧ fineD dl' ∧ F__law_bent [.deal, .d (ksD ks)] (some dl) = .ok (.d x) (some dl') := by
  obtain ⟨at_, form, d1, i0, i1, h1, e1⟩ := bP_e hm hd
  have hi : at_.toNat < ks.length := by omega
  have hk : ks[at_.toNat]? = some ks[at_.toNat] := List.getElem?_eq_getElem hi
  have e2 := bQ_e i0 i1 hk (form := .d (.int form)) (t := some d1)
  obtain ⟨y, d2, hy, h2, e3⟩ := bK_e (hm.each _ (List.getElem_mem hi)).1 (form := form) (a1 := some (.d (ksD ks))) (a2 := some (.d (.int at_))) (a5 := none) (a6 := none) h1
  obtain ⟨xs, x1, x2, e4⟩ := bF_e hm i0 hy (form := .d (.int form)) (t := some d2)
  obtain ⟨x, ys, d3, n1, h3, e5⟩ := bE_e x1 x2 (a1 := some (.d (ksD ks))) (a2 := some (.d (.int at_))) (a4 := some (.d y)) (form := form) h2
  refine ⟨x, ys, d3, n1, h3, ?_⟩
  unfold F__law_bent
  rw [bent_eq]
  unfold fnM
  have es : startR 7 [.deal, .d (ksD ks)] = [some .deal, some (.d (ksD ks)), none, none, none, none, none] := rfl
  rw [es, seq_nx e1, seq_nx e2, seq_nx e3, seq_nx e4, e5]
end K01
end
section
set_option maxRecDepth 100000
set_option maxHeartbeats 4000000
namespace K01
open PySem PySem.Spec DL
theorem allO_true : ∀ {l : List (Option Bool)}, (∀ x ∈ l, x = some true) → allO l = some true
  | [], _ => rfl
  | x :: l, h => by
    rw [h x List.mem_cons_self]
    unfold allO
    rw [allO_true fun y hy => h y (List.mem_cons_of_mem _ hy)]
    rfl
theorem zip_self {α : Type} : ∀ {xs : List α} {p : α × α}, p ∈ xs.zip xs → p.1 = p.2 ∧ p.1 ∈ xs
  | [], p, h => by cases h
  | x :: xs, p, h => by
    rw [List.zip_cons_cons] at h
    rcases List.mem_cons.mp h with rfl | h
    · exact ⟨rfl, List.mem_cons_self⟩
    · obtain ⟨a, b⟩ := zip_self h
      exact ⟨a, List.mem_cons_of_mem _ b⟩
theorem eq_seq {n : Nat} {xs : List PyData} (h : ∀ x ∈ xs, eqN n x x = some true) (hl : xs.length < 100000) : eqN (n + 1) (.list xs) (.list xs) = some true ∧ eqN (n + 1) (.tuple xs) (.tuple xs) = some true := by
  have e : allO ((xs.zip xs).map fun p => eqN n p.1 p.2) = some true := allO_true fun y hy => by
    obtain ⟨p, hp, rfl⟩ := List.mem_map.mp hy
    obtain ⟨a, b⟩ := zip_self hp
    rw [← a]
    exact h _ b
  unfold eqN
  simp only [if_true, if_pos hl]
  exact ⟨e, e⟩
theorem eqS_str (n : Nat) (z : Str) : eqN (n + 1) (.str z) (.str z) = some true := by simp [eqN]
theorem eq_fD (n : Nat) (f : Fd) : eqN (n + 2) (fD f) (fD f) = some true := (eq_seq (xs := [.str f.1, .str f.2]) (fun x hx => by
  rcases List.mem_cons.mp hx with rfl | hx
  · exact eqS_str n _
  · rw [List.mem_singleton.mp hx]
    exact eqS_str n _) (by simp)).2
theorem same_refl {v : PyData} {t : Option Deal} (h : eqN 8 v v = some true) : F__law_same [.d v, .d v] t = .ok (.d (.bool true)) t := by
  unfold F__law_same sameFM
  simp only [h]
theorem same_bool (b : Bool) (t : Option Deal) : F__law_same [.d (.bool b), .d (.bool b)] t = .ok (.d (.bool true)) t := same_refl (by simp [eqN])
/-- the kind of that name is that kind -/
theorem pair_inj {α : Type} {f : α → Str} : ∀ {l : List α}, (l.map f).Pairwise (fun a b => a.cps.toList < b.cps.toList) → ∀ {x y : α}, x ∈ l → y ∈ l → f x = f y → x = y
  | [], _, x, y, hx, _, _ => by cases hx
  | a :: l, h, x, y, hx, hy, e => by
    rw [List.map_cons, List.pairwise_cons] at h
    rcases List.mem_cons.mp hx with p | p
    · rcases List.mem_cons.mp hy with q | q
      · rw [p, q]
      · have := h.1 (f y) (List.mem_map_of_mem q)
        rw [← e, p] at this
        exact absurd this (List.lt_irrefl _)
    · rcases List.mem_cons.mp hy with q | q
      · have := h.1 (f x) (List.mem_map_of_mem p)
        rw [e, q] at this
        exact absurd this (List.lt_irrefl _)
      · exact pair_inj h.2 p q e
theorem named_self {ks : List Kd} (hm : Made ks) {k : Kd} (hk : k ∈ ks) : named ks k.1 = some k := by
  obtain ⟨q, hq⟩ := named_of (ks := ks) (z := k.1) (List.mem_map_of_mem hk)
  obtain ⟨h1, h2⟩ := named_mem hq
  rw [hq, pair_inj (asc_pair.mp hm.asc) h1 hk h2]
theorem fine_name {z : Str} (h1 : PyData.strOk z = true) (h2 : z.length ≤ 12) : fine (.str z) = true := by
  obtain ⟨a, b, c⟩ := str_sm h1 h2
  exact Sm.fine (B := 12) ⟨a, by omega, c⟩ (by decide)
theorem are_made {ks : List Kd} (hm : Made ks) (t : Option Deal) : F_are_kinds [.d (ksD ks)] t = .ok (.d (.bool true)) t := by
  unfold F_are_kinds
  simp only [if_pos hm.fine, hm.unKinds, Option.isSome]
theorem fields_made {ks : List Kd} (hm : Made ks) {k : Kd} (hk : k ∈ ks) (t : Option Deal) : F_fields_of [.d (ksD ks), .d (.str k.1)] t = .ok (.d (.tuple (k.2.map fD))) t := by
  have hn := (hm.each k hk).1.nm
  have f2 : fine (.str k.1) = true := fine_name (name_sm hn).1 (name_sm hn).2
  unfold F_fields_of
  simp only [hm.fine, f2, Bool.and_self, if_true, hm.unKinds, nameIn, hn, named_self hm hk]
theorem within_made {ks : List Kd} (hm : Made ks) {k : Kd} (hk : k ∈ ks) (t : Option Deal) : F_within_kinds [.d (ksD ks), .d (.str k.1)] t = .ok (.d (strT (sortS (lawWithin ks k.1 (ks.length + 1) [])))) t := by
  have hn := (hm.each k hk).1.nm
  have f2 : fine (.str k.1) = true := fine_name (name_sm hn).1 (name_sm hn).2
  unfold F_within_kinds
  simp only [hm.fine, f2, Bool.and_self, if_true, hm.unKinds, nameIn, hn, named_self hm hk, within_same (good_of hm.unKinds) (named_self hm hk)]
theorem lawin_made {ks : List Kd} (hm : Made ks) {k : Kd} (hk : k ∈ ks) (t : Option Deal) : F__law_within [.d (ksD ks), .d (.str k.1)] t = .ok (.d (strT (sortS (lawWithin ks k.1 (ks.length + 1) [])))) t := by
  unfold F__law_within
  simp only [hm.unKinds, named_self hm hk]
theorem lawin_len {ks : List Kd} (hm : Made ks) {k : Kd} (hk : k ∈ ks) : (sortS (lawWithin ks k.1 (ks.length + 1) [])).length ≤ 7 := by
  obtain ⟨_, h, _⟩ := law_inv (named_self hm hk) (good_of hm.unKinds) (ks.length + 1) [] ⟨List.nodup_nil, by simp⟩ (by simp)
  rw [(sortS_perm _).length_eq]
  have := h.len
  have := hm.len
  omega
/-- a name that no kind has -/
structure Odd (ks : List Kd) (v : PyData) : Prop where
  fin : fine v = true
  out : nameIn ks v = none
theorem odd_all {ks : List Kd} (hm : Made ks) {k0 : Kd} (h0 : k0 ∈ ks) : ∀ v ∈ [PyData.none, .str "zzzz", .str "int", .int 3, .tuple [.str k0.1], .str ""], Odd ks v := by
  intro v hv
  simp only [List.mem_cons, List.not_mem_nil, or_false] at hv
  rcases hv with rfl | rfl | rfl | rfl | rfl | rfl
  · exact ⟨by decide +kernel, rfl⟩
  · refine ⟨fine_name (by decide +kernel) (by decide +kernel), ?_⟩
    unfold nameIn
    have : named ks "zzzz" = none := by
      cases e : named ks "zzzz" with
      | none => rfl
      | some q => obtain ⟨h1, h2⟩ := named_mem e
                  exact absurd h2 (hm.each q h1).2
    simp only [this]
    split <;> rfl
  · refine ⟨fine_name (by decide +kernel) (by decide +kernel), ?_⟩
    unfold nameIn
    simp only [show isName ("int" : Str) = false by decide +kernel]
    rfl
  · exact ⟨by decide +kernel, rfl⟩
  · have hn := (hm.each k0 h0).1.nm
    obtain ⟨i, j, l⟩ := tup_sm (xs := [.str k0.1]) (n := 1) (b := 12) (d := 0) (fun x hx => by
      rw [List.mem_singleton.mp hx]
      exact str_sm (name_sm hn).1 (name_sm hn).2) (Nat.le_refl _)
    exact ⟨Sm.fine (B := 13) ⟨i, by omega, l⟩ (by decide), rfl⟩
  · refine ⟨fine_name (by decide +kernel) (by decide +kernel), ?_⟩
    unfold nameIn
    simp only [show isName ("" : Str) = false by decide +kernel]
    rfl
theorem fields_odd {ks : List Kd} (hm : Made ks) {v : PyData} (h : Odd ks v) (t : Option Deal) : F_fields_of [.d (ksD ks), .d v] t = .ex "InvalidQuestion" (.int 1) t := by
  unfold F_fields_of
  simp only [hm.fine, h.fin, Bool.and_self, if_true, hm.unKinds, h.out]
theorem within_odd {ks : List Kd} (hm : Made ks) {v : PyData} (h : Odd ks v) (t : Option Deal) : F_within_kinds [.d (ksD ks), .d v] t = .ex "InvalidQuestion" (.int 1) t := by
  unfold F_within_kinds
  simp only [hm.fine, h.fin, Bool.and_self, if_true, hm.unKinds, h.out]
/-! what is no kinds -/
theorem fields_not {x v : PyData} (h : fine x = true) (hv : fine v = true) (hn : unKinds x = none) (t : Option Deal) : F_fields_of [.d x, .d v] t = .ex "InvalidKind" (.int 0) t := by
  unfold F_fields_of
  simp only [h, hv, Bool.and_self, if_true, hn]
theorem within_not {x v : PyData} (h : fine x = true) (hv : fine v = true) (hn : unKinds x = none) (t : Option Deal) : F_within_kinds [.d x, .d v] t = .ex "InvalidKind" (.int 0) t := by
  unfold F_within_kinds
  simp only [h, hv, Bool.and_self, if_true, hn]
theorem are_fine {x : PyData} (h : fine x = true) (t : Option Deal) : F_are_kinds [.d x] t = .ok (.d (.bool (unKinds x).isSome)) t := if_pos h
theorem is_fine {x : PyData} (h : fine x = true) (t : Option Deal) : F_is_kind [.d x] t = .ok (.d (.bool (unKind x).isSome)) t := if_pos h
theorem Elt.fine {x : PyData} (h : Elt x) : fine x = true := Sm.fine (B := 3400) ⟨h.1, by have := h.2.1; omega, h.2.2⟩ (by decide)
theorem for_inv {I : Rho → Option Deal → Prop} {f : Sl → M Unit} {body : M Fl} : ∀ (ds : List Sl), (∀ d ∈ ds, ∀ r t, I r t → ∃ r1 t1 r2 t2, f d r t = .ok () r1 t1 ∧ body r1 t1 = .ok .nx r2 t2 ∧ I r2 t2) → ∀ r t, I r t → ∃ r' t', forL f body ds r t = .ok .nx r' t' ∧ I r' t'
  | [], _, r, t, h => ⟨r, t, rfl, h⟩
  | d :: ds, hb, r, t, h => by
    obtain ⟨r1, t1, r2, t2, e1, e2, h2⟩ := hb d List.mem_cons_self r t h
    obtain ⟨r3, t3, e3, h3⟩ := for_inv ds (fun d hd => hb d (List.mem_cons_of_mem _ hd)) r2 t2 h2
    exact ⟨r3, t3, by rw [forL_cons e1 e2]; exact e3, h3⟩
end K01
end
section
set_option maxRecDepth 100000
set_option maxHeartbeats 4000000
namespace K01
open PySem PySem.Spec PyProof.Rows L2 DL ErrX
section
variable {P : Program} {w : World} {K : PySem.W.Frag} {mg : Str → Option Value} {base : Heap} {ec : Ec}

abbrev s__law_draw : Stmt := top 27
abbrev N__law_draw : List Str := ["script", "salt", "cells", "blend", "cell"]
theorem sc__law_draw : FnScope N__law_draw ["script", "salt"] (defScope s__law_draw) := ⟨rfl, rfl, rfl, by decide +kernel, rfl, by decide +kernel, by decide +kernel⟩
noncomputable def m__law_draw : M Fl := (mSeq (mAsg (aName 2) (mFz (mLc (mIter (mSl (mVar [] 0) mNoP (mPart (mK (.d (.int 48)))))) [4] (aName 4) (M.ret true) (mCB absF (mCons (mCB intF (mCons (mVar [] 4) mNil)) mNil))))) (mSeq (mAsg (aName 3) (mOp addF (mK (.d (.int 7919))) (mOp mulF (mK (.d (.int 104729))) (mVar [] 1)))) (mSeq (mFor (mIter (mVar [] 2)) (aName 4) (mAsg (aName 3) (mOp modF (mCB intF (mCons (mOp addF (mOp addF (mOp mulF (mVar [] 3) (mK (.d (.int 48271)))) (mOp modF (mVar [] 4) (mK (.d (.int 2147483549))))) (mK (.d (.int 11)))) mNil)) (mK (.d (.int 2147483647)))))) (mRet (mFz (mLst (mCons (mFz (mRev (mFz (mLc (mIter (mVar [] 2)) [4] (aName 4) (mT (mOp geF (mVar [] 4) (mOp powF (mK (.d (.int 10))) (mK (.d (.int 18)))))) (mVar [] 4))))) (mCons (mVar [] 3) mNil))))))))
theorem ok__law_draw {f : Addr} {fd : FuncData} (T : Txt P K mg ec) (F : FnP K "_law_draw" s__law_draw f fd) : FnOk P w K mg base (L2.CX P w) 1 f fd ["script", "salt"] (spD K ec 2 (fnM 5 (m__law_draw))) :=
  okD (ow := []) F sc__law_draw (by decide) fun cdv A outer s H E hr => ⟨_, (psd_cons (psd_setLc (i := 2) (show 2 ∉ ([] : List Nat) by decide) rfl sc__law_draw.nd rfl rfl rfl (g := (gName 4)) (tt := tYes) (te := (tCB rAbs (tCons (tCB rInt (tCons (tVar 4) tNil)) tNil))) (pid_any (pd_sl (pd_var 0) pod_none (pod_some pd_int))) (own := [("cell", 4)]) (blk_of (by kernel_rfl)) (fun _ _ _ _ _ => (pgd_name (i := 4) (show 4 ∉ ([] : List Nat) by decide) sc__law_draw.nd rfl (Or.inl rfl))) (fun _ _ _ _ _ => ptsd_nil) (fun _ _ _ _ _ => (pd_abs (by exact rfl) T.b_abs (pad_cons (pd_intc (by exact rfl) T.b_int (pad_cons (pd_var 4) pad_nil)) pad_nil))) (show ∀ i ∈ ([4] : List Nat), i ∉ ([] : List Nat) by decide) (show ∀ i ∈ ([4] : List Nat), i ∈ ([4] : List Nat) by decide)) (psd_cons (psd_set (i := 3) (show 3 ∉ ([] : List Nat) by decide) (pd_add pd_int (pd_mul pd_int (pd_var 1))) (fun h => ps_set sc__law_draw.nd rfl (Or.inl rfl) h)) (psd_cons (psd_for ownD rfl (pid_any (pd_var 2)) (pgd_name (i := 4) (show 4 ∉ ([] : List Nat) by decide) sc__law_draw.nd rfl (Or.inl rfl)) (psd_one (psd_set (i := 3) (show 3 ∉ ([] : List Nat) by decide) (pd_mod (pd_intc (by exact rfl) T.b_int (pad_cons (pd_add (pd_add (pd_mul (pd_var 3) pd_int) (pd_mod (pd_var 4) pd_int)) pd_int) pad_nil)) pd_int) (fun h => ps_set sc__law_draw.nd rfl (Or.inl rfl) h)))) (psd_one (psd_ret (pd_fz (pf_lst (pad_cons (pd_fz (pf_rev (pd_fz (pfd_lc rfl sc__law_draw.nd (g := (gName 4)) (tt := (tTest (tOp (rI0 fun i j => .bl (decide (j ≤ i))) (tVar 4) (tOp (rI CPow fun i j => .int (i ^ j.toNat)) (tC (.int 10)) (tC (.int 18)))))) (te := (tVar 4)) (pid_any (pd_var 2)) (own := [("cell", 4)]) (blk_of (by kernel_rfl)) (fun _ _ _ _ _ => (pgd_name (i := 4) (show 4 ∉ ([] : List Nat) by decide) sc__law_draw.nd rfl (Or.inl rfl))) (fun _ _ _ _ _ => (ptsd_one (ptd_ge (pd_var 4) (pd_pow pd_int pd_int)))) (fun _ _ _ _ _ => (pd_var 4)) (show ∀ i ∈ ([4] : List Nat), i ∉ ([] : List Nat) by decide) (show ∀ i ∈ ([4] : List Nat), i ∈ ([4] : List Nat) by decide))))) (pad_cons (pd_var 3) pad_nil)))))))))⟩
abbrev s__law_any : Stmt := top 28
abbrev N__law_any : List Str := ["deal", "bound", "rest"]
theorem sc__law_any : FnScope N__law_any ["deal", "bound"] (defScope s__law_any) := ⟨rfl, rfl, rfl, by decide +kernel, rfl, by decide +kernel, by decide +kernel⟩
theorem ok__law_any {f : Addr} {fd : FuncData} (T : Txt P K mg ec) (F : FnP K "_law_any" s__law_any f fd) : FnOk P w K mg base (L2.CX P w) 1 f fd ["deal", "bound"] (spD K ec 2 anyFM) := by
  refine F.ok sc__law_any (fun vs H Q E h => spD_len h) fun cdv A outer s H vs Q E hr h => ⟨t_any K, ?_, pure_any h⟩
  exact pss_cons (ps_while ownD (ptd_w (c := ⟨ec, [], E⟩) (pwd_and (ptd_ne (hu_of hr) (pd_at (pd_var 0) pd_int) (pd_fz (pf_lst pad_nil))) (pwd_and1 (ptd_eq (hu_of hr) (pd_at (pd_at (pd_var 0) pd_int) pd_negc) pd_int)))).p
      (pss_one (ps_expr (pe_bm0 PySem.F.plainAttrs_list PySem.F.slot_list_pop PySem.F.type_list_pop mt_pop (pd_at (c := ⟨ec, [], E⟩) (pd_var 0) pd_int).p))))
    (pss_cons (ps_if (ptd_ne (c := ⟨ec, [], E⟩) (hu_of hr) (pd_at (pd_var 0) pd_int) (pd_fz (pf_lst pad_nil))).p
        (pss_cons (ps_set (i := 2) sc__law_any.nd rfl (Or.inl rfl) (pe_callTy call_int1 (by exact rfl) T.b_int (by decide +kernel) (pa_cons (pe_bm0 PySem.F.plainAttrs_list PySem.F.slot_list_pop PySem.F.type_list_pop mt_pop (pd_at (c := ⟨ec, [], E⟩) (pd_var 0) pd_int).p) pa_nil) (by decide) (by decide)))
          (pss_cons (ps_expr (pe_bm PySem.F.plainAttrs_list PySem.F.slot_list_append PySem.F.type_list_append mt_append (pd_at (c := ⟨ec, [], E⟩) (pd_var 0) pd_int).p (pa_cons (pd_fdiv (c := ⟨ec, [], E⟩) (pd_var 2) (pd_var 1)).p pa_nil)))
            (pss_one (ps_ret (pd_mod (c := ⟨ec, [], E⟩) (pd_var 2) (pd_var 1)).p)))) pss_nil)
      (pss_cons (ps_asg (pd_mod (c := ⟨ec, [], E⟩) (pd_intc (by exact rfl) T.b_int (pad_cons (pd_add (pd_mul (pd_at (pd_var 0) pd_int) pd_int) pd_int) pad_nil)) pd_int).p (pg_sub (pd_var (c := ⟨ec, [], E⟩) 0).p (pd_int (c := ⟨ec, [], E⟩)).p set_list))
        (pss_one (ps_ret (pd_mod (c := ⟨ec, [], E⟩) (pd_intc (by exact rfl) T.b_int (pad_cons (pd_fdiv (pd_at (pd_var 0) pd_int) pd_int) pad_nil)) (pd_var 1)).p))))
end
end K01
end
section
set_option maxRecDepth 100000
set_option maxHeartbeats 4000000
namespace K01
open PySem PySem.Spec PyProof.Rows L2 DL ErrX
abbrev heardWs : List (Str × Str) := [("InvalidKind", "kind"), ("InvalidQuestion", "question"), ("InvalidValue", "value"), ("Refused", "refused")]
/-- the errors' classes -/
structure Cls4 where
  k : Addr
  q : Addr
  v : Addr
  r : Addr
abbrev Cls4.hs (C : Cls4) : List (Addr × Str) := [(C.k, "kind"), (C.q, "question"), (C.v, "value"), (C.r, "refused")]
def Cls4.f (C : Cls4) : Str → Option Addr := fun x => if x = "InvalidKind" then some C.k else if x = "InvalidQuestion" then some C.q else if x = "InvalidValue" then some C.v else if x = "Refused" then some C.r else none
theorem Cls4.k_ (C : Cls4) : C.f "InvalidKind" = some C.k := rfl
theorem Cls4.q_ (C : Cls4) : C.f "InvalidQuestion" = some C.q := by unfold Cls4.f; rw [if_neg (by decide), if_pos rfl]
theorem Cls4.v_ (C : Cls4) : C.f "InvalidValue" = some C.v := by unfold Cls4.f; rw [if_neg (by decide), if_neg (by decide), if_pos rfl]
theorem Cls4.r_ (C : Cls4) : C.f "Refused" = some C.r := by unfold Cls4.f; rw [if_neg (by decide), if_neg (by decide), if_neg (by decide), if_pos rfl]
theorem Cls4.ws (C : Cls4) : ∀ cn wd A, heardWs.lookup cn = some wd → C.f cn = some A → (A, wd) ∈ C.hs := by
  intro cn wd A h1 h2
  by_cases e1 : cn = "InvalidKind"
  · subst e1
    rw [show heardWs.lookup ("InvalidKind" : Str) = some "kind" by decide +kernel] at h1
    rw [C.k_] at h2
    cases h1; cases h2; simp
  · by_cases e2 : cn = "InvalidQuestion"
    · subst e2
      rw [show heardWs.lookup ("InvalidQuestion" : Str) = some "question" by decide +kernel] at h1
      rw [C.q_] at h2
      cases h1; cases h2; simp
    · by_cases e3 : cn = "InvalidValue"
      · subst e3
        rw [show heardWs.lookup ("InvalidValue" : Str) = some "value" by decide +kernel] at h1
        rw [C.v_] at h2
        cases h1; cases h2; simp
      · by_cases e4 : cn = "Refused"
        · subst e4
          rw [show heardWs.lookup ("Refused" : Str) = some "refused" by decide +kernel] at h1
          rw [C.r_] at h2
          cases h1; cases h2; simp
        · unfold Cls4.f at h2
          rw [if_neg e1, if_neg e2, if_neg e3, if_neg e4] at h2; cases h2
structure Hd (P : Program) (K : PySem.W.Frag) (mg : Str → Option Value) (C : Cls4) : Prop where
  nd : (C.hs.map (·.1)).Nodup
  ex : ∀ p ∈ C.hs, ∀ q ∈ C.hs, PySem.W.exmOne K (.ref p.1) (.ref q.1) = some (decide (p.1 = q.1))
  k : ErrTxt P K mg "InvalidKind" C.k
  q : ErrTxt P K mg "InvalidQuestion" C.q
  v : ErrTxt P K mg "InvalidValue" C.v
  r : ErrTxt P K mg "Refused" C.r
section
variable {P : Program} {w : World} {K : PySem.W.Frag} {mg : Str → Option Value} {base : Heap} {ec : Ec} {C : Cls4}
abbrev s__law_heard : Stmt := top 35
abbrev N__law_heard : List Str := ["work", "wrong"]
theorem sc__law_heard : FnScope N__law_heard ["work"] (defScope s__law_heard) := ⟨rfl, rfl, rfl, by decide +kernel, rfl, by decide +kernel, by decide +kernel⟩
theorem heard_clause {Z : Cx} {b : Addr} {wd : Str} {j j2 : Nat} {p1 p2 p3 p4 p5 : Pos} (hZ : Z.N.length = 2) (hK : Z.K = K) (xf : XfC K b) (no : PySem.W.findIn K (.ref b) "at" = some none) (hN : Z.N[1]? = some ("wrong" : Str)) (hv : Vis Z.env.scope ("wrong" : Str)) :
    ∀ (a : Addr) (oe : Obj) (cls : Value) (d : Option Addr) (pn : List (Addr × Obj)), Zc cls d oe → (∃ vs, oe.data = .fields vs) →
      PSs (Z.suite a ((a, oe) :: pn)) [.Return (some (.Tuple [.Constant (.str wd) j p1, .Attribute (.Name "wrong" p2) "at" p3] j2 p4)) p5] ((clauseOf (b, wd)).2 a cls d) := by
  intro a oe cls d pn hz hf
  subst hK
  have h := pss_len (X := Z.suite a ((a, oe) :: pn)) (pss_one (ps_ret (pos := p5) (pe_tup (x1 := j2) (pos := p4) (pa_cons (pe_str (x := wd) (j := j) (pos := p1)) (pa_cons (pe_xf (a := a) (C := b) (pos := p3) xf no hz hf (pe_var (pos := p2) (i := 1) hN hv (by decide) (by decide))) pa_nil)))))
  have e : (Z.suite a ((a, oe) :: pn)).N.length = 2 := hZ
  rw [e] at h
  exact h
theorem gives_heard {X : Cx} {g : Addr} {cdg : Value} {q : Str} (hK : X.K = K) (hm : X.mg = mg) (T : Hd P K mg C) : LamX.GivesTo X N__law_heard "_law_heard" (defScope s__law_heard) g cdg (defBody s__law_heard) "work" q (THeard C.hs) := by
  subst hK; subst hm
  exact heard_gives (n := "wrong") sc__law_heard.nd rfl (fun _ => rfl) rfl T.nd T.ex fun s H =>
    .cons ⟨rfl, by decide, .inl T.k.gC⟩ (heard_clause rfl rfl T.k.xf T.k.noN rfl (Or.inl rfl))
    (.cons ⟨rfl, by decide, .inl T.q.gC⟩ (heard_clause rfl rfl T.q.xf T.q.noN rfl (Or.inl rfl))
    (.cons ⟨rfl, by decide, .inl T.v.gC⟩ (heard_clause rfl rfl T.v.xf T.v.noN rfl (Or.inl rfl))
    (.cons ⟨rfl, by decide, .inl T.r.gC⟩ (heard_clause rfl rfl T.r.xf T.r.noN rfl (Or.inl rfl)) .nil)))

end
end K01
end
section
set_option maxRecDepth 100000
set_option maxHeartbeats 0
namespace K01
open PySem PySem.Spec PyProof.Rows L2 DL ErrX
abbrev s_law : Stmt := top 40
abbrev N_law : List Str := ["script", "deal", "turn", "kinds", "place", "near", "one", "told", "kind", "odd"]
theorem sc_law : FnScope N_law ["script"] (defScope s_law) := ⟨rfl, rfl, rfl, by decide +kernel, rfl, by decide +kernel, by decide +kernel⟩
def lawS (i : Nat) : Stmt := (defBody s_law).getD i (.Pass ⟨0, 0, 0, 0⟩)
def forB : Stmt → List Stmt
  | .For _ _ b _ _ => b
  | _ => []
def loopS (i : Nat) : Stmt := (forB (lawS 1)).getD i (.Pass ⟨0, 0, 0, 0⟩)

theorem v_script : Vis (defScope s_law) "script" := Or.inl (by kernel_rfl)
theorem v_deal : Vis (defScope s_law) "deal" := Or.inl (by kernel_rfl)
theorem v_turn : Vis (defScope s_law) "turn" := Or.inl (by kernel_rfl)
theorem v_kinds : Vis (defScope s_law) "kinds" := Or.inr (Or.inl (by kernel_rfl))
theorem v_place : Vis (defScope s_law) "place" := Or.inl (by kernel_rfl)
theorem v_near : Vis (defScope s_law) "near" := Or.inr (Or.inl (by kernel_rfl))
theorem v_one : Vis (defScope s_law) "one" := Or.inl (by kernel_rfl)
theorem v_told : Vis (defScope s_law) "told" := Or.inl (by kernel_rfl)
theorem v_kind : Vis (defScope s_law) "kind" := Or.inl (by kernel_rfl)
theorem v_odd : Vis (defScope s_law) "odd" := Or.inr (Or.inl (by kernel_rfl))
/-- the defs that the law calls -/
structure LC (P : Program) (w : World) (K : PySem.W.Frag) (mg : Str → Option Value) (base : Heap) (ec : Ec) where
  f__law_draw : Addr
  d__law_draw : FuncData
  C__law_draw : Cal P w K mg base ec "_law_draw" 1 [("script" : Str), ("salt" : Str)] F__law_draw f__law_draw d__law_draw
  f__law_some_kinds : Addr
  d__law_some_kinds : FuncData
  C__law_some_kinds : Cal P w K mg base ec "_law_some_kinds" 3 [("deal" : Str)] F__law_some_kinds f__law_some_kinds d__law_some_kinds
  f_are_kinds : Addr
  d_are_kinds : FuncData
  C_are_kinds : Cal P w K mg base ec "are_kinds" 5 [("value" : Str)] F_are_kinds f_are_kinds d_are_kinds
  bk_are_kinds : ∀ (s : Shared) (ws : List Value), ws.length = 1 → BindsTo s d_are_kinds ⟨[], [("value" : Str)].zip ws⟩ ([("value" : Str)].zip ws)
  f__law_are_kinds : Addr
  d__law_are_kinds : FuncData
  C__law_are_kinds : Cal P w K mg base ec "_law_are_kinds" 10 [("value" : Str)] F__law_are_kinds f__law_are_kinds d__law_are_kinds
  f__law_bent : Addr
  d__law_bent : FuncData
  C__law_bent : Cal P w K mg base ec "_law_bent" 3 [("deal" : Str), ("kinds" : Str)] F__law_bent f__law_bent d__law_bent
  f__law_same : Addr
  d__law_same : FuncData
  C__law_same : Cal P w K mg base ec "_law_same" 8 [("value" : Str), ("due" : Str)] F__law_same f__law_same d__law_same
  f_is_kind : Addr
  d_is_kind : FuncData
  C_is_kind : Cal P w K mg base ec "is_kind" 4 [("value" : Str)] F_is_kind f_is_kind d_is_kind
  bk_is_kind : ∀ (s : Shared) (ws : List Value), ws.length = 1 → BindsTo s d_is_kind ⟨[], [("value" : Str)].zip ws⟩ ([("value" : Str)].zip ws)
  f__law_is_kind : Addr
  d__law_is_kind : FuncData
  C__law_is_kind : Cal P w K mg base ec "_law_is_kind" 9 [("value" : Str)] F__law_is_kind f__law_is_kind d__law_is_kind
  f_fields_of : Addr
  d_fields_of : FuncData
  C_fields_of : Cal P w K mg base ec "fields_of" 7 [("kinds" : Str), ("name" : Str)] F_fields_of f_fields_of d_fields_of
  bk_fields_of : ∀ (s : Shared) (ws : List Value), ws.length = 2 → BindsTo s d_fields_of ⟨[], [("kinds" : Str), ("name" : Str)].zip ws⟩ ([("kinds" : Str), ("name" : Str)].zip ws)
  f_within_kinds : Addr
  d_within_kinds : FuncData
  C_within_kinds : Cal P w K mg base ec "within_kinds" 7 [("kinds" : Str), ("name" : Str)] F_within_kinds f_within_kinds d_within_kinds
  bk_within_kinds : ∀ (s : Shared) (ws : List Value), ws.length = 2 → BindsTo s d_within_kinds ⟨[], [("kinds" : Str), ("name" : Str)].zip ws⟩ ([("kinds" : Str), ("name" : Str)].zip ws)
  f__law_within : Addr
  d__law_within : FuncData
  C__law_within : Cal P w K mg base ec "_law_within" 2 [("kinds" : Str), ("name" : Str)] F__law_within f__law_within d__law_within
  f__law_of : Addr
  d__law_of : FuncData
  C__law_of : Cal P w K mg base ec "_law_of" 2 [("deal" : Str), ("some" : Str)] F__law_of f__law_of d__law_of
section
variable {P : Program} {w : World} {K : PySem.W.Frag} {mg : Str → Option Value} {base : Heap} {ec : Ec} {C : Cls4} {f cc : Addr} {A : Around} {outer : List Env} {s : Shared} {H : Hp} {E : XK}
abbrev lawX (P : Program) (w : World) (K : PySem.W.Frag) (mg : Str → Option Value) (base : Heap) (f cc : Addr) (A : Around) (outer : List Env) (s : Shared) (H : Hp) (E : XK) : Cx := cxOf (L2.CX P w) P w K mg base N_law "law" (defScope s_law) f (.ref cc) A outer s H E
/-- _law_heard(lambda: ..) may be told of -/
def Hears (P : Program) (w : World) (K : PySem.W.Frag) (mg : Str → Option Value) (base : Heap) (ec : Ec) (C : Cls4) (f cc : Addr) (A : Around) (outer : List Env) (s : Shared) (H : Hp) (E : XK) : Prop :=
  ∀ {params : Arguments} {body : Expr} {scope : Scope} {t : XK → TE} {m : M Tk} {p lpos pos : Pos}, LamX.LamS (defScope s_law) scope → defaultsOf params (lawX P w K mg base f cc A outer s H E).env = ([], []) →
      (∀ (q : Str) (cl : List (Str × Addr)) (pm cv ctv : Value), bindArgs (PySem.W.kla_fn "<lambda>" q params body scope cl pm cv ctv) ⟨[], []⟩ = pure []) →
      (∀ (A2 : Around) (outer2 : List Env) (s2 : Shared) (H2 : Hp) (E2 : XK) (f2 c2 : Addr), Room 9 (A2.deeper (LamX.lamEnv (lawX P w K mg base f cc A outer s H E) scope s2.heap.objs.size f2 c2)) → PED (LamX.lamCx (lawX P w K mg base f cc A outer s H E) A2 outer2 s2 H2 E2 scope f2 c2) ⟨ec, [], E2⟩ body (t E2) m) →
      PED (lawX P w K mg base f cc A outer s H E) ⟨ec, [7], E⟩ (.Call (.Name "_law_heard" p) [.Lambda params body scope lpos] [] pos) (LamX.tLam ec.tb (THeard C.hs) t) (mHeard heardWs [7] m)
theorem hears {gH : Addr} {fdH : FuncData} {PT : Addr} (TH : Hd P K mg C) (hf : ec.f = C.f) (htb : ec.tb = [(PT, ("law.<locals>.<lambda>" : Str))]) (FH : FnP K "_law_heard" s__law_heard gH fdH) (gHm : mg "_law_heard" = some (.ref gH)) (TB : LamX.TabB base mg cc PT)
    (hr : Room 11 (A.deeper (envOfC "law" (defScope s_law) s.heap.objs.size f (.ref cc)))) : Hears P w K mg base ec C f cc A outer s H E := by
  obtain ⟨ocH, odH, dVH, kVH, docH, pmH, anH, cdvH, ctH, oslH, rfl, lkH, hcdH, hdH, _⟩ := FH.ex
  have hdv : dVH = .none := by
    rcases hdH with ⟨_, e⟩ | ⟨n, _⟩
    · exact e
    · exact absurd rfl n
  subst hdv
  intro params body scope t m p lpos pos h1 h2 h3 h4
  exact pd_heard (X := lawX P w K mg base f cc A outer s H E) (c := ⟨ec, [7], E⟩) (hs := C.hs) (ws := heardWs) (by intro cn wd A h1 h2; exact C.ws cn wd A h1 (by rw [← hf]; exact h2)) (by exact rfl) gHm FH.kp lkH hcdH (Binds.all (fun us hl => match us, hl with | [_], _ => rfl)) sc__law_heard rfl (Or.inl rfl) (gives_heard rfl rfl TH) TB rfl
      (by rw [show (⟨ec, [7], E⟩ : Cd).ec.tb = _ from htb]; exact List.mem_singleton.mpr rfl) (by rw [show (⟨ec, [7], E⟩ : Cd).ec.tb = _ from htb]; intro p hp _; rw [List.mem_singleton.mp hp] <;> rfl) hr h1 h2 h3 h4

noncomputable def m_law_d : M Fl := (mAsg (aName 1) (mCall 2 F__law_draw (mCons (mVar [7] 0) (mCons (mK (.d (.int 1))) mNil))))
theorem w_d (T : Txt P K mg ec) (L : LC P w K mg base ec) (HRD : Hears P w K mg base ec C f cc A outer s H E) (hr : Room 11 (A.deeper (envOfC "law" (defScope s_law) s.heap.objs.size f (.ref cc)))) : ∃ ts, PSD (lawX P w K mg base f cc A outer s H E) ⟨ec, [], E⟩ (lawS 0) ts m_law_d :=
  ⟨_, (psd_set (i := 1) (show 1 ∉ ([] : List Nat) by decide) (pd_callC L.C__law_draw hr (by decide) (by exact rfl) passD (pad_cons (pd_var 0) (pad_cons pd_int pad_nil))) (fun h => ps_set sc_law.nd rfl (Or.inl rfl) h))⟩
noncomputable def m_law_0 : M Fl := (mAsg (aName 3) (mCall 1 F__law_some_kinds (mCons (mVar [7] 1) mNil)))
theorem w_0 (T : Txt P K mg ec) (L : LC P w K mg base ec) (HRD : Hears P w K mg base ec C f cc A outer s H E) (hr : Room 11 (A.deeper (envOfC "law" (defScope s_law) s.heap.objs.size f (.ref cc)))) : ∃ ts, PSD (lawX P w K mg base f cc A outer s H E) ⟨ec, [7], E⟩ (loopS 0) ts m_law_0 :=
  ⟨_, (psd_set (i := 3) (show 3 ∉ ([7] : List Nat) by decide) (pd_callC L.C__law_some_kinds hr (by decide) (by exact rfl) passD (pad_cons (pd_var 1 (hv := v_deal)) pad_nil)) (fun h => ps_set sc_law.nd rfl (Or.inr rfl) h))⟩
noncomputable def m_law_1 : M Fl := (mIfS (mOr (mT (mOp (isF true) (mCall 1 F_are_kinds (mCons (mVar [7] 3) mNil)) (mK (.d (.bool true))))) (mNot (mTru (mCall 1 F__law_are_kinds (mCons (mVar [7] 3) mNil))))) (mRet (mK (.d (.bool false)))) mNx)
theorem w_1 (T : Txt P K mg ec) (L : LC P w K mg base ec) (HRD : Hears P w K mg base ec C f cc A outer s H E) (hr : Room 11 (A.deeper (envOfC "law" (defScope s_law) s.heap.objs.size f (.ref cc)))) : ∃ ts, PSD (lawX P w K mg base f cc A outer s H E) ⟨ec, [7], E⟩ (loopS 1) ts m_law_1 :=
  ⟨_, (psd_if (ptd_w (pwd_or (ptd_isnot (pd_callKC L.C_are_kinds L.bk_are_kinds hr (by decide) (by exact rfl) passD (pkd_cons (pd_var 3 (hv := v_kinds)) pkd_nil)) pd_bl) (pwd_or1 (ptd_not (ptd_tru (pd_callC L.C__law_are_kinds hr (by decide) (by exact rfl) passD (pad_cons (pd_var 3 (hv := v_kinds)) pad_nil))))))) (psd_one (psd_ret pd_bl)) psd_nil)⟩
noncomputable def m_law_2 : M Fl := (mFor (mRange rng1 (mCons (mK (.d (.int 3))) mNil)) (aName 4) (mSeq (mAsg (aName 5) (mCall 2 F__law_bent (mCons (mVar [7] 1) (mCons (mVar [7] 3) mNil)))) (mSeq (mIfS (mNot (mTru (mCall 2 F__law_same (mCons (mCall 1 F_are_kinds (mCons (mVar [7] 5) mNil)) (mCons (mCall 1 F__law_are_kinds (mCons (mVar [7] 5) mNil)) mNil))))) (mRet (mK (.d (.bool false)))) mNx) (mSeq (mFor (mIter (mOp addF (mSl (mFz (mCBF listF (mCons (mVar [7] 5) mNil))) mNoP (mPart (mK (.d (.int 5))))) (mFz (mLst (mCons (mK (.d .none)) (mCons (mTup mNil) (mCons (mK (.d (.str "kind"))) (mCons (mVar [7] 5) mNil)))))))) (aName 6) (mIfS (mNot (mTru (mCall 2 F__law_same (mCons (mCall 1 F_is_kind (mCons (mVar [7] 6) mNil)) (mCons (mCall 1 F__law_is_kind (mCons (mVar [7] 6) mNil)) mNil))))) (mRet (mK (.d (.bool false)))) mNx)) (mIfS (mNot (mTru (mCall 1 F__law_are_kinds (mCons (mVar [7] 5) mNil)))) (mSeq (mAsgO 7 (mLst (mCons (mHeard heardWs [7] (mCall 2 F_fields_of (mCons (mVar [] 5) (mCons (mK (.d .none)) mNil)))) mNil))) (mSeq (mDrop (has 7 (mAppend 7 (mCons (mHeard heardWs [7] (mCall 2 F_within_kinds (mCons (mVar [] 5) (mCons (mK (.d (.str "zzzz"))) mNil)))) mNil)))) (mIfS (mNot (mTru (mCallB 2 F__law_same (mCons (mVar [7] 7) (mCons (mFz (mLst (mCons (mTup (mCons (mK (.d (.str "kind"))) (mCons (mK (.d (.int 0))) mNil))) (mCons (mTup (mCons (mK (.d (.str "kind"))) (mCons (mK (.d (.int 0))) mNil))) mNil)))) mNil))))) (mRet (mK (.d (.bool false)))) mNx))) mNx)))))
theorem w_2 (T : Txt P K mg ec) (L : LC P w K mg base ec) (HRD : Hears P w K mg base ec C f cc A outer s H E) (hr : Room 11 (A.deeper (envOfC "law" (defScope s_law) s.heap.objs.size f (.ref cc)))) : ∃ ts, PSD (lawX P w K mg base f cc A outer s H E) ⟨ec, [7], E⟩ (loopS 2) ts m_law_2 :=
  ⟨_, (psd_for ownD rfl (pid_range1 (by exact rfl) T.b_range (pad_cons pd_int pad_nil)) (pgd_name (i := 4) (show 4 ∉ ([7] : List Nat) by decide) sc_law.nd rfl (Or.inl rfl)) (psd_cons (psd_set (i := 5) (show 5 ∉ ([7] : List Nat) by decide) (pd_callC L.C__law_bent hr (by decide) (by exact rfl) passD (pad_cons (pd_var 1 (hv := v_deal)) (pad_cons (pd_var 3 (hv := v_kinds)) pad_nil))) (fun h => ps_set sc_law.nd rfl (Or.inr rfl) h)) (psd_cons (psd_if (ptd_not (ptd_tru (pd_callC L.C__law_same hr (by decide) (by exact rfl) passD (pad_cons (pd_callC L.C_are_kinds hr (by decide) (by exact rfl) passD (pad_cons (pd_var 5 (hv := v_near)) pad_nil)) (pad_cons (pd_callC L.C__law_are_kinds hr (by decide) (by exact rfl) passD (pad_cons (pd_var 5 (hv := v_near)) pad_nil)) pad_nil))))) (psd_one (psd_ret pd_bl)) psd_nil) (psd_cons (psd_for ownD rfl (pid_any (pd_add (pd_sl (pd_fz (pf_list (by exact rfl) T.b_list (pad_cons (pd_var 5 (hv := v_near)) pad_nil))) pod_none (pod_some pd_int)) (pd_fz (pf_lst (pad_cons pd_non (pad_cons (pd_tup pad_nil) (pad_cons pd_str (pad_cons (pd_var 5 (hv := v_near)) pad_nil)))))))) (pgd_name (i := 6) (show 6 ∉ ([7] : List Nat) by decide) sc_law.nd rfl (Or.inl rfl)) (psd_one (psd_if (ptd_not (ptd_tru (pd_callC L.C__law_same hr (by decide) (by exact rfl) passD (pad_cons (pd_callKC L.C_is_kind L.bk_is_kind hr (by decide) (by exact rfl) passD (pkd_cons (pd_var 6 (hv := v_one)) pkd_nil)) (pad_cons (pd_callC L.C__law_is_kind hr (by decide) (by exact rfl) passD (pad_cons (pd_var 6 (hv := v_one)) pad_nil)) pad_nil))))) (psd_one (psd_ret pd_bl)) psd_nil))) (psd_one (psd_if (ptd_not (ptd_tru (pd_callC L.C__law_are_kinds hr (by decide) (by exact rfl) passD (pad_cons (pd_var 5 (hv := v_near)) pad_nil)))) (psd_cons (psd_setO (i := 7) (show 7 ∈ ([7] : List Nat) by decide) (pf_lst (pad_cons (HRD (t := fun E2 => (tCall (spD K ec 2 F_fields_of) [] E2 (tCons (tVar 5) (tCons (tC .non) tNil)))) (LamX.lamS_by (by kernel_rfl)) (by rfl) (by intros; rfl) (fun A2 outer2 s2 H2 E2 f2 c2 hr2 => (pd_callC L.C_fields_of hr2 (by decide) (by exact rfl) (passL' (Y := lawX P w K mg base f cc A outer s H E)) (pad_cons (pd_var 5) (pad_cons pd_non pad_nil))))) pad_nil)) (fun h => ps_set sc_law.nd rfl (Or.inl rfl) h)) (psd_cons (psd_expr (pd_append (i := 7) (show 7 ∈ ([7] : List Nat) by decide) rfl (Or.inl rfl) (pad_cons (HRD (t := fun E2 => (tCall (spD K ec 2 F_within_kinds) [] E2 (tCons (tVar 5) (tCons (tC (.str "zzzz")) tNil)))) (LamX.lamS_by (by kernel_rfl)) (by rfl) (by intros; rfl) (fun A2 outer2 s2 H2 E2 f2 c2 hr2 => (pd_callC L.C_within_kinds hr2 (by decide) (by exact rfl) (passL' (Y := lawX P w K mg base f cc A outer s H E)) (pad_cons (pd_var 5) (pad_cons pd_str pad_nil))))) pad_nil) (fun h1 h2 => pe_bm PySem.F.plainAttrs_list PySem.F.slot_list_append PySem.F.type_list_append mt_append h1 h2))) (psd_one (psd_if (ptd_not (ptd_tru (pd_callBC L.C__law_same hr (by decide) (by exact rfl) passD (pad_cons (pd_var 7 (hv := v_told)) (pad_cons (pd_fz (pf_lst (pad_cons (pd_tup (pad_cons pd_str (pad_cons pd_int pad_nil))) (pad_cons (pd_tup (pad_cons pd_str (pad_cons pd_int pad_nil))) pad_nil)))) pad_nil))))) (psd_one (psd_ret pd_bl)) psd_nil)))) psd_nil))))))⟩
noncomputable def m_law_3 : M Fl := (mFor (mIter (mVar [7] 3)) (aName 8) (mSeq (mAsgO 7 (mLst (mCons (mCall 2 F_fields_of (mCons (mVar [7] 3) (mCons (mOp atF (mVar [7] 8) (mK (.d (.int 1)))) mNil))) (mCons (mCall 2 F_within_kinds (mCons (mVar [7] 3) (mCons (mOp atF (mVar [7] 8) (mK (.d (.int 1)))) mNil))) mNil)))) (mIfS (mNot (mTru (mCallB 2 F__law_same (mCons (mVar [7] 7) (mCons (mFz (mLst (mCons (mOp atF (mVar [7] 8) (mK (.d (.int 2)))) (mCons (mCall 2 F__law_within (mCons (mVar [7] 3) (mCons (mOp atF (mVar [7] 8) (mK (.d (.int 1)))) mNil))) mNil)))) mNil))))) (mRet (mK (.d (.bool false)))) mNx)))
theorem w_3 (T : Txt P K mg ec) (L : LC P w K mg base ec) (HRD : Hears P w K mg base ec C f cc A outer s H E) (hr : Room 11 (A.deeper (envOfC "law" (defScope s_law) s.heap.objs.size f (.ref cc)))) : ∃ ts, PSD (lawX P w K mg base f cc A outer s H E) ⟨ec, [7], E⟩ (loopS 3) ts m_law_3 :=
  ⟨_, (psd_for ownD rfl (pid_any (pd_var 3 (hv := v_kinds))) (pgd_name (i := 8) (show 8 ∉ ([7] : List Nat) by decide) sc_law.nd rfl (Or.inl rfl)) (psd_cons (psd_setO (i := 7) (show 7 ∈ ([7] : List Nat) by decide) (pf_lst (pad_cons (pd_callKC L.C_fields_of L.bk_fields_of hr (by decide) (by exact rfl) passD (pkd_cons (pd_var 3 (hv := v_kinds)) (pkd_cons (pd_at (pd_var 8 (hv := v_kind)) pd_int) pkd_nil))) (pad_cons (pd_callKC L.C_within_kinds L.bk_within_kinds hr (by decide) (by exact rfl) passD (pkd_cons (pd_var 3 (hv := v_kinds)) (pkd_cons (pd_at (pd_var 8 (hv := v_kind)) pd_int) pkd_nil))) pad_nil))) (fun h => ps_set sc_law.nd rfl (Or.inl rfl) h)) (psd_one (psd_if (ptd_not (ptd_tru (pd_callBC L.C__law_same hr (by decide) (by exact rfl) passD (pad_cons (pd_var 7 (hv := v_told)) (pad_cons (pd_fz (pf_lst (pad_cons (pd_at (pd_var 8 (hv := v_kind)) pd_int) (pad_cons (pd_callC L.C__law_within hr (by decide) (by exact rfl) passD (pad_cons (pd_var 3 (hv := v_kinds)) (pad_cons (pd_at (pd_var 8 (hv := v_kind)) pd_int) pad_nil))) pad_nil)))) pad_nil))))) (psd_one (psd_ret pd_bl)) psd_nil))))⟩
noncomputable def m_law_4 : M Fl := (mAsg (aName 9) (mCall 2 F__law_of (mCons (mVar [7] 1) (mCons (mFz (mLst (mCons (mK (.d .none)) (mCons (mK (.d (.str "zzzz"))) (mCons (mK (.d (.str "int"))) (mCons (mK (.d (.int 3))) (mCons (mTup (mCons (mOp atF (mOp atF (mVar [7] 3) (mK (.d (.int 0)))) (mK (.d (.int 1)))) mNil)) (mCons (mK (.d (.str ""))) mNil)))))))) mNil))))
theorem w_4 (T : Txt P K mg ec) (L : LC P w K mg base ec) (HRD : Hears P w K mg base ec C f cc A outer s H E) (hr : Room 11 (A.deeper (envOfC "law" (defScope s_law) s.heap.objs.size f (.ref cc)))) : ∃ ts, PSD (lawX P w K mg base f cc A outer s H E) ⟨ec, [7], E⟩ (loopS 4) ts m_law_4 :=
  ⟨_, (psd_set (i := 9) (show 9 ∉ ([7] : List Nat) by decide) (pd_callC L.C__law_of hr (by decide) (by exact rfl) passD (pad_cons (pd_var 1 (hv := v_deal)) (pad_cons (pd_fz (pf_lst (pad_cons pd_non (pad_cons pd_str (pad_cons pd_str (pad_cons pd_int (pad_cons (pd_tup (pad_cons (pd_at (pd_at (pd_var 3 (hv := v_kinds)) pd_int) pd_int) pad_nil)) (pad_cons pd_str pad_nil)))))))) pad_nil))) (fun h => ps_set sc_law.nd rfl (Or.inr rfl) h))⟩
noncomputable def m_law_5 : M Fl := (mAsgO 7 (mLst (mCons (mHeard heardWs [7] (mCall 2 F_fields_of (mCons (mVar [] 3) (mCons (mVar [] 9) mNil)))) mNil)))
theorem w_5 (T : Txt P K mg ec) (L : LC P w K mg base ec) (HRD : Hears P w K mg base ec C f cc A outer s H E) (hr : Room 11 (A.deeper (envOfC "law" (defScope s_law) s.heap.objs.size f (.ref cc)))) : ∃ ts, PSD (lawX P w K mg base f cc A outer s H E) ⟨ec, [7], E⟩ (loopS 5) ts m_law_5 :=
  ⟨_, (psd_setO (i := 7) (show 7 ∈ ([7] : List Nat) by decide) (pf_lst (pad_cons (HRD (t := fun E2 => (tCall (spD K ec 2 F_fields_of) [] E2 (tCons (tVar 3) (tCons (tVar 9) tNil)))) (LamX.lamS_by (by kernel_rfl)) (by rfl) (by intros; rfl) (fun A2 outer2 s2 H2 E2 f2 c2 hr2 => (pd_callC L.C_fields_of hr2 (by decide) (by exact rfl) (passL' (Y := lawX P w K mg base f cc A outer s H E)) (pad_cons (pd_var 3) (pad_cons (pd_var 9) pad_nil))))) pad_nil)) (fun h => ps_set sc_law.nd rfl (Or.inl rfl) h))⟩
noncomputable def m_law_6 : M Fl := (mDrop (has 7 (mAppend 7 (mCons (mHeard heardWs [7] (mCall 2 F_within_kinds (mCons (mVar [] 3) (mCons (mVar [] 9) mNil)))) mNil))))
theorem w_6 (T : Txt P K mg ec) (L : LC P w K mg base ec) (HRD : Hears P w K mg base ec C f cc A outer s H E) (hr : Room 11 (A.deeper (envOfC "law" (defScope s_law) s.heap.objs.size f (.ref cc)))) : ∃ ts, PSD (lawX P w K mg base f cc A outer s H E) ⟨ec, [7], E⟩ (loopS 6) ts m_law_6 :=
  ⟨_, (psd_expr (pd_append (i := 7) (show 7 ∈ ([7] : List Nat) by decide) rfl (Or.inl rfl) (pad_cons (HRD (t := fun E2 => (tCall (spD K ec 2 F_within_kinds) [] E2 (tCons (tVar 3) (tCons (tVar 9) tNil)))) (LamX.lamS_by (by kernel_rfl)) (by rfl) (by intros; rfl) (fun A2 outer2 s2 H2 E2 f2 c2 hr2 => (pd_callC L.C_within_kinds hr2 (by decide) (by exact rfl) (passL' (Y := lawX P w K mg base f cc A outer s H E)) (pad_cons (pd_var 3) (pad_cons (pd_var 9) pad_nil))))) pad_nil) (fun h1 h2 => pe_bm PySem.F.plainAttrs_list PySem.F.slot_list_append PySem.F.type_list_append mt_append h1 h2)))⟩
noncomputable def m_law_7 : M Fl := (mIfS (mNot (mTru (mCallB 2 F__law_same (mCons (mVar [7] 7) (mCons (mFz (mLst (mCons (mTup (mCons (mK (.d (.str "question"))) (mCons (mK (.d (.int 1))) mNil))) (mCons (mTup (mCons (mK (.d (.str "question"))) (mCons (mK (.d (.int 1))) mNil))) mNil)))) mNil))))) (mRet (mK (.d (.bool false)))) mNx)
theorem w_7 (T : Txt P K mg ec) (L : LC P w K mg base ec) (HRD : Hears P w K mg base ec C f cc A outer s H E) (hr : Room 11 (A.deeper (envOfC "law" (defScope s_law) s.heap.objs.size f (.ref cc)))) : ∃ ts, PSD (lawX P w K mg base f cc A outer s H E) ⟨ec, [7], E⟩ (loopS 7) ts m_law_7 :=
  ⟨_, (psd_if (ptd_not (ptd_tru (pd_callBC L.C__law_same hr (by decide) (by exact rfl) passD (pad_cons (pd_var 7 (hv := v_told)) (pad_cons (pd_fz (pf_lst (pad_cons (pd_tup (pad_cons pd_str (pad_cons pd_int pad_nil))) (pad_cons (pd_tup (pad_cons pd_str (pad_cons pd_int pad_nil))) pad_nil)))) pad_nil))))) (psd_one (psd_ret pd_bl)) psd_nil)⟩
noncomputable def m_law_z : M Fl := (mRet (mCall 2 F__law_same (mCons (mFz (mLst (mCons (mCall 1 F_are_kinds (mCons (mTup mNil) mNil)) (mCons (mCall 2 F_within_kinds (mCons (mTup (mCons (mTup (mCons (mK (.d (.str "kind"))) (mCons (mK (.d (.str "a"))) (mCons (mTup mNil) mNil)))) mNil)) (mCons (mK (.d (.str "a"))) mNil))) mNil)))) (mCons (mFz (mLst (mCons (mK (.d (.bool true))) (mCons (mTup mNil) mNil)))) mNil))))
theorem w_z (T : Txt P K mg ec) (L : LC P w K mg base ec) (HRD : Hears P w K mg base ec C f cc A outer s H E) (hr : Room 11 (A.deeper (envOfC "law" (defScope s_law) s.heap.objs.size f (.ref cc)))) : ∃ ts, PSD (lawX P w K mg base f cc A outer s H E) ⟨ec, [7], E⟩ (lawS 2) ts m_law_z :=
  ⟨_, (psd_ret (pd_callC L.C__law_same hr (by decide) (by exact rfl) passD (pad_cons (pd_fz (pf_lst (pad_cons (pd_callC L.C_are_kinds hr (by decide) (by exact rfl) passD (pad_cons (pd_tup pad_nil) pad_nil)) (pad_cons (pd_callC L.C_within_kinds hr (by decide) (by exact rfl) passD (pad_cons (pd_tup (pad_cons (pd_tup (pad_cons pd_str (pad_cons pd_str (pad_cons (pd_tup pad_nil) pad_nil)))) pad_nil)) (pad_cons pd_str pad_nil))) pad_nil)))) (pad_cons (pd_fz (pf_lst (pad_cons pd_bl (pad_cons (pd_tup pad_nil) pad_nil)))) pad_nil))))⟩
noncomputable def m_turn : M Fl := (mSeq m_law_0 (mSeq m_law_1 (mSeq m_law_2 (mSeq m_law_3 (mSeq m_law_4 (mSeq m_law_5 (mSeq m_law_6 m_law_7)))))))
noncomputable def m_law2 : M Fl := mSeq (mFor (mRange rng1 (mCons (mK (.d (.int 6))) mNil)) (aName 2) m_turn) m_law_z
theorem loop_eq : forB (lawS 1) = [loopS 0, loopS 1, loopS 2, loopS 3, loopS 4, loopS 5, loopS 6, loopS 7] := by kernel_rfl
theorem w_loop (T : Txt P K mg ec) (L : LC P w K mg base ec) (HRD : Hears P w K mg base ec C f cc A outer s H E) (hr : Room 11 (A.deeper (envOfC "law" (defScope s_law) s.heap.objs.size f (.ref cc)))) : ∃ ts, PSsD (lawX P w K mg base f cc A outer s H E) ⟨ec, [7], E⟩ (forB (lawS 1)) ts m_turn := by
  rw [loop_eq]
  obtain ⟨t0, h0⟩ := w_0 T L HRD hr
  obtain ⟨t1, h1⟩ := w_1 T L HRD hr
  obtain ⟨t2, h2⟩ := w_2 T L HRD hr
  obtain ⟨t3, h3⟩ := w_3 T L HRD hr
  obtain ⟨t4, h4⟩ := w_4 T L HRD hr
  obtain ⟨t5, h5⟩ := w_5 T L HRD hr
  obtain ⟨t6, h6⟩ := w_6 T L HRD hr
  obtain ⟨t7, h7⟩ := w_7 T L HRD hr
  exact ⟨_, (psd_cons h0 (psd_cons h1 (psd_cons h2 (psd_cons h3 (psd_cons h4 (psd_cons h5 (psd_cons h6 (psd_one h7))))))))⟩
theorem walk_law (T : Txt P K mg ec) (L : LC P w K mg base ec) (HRD : Hears P w K mg base ec C f cc A outer s H E) (hr : Room 11 (A.deeper (envOfC "law" (defScope s_law) s.heap.objs.size f (.ref cc)))) : ∃ ts, PSsD (lawX P w K mg base f cc A outer s H E) ⟨ec, [7], E⟩ [lawS 1, lawS 2] ts m_law2 := by
  obtain ⟨tl, hl⟩ := w_loop T L HRD hr
  obtain ⟨tz, hz⟩ := w_z T L HRD hr
  exact ⟨_, psd_cons (psd_for ownD rfl (pid_range1 (by exact rfl) T.b_range (pad_cons pd_int pad_nil)) (pgd_name (i := 2) (show 2 ∉ ([7] : List Nat) by decide) sc_law.nd rfl (Or.inl rfl)) hl) (psd_one hz)⟩
end
end K01
end
section
set_option maxRecDepth 100000
set_option maxHeartbeats 4000000
namespace K01
open PySem PySem.Spec PyProof.Rows L2 DL ErrX
section
variable {P : Program} {w : World} {K : PySem.W.Frag} {mg : Str → Option Value} {base : Heap} {ec : Ec}
theorem same_ok {f : Addr} {fd : FuncData} (T : Txt P K mg ec) (FD : FnP K "_law_same" s__law_same f fd) (hm : mg "_law_same" = some (.ref f)) : ∀ n, Cal P w K mg base ec "_law_same" n [("value" : Str), ("due" : Str)] (sameFM n) f fd
  | 0 => ⟨⟨fun vs H Q E h => spD_len h, fun A outer s H args us vs Q E hr e0 hb hv h => by
      obtain ⟨G, B, xs, t, _, _, _, _, p⟩ := h
      have e : sameFM 0 xs t = .st := by
        unfold sameFM
        split
        · simp [eqN]
        · rfl
      rw [e] at p
      exact p.elim⟩, hm, FD.kp, FD.bindsN fun _ _ _ _ _ _ us hl => match us, hl with | [_, _], _ => rfl⟩
  | n + 1 => Cal.weak ⟨ok__law_same T (same_ok T FD hm n) FD, hm, FD.kp, FD.bindsN fun _ _ _ _ _ _ us hl => match us, hl with | [_, _], _ => rfl⟩ (DL.e_same n)

theorem mkLC (T : Txt P K mg ec) {f_is_name : Addr} {d_is_name : FuncData} (D_is_name : FnP K "is_name" s_is_name f_is_name d_is_name) (M_is_name : mg "is_name" = some (.ref f_is_name)) {f_are_ascending : Addr} {d_are_ascending : FuncData} (D_are_ascending : FnP K "are_ascending" s_are_ascending f_are_ascending d_are_ascending) (M_are_ascending : mg "are_ascending" = some (.ref f_are_ascending)) {f_are_unlike : Addr} {d_are_unlike : FuncData} (D_are_unlike : FnP K "are_unlike" s_are_unlike f_are_unlike d_are_unlike) (M_are_unlike : mg "are_unlike" = some (.ref f_are_unlike)) {f_is_type : Addr} {d_is_type : FuncData} (D_is_type : FnP K "is_type" s_is_type f_is_type d_is_type) (M_is_type : mg "is_type" = some (.ref f_is_type)) {f_is_field : Addr} {d_is_field : FuncData} (D_is_field : FnP K "is_field" s_is_field f_is_field d_is_field) (M_is_field : mg "is_field" = some (.ref f_is_field)) {f_is_kind : Addr} {d_is_kind : FuncData} (D_is_kind : FnP K "is_kind" s_is_kind f_is_kind d_is_kind) (M_is_kind : mg "is_kind" = some (.ref f_is_kind)) {f_are_kinds : Addr} {d_are_kinds : FuncData} (D_are_kinds : FnP K "are_kinds" s_are_kinds f_are_kinds d_are_kinds) (M_are_kinds : mg "are_kinds" = some (.ref f_are_kinds)) {f_checked_kinds : Addr} {d_checked_kinds : FuncData} (D_checked_kinds : FnP K "checked_kinds" s_checked_kinds f_checked_kinds d_checked_kinds) (M_checked_kinds : mg "checked_kinds" = some (.ref f_checked_kinds)) {f_kind_named : Addr} {d_kind_named : FuncData} (D_kind_named : FnP K "kind_named" s_kind_named f_kind_named d_kind_named) (M_kind_named : mg "kind_named" = some (.ref f_kind_named)) {f_checked_kind_name : Addr} {d_checked_kind_name : FuncData} (D_checked_kind_name : FnP K "checked_kind_name" s_checked_kind_name f_checked_kind_name d_checked_kind_name) (M_checked_kind_name : mg "checked_kind_name" = some (.ref f_checked_kind_name)) {f_fields_of : Addr} {d_fields_of : FuncData} (D_fields_of : FnP K "fields_of" s_fields_of f_fields_of d_fields_of) (M_fields_of : mg "fields_of" = some (.ref f_fields_of)) {f_within_kinds : Addr} {d_within_kinds : FuncData} (D_within_kinds : FnP K "within_kinds" s_within_kinds f_within_kinds d_within_kinds) (M_within_kinds : mg "within_kinds" = some (.ref f_within_kinds)) {f__law_draw : Addr} {d__law_draw : FuncData} (D__law_draw : FnP K "_law_draw" s__law_draw f__law_draw d__law_draw) (M__law_draw : mg "_law_draw" = some (.ref f__law_draw)) {f__law_any : Addr} {d__law_any : FuncData} (D__law_any : FnP K "_law_any" s__law_any f__law_any d__law_any) (M__law_any : mg "_law_any" = some (.ref f__law_any)) {f__law_of : Addr} {d__law_of : FuncData} (D__law_of : FnP K "_law_of" s__law_of f__law_of d__law_of) (M__law_of : mg "_law_of" = some (.ref f__law_of)) {f__law_mixed : Addr} {d__law_mixed : FuncData} (D__law_mixed : FnP K "_law_mixed" s__law_mixed f__law_mixed d__law_mixed) (M__law_mixed : mg "_law_mixed" = some (.ref f__law_mixed)) {f__law_is_name : Addr} {d__law_is_name : FuncData} (D__law_is_name : FnP K "_law_is_name" s__law_is_name f__law_is_name d__law_is_name) (M__law_is_name : mg "_law_is_name" = some (.ref f__law_is_name)) {f__law_some_kinds : Addr} {d__law_some_kinds : FuncData} (D__law_some_kinds : FnP K "_law_some_kinds" s__law_some_kinds f__law_some_kinds d__law_some_kinds) (M__law_some_kinds : mg "_law_some_kinds" = some (.ref f__law_some_kinds)) {f__law_kind_of : Addr} {d__law_kind_of : FuncData} (D__law_kind_of : FnP K "_law_kind_of" s__law_kind_of f__law_kind_of d__law_kind_of) (M__law_kind_of : mg "_law_kind_of" = some (.ref f__law_kind_of)) {f__law_is_kind : Addr} {d__law_is_kind : FuncData} (D__law_is_kind : FnP K "_law_is_kind" s__law_is_kind f__law_is_kind d__law_is_kind) (M__law_is_kind : mg "_law_is_kind" = some (.ref f__law_is_kind)) {f__law_are_kinds : Addr} {d__law_are_kinds : FuncData} (D__law_are_kinds : FnP K "_law_are_kinds" s__law_are_kinds f__law_are_kinds d__law_are_kinds) (M__law_are_kinds : mg "_law_are_kinds" = some (.ref f__law_are_kinds)) {f__law_bent : Addr} {d__law_bent : FuncData} (D__law_bent : FnP K "_law_bent" s__law_bent f__law_bent d__law_bent) (M__law_bent : mg "_law_bent" = some (.ref f__law_bent)) {f__law_within : Addr} {d__law_within : FuncData} (D__law_within : FnP K "_law_within" s__law_within f__law_within d__law_within) (M__law_within : mg "_law_within" = some (.ref f__law_within)) {f__law_same : Addr} {d__law_same : FuncData} (D__law_same : FnP K "_law_same" s__law_same f__law_same d__law_same) (M__law_same : mg "_law_same" = some (.ref f__law_same)) : Nonempty (LC P w K mg base ec) := by
  have C__law_same : Cal P w K mg base ec "_law_same" 8 [("value" : Str), ("due" : Str)] F__law_same f__law_same d__law_same := same_ok T D__law_same M__law_same 8
  have C_is_name : Cal P w K mg base ec "is_name" 1 [("value" : Str)] F_is_name f_is_name d_is_name := Cal.weak ⟨ok_is_name T D_is_name, M_is_name, D_is_name.kp, D_is_name.bindsN fun _ _ _ _ _ _ us hl => match us, hl with | [_], _ => rfl⟩ e_name
  have C_are_ascending : Cal P w K mg base ec "are_ascending" 1 [("names" : Str)] F_are_ascending f_are_ascending d_are_ascending := Cal.weak ⟨ok_are_ascending T D_are_ascending, M_are_ascending, D_are_ascending.kp, D_are_ascending.bindsN fun _ _ _ _ _ _ us hl => match us, hl with | [_], _ => rfl⟩ e_asc
  have C_are_unlike : Cal P w K mg base ec "are_unlike" 1 [("names" : Str)] F_are_unlike f_are_unlike d_are_unlike := Cal.weak ⟨ok_are_unlike T D_are_unlike, M_are_unlike, D_are_unlike.kp, D_are_unlike.bindsN fun _ _ _ _ _ _ us hl => match us, hl with | [_], _ => rfl⟩ e_unlike
  have C_is_type : Cal P w K mg base ec "is_type" 2 [("value" : Str)] F_is_type f_is_type d_is_type := Cal.weak ⟨ok_is_type T C_is_name D_is_type, M_is_type, D_is_type.kp, D_is_type.bindsN fun _ _ _ _ _ _ us hl => match us, hl with | [_], _ => rfl⟩ e_type
  have C_is_field : Cal P w K mg base ec "is_field" 3 [("value" : Str)] F_is_field f_is_field d_is_field := Cal.weak ⟨ok_is_field T C_is_name C_is_type D_is_field, M_is_field, D_is_field.kp, D_is_field.bindsN fun _ _ _ _ _ _ us hl => match us, hl with | [_], _ => rfl⟩ e_field
  have C_is_kind : Cal P w K mg base ec "is_kind" 4 [("value" : Str)] F_is_kind f_is_kind d_is_kind := Cal.weak ⟨ok_is_kind T C_is_name C_is_field C_are_unlike D_is_kind, M_is_kind, D_is_kind.kp, D_is_kind.bindsN fun _ _ _ _ _ _ us hl => match us, hl with | [_], _ => rfl⟩ e_kind
  have C_are_kinds : Cal P w K mg base ec "are_kinds" 5 [("value" : Str)] F_are_kinds f_are_kinds d_are_kinds := Cal.weak ⟨ok_are_kinds T C_is_kind C_are_ascending D_are_kinds, M_are_kinds, D_are_kinds.kp, D_are_kinds.bindsN fun _ _ _ _ _ _ us hl => match us, hl with | [_], _ => rfl⟩ e_kinds
  have C_checked_kinds : Cal P w K mg base ec "checked_kinds" 6 [("kinds" : Str)] F_checked_kinds f_checked_kinds d_checked_kinds := Cal.weak ⟨ok_checked_kinds T C_are_kinds D_checked_kinds, M_checked_kinds, D_checked_kinds.kp, D_checked_kinds.bindsN fun _ _ _ _ _ _ us hl => match us, hl with | [_], _ => rfl⟩ e_checked
  have C_kind_named : Cal P w K mg base ec "kind_named" 1 [("kinds" : Str), ("name" : Str)] F_kind_named f_kind_named d_kind_named := Cal.weak ⟨ok_kind_named T D_kind_named, M_kind_named, D_kind_named.kp, D_kind_named.bindsN fun _ _ _ _ _ _ us hl => match us, hl with | [_, _], _ => rfl⟩ e_named
  have C_checked_kind_name : Cal P w K mg base ec "checked_kind_name" 2 [("kinds" : Str), ("name" : Str), ("at" : Str)] F_checked_kind_name f_checked_kind_name d_checked_kind_name := Cal.weak ⟨ok_checked_kind_name T C_is_name C_kind_named D_checked_kind_name, M_checked_kind_name, D_checked_kind_name.kp, D_checked_kind_name.bindsN fun _ _ _ _ _ _ us hl => match us, hl with | [_, _, _], _ => rfl⟩ e_cname
  have C_fields_of : Cal P w K mg base ec "fields_of" 7 [("kinds" : Str), ("name" : Str)] F_fields_of f_fields_of d_fields_of := Cal.weak ⟨ok_fields_of T C_checked_kinds C_checked_kind_name D_fields_of, M_fields_of, D_fields_of.kp, D_fields_of.bindsN fun _ _ _ _ _ _ us hl => match us, hl with | [_, _], _ => rfl⟩ e_fields
  have C_within_kinds : Cal P w K mg base ec "within_kinds" 7 [("kinds" : Str), ("name" : Str)] F_within_kinds f_within_kinds d_within_kinds := Cal.weak ⟨ok_within_kinds T C_checked_kinds C_checked_kind_name C_kind_named D_within_kinds, M_within_kinds, D_within_kinds.kp, D_within_kinds.bindsN fun _ _ _ _ _ _ us hl => match us, hl with | [_, _], _ => rfl⟩ e_within
  have C__law_draw : Cal P w K mg base ec "_law_draw" 1 [("script" : Str), ("salt" : Str)] F__law_draw f__law_draw d__law_draw := Cal.weak ⟨ok__law_draw T D__law_draw, M__law_draw, D__law_draw.kp, D__law_draw.bindsN fun _ _ _ _ _ _ us hl => match us, hl with | [_, _], _ => rfl⟩ DL.e_draw
  have C__law_any : Cal P w K mg base ec "_law_any" 1 [("deal" : Str), ("bound" : Str)] F__law_any f__law_any d__law_any := ⟨ok__law_any T D__law_any, M__law_any, D__law_any.kp, D__law_any.bindsN fun _ _ _ _ _ _ us hl => match us, hl with | [_, _], _ => rfl⟩
  have C__law_of : Cal P w K mg base ec "_law_of" 2 [("deal" : Str), ("some" : Str)] F__law_of f__law_of d__law_of := Cal.weak ⟨ok__law_of T C__law_any D__law_of, M__law_of, D__law_of.kp, D__law_of.bindsN fun _ _ _ _ _ _ us hl => match us, hl with | [_, _], _ => rfl⟩ DL.e_of
  have C__law_mixed : Cal P w K mg base ec "_law_mixed" 2 [("deal" : Str), ("some" : Str)] F__law_mixed f__law_mixed d__law_mixed := Cal.weak ⟨ok__law_mixed T C__law_any D__law_mixed, M__law_mixed, D__law_mixed.kp, D__law_mixed.bindsN fun _ _ _ _ _ _ us hl => match us, hl with | [_, _], _ => rfl⟩ DL.e_mixed
  have C__law_is_name : Cal P w K mg base ec "_law_is_name" 1 [("value" : Str)] F__law_is_name f__law_is_name d__law_is_name := Cal.weak ⟨ok__law_is_name T D__law_is_name, M__law_is_name, D__law_is_name.kp, D__law_is_name.bindsN fun _ _ _ _ _ _ us hl => match us, hl with | [_], _ => rfl⟩ e_lname
  have C__law_some_kinds : Cal P w K mg base ec "_law_some_kinds" 3 [("deal" : Str)] F__law_some_kinds f__law_some_kinds d__law_some_kinds := ⟨ok__law_some_kinds T C__law_mixed C__law_any C__law_of D__law_some_kinds, M__law_some_kinds, D__law_some_kinds.kp, D__law_some_kinds.bindsN fun _ _ _ _ _ _ us hl => match us, hl with | [_], _ => rfl⟩
  have C__law_kind_of : Cal P w K mg base ec "_law_kind_of" 1 [("kinds" : Str), ("name" : Str)] F__law_kind_of f__law_kind_of d__law_kind_of := Cal.weak ⟨ok__law_kind_of T D__law_kind_of, M__law_kind_of, D__law_kind_of.kp, D__law_kind_of.bindsN fun _ _ _ _ _ _ us hl => match us, hl with | [_, _], _ => rfl⟩ e_kof
  have C__law_is_kind : Cal P w K mg base ec "_law_is_kind" 9 [("value" : Str)] F__law_is_kind f__law_is_kind d__law_is_kind := Cal.weak ⟨ok__law_is_kind T C__law_same C__law_is_name D__law_is_kind, M__law_is_kind, D__law_is_kind.kp, D__law_is_kind.bindsN fun _ _ _ _ _ _ us hl => match us, hl with | [_], _ => rfl⟩ e_lkind
  have C__law_are_kinds : Cal P w K mg base ec "_law_are_kinds" 10 [("value" : Str)] F__law_are_kinds f__law_are_kinds d__law_are_kinds := Cal.weak ⟨ok__law_are_kinds T C__law_is_kind D__law_are_kinds, M__law_are_kinds, D__law_are_kinds.kp, D__law_are_kinds.bindsN fun _ _ _ _ _ _ us hl => match us, hl with | [_], _ => rfl⟩ e_lkinds
  have C__law_bent : Cal P w K mg base ec "_law_bent" 3 [("deal" : Str), ("kinds" : Str)] F__law_bent f__law_bent d__law_bent := ⟨ok__law_bent T C__law_any C__law_of D__law_bent, M__law_bent, D__law_bent.kp, D__law_bent.bindsN fun _ _ _ _ _ _ us hl => match us, hl with | [_, _], _ => rfl⟩
  have C__law_within : Cal P w K mg base ec "_law_within" 2 [("kinds" : Str), ("name" : Str)] F__law_within f__law_within d__law_within := Cal.weak ⟨ok__law_within T C__law_kind_of D__law_within, M__law_within, D__law_within.kp, D__law_within.bindsN fun _ _ _ _ _ _ us hl => match us, hl with | [_, _], _ => rfl⟩ e_lwithin
  have bk_are_kinds : ∀ (s : Shared) (ws : List Value), ws.length = 1 → BindsTo s d_are_kinds ⟨[], [("value" : Str)].zip ws⟩ ([("value" : Str)].zip ws) := bk1 (ps := [("value" : Str)]) D_are_kinds fun _ _ _ _ _ _ _ ws e hl s => by
    subst e
    exact (match ws, hl with | [_], _ => .of_eq rfl)
  have bk_is_kind : ∀ (s : Shared) (ws : List Value), ws.length = 1 → BindsTo s d_is_kind ⟨[], [("value" : Str)].zip ws⟩ ([("value" : Str)].zip ws) := bk1 (ps := [("value" : Str)]) D_is_kind fun _ _ _ _ _ _ _ ws e hl s => by
    subst e
    exact (match ws, hl with | [_], _ => .of_eq rfl)
  have bk_fields_of : ∀ (s : Shared) (ws : List Value), ws.length = 2 → BindsTo s d_fields_of ⟨[], [("kinds" : Str), ("name" : Str)].zip ws⟩ ([("kinds" : Str), ("name" : Str)].zip ws) := bk1 (ps := [("kinds" : Str), ("name" : Str)]) D_fields_of fun _ _ _ _ _ _ _ ws e hl s => by
    subst e
    exact (match ws, hl with | [_, _], _ => .of_eq rfl)
  have bk_within_kinds : ∀ (s : Shared) (ws : List Value), ws.length = 2 → BindsTo s d_within_kinds ⟨[], [("kinds" : Str), ("name" : Str)].zip ws⟩ ([("kinds" : Str), ("name" : Str)].zip ws) := bk1 (ps := [("kinds" : Str), ("name" : Str)]) D_within_kinds fun _ _ _ _ _ _ _ ws e hl s => by
    subst e
    exact (match ws, hl with | [_, _], _ => .of_eq rfl)
  exact ⟨{ f__law_draw := f__law_draw, d__law_draw := d__law_draw, C__law_draw := C__law_draw, f__law_some_kinds := f__law_some_kinds, d__law_some_kinds := d__law_some_kinds, C__law_some_kinds := C__law_some_kinds, f_are_kinds := f_are_kinds, d_are_kinds := d_are_kinds, C_are_kinds := C_are_kinds, bk_are_kinds := bk_are_kinds, f__law_are_kinds := f__law_are_kinds, d__law_are_kinds := d__law_are_kinds, C__law_are_kinds := C__law_are_kinds, f__law_bent := f__law_bent, d__law_bent := d__law_bent, C__law_bent := C__law_bent, f__law_same := f__law_same, d__law_same := d__law_same, C__law_same := C__law_same, f_is_kind := f_is_kind, d_is_kind := d_is_kind, C_is_kind := C_is_kind, bk_is_kind := bk_is_kind, f__law_is_kind := f__law_is_kind, d__law_is_kind := d__law_is_kind, C__law_is_kind := C__law_is_kind, f_fields_of := f_fields_of, d_fields_of := d_fields_of, C_fields_of := C_fields_of, bk_fields_of := bk_fields_of, f_within_kinds := f_within_kinds, d_within_kinds := d_within_kinds, C_within_kinds := C_within_kinds, bk_within_kinds := bk_within_kinds, f__law_within := f__law_within, d__law_within := d__law_within, C__law_within := C__law_within, f__law_of := f__law_of, d__law_of := d__law_of, C__law_of := C__law_of }⟩
end
end K01
end
section
set_option maxRecDepth 100000
set_option maxHeartbeats 4000000
namespace K01
open PySem PySem.Spec PyProof.Rows L2 DL ErrX
def cells0 (ns : List Int) : List Int := ((drawC ns).filter (fun c => decide (10 ^ 18 ≤ c))).reverse
def slots0 (x0 x1 : Sl) : Rho := some x0 :: some x1 :: List.replicate (N_law.length - 2) none
/-- the law, over plain data -/
def LawM : Prop := ∀ (ns : List Int) (x0 : Sl), ∃ r2 t2, m_law2 (slots0 x0 .deal) (some ⟨cells0 ns, drawB ns 1⟩) = .ok (.rt (.d (.bool true))) r2 t2
theorem law_d (ns : List Int) : m_law_d (some (.scr ns) :: List.replicate (N_law.length - 1) none) none = .ok .nx (slots0 (.scr ns) (.d (.list [.list ((cells0 ns).map PyData.int), .int (drawB ns 1)]))) none := by
  have e : F__law_draw [.scr ns, .d (.int 1)] none = .ok (.d (.list [.list ((cells0 ns).map PyData.int), .int (drawB ns 1)])) none := by
    show drawFM _ _ = _
    unfold drawFM
    simp only
    rw [if_pos ⟨by decide, by decide⟩]
    rfl
  simp [m_law_d, mAsg, mCall, mCons, mNil, M.bind, mVar, M.ret, mK, optM, keepAll, runF, e, keep, aName, slots0]
def spLaw (K : PySem.W.Frag) (PT : Addr) : Sp := fun vs H Q _ => ∃ (a : Addr) (ns : List Int), vs = [.ref a] ∧ H PT = some (.tbl #[]) ∧ SqL K H a (ns.map V.int) ∧ ∀ H', Q (.bl true) H'
theorem sls_law {K : PySem.W.Frag} {B : Bs} {H : Hp} {v0 v1 : V} {x0 x1 : Sl} {ow : List Nat} {G : Hp} {n : Nat} (h0 : Sv K B v0 x0) (h1 : Sv K B v1 x1) (how : ∀ i ∈ ow, 2 ≤ i) {σ : L2.St} (hσ : σ = some v0 :: some v1 :: List.replicate n none) : Sls K ow G B H σ (some x0 :: some x1 :: List.replicate n none) := by
  subst hσ
  have none_ : ∀ i x, 2 ≤ i → (some x0 :: some x1 :: List.replicate n none : Rho)[i]? = some (some x) → False := fun i x hi e => by
    match i, hi with
    | i + 2, _ =>
      simp only [List.getElem?_cons_succ, List.getElem?_replicate] at e
      split at e <;> simp at e
  refine ⟨by simp, fun i x hx hi => ?_, fun i x hx hi => (none_ i x (how i hi) hx).elim, fun i j p hi hj ij li lj e => ?_⟩
  · match i with
    | 0 => cases hx; exact ⟨v0, rfl, h0⟩
    | 1 => cases hx; exact ⟨v1, rfl, h1⟩
    | i + 2 => exact (none_ (i + 2) x (by omega) hx).elim
  · obtain ⟨x, hx⟩ := li
    exact (none_ i x (how i hi) hx).elim
theorem sql_nt {K : PySem.W.Frag} {H : Hp} {a : Addr} {xs : List V} (h : SqL K H a xs) : ∃ B : Hp, (∀ b o, B b = some o → H b = some o) ∧ SqL K B a xs ∧ ∀ b ps, B b ≠ some (.tbl ps) := by
  rcases h with (h | ⟨o, h⟩) | h
  · refine ⟨fun b => if b = a then some (.lst xs) else none, fun b o e => ?_, .inl (.inl (if_pos rfl)), fun b ps e => ?_⟩
    · by_cases q : b = a
      · subst q
        have e' : some (HO.lst xs) = some o := by rw [← e]; exact (if_pos rfl).symm
        rw [h]; exact e'
      · have e' : (none : Option HO) = some o := by rw [← e]; exact (if_neg q).symm
        cases e'
    · by_cases q : b = a
      · have e' : some (HO.lst xs) = some (.tbl ps) := by rw [← e]; exact (if_pos q).symm
        cases e'
      · have e' : (none : Option HO) = some (.tbl ps) := by rw [← e]; exact (if_neg q).symm
        cases e'
  · refine ⟨fun b => if b = a then H a else none, fun b u e => ?_, .inl (.inr ⟨o, by show (if a = a then H a else none) = _; rw [if_pos rfl]; exact h⟩), fun b ps e => ?_⟩
    · by_cases q : b = a
      · subst q
        have e' : H b = some u := by rw [← e]; exact (if_pos rfl).symm
        exact e'
      · have e' : (none : Option HO) = some u := by rw [← e]; exact (if_neg q).symm
        cases e'
    · by_cases q : b = a
      · have e' : H a = some (.tbl ps) := by rw [← e]; exact (if_pos q).symm
        rw [h] at e'
        cases e'
      · have e' : (none : Option HO) = some (.tbl ps) := by rw [← e]; exact (if_neg q).symm
        cases e'
  · exact ⟨fun _ => none, (fun b o e => by cases e), .inr h, (fun b ps e => by cases e)⟩
theorem ints_of_dq {K : PySem.W.Frag} {H : Hp} {vs : List V} {cs : List Int} (h : DqAll K H vs (cs.map PyData.int)) : vs = cs.map V.int := dpa_ints h
theorem cells_len (ns : List Int) : (cells0 ns).length ≤ 1000 := by
  unfold cells0
  rw [List.length_reverse]
  have h1 := List.length_filter_le (fun c => decide ((10 : Int) ^ 18 ≤ c)) (drawC ns)
  have h2 : (drawC ns).length ≤ 48 := by
    unfold drawC
    rw [List.length_map, List.length_take]
    omega
  omega
theorem dealIt {K : PySem.W.Frag} {ec : Ec} {PT : Addr} {ns : List Int} {t2 : TS} {E : XK} {B0 B1 : Bs} {H1 : Hp} {σ1 : L2.St} {D : Ends} {v0 v1 : V} (hM : LawM) (hk2 : RfS K ⟨ec, [7], E⟩ t2 m_law2) (htb : ec.tb = [(PT, ("law.<locals>.<lambda>" : Str))]) (hQ : ∀ H', D.rt (.bl true) H')
    (l1 : Bs.le ⟨B0.H, none, none, [(PT, ("law.<locals>.<lambda>" : Str))]⟩ B1) (w1 : Wd (fun _ => none) B1 H1 none) (s1 : Sls K [] (fun _ => none) B1 H1 σ1 (slots0 (.scr ns) (.d (.list [.list ((cells0 ns).map PyData.int), .int (drawB ns 1)]))))
    (hσ0 : σ1[0]? = some (some v0)) (hσ1 : σ1[1]? = some (some v1)) (hv1 : Sv K B1 v1 (.d (.list [.list ((cells0 ns).map PyData.int), .int (drawB ns 1)]))) : t2 D σ1 H1 := by
  have hq : Dq K B1.H v1 (.list [.list ((cells0 ns).map PyData.int), .int (drawB ns 1)]) := hv1
  cases hq with
  | @lst da xs _ hda hxs =>
    match xs, hxs with
    | [u1, u2], .cons h1 (.cons h2 .nil) =>
      cases h2
      cases h1 with
      | @lst l ys _ hl hys =>
        have ey := dpa_ints hys
        subst ey
        have hne : da ≠ l := fun z => by
          subst z
          rw [hda] at hl
          have e : [V.ref da, V.int (drawB ns 1)] = (cells0 ns).map V.int := HO.lst.inj (Option.some.inj hl)
          cases hc : cells0 ns with
          | nil => rw [hc] at e; cases e
          | cons c cs => rw [hc] at e; simp at e
        let B2 : Bs := ⟨fun _ => none, some (da, l), none, [(PT, ("law.<locals>.<lambda>" : Str))]⟩
        have w2 : Wd (fun _ => none) B2 H1 (some ⟨cells0 ns, drawB ns 1⟩) := ⟨(fun _ _ e => by cases e), (fun _ _ e => by cases e), ⟨w1.sub _ _ hda, w1.sub _ _ hl, rfl, rfl, rfl, rfl, hne, cells_len ns⟩, ⟨by have := w1.tb.tabs; rw [l1.b] at this; exact this, (fun _ _ e => by cases e), (fun _ _ e => by cases e)⟩⟩
        have sl2 : Sls K [7] (fun _ => none) B2 H1 σ1 (slots0 (.raw v0) .deal) := by
          have hlen := s1.len
          have none_ : ∀ i x, 2 ≤ i → (slots0 (.raw v0) .deal)[i]? = some (some x) → False := fun i x hi e => by
            unfold slots0 at e
            match i, hi with
            | i + 2, _ =>
              simp only [List.getElem?_cons_succ, List.getElem?_replicate] at e
              split at e <;> simp at e
          refine ⟨hlen, fun i x hx hi => ?_, fun i x hx hi => ?_, fun i j p hi hj ij li lj e => ?_⟩
          · match i with
            | 0 => cases hx; exact ⟨v0, hσ0, rfl⟩
            | 1 => cases hx; exact ⟨_, hσ1, da, l, rfl, rfl⟩
            | i + 2 => exact (none_ (i + 2) x (by omega) hx).elim
          · rw [List.mem_singleton.mp hi] at hx
            exact (none_ 7 x (by omega) hx).elim
          · obtain ⟨x, hx⟩ := li
            rw [List.mem_singleton.mp hi] at hx
            exact (none_ 7 x (by omega) hx).elim
        obtain ⟨r2, tt2, hm⟩ := hM ns (.raw v0)
        refine hk2 (fun _ => none) B2 H1 σ1 _ _ D (fun _ _ _ => False) w2 sl2 ⟨htb.symm, fun _ _ _ _ _ _ _ _ h => h.elim⟩ ?_
        rw [hm]
        intro v B' H' _ _ sv
        cases sv
        exact hQ H'
section
variable {P : Program} {w : World} {K : PySem.W.Frag} {mg : Str → Option Value} {base : Heap} {ec : Ec} {C : Cls4}
theorem ok_law {f cc PT gH : Addr} {fdH : FuncData} {oc : Value} {od : Option Addr} {dV kV doc pm ct : Value} {an : Option Addr} {osl : Array (Option Value)} (hM : LawM) (T : Txt P K mg ec) (TH : Hd P K mg C) (hf : ec.f = C.f) (htb : ec.tb = [(PT, ("law.<locals>.<lambda>" : Str))]) (L : LC P w K mg base ec)
    (FH : FnP K "_law_heard" s__law_heard gH fdH) (gHm : mg "_law_heard" = some (.ref gH)) (TB : LamX.TabB base mg cc PT)
    (lk : K.lookup f = some ⟨oc, od, .func (PySem.W.fnOf "law" "law" (defArgs s_law) (defBody s_law) (defScope s_law) dV kV doc pm an (.ref cc) ct), osl⟩) (hcd : PySem.W.codeIn K (.ref cc) "law" = true) :
    FnOk P w K mg base (L2.CX P w) 12 f (PySem.W.fnOf "law" "law" (defArgs s_law) (defBody s_law) (defScope s_law) dV kV doc pm an (.ref cc) ct) ["script"] (spLaw K PT) := by
  refine fn_of lk hcd sc_law (fun vs H Q E h => ?_) fun A outer s H vs Q E hr h => ?_
  · obtain ⟨a, ns, rfl, _⟩ := h
    rfl
  · have HRD : Hears P w K mg base ec C f cc A outer s H E := @hears P w K mg base ec C f cc A outer s H E gH fdH PT TH hf htb FH gHm TB hr
    obtain ⟨t1, hp1, hk1⟩ := w_d (w := w) (outer := outer) (H := H) (E := E) T L HRD hr
    obtain ⟨t2, hp2, hk2⟩ := walk_law (w := w) (outer := outer) (H := H) (E := E) T L HRD hr
    have hb : defBody s_law = [lawS 0, lawS 1, lawS 2] := by kernel_rfl
    rw [hb]
    refine ⟨_, pss_cons hp1 hp2, ?_⟩
    obtain ⟨a, ns, rfl, hT, hS, hQ⟩ := h
    obtain ⟨B0, hB0, hS0, hnt⟩ := sql_nt hS
    let Bs0 : Bs := ⟨B0, none, none, [(PT, ("law.<locals>.<lambda>" : Str))]⟩
    have tabs0 : LamX.Tabs [(PT, ("law.<locals>.<lambda>" : Str))] H := fun p hp => by
      rw [List.mem_singleton.mp hp]
      exact LamX.TabS.nil hT
    have w0 : Wd (fun _ => none) Bs0 H none := ⟨hB0, (fun _ _ e => by cases e), True.intro, ⟨tabs0, hnt, (fun _ _ e => by cases e)⟩⟩
    have sl0 : Sls K [] (fun _ => none) Bs0 H (L2.start N_law [.ref a]) (some (.scr ns) :: List.replicate (N_law.length - 1) none) := by
      have := sls_start (K := K) (ow := []) (G := fun _ => none) (B := Bs0) (H := H) (N := N_law) (vs := [.ref a]) (xs := [.scr ns]) (n := 1) ⟨⟨a, rfl, hS0⟩, True.intro⟩ rfl (by simp)
      exact this
    refine hk1 (fun _ => none) Bs0 H (L2.start N_law [.ref a]) _ none _ (fun _ _ _ => False) w0 sl0 ⟨htb.symm, fun _ _ _ _ _ _ _ _ h => h.elim⟩ ?_
    rw [law_d ns]
    intro σ1 B1 H1 l1 w1 s1
    show t2 _ σ1 H1
    -- the deal is the deal's from now on
    obtain ⟨v0, hσ0, _⟩ := s1.var 0 (.scr ns) rfl (by simp)
    obtain ⟨v1, hσ1, hv1⟩ := s1.var 1 _ rfl (by simp)
    exact dealIt (B0 := Bs0) hM hk2 htb hQ l1 w1 s1 hσ0 hσ1 hv1
end
end K01
end
section
set_option maxRecDepth 100000
set_option maxHeartbeats 4000000
/-! # The head: what the written part says of the errors, looked at by a Bool -/
namespace HeY
open PySem PySem.W PySem.Spec PyProof.Rows L2 ErrX He
def clsB (K : Frag) (C : Addr) : Bool := match K.lookup C with
  | some ⟨.type "type", _, .cls cd, sl⟩ => (match cd.mro, sl.toList with
    | .ref C' :: bm, [_, _, _, _, some (.builtin n), _] => decide (C' = C) && (decide (n = "ValueError.__new__") && (!cd.hasDel && (cd.hasDict && (HandSPX.refsVE bm && decide (alongIn K "__init__" bm = some (some (.builtin "ValueError.__init__")))))))
    | _, _ => false)
  | _ => false
theorem clsB_ok {K : Frag} {C : Addr} (h : clsB K C = true) : ∃ nm q N bs bm sn sub ab col dd k0 k1 k2 k3 k5, K.lookup C = some (excClassObj nm q C N bs bm true sn sub ab col dd k0 k1 k2 k3 k5 "ValueError.__new__") ∧ HandSPX.refsVE bm = true ∧ alongIn K "__init__" bm = some (some (.builtin "ValueError.__init__")) := by
  unfold clsB at h
  split at h
  · rename_i dd cd sl ho
    split at h
    · rename_i C' bm k0 k1 k2 k3 n k5 hm hs
      simp only [Bool.and_eq_true, decide_eq_true_eq, Bool.not_eq_true'] at h
      obtain ⟨rfl, rfl, hdel, hdct, hv, ha⟩ := h
      obtain ⟨nm, bs, mro, ns, qn, hd, sn, sub, ab, col, del⟩ := cd
      dsimp only at hm hdel hdct
      subst hm hdel hdct
      have hsl : sl = #[k0, k1, k2, k3, some (.builtin "ValueError.__new__"), k5] := by
        obtain ⟨l⟩ := sl
        simp only at hs
        rw [hs]
      subst hsl
      exact ⟨nm, qn, ns, bs, bm, sn, sub, ab, col, dd, k0, k1, k2, k3, k5, ho, hv, ha⟩
    · cases h
  · cases h
def parB : Arguments → Bool
  | ⟨[], [⟨s1, .none, _⟩, ⟨s2, .none, _⟩], .none, [], [], .none, []⟩ => decide (s1 = "self") && decide (s2 = "at")
  | _ => false
theorem parB_ok {a : Arguments} (h : parB a = true) : ∃ p1 p2, a = eA p1 p2 := by
  unfold parB at h
  split at h
  · rw [Bool.and_eq_true, decide_eq_true_eq, decide_eq_true_eq] at h
    obtain ⟨rfl, rfl⟩ := h
    exact ⟨_, _, rfl⟩
  · cases h
def bodB : FuncBody → Bool
  | .stmts [.Expr (.Call (.Attribute (.Call (.Name n1 _) [] [] _) n2 q3) [.Name n3 _] [] q5) _, .Assign [.Attribute (.Name n4 _) n5 _] (.Name n6 _) _] =>
    decide (n1 = "super") && (decide (n2 = "__init__") && (decide (n3 = "at") && (decide (n4 = "self") && (decide (n5 = "at") && (decide (n6 = "at") && (q3.endLine == q5.line))))))
  | _ => false
theorem bodB_ok {b : FuncBody} (h : bodB b = true) : ∃ q1 q2 q3 q4 q5 q6 r1 r2 r3 r4, b = .stmts (eB q1 q2 q3 q4 q5 q6 r1 r2 r3 r4) ∧ (q3.endLine == q5.line) = true := by
  unfold bodB at h
  split at h
  · simp only [Bool.and_eq_true, decide_eq_true_eq] at h
    obtain ⟨rfl, rfl, rfl, rfl, rfl, rfl, hl⟩ := h
    exact ⟨_, _, _, _, _, _, _, _, _, _, rfl, hl⟩
  · cases h
def celB (K : Frag) (cc C : Addr) : Bool := match K.lookup cc with
  | some ⟨_, _, .cell (some (.ref C')), _⟩ => decide (C' = C)
  | _ => false
theorem celB_ok {K : Frag} {cc C : Addr} (h : celB K cc C = true) : ∃ cl cld csl, K.lookup cc = some ⟨cl, cld, .cell (some (.ref C)), csl⟩ := by
  unfold celB at h
  split at h
  · rename_i q
    have e := of_decide_eq_true h
    subst e
    exact ⟨_, _, _, q⟩
  · cases h
def filB (prog : Program) (K : Frag) (cda : Addr) : Bool := match K.lookup cda with
  | some ⟨_, _, .fields vs, _⟩ => (match (vs[2]? : Option Value) with
    | some (.str file _) => (prog.main.file : Str) == file
    | _ => false)
  | _ => false
theorem filB_ok {prog : Program} {K : Frag} {cda : Addr} (h : filB prog K cda = true) : ∃ (ccl : Value) (cdd : Option Addr) (ccs : Array (Option Value)) (vs : Array Value) (file : Str) (tf : Tok), K.lookup cda = some ⟨ccl, cdd, .fields vs, ccs⟩ ∧ vs[2]? = some (.str file tf) ∧ ((prog.main.file : Str) == file) = true := by
  unfold filB at h
  split at h
  · rename_i q
    split at h
    · rename_i q2
      exact ⟨_, _, _, _, _, _, q, q2, h⟩
    · cases h
  · cases h
def fnB (prog : Program) (K : Frag) (C fI : Addr) : Bool := match K.lookup fI with
  | some ⟨_, _, .func fd, _⟩ => decide (fd.name = "__init__") && (parB fd.params && (bodB fd.body && (decide (fd.scope = eS) && (decide (fd.globals = mainGlobals) && (decide (fd.builtins = builtinsNs) && (match fd.defaults, fd.closure, fd.code with
      | .none, [(n, cc)], .ref cda => decide (n = "__class__") && (codeIn K (.ref cda) fd.qualname && (celB K cc C && filB prog K cda))
      | _, _, _ => false))))))
  | _ => false
def errB (prog : Program) (K : Frag) (x : Str) : Bool :=
  (Fa.glo x).ok K && ((Fa.free "super").ok K && (clsB K (ga K x) && (decide (findIn K (.ref (ga K x)) "__setattr__" = some (some (.builtin "object.__setattr__"))) && (xfB K (ga K x) && (decide (findIn K (.ref (ga K x)) "at" = some none) && (keepIn K (.ref (ga K x)) &&
    (decide (typeIn K (.ref (ga K x)) = some (.type "type")) && (decide (nsIn K cStatics "thirdparty.any" = some none) && (!(prog.main.scope.names.lookup ("super" : Str)).isSome && (decide (mroIn K (ga K x) (.ref (ga K x)) = some true) &&
      (decide (findIn K (.ref (ga K x)) "__init__" = some (some (.ref (ma K (ga K x) "__init__")))) && (decide (typeIn K (.ref (ma K (ga K x) "__init__")) = some (.type "function")) && fnB prog K (ga K x) (ma K (ga K x) "__init__")))))))))))))
theorem errB_ok {prog : Program} {K : Frag} {x : Str} {h : Heap} {mg : Str → Option Value} (X : K.In h) (G : h.Ns mainGlobals mg) (c : errB prog K x = true) : ErrTxt prog K mg x (ga K x) := by
  unfold errB at c
  simp only [Bool.and_eq_true, decide_eq_true_eq, Bool.not_eq_true'] at c
  obtain ⟨c1, c2, c3, c4, c5, c6, c7, c8, c9, c10, c11, c12, c13, c14⟩ := c
  refine ⟨glo_ok X G c1, free_ok X G c2, clsB_ok c3, c4, xfB_ok c5, c6, c7, (xfB_ok c5).exC, c8, c9, c10, c11, ?_⟩
  unfold fnB at c14
  split at c14
  · rename_i oc od fd osl ho
    simp only [Bool.and_eq_true, decide_eq_true_eq] at c14
    obtain ⟨d1, d2, d3, d4, d5, d6, d7⟩ := c14
    split at d7
    · rename_i n cc cda e1 e2 e3
      simp only [Bool.and_eq_true, decide_eq_true_eq] at d7
      obtain ⟨rfl, g2, g3, g4⟩ := d7
      obtain ⟨p1, p2, hp⟩ := parB_ok d2
      obtain ⟨q1, q2, q3, q4, q5, q6, r1, r2, r3, r4, hb, hl⟩ := bodB_ok d3
      obtain ⟨cl, cld, csl, hc⟩ := celB_ok g3
      obtain ⟨ccl, cdd, ccs, vs, file, tf, hk, hv, hf⟩ := filB_ok g4
      obtain ⟨nm, qual, params, body, scope, globals, closure, dV, kV, doc, pm, an, cdv, ct, bt⟩ := fd
      dsimp only at d1 d4 d5 d6 e1 e2 e3 hp hb g2
      subst d1 d4 d5 d6 e1 e2 e3 hp hb
      exact ⟨_, cc, cda, qual, oc, .none, kV, doc, pm, ct, od, an, osl, p1, p2, q1, q2, q3, q4, q5, q6, r1, r2, r3, r4, cl, ccl, cld, cdd, csl, ccs, vs, file, tf, c12, c13, ho, rfl, g2, hc, hk, hv, hf, hl⟩
    · cases d7
  · cases c14
/-! the Hook: as hookX, with the statics -/
def asY (g : Addr → Option Obj) (n : Nat) : List Addr := asD g n ++ [cStatics]
def obsY (n : Nat) (fa : List Fa) (fn : List DefD) (ts : List Tab) (tf : List Defn) (ex : Frag → Bool) (g : Addr → Option Obj) : AlX := (obsT fa fn ts (frT g (asY g n)), ex (frT g (asY g n)) && tabsB g tf (frT g (asY g n)))
theorem saysY_of {n : Nat} {fa : List Fa} {fn : List DefD} {ts : List Tab} {tf : List Defn} {ex : Frag → Bool} {w : World} {h : Heap} (e : obsY n fa fn ts tf ex h.get? = valX fn ts w) : SaysX fa fn ts tf ex w h (frT h.get? (asY h.get? n)) := by
  have e1 : obsT fa fn ts (frT h.get? (asY h.get? n)) = valT fn ts w := congrArg (fun z : AlX => z.1) e
  have e2 : (ex (frT h.get? (asY h.get? n)) && tabsB h.get? tf (frT h.get? (asY h.get? n))) = true := congrArg (fun z : AlX => z.2) e
  obtain ⟨h1, h2⟩ := ba e2
  have key : ∀ p ∈ tf, codeHdIn (frT h.get? (asY h.get? n)) (cT (frT h.get? (asY h.get? n)) p).1 (cT (frT h.get? (asY h.get? n)) p).2 = true ∧ ∃ o, h.get? (cT (frT h.get? (asY h.get? n)) p).2 = some o ∧ emptyTab o = true := fun p hp => by
    obtain ⟨h3, h4⟩ := ba (List.all_eq_true.mp h2 p hp)
    refine ⟨h3, ?_⟩
    cases q : h.get? (cT (frT h.get? (asY h.get? n)) p).2 with
    | none =>
      rw [q] at h4
      cases h4
    | some o =>
      rw [q] at h4
      exact ⟨o, rfl, h4⟩
  exact ⟨e1, h1, fun p hp => (key p hp).1, fun p hp => by
    obtain ⟨_, o, q, z⟩ := key p hp
    exact frT_none q z, fun p hp => by
    obtain ⟨_, o, q, z⟩ := key p hp
    rw [q, emptyTab_eq z]⟩
def hookY (n : Nat) (fa : List Fa) (fn : List DefD) (ts : List Tab) (tf : List Defn) (ex : Frag → Bool) : Hook where
  α := AlX
  obs := fun s => obsY n fa fn ts tf ex s.heap.get?
  val := fun w => valX fn ts w
  says := fun w h => ∃ K : Frag, K.In h ∧ SaysX fa fn ts tf ex w h K
  of := fun _ _ e => ⟨_, frT_in, saysY_of e⟩
  keeps := fun _ _ _ ⟨K, hK, c⟩ k => ⟨K, Frag.In.keeps hK k, ⟨c.t, c.more, c.hd, c.out, fun p hp => k _ _ (c.empty p hp)⟩⟩
theorem obsY_eq {n : Nat} {fa : List Fa} {fn : List DefD} {ts : List Tab} {tf : List Defn} {ex : Frag → Bool} {g : Addr → Option Obj} {s : Shared} (h : ∀ a, g a = s.heap.get? a) : obsY n fa fn ts tf ex g = (hookY n fa fn ts tf ex).obs s := by
  have e : g = s.heap.get? := funext h
  rw [e] <;> rfl
end HeY
end
section
set_option maxRecDepth 100000
set_option maxHeartbeats 0
namespace K01H
open PySem PySem.Spec PyProof.Rows L2 DL K01
def strsEq : List Value → List Str → Bool
  | [], [] => true
  | .str y _ :: vs, z :: zs => decide (y = z) && strsEq vs zs
  | _, _ => false
def tupB (K : PySem.W.Frag) (x : Str) (ws : List Str) : Bool := match K.lookup (He.ga K x) with
  | some ⟨.type T, _, .seq vs _, _⟩ => decide (T = "tuple") && (decide (vs.size ≤ 1000) && strsEq vs.toList ws)
  | _ => false
theorem strsEq_ok : ∀ {vs : List Value} {ws : List Str}, strsEq vs ws = true → Vals (ws.map V.str) vs
  | [], [], _ => .nil
  | .str y t :: vs, z :: zs, h => by
    unfold strsEq at h
    rw [Bool.and_eq_true, decide_eq_true_iff] at h
    rw [List.map_cons, ← h.1]
    exact .cons ⟨t, rfl⟩ (strsEq_ok h.2)
theorem tupB_ok {K : PySem.W.Frag} {x : Str} {ws : List Str} (h : tupB K x ws = true) : ∀ H, Dq K H (.ref (He.ga K x)) (.tuple (ws.map PyData.str)) := by
  intro H
  unfold tupB at h
  split at h
  · rename_i T dd vs n sl e
    rw [Bool.and_eq_true, Bool.and_eq_true, decide_eq_true_iff, decide_eq_true_iff] at h
    obtain ⟨h1, h2, h3⟩ := h
    subst h1
    exact .tup (.inr ⟨_, vs, n, e, rfl, rfl, by rw [sizeLine_eq]; omega, strsEq_ok h3⟩) (dpa_of_strs ws)
  · cases h
def d_is_name : He.DefD := ⟨("is_name", none), "is_name", "is_name", defArgs (top 11), defBody (top 11), defScope (top 11), [], []⟩
def d_are_ascending : He.DefD := ⟨("are_ascending", none), "are_ascending", "are_ascending", defArgs (top 12), defBody (top 12), defScope (top 12), [], []⟩
def d_are_unlike : He.DefD := ⟨("are_unlike", none), "are_unlike", "are_unlike", defArgs (top 13), defBody (top 13), defScope (top 13), [], []⟩
def d_is_type : He.DefD := ⟨("is_type", none), "is_type", "is_type", defArgs (top 17), defBody (top 17), defScope (top 17), [], []⟩
def d_is_field : He.DefD := ⟨("is_field", none), "is_field", "is_field", defArgs (top 18), defBody (top 18), defScope (top 18), [], []⟩
def d_is_kind : He.DefD := ⟨("is_kind", none), "is_kind", "is_kind", defArgs (top 19), defBody (top 19), defScope (top 19), [], []⟩
def d_are_kinds : He.DefD := ⟨("are_kinds", none), "are_kinds", "are_kinds", defArgs (top 20), defBody (top 20), defScope (top 20), [], []⟩
def d_checked_kinds : He.DefD := ⟨("checked_kinds", none), "checked_kinds", "checked_kinds", defArgs (top 21), defBody (top 21), defScope (top 21), [], []⟩
def d_kind_named : He.DefD := ⟨("kind_named", none), "kind_named", "kind_named", defArgs (top 22), defBody (top 22), defScope (top 22), [], []⟩
def d_checked_kind_name : He.DefD := ⟨("checked_kind_name", none), "checked_kind_name", "checked_kind_name", defArgs (top 23), defBody (top 23), defScope (top 23), [], []⟩
def d_fields_of : He.DefD := ⟨("fields_of", none), "fields_of", "fields_of", defArgs (top 24), defBody (top 24), defScope (top 24), [], []⟩
def d_within_kinds : He.DefD := ⟨("within_kinds", none), "within_kinds", "within_kinds", defArgs (top 25), defBody (top 25), defScope (top 25), [], []⟩
def d__law_draw : He.DefD := ⟨("_law_draw", none), "_law_draw", "_law_draw", defArgs (top 27), defBody (top 27), defScope (top 27), [], []⟩
def d__law_any : He.DefD := ⟨("_law_any", none), "_law_any", "_law_any", defArgs (top 28), defBody (top 28), defScope (top 28), [], []⟩
def d__law_of : He.DefD := ⟨("_law_of", none), "_law_of", "_law_of", defArgs (top 29), defBody (top 29), defScope (top 29), [], []⟩
def d__law_mixed : He.DefD := ⟨("_law_mixed", none), "_law_mixed", "_law_mixed", defArgs (top 30), defBody (top 30), defScope (top 30), [], []⟩
def d__law_same : He.DefD := ⟨("_law_same", none), "_law_same", "_law_same", defArgs (top 31), defBody (top 31), defScope (top 31), [], []⟩
def d__law_is_name : He.DefD := ⟨("_law_is_name", none), "_law_is_name", "_law_is_name", defArgs (top 32), defBody (top 32), defScope (top 32), [], []⟩
def d__law_some_kinds : He.DefD := ⟨("_law_some_kinds", none), "_law_some_kinds", "_law_some_kinds", defArgs (top 33), defBody (top 33), defScope (top 33), [], []⟩
def d__law_kind_of : He.DefD := ⟨("_law_kind_of", none), "_law_kind_of", "_law_kind_of", defArgs (top 34), defBody (top 34), defScope (top 34), [], []⟩
def d__law_heard : He.DefD := ⟨("_law_heard", none), "_law_heard", "_law_heard", defArgs (top 35), defBody (top 35), defScope (top 35), [], []⟩
def d__law_is_kind : He.DefD := ⟨("_law_is_kind", none), "_law_is_kind", "_law_is_kind", defArgs (top 36), defBody (top 36), defScope (top 36), [], []⟩
def d__law_are_kinds : He.DefD := ⟨("_law_are_kinds", none), "_law_are_kinds", "_law_are_kinds", defArgs (top 37), defBody (top 37), defScope (top 37), [], []⟩
def d__law_bent : He.DefD := ⟨("_law_bent", none), "_law_bent", "_law_bent", defArgs (top 38), defBody (top 38), defScope (top 38), [], []⟩
def d__law_within : He.DefD := ⟨("_law_within", none), "_law_within", "_law_within", defArgs (top 39), defBody (top 39), defScope (top 39), [], []⟩
def d_law : He.DefD := ⟨("law", none), "law", "law", defArgs (top 40), defBody (top 40), defScope (top 40), [], []⟩
def fn : List He.DefD := [d_is_name, d_are_ascending, d_are_unlike, d_is_type, d_is_field, d_is_kind, d_are_kinds, d_checked_kinds, d_kind_named, d_checked_kind_name, d_fields_of, d_within_kinds, d__law_draw, d__law_any, d__law_of, d__law_mixed, d__law_same, d__law_is_name, d__law_some_kinds, d__law_kind_of, d__law_heard, d__law_is_kind, d__law_are_kinds, d__law_bent, d__law_within, d_law]
def fa : List He.Fa := [.glo "is_name", .glo "are_ascending", .glo "are_unlike", .glo "is_type", .glo "is_field", .glo "is_kind", .glo "are_kinds", .glo "checked_kinds", .glo "kind_named", .glo "checked_kind_name", .glo "fields_of", .glo "within_kinds", .glo "_law_draw", .glo "_law_any", .glo "_law_of", .glo "_law_mixed", .glo "_law_same", .glo "_law_is_name", .glo "_law_some_kinds", .glo "_law_kind_of", .glo "_law_heard", .glo "_law_is_kind", .glo "_law_are_kinds", .glo "_law_bent", .glo "_law_within", .glo "law", .free "len", .free "all", .free "abs", .free "int", .free "bool", .free "str", .free "tuple", .free "list", .free "range", .free "zip", .free "isinstance", .free "set", .free "dict", .free "sorted", .int "MOST_SIGNS" 12, .int "MOST_KINDS" 40, .int "MOST_FIELDS" 12, .str "LETTERS" "abcdefghijklmnopqrstuvwxyz", .str "DIGITS" "0123456789", .glo "WORDS", .glo "InvalidKind", .glo "InvalidQuestion", .glo "InvalidValue", .glo "Refused"]
def exB (K : PySem.W.Frag) : Bool := tupB K "WORDS" wordsL && (HeY.errB PySem.Challenge.pw_heldshares_k01_whole_kinds K "InvalidKind" && HeY.errB PySem.Challenge.pw_heldshares_k01_whole_kinds K "InvalidQuestion" && HeY.errB PySem.Challenge.pw_heldshares_k01_whole_kinds K "InvalidValue" && HeY.errB PySem.Challenge.pw_heldshares_k01_whole_kinds K "Refused" && (decide (PySem.W.exmOne K (.ref (He.ga K "InvalidKind")) (.ref (He.ga K "InvalidKind")) = some true) && decide (PySem.W.exmOne K (.ref (He.ga K "InvalidKind")) (.ref (He.ga K "InvalidQuestion")) = some false) && decide (PySem.W.exmOne K (.ref (He.ga K "InvalidKind")) (.ref (He.ga K "InvalidValue")) = some false) && decide (PySem.W.exmOne K (.ref (He.ga K "InvalidKind")) (.ref (He.ga K "Refused")) = some false) && decide (PySem.W.exmOne K (.ref (He.ga K "InvalidQuestion")) (.ref (He.ga K "InvalidKind")) = some false) && decide (PySem.W.exmOne K (.ref (He.ga K "InvalidQuestion")) (.ref (He.ga K "InvalidQuestion")) = some true) && decide (PySem.W.exmOne K (.ref (He.ga K "InvalidQuestion")) (.ref (He.ga K "InvalidValue")) = some false) && decide (PySem.W.exmOne K (.ref (He.ga K "InvalidQuestion")) (.ref (He.ga K "Refused")) = some false) && decide (PySem.W.exmOne K (.ref (He.ga K "InvalidValue")) (.ref (He.ga K "InvalidKind")) = some false) && decide (PySem.W.exmOne K (.ref (He.ga K "InvalidValue")) (.ref (He.ga K "InvalidQuestion")) = some false) && decide (PySem.W.exmOne K (.ref (He.ga K "InvalidValue")) (.ref (He.ga K "InvalidValue")) = some true) && decide (PySem.W.exmOne K (.ref (He.ga K "InvalidValue")) (.ref (He.ga K "Refused")) = some false) && decide (PySem.W.exmOne K (.ref (He.ga K "Refused")) (.ref (He.ga K "InvalidKind")) = some false) && decide (PySem.W.exmOne K (.ref (He.ga K "Refused")) (.ref (He.ga K "InvalidQuestion")) = some false) && decide (PySem.W.exmOne K (.ref (He.ga K "Refused")) (.ref (He.ga K "InvalidValue")) = some false) && decide (PySem.W.exmOne K (.ref (He.ga K "Refused")) (.ref (He.ga K "Refused")) = some true)))
abbrev R : PySem.W.OpenRow := PySem.W.OpenLaw.row PySem.Challenge.rw_heldshares_k01_whole_kinds
abbrev hk : PySem.W.Hook := HeY.hookY 6 fa fn [] [("law", none)] exB
def ob (s : PySem.W.SharedT) : He.AlX := HeY.obsY 6 fa fn [] [("law", none)] exB (HandSHeadRun.getT s)
theorem ob_eq (s : PySem.W.SharedT) : ob s = hk.obs s.abs := HeY.obsY_eq (HandSHeadRun.getT_eq s)
def loose : List Str := (["HoldError", "InvalidKind", "InvalidValue", "InvalidQuestion", "Refused", "LETTERS", "DIGITS", "MOST_SIGNS", "WORDS", "is_name", "are_ascending", "are_unlike", "MOST_KINDS", "MOST_FIELDS", "is_type", "is_field", "is_kind", "are_kinds", "checked_kinds", "kind_named", "checked_kind_name", "fields_of", "within_kinds", "_law_draw", "_law_any", "_law_of", "_law_mixed", "_law_same", "_law_is_name", "_law_some_kinds"] : List Str) ++ (["_law_kind_of", "_law_heard", "_law_is_kind", "_law_are_kinds", "_law_bent", "_law_within"] : List Str)
theorem run (w : World) : HandSHeadRun.RunEq R (PySem.W.view R.prog [40]) hk ob 20000 loose w := by
  intro os
  kernel_rfl
end K01H
end
section
set_option maxRecDepth 100000
set_option maxHeartbeats 4000000
namespace K01
open PySem PySem.Spec PyProof.Rows L2 DL ErrX K01H

theorem hd_of {P : Program} {K : PySem.W.Frag} {mg : Str → Option Value} {a b c d : Addr} (haa : PySem.W.exmOne K (.ref a) (.ref a) = some true) (hab : PySem.W.exmOne K (.ref a) (.ref b) = some false) (hac : PySem.W.exmOne K (.ref a) (.ref c) = some false) (had : PySem.W.exmOne K (.ref a) (.ref d) = some false) (hba : PySem.W.exmOne K (.ref b) (.ref a) = some false) (hbb : PySem.W.exmOne K (.ref b) (.ref b) = some true) (hbc : PySem.W.exmOne K (.ref b) (.ref c) = some false) (hbd : PySem.W.exmOne K (.ref b) (.ref d) = some false) (hca : PySem.W.exmOne K (.ref c) (.ref a) = some false) (hcb : PySem.W.exmOne K (.ref c) (.ref b) = some false) (hcc : PySem.W.exmOne K (.ref c) (.ref c) = some true) (hcd : PySem.W.exmOne K (.ref c) (.ref d) = some false) (hda : PySem.W.exmOne K (.ref d) (.ref a) = some false) (hdb : PySem.W.exmOne K (.ref d) (.ref b) = some false) (hdc : PySem.W.exmOne K (.ref d) (.ref c) = some false) (hdd : PySem.W.exmOne K (.ref d) (.ref d) = some true) (k : ErrTxt P K mg "InvalidKind" a) (q : ErrTxt P K mg "InvalidQuestion" b) (v : ErrTxt P K mg "InvalidValue" c) (r : ErrTxt P K mg "Refused" d) : Hd P K mg ⟨a, b, c, d⟩ := by
  have nab : a ≠ b := fun z => by
    rw [← z, haa] at hab
    cases hab
  have nac : a ≠ c := fun z => by
    rw [← z, haa] at hac
    cases hac
  have nad : a ≠ d := fun z => by
    rw [← z, haa] at had
    cases had
  have nba : b ≠ a := fun z => by
    rw [← z, hbb] at hba
    cases hba
  have nbc : b ≠ c := fun z => by
    rw [← z, hbb] at hbc
    cases hbc
  have nbd : b ≠ d := fun z => by
    rw [← z, hbb] at hbd
    cases hbd
  have nca : c ≠ a := fun z => by
    rw [← z, hcc] at hca
    cases hca
  have ncb : c ≠ b := fun z => by
    rw [← z, hcc] at hcb
    cases hcb
  have ncd : c ≠ d := fun z => by
    rw [← z, hcc] at hcd
    cases hcd
  have nda : d ≠ a := fun z => by
    rw [← z, hdd] at hda
    cases hda
  have ndb : d ≠ b := fun z => by
    rw [← z, hdd] at hdb
    cases hdb
  have ndc : d ≠ c := fun z => by
    rw [← z, hdd] at hdc
    cases hdc
  refine ⟨?_, fun p hp q' hq => ?_, k, q, v, r⟩
  · show [a, b, c, d].Nodup
    simp [nab, nac, nad, nbc, nbd, ncd]
  · have hp' : p = (a, ("kind" : Str)) ∨ p = (b, ("question" : Str)) ∨ p = (c, ("value" : Str)) ∨ p = (d, ("refused" : Str)) := by simpa using hp
    have hq' : q' = (a, ("kind" : Str)) ∨ q' = (b, ("question" : Str)) ∨ q' = (c, ("value" : Str)) ∨ q' = (d, ("refused" : Str)) := by simpa using hq
    rcases hp' with rfl | rfl | rfl | rfl
    · rcases hq' with rfl | rfl | rfl | rfl
      · exact haa.trans (congrArg some (decide_eq_true rfl).symm)
      · exact hab.trans (congrArg some (decide_eq_false nab).symm)
      · exact hac.trans (congrArg some (decide_eq_false nac).symm)
      · exact had.trans (congrArg some (decide_eq_false nad).symm)
    · rcases hq' with rfl | rfl | rfl | rfl
      · exact hba.trans (congrArg some (decide_eq_false nba).symm)
      · exact hbb.trans (congrArg some (decide_eq_true rfl).symm)
      · exact hbc.trans (congrArg some (decide_eq_false nbc).symm)
      · exact hbd.trans (congrArg some (decide_eq_false nbd).symm)
    · rcases hq' with rfl | rfl | rfl | rfl
      · exact hca.trans (congrArg some (decide_eq_false nca).symm)
      · exact hcb.trans (congrArg some (decide_eq_false ncb).symm)
      · exact hcc.trans (congrArg some (decide_eq_true rfl).symm)
      · exact hcd.trans (congrArg some (decide_eq_false ncd).symm)
    · rcases hq' with rfl | rfl | rfl | rfl
      · exact hda.trans (congrArg some (decide_eq_false nda).symm)
      · exact hdb.trans (congrArg some (decide_eq_false ndb).symm)
      · exact hdc.trans (congrArg some (decide_eq_false ndc).symm)
      · exact hdd.trans (congrArg some (decide_eq_true rfl).symm)
theorem law_at (hM : LawM) {w : World} {mg : Str → Option Value} {fa : Addr} {h : Heap} {K : PySem.W.Frag} (X : K.In h) (G : h.Ns mainGlobals mg) (hfa : mg ("law" : Str) = some (.ref fa)) (c : He.SaysX K01H.fa K01H.fn [] [("law", none)] K01H.exB w h K) :
    LamX.LawAtS PySem.Challenge.rw_heldshares_k01_whole_kinds w K (L2.CX PySem.Challenge.pw_heldshares_k01_whole_kinds w) 12 63 "script" mg fa h := by
  have cd := c.t.d
  obtain ⟨d_is_name, D_is_name⟩ := cd.def_ 0 (d := K01H.d_is_name) rfl
  have M_is_name := He.glo_ok X G (cd.fact 0 (f := .glo "is_name") rfl)
  obtain ⟨d_are_ascending, D_are_ascending⟩ := cd.def_ 1 (d := K01H.d_are_ascending) rfl
  have M_are_ascending := He.glo_ok X G (cd.fact 1 (f := .glo "are_ascending") rfl)
  obtain ⟨d_are_unlike, D_are_unlike⟩ := cd.def_ 2 (d := K01H.d_are_unlike) rfl
  have M_are_unlike := He.glo_ok X G (cd.fact 2 (f := .glo "are_unlike") rfl)
  obtain ⟨d_is_type, D_is_type⟩ := cd.def_ 3 (d := K01H.d_is_type) rfl
  have M_is_type := He.glo_ok X G (cd.fact 3 (f := .glo "is_type") rfl)
  obtain ⟨d_is_field, D_is_field⟩ := cd.def_ 4 (d := K01H.d_is_field) rfl
  have M_is_field := He.glo_ok X G (cd.fact 4 (f := .glo "is_field") rfl)
  obtain ⟨d_is_kind, D_is_kind⟩ := cd.def_ 5 (d := K01H.d_is_kind) rfl
  have M_is_kind := He.glo_ok X G (cd.fact 5 (f := .glo "is_kind") rfl)
  obtain ⟨d_are_kinds, D_are_kinds⟩ := cd.def_ 6 (d := K01H.d_are_kinds) rfl
  have M_are_kinds := He.glo_ok X G (cd.fact 6 (f := .glo "are_kinds") rfl)
  obtain ⟨d_checked_kinds, D_checked_kinds⟩ := cd.def_ 7 (d := K01H.d_checked_kinds) rfl
  have M_checked_kinds := He.glo_ok X G (cd.fact 7 (f := .glo "checked_kinds") rfl)
  obtain ⟨d_kind_named, D_kind_named⟩ := cd.def_ 8 (d := K01H.d_kind_named) rfl
  have M_kind_named := He.glo_ok X G (cd.fact 8 (f := .glo "kind_named") rfl)
  obtain ⟨d_checked_kind_name, D_checked_kind_name⟩ := cd.def_ 9 (d := K01H.d_checked_kind_name) rfl
  have M_checked_kind_name := He.glo_ok X G (cd.fact 9 (f := .glo "checked_kind_name") rfl)
  obtain ⟨d_fields_of, D_fields_of⟩ := cd.def_ 10 (d := K01H.d_fields_of) rfl
  have M_fields_of := He.glo_ok X G (cd.fact 10 (f := .glo "fields_of") rfl)
  obtain ⟨d_within_kinds, D_within_kinds⟩ := cd.def_ 11 (d := K01H.d_within_kinds) rfl
  have M_within_kinds := He.glo_ok X G (cd.fact 11 (f := .glo "within_kinds") rfl)
  obtain ⟨d__law_draw, D__law_draw⟩ := cd.def_ 12 (d := K01H.d__law_draw) rfl
  have M__law_draw := He.glo_ok X G (cd.fact 12 (f := .glo "_law_draw") rfl)
  obtain ⟨d__law_any, D__law_any⟩ := cd.def_ 13 (d := K01H.d__law_any) rfl
  have M__law_any := He.glo_ok X G (cd.fact 13 (f := .glo "_law_any") rfl)
  obtain ⟨d__law_of, D__law_of⟩ := cd.def_ 14 (d := K01H.d__law_of) rfl
  have M__law_of := He.glo_ok X G (cd.fact 14 (f := .glo "_law_of") rfl)
  obtain ⟨d__law_mixed, D__law_mixed⟩ := cd.def_ 15 (d := K01H.d__law_mixed) rfl
  have M__law_mixed := He.glo_ok X G (cd.fact 15 (f := .glo "_law_mixed") rfl)
  obtain ⟨d__law_same, D__law_same⟩ := cd.def_ 16 (d := K01H.d__law_same) rfl
  have M__law_same := He.glo_ok X G (cd.fact 16 (f := .glo "_law_same") rfl)
  obtain ⟨d__law_is_name, D__law_is_name⟩ := cd.def_ 17 (d := K01H.d__law_is_name) rfl
  have M__law_is_name := He.glo_ok X G (cd.fact 17 (f := .glo "_law_is_name") rfl)
  obtain ⟨d__law_some_kinds, D__law_some_kinds⟩ := cd.def_ 18 (d := K01H.d__law_some_kinds) rfl
  have M__law_some_kinds := He.glo_ok X G (cd.fact 18 (f := .glo "_law_some_kinds") rfl)
  obtain ⟨d__law_kind_of, D__law_kind_of⟩ := cd.def_ 19 (d := K01H.d__law_kind_of) rfl
  have M__law_kind_of := He.glo_ok X G (cd.fact 19 (f := .glo "_law_kind_of") rfl)
  obtain ⟨d__law_heard, D__law_heard⟩ := cd.def_ 20 (d := K01H.d__law_heard) rfl
  have M__law_heard := He.glo_ok X G (cd.fact 20 (f := .glo "_law_heard") rfl)
  obtain ⟨d__law_is_kind, D__law_is_kind⟩ := cd.def_ 21 (d := K01H.d__law_is_kind) rfl
  have M__law_is_kind := He.glo_ok X G (cd.fact 21 (f := .glo "_law_is_kind") rfl)
  obtain ⟨d__law_are_kinds, D__law_are_kinds⟩ := cd.def_ 22 (d := K01H.d__law_are_kinds) rfl
  have M__law_are_kinds := He.glo_ok X G (cd.fact 22 (f := .glo "_law_are_kinds") rfl)
  obtain ⟨d__law_bent, D__law_bent⟩ := cd.def_ 23 (d := K01H.d__law_bent) rfl
  have M__law_bent := He.glo_ok X G (cd.fact 23 (f := .glo "_law_bent") rfl)
  obtain ⟨d__law_within, D__law_within⟩ := cd.def_ 24 (d := K01H.d__law_within) rfl
  have M__law_within := He.glo_ok X G (cd.fact 24 (f := .glo "_law_within") rfl)
  obtain ⟨d_law, D_law⟩ := cd.def_ 25 (d := K01H.d_law) rfl
  have M_law := He.glo_ok X G (cd.fact 25 (f := .glo "law") rfl)
  have hex := c.more
  unfold K01H.exB at hex
  simp only [Bool.and_eq_true, decide_eq_true_eq] at hex
  let C : Cls4 := ⟨He.ga K "InvalidKind", He.ga K "InvalidQuestion", He.ga K "InvalidValue", He.ga K "Refused"⟩
  obtain ⟨htup, ⟨⟨⟨ek, eq⟩, ev⟩, er⟩, hx⟩ := hex
  obtain ⟨⟨⟨⟨⟨⟨⟨⟨⟨⟨⟨⟨⟨⟨⟨haa, hab⟩, hac⟩, had⟩, hba⟩, hbb⟩, hbc⟩, hbd⟩, hca⟩, hcb⟩, hcc⟩, hcd⟩, hda⟩, hdb⟩, hdc⟩, hdd⟩ := hx
  have Ek := HeY.errB_ok X G ek
  have Eq := HeY.errB_ok X G eq
  have Ev := HeY.errB_ok X G ev
  have Er := HeY.errB_ok X G er
  let PT : Addr := (He.cT K ("law", none)).2
  let ec : Ec := ⟨C.f, [(PT, ("law.<locals>.<lambda>" : Str))]⟩
  have T : Txt PySem.Challenge.pw_heldshares_k01_whole_kinds K mg ec := {
    b_len := He.free_ok X G (cd.fact 26 (f := .free "len") rfl)
    b_all := He.free_ok X G (cd.fact 27 (f := .free "all") rfl)
    b_abs := He.free_ok X G (cd.fact 28 (f := .free "abs") rfl)
    b_int := He.free_ok X G (cd.fact 29 (f := .free "int") rfl)
    b_bool := He.free_ok X G (cd.fact 30 (f := .free "bool") rfl)
    b_str := He.free_ok X G (cd.fact 31 (f := .free "str") rfl)
    b_tuple := He.free_ok X G (cd.fact 32 (f := .free "tuple") rfl)
    b_list := He.free_ok X G (cd.fact 33 (f := .free "list") rfl)
    b_range := He.free_ok X G (cd.fact 34 (f := .free "range") rfl)
    b_zip := He.free_ok X G (cd.fact 35 (f := .free "zip") rfl)
    b_isinstance := He.free_ok X G (cd.fact 36 (f := .free "isinstance") rfl)
    b_set := He.free_ok X G (cd.fact 37 (f := .free "set") rfl)
    b_dict := He.free_ok X G (cd.fact 38 (f := .free "dict") rfl)
    b_sorted := He.free_ok X G (cd.fact 39 (f := .free "sorted") rfl)
    c_MOST_SIGNS := He.int_ok X G (cd.fact 40 (f := .int "MOST_SIGNS" 12) rfl)
    c_MOST_KINDS := He.int_ok X G (cd.fact 41 (f := .int "MOST_KINDS" 40) rfl)
    c_MOST_FIELDS := He.int_ok X G (cd.fact 42 (f := .int "MOST_FIELDS" 12) rfl)
    c_LETTERS := He.str_ok X G (cd.fact 43 (f := .str "LETTERS" "abcdefghijklmnopqrstuvwxyz") rfl)
    c_DIGITS := He.str_ok X G (cd.fact 44 (f := .str "DIGITS" "0123456789") rfl)
    c_WORDS := ⟨_, He.glo_ok X G (cd.fact 45 (f := .glo "WORDS") rfl), K01H.tupB_ok htup⟩
    e_InvalidKind := ⟨_, C.k_, Ek⟩
    e_InvalidValue := ⟨_, C.v_, Ev⟩
    e_InvalidQuestion := ⟨_, C.q_, Eq⟩
    e_Refused := ⟨_, C.r_, Er⟩ }
  have TH : Hd PySem.Challenge.pw_heldshares_k01_whole_kinds K mg C := hd_of haa hab hac had hba hbb hbc hbd hca hcb hcc hcd hda hdb hdc hdd Ek Eq Ev Er
  obtain ⟨oc, od, dV, kV, doc, pm, an, cdv, ct, osl, e1, lk, hcd, hdv, _⟩ := D_law.ex
  obtain ⟨cc, rfl⟩ := He.codeIn_ref hcd
  have hco : He.codeOf K ("law", none) = cc := He.codeOf_eq lk (by rw [e1])
  have hcT : He.cT K ("law", none) = (cc, PT) := by
    show (He.codeOf K ("law", none), (He.cT K ("law", none)).2) = _
    rw [hco]
  have hmem : (("law", none) : He.Defn) ∈ [(("law", none) : He.Defn)] := List.mem_singleton.mpr rfl
  have hhd := c.hd _ hmem
  have hout := c.out _ hmem
  have hemp := c.empty _ hmem
  have efa : fa = He.fAd K ("law", none) := by
    have := hfa.symm.trans M_law
    exact Value.ref.inj (Option.some.inj this)
  subst e1
  have lk2 : K.lookup fa = some ⟨oc, od, .func (PySem.W.fnOf "law" "law" (defArgs s_law) (defBody s_law) (defScope s_law) dV kV doc pm an (.ref cc) ct), osl⟩ := by
    rw [efa]
    exact lk
  refine ⟨_, [(cc, PT)], spLaw K PT, ?_, ?_, ?_, fun s u => FunD.bindsA (ps := ["script"]) D_law (fun _ _ _ _ _ _ us hl => match us, hl with | [_], _ => rfl) s [u] rfl, fun H a ns hl _ hT hS => ⟨a, ns, rfl, hT (cc, PT) (List.mem_singleton.mpr rfl), hS, fun _ => rfl⟩, fun base KB GB hTB => ?_⟩
  · intro p hp
    rw [List.mem_singleton.mp hp]
    exact hemp
  · intro p hp
    rw [List.mem_singleton.mp hp]
    exact hout
  · intro p hp
    rw [List.mem_singleton.mp hp]
    have := PySem.W.codeHd_of_K X hhd
    rw [hcT] at this
    exact this
  · have TB := hTB (cc, PT) (List.mem_singleton.mpr rfl)
    obtain ⟨L⟩ := mkLC (w := w) (base := base) T D_is_name M_is_name D_are_ascending M_are_ascending D_are_unlike M_are_unlike D_is_type M_is_type D_is_field M_is_field D_is_kind M_is_kind D_are_kinds M_are_kinds D_checked_kinds M_checked_kinds D_kind_named M_kind_named D_checked_kind_name M_checked_kind_name D_fields_of M_fields_of D_within_kinds M_within_kinds D__law_draw M__law_draw D__law_any M__law_any D__law_of M__law_of D__law_mixed M__law_mixed D__law_is_name M__law_is_name D__law_some_kinds M__law_some_kinds D__law_kind_of M__law_kind_of D__law_is_kind M__law_is_kind D__law_are_kinds M__law_are_kinds D__law_bent M__law_bent D__law_within M__law_within D__law_same M__law_same
    exact ok_law hM T TH rfl rfl L D__law_heard M__law_heard TB lk2 hcd
/-- the law holds, if it does over plain data -/
theorem holds_of (hM : LawM) : PySem.Challenge.rw_heldshares_k01_whole_kinds.Holds := by
  open PySem.W PySem.Calls in
  w_on; o_law
  refine HandSHeadRun.head_any (r := PySem.W.OpenLaw.row PySem.Challenge.rw_heldshares_k01_whole_kinds) (q := PySem.W.view (PySem.W.OpenLaw.row PySem.Challenge.rw_heldshares_k01_whole_kinds).prog [40]) (H := K01H.hk) (ob := K01H.ob) (M := 20000) (loose := K01H.loose) (d := HandSHeadRun.topDef (PySem.W.OpenLaw.row PySem.Challenge.rw_heldshares_k01_whole_kinds).prog 40) (kwd := []) K01H.ob_eq
    (by kernel_rfl) (fun s => by kernel_rfl) K01H.run (by kernel_rfl) (by kernel_rfl) (by kernel_rfl) (by rfl) (by first | assumption | decide +kernel) (by decide +kernel) ⟨rfl, rfl, rfl, rfl, rfl, by decide +kernel⟩ ?hw ?hc
  case hw => w_witness2
  case hc =>
    refine LamX.walk_ofTsE (l := PySem.Challenge.rw_heldshares_k01_whole_kinds) (n := 63) (k := 12) (x := "script") (CX := fun w => L2.CX PySem.Challenge.pw_heldshares_k01_whole_kinds w) rfl (by decide) (by kernel_rfl) ⟨rfl, by decide, by decide⟩ ?F ?X
    case F =>
      intro w mg fa h Y G hmg0
      obtain ⟨K, KX, c⟩ := Y
      have hmg : mg ("law" : PySem.Str) = some (.ref fa) := by
        have e : (HandSHeadRun.topDef (PySem.W.OpenLaw.row PySem.Challenge.rw_heldshares_k01_whole_kinds).prog 40).name = ("law" : PySem.Str) := by kernel_rfl
        rw [← e]
        exact hmg0
      exact ⟨K, KX, law_at hM KX G hmg c⟩
    case X =>
      intro w H s e s' h
      obtain ⟨_, _, _, _, _, _, _, _, _, _, _, _, z⟩ := h
      exact z.elim
end K01
end
section
set_option maxRecDepth 100000
set_option maxHeartbeats 4000000
namespace K01
open PySem PySem.Spec DL
abbrev sg (a0 a2 a3 a4 a5 a6 a7 a8 a9 : Option Sl) : Rho := [a0, some .deal, a2, a3, a4, a5, a6, a7, a8, a9]
noncomputable def nA : M Fl := (mAsg (aName 5) (mCall 2 F__law_bent (mCons (mVar [7] 1) (mCons (mVar [7] 3) mNil))))
noncomputable def nB : M Fl := (mIfS (mNot (mTru (mCall 2 F__law_same (mCons (mCall 1 F_are_kinds (mCons (mVar [7] 5) mNil)) (mCons (mCall 1 F__law_are_kinds (mCons (mVar [7] 5) mNil)) mNil))))) (mRet (mK (.d (.bool false)))) mNx)
noncomputable def nCi : M (List Sl) := (mIter (mOp addF (mSl (mFz (mCBF listF (mCons (mVar [7] 5) mNil))) mNoP (mPart (mK (.d (.int 5))))) (mFz (mLst (mCons (mK (.d .none)) (mCons (mTup mNil) (mCons (mK (.d (.str "kind"))) (mCons (mVar [7] 5) mNil))))))))
noncomputable def nCb : M Fl := (mIfS (mNot (mTru (mCall 2 F__law_same (mCons (mCall 1 F_is_kind (mCons (mVar [7] 6) mNil)) (mCons (mCall 1 F__law_is_kind (mCons (mVar [7] 6) mNil)) mNil))))) (mRet (mK (.d (.bool false)))) mNx)
noncomputable def nD : M Fl := (mIfS (mNot (mTru (mCall 1 F__law_are_kinds (mCons (mVar [7] 5) mNil)))) (mSeq (mAsgO 7 (mLst (mCons (mHeard heardWs [7] (mCall 2 F_fields_of (mCons (mVar [] 5) (mCons (mK (.d .none)) mNil)))) mNil))) (mSeq (mDrop (has 7 (mAppend 7 (mCons (mHeard heardWs [7] (mCall 2 F_within_kinds (mCons (mVar [] 5) (mCons (mK (.d (.str "zzzz"))) mNil)))) mNil)))) (mIfS (mNot (mTru (mCallB 2 F__law_same (mCons (mVar [7] 7) (mCons (mFz (mLst (mCons (mTup (mCons (mK (.d (.str "kind"))) (mCons (mK (.d (.int 0))) mNil))) (mCons (mTup (mCons (mK (.d (.str "kind"))) (mCons (mK (.d (.int 0))) mNil))) mNil)))) mNil))))) (mRet (mK (.d (.bool false)))) mNx))) mNx)
noncomputable def n3 : M Fl := (mSeq (mAsgO 7 (mLst (mCons (mCall 2 F_fields_of (mCons (mVar [7] 3) (mCons (mOp atF (mVar [7] 8) (mK (.d (.int 1)))) mNil))) (mCons (mCall 2 F_within_kinds (mCons (mVar [7] 3) (mCons (mOp atF (mVar [7] 8) (mK (.d (.int 1)))) mNil))) mNil)))) (mIfS (mNot (mTru (mCallB 2 F__law_same (mCons (mVar [7] 7) (mCons (mFz (mLst (mCons (mOp atF (mVar [7] 8) (mK (.d (.int 2)))) (mCons (mCall 2 F__law_within (mCons (mVar [7] 3) (mCons (mOp atF (mVar [7] 8) (mK (.d (.int 1)))) mNil))) mNil)))) mNil))))) (mRet (mK (.d (.bool false)))) mNx))
section
variable {a0 a2 a3 a4 a5 a6 a7 a8 a9 : Option Sl} {t : Option Deal} {dl : Deal} {ks : List Kd}
theorem t_0 (hd : fineD dl) : ∃ (ks : List Kd) (dl' : Deal), Made ks ∧ fineD dl' ∧ m_law_0 (sg a0 a2 a3 a4 a5 a6 a7 a8 a9) (some dl) = .ok .nx (sg a0 a2 (some (.d (ksD ks))) a4 a5 a6 a7 a8 a9) (some dl') := by
  obtain ⟨ks, dl', h1, h2, e⟩ := some_call hd
  refine ⟨ks, dl', h1, h2, ?_⟩
  generalize ksD ks = KS at e ⊢
  simp [m_law_0, sg, M.bind, M.ret, M.st, mT, mOp, mVar, mK, use, keep, lft, boolOf, optM, mCB, useAll, mCons, mNil, mTup, mLst, mFz, keepD, mSeq, mRet, mIfS, mAnd, mOr, mNot, mAndV, mOrV, mNotV, mIfE, mCall, keepAll, runF, mAsg, aName, mNx, mChain, fnM, startR, isiF, isT, isTN, askT, tyN, isF, asks, truD, mTru, truS, isNoneD, isBoolD, mRaise, raiseM, oneD, mDrop, aTup, aCons, aNil, twoK, mPar, mU1, mM1, strOf, List.replicate, e]
theorem t_1 (hm : Made ks) : m_law_1 (sg a0 a2 (some (.d (ksD ks))) a4 a5 a6 a7 a8 a9) t = .ok .nx (sg a0 a2 (some (.d (ksD ks))) a4 a5 a6 a7 a8 a9) t := by
  have e1 := are_made hm t
  have e2 : F__law_are_kinds [.d (ksD ks)] t = .ok (.d (.bool true)) t := e1
  generalize ksD ks = KS at e1 e2 ⊢
  simp [m_law_1, sg, M.bind, M.ret, M.st, mT, mOp, mVar, mK, use, keep, lft, boolOf, optM, mCB, useAll, mCons, mNil, mTup, mLst, mFz, keepD, mSeq, mRet, mIfS, mAnd, mOr, mNot, mAndV, mOrV, mNotV, mIfE, mCall, keepAll, runF, mAsg, aName, mNx, mChain, fnM, startR, isiF, isT, isTN, askT, tyN, isF, asks, truD, mTru, truS, isNoneD, isBoolD, mRaise, raiseM, oneD, mDrop, aTup, aCons, aNil, twoK, mPar, mU1, mM1, strOf, List.replicate, e1, e2]
theorem a_A (hm : Made ks) (hd : fineD dl) : ∃ (x : PyData) (xs : List PyData) (dl' : Deal), NearL x xs ∧ fineD dl' ∧ nA (sg a0 a2 (some (.d (ksD ks))) a4 a5 a6 a7 a8 a9) (some dl) = .ok .nx (sg a0 a2 (some (.d (ksD ks))) a4 (some (.d x)) a6 a7 a8 a9) (some dl') := by
  obtain ⟨x, xs, dl', h1, h2, e⟩ := bent_call hm hd
  refine ⟨x, xs, dl', h1, h2, ?_⟩
  generalize ksD ks = KS at e ⊢
  simp [nA, sg, M.bind, M.ret, M.st, mT, mOp, mVar, mK, use, keep, lft, boolOf, optM, mCB, useAll, mCons, mNil, mTup, mLst, mFz, keepD, mSeq, mRet, mIfS, mAnd, mOr, mNot, mAndV, mOrV, mNotV, mIfE, mCall, keepAll, runF, mAsg, aName, mNx, mChain, fnM, startR, isiF, isT, isTN, askT, tyN, isF, asks, truD, mTru, truS, isNoneD, isBoolD, mRaise, raiseM, oneD, mDrop, aTup, aCons, aNil, twoK, mPar, mU1, mM1, strOf, List.replicate, e]
theorem a_B {x : PyData} (hx : fine x = true) : nB (sg a0 a2 a3 a4 (some (.d x)) a6 a7 a8 a9) t = .ok .nx (sg a0 a2 a3 a4 (some (.d x)) a6 a7 a8 a9) t := by
  have e1 := are_fine hx t
  have e2 : F__law_are_kinds [.d x] t = .ok (.d (.bool (unKinds x).isSome)) t := e1
  generalize (unKinds x).isSome = b at e1 e2
  have e3 := same_bool b t
  simp [nB, sg, M.bind, M.ret, M.st, mT, mOp, mVar, mK, use, keep, lft, boolOf, optM, mCB, useAll, mCons, mNil, mTup, mLst, mFz, keepD, mSeq, mRet, mIfS, mAnd, mOr, mNot, mAndV, mOrV, mNotV, mIfE, mCall, keepAll, runF, mAsg, aName, mNx, mChain, fnM, startR, isiF, isT, isTN, askT, tyN, isF, asks, truD, mTru, truS, isNoneD, isBoolD, mRaise, raiseM, oneD, mDrop, aTup, aCons, aNil, twoK, mPar, mU1, mM1, strOf, List.replicate, e1, e2, e3]
theorem a_Ci {x : PyData} {xs : List PyData} (hx : NearL x xs) : ∃ ds : List PyData, (∀ y ∈ ds, fine y = true) ∧ nCi (sg a0 a2 a3 a4 (some (.d x)) a6 a7 a8 a9) t = .ok (ds.map Sl.d) (sg a0 a2 a3 a4 (some (.d x)) a6 a7 a8 a9) t := by
  have hl : listF [.d x] = some xs := by rcases hx.1 with rfl | rfl <;> rfl
  have hs : slF none (some 5) (.d (.list xs)) = some (.d (.list (xs.take 5))) := by
    unfold slF
    simp only
    rw [cut_to _ (by decide)]
    rfl
  have ha : addF (.d (.list (xs.take 5))) (.d (.list [.none, .tuple [], .str "kind", x])) = some (.d (.list (xs.take 5 ++ [.none, .tuple [], .str "kind", x]))) := by
    have := hx.2.1
    exact if_pos (by simp; omega)
  refine ⟨xs.take 5 ++ [.none, .tuple [], .str "kind", x], fun y hy => ?_, ?_⟩
  · rcases List.mem_append.mp hy with hy | hy
    · exact (hx.2.2 y (List.mem_of_mem_take hy)).fine
    · simp only [List.mem_cons, List.not_mem_nil, or_false] at hy
      rcases hy with rfl | rfl | rfl | rfl
      · decide +kernel
      · decide +kernel
      · decide +kernel
      · exact hx.fine
  · generalize xs.take 5 ++ [.none, .tuple [], .str "kind", x] = LL at ha ⊢
    generalize xs.take 5 = TT at hs ha
    unfold nCi
    generalize listF = LF at hl
    simp [sg, mIter, M.bind, M.ret, M.st, mT, mOp, mVar, mK, use, keep, lft, boolOf, optM, mCB, useAll, mCons, mNil, mTup, mLst, mFz, keepD, mSeq, mRet, mIfS, mAnd, mOr, mNot, mAndV, mOrV, mNotV, mIfE, mCall, keepAll, runF, mAsg, aName, mNx, mChain, fnM, startR, isiF, isT, isTN, askT, tyN, isF, asks, truD, mTru, truS, isNoneD, isBoolD, mRaise, raiseM, oneD, mDrop, aTup, aCons, aNil, twoK, mPar, mU1, mM1, strOf, List.replicate, mCBF, mSl, mNoP, mPart, intOf, hl, hs, ha, itemsOf]
theorem a_Cb {y : PyData} (hy : fine y = true) : nCb (sg a0 a2 a3 a4 a5 (some (.d y)) a7 a8 a9) t = .ok .nx (sg a0 a2 a3 a4 a5 (some (.d y)) a7 a8 a9) t := by
  have e1 := is_fine hy t
  have e2 : F__law_is_kind [.d y] t = .ok (.d (.bool (unKind y).isSome)) t := e1
  generalize (unKind y).isSome = b at e1 e2
  have e3 := same_bool b t
  simp [nCb, sg, M.bind, M.ret, M.st, mT, mOp, mVar, mK, use, keep, lft, boolOf, optM, mCB, useAll, mCons, mNil, mTup, mLst, mFz, keepD, mSeq, mRet, mIfS, mAnd, mOr, mNot, mAndV, mOrV, mNotV, mIfE, mCall, keepAll, runF, mAsg, aName, mNx, mChain, fnM, startR, isiF, isT, isTN, askT, tyN, isF, asks, truD, mTru, truS, isNoneD, isBoolD, mRaise, raiseM, oneD, mDrop, aTup, aCons, aNil, twoK, mPar, mU1, mM1, strOf, List.replicate, e1, e2, e3]
theorem a_C {x : PyData} {xs : List PyData} (hx : NearL x xs) : ∃ a6', mFor nCi (aName 6) nCb (sg a0 a2 a3 a4 (some (.d x)) a6 a7 a8 a9) t = .ok .nx (sg a0 a2 a3 a4 (some (.d x)) a6' a7 a8 a9) t := by
  obtain ⟨ds, hf, e⟩ := a_Ci (a0 := a0) (a2 := a2) (a3 := a3) (a4 := a4) (a6 := a6) (a7 := a7) (a8 := a8) (a9 := a9) (t := t) hx
  obtain ⟨r', t', e2, a6', h2, h3⟩ := for_inv (I := fun r t' => ∃ a6', r = sg a0 a2 a3 a4 (some (.d x)) a6' a7 a8 a9 ∧ t' = t) (f := aName 6) (body := nCb) (ds.map Sl.d) (fun d hd r t' ⟨b, hr, ht⟩ => by
    obtain ⟨y, hy, rfl⟩ := List.mem_map.mp hd
    subst hr ht
    exact ⟨sg a0 a2 a3 a4 (some (.d x)) (some (.d y)) a7 a8 a9, _, _, _, rfl, a_Cb (hf y hy), _, rfl, rfl⟩) _ t ⟨a6, rfl, rfl⟩
  subst h2 h3
  exact ⟨a6', by
    unfold mFor M.bind
    rw [e]
    exact e2⟩
theorem lk_k : heardWs.lookup (Str.ofString "InvalidKind") = some (Str.ofString "kind") := by decide +kernel
theorem lk_q : heardWs.lookup (Str.ofString "InvalidQuestion") = some (Str.ofString "question") := by decide +kernel
theorem two_same (z : Str) (i : Int) (t : Option Deal) : F__law_same [.d (.list [.tuple [.str z, .int i], .tuple [.str z, .int i]]), .d (.list [.tuple [.str z, .int i], .tuple [.str z, .int i]])] t = .ok (.d (.bool true)) t := same_refl (by simp [eqN, allO])
theorem a_D {x : PyData} (hx : fine x = true) : ∃ a7', nD (sg a0 a2 a3 a4 (some (.d x)) a6 a7 a8 a9) t = .ok .nx (sg a0 a2 a3 a4 (some (.d x)) a6 a7' a8 a9) t := by
  have e2 : F__law_are_kinds [.d x] t = .ok (.d (.bool (unKinds x).isSome)) t := are_fine hx t
  cases hu : unKinds x with
  | some ks =>
    rw [hu] at e2
    exact ⟨a7, by simp [nD, sg, M.bind, M.ret, M.st, mT, mOp, mVar, mK, use, keep, lft, boolOf, optM, mCB, useAll, mCons, mNil, mTup, mLst, mFz, keepD, mSeq, mRet, mIfS, mAnd, mOr, mNot, mAndV, mOrV, mNotV, mIfE, mCall, keepAll, runF, mAsg, aName, mNx, mChain, fnM, startR, isiF, isT, isTN, askT, tyN, isF, asks, truD, mTru, truS, isNoneD, isBoolD, mRaise, raiseM, oneD, mDrop, aTup, aCons, aNil, twoK, mPar, mU1, mM1, strOf, List.replicate, e2]⟩
  | none =>
    rw [hu] at e2
    have f1 := fields_not hx (show fine .none = true by decide +kernel) hu t
    have f2 := within_not hx (show fine (.str "zzzz") = true from fine_name (by decide +kernel) (by decide +kernel)) hu t
    have hs := two_same "kind" 0 t
    refine ⟨some (.d (.list [.tuple [.str "kind", .int 0], .tuple [.str "kind", .int 0]])), ?_⟩
    simp [nD, sg, M.bind, M.ret, M.st, mT, mOp, mVar, mK, use, keep, lft, boolOf, optM, mCB, useAll, mCons, mNil, mTup, mLst, mFz, keepD, mSeq, mRet, mIfS, mAnd, mOr, mNot, mAndV, mOrV, mNotV, mIfE, mCall, keepAll, runF, mAsg, aName, mNx, mChain, fnM, startR, isiF, isT, isTN, askT, tyN, isF, asks, truD, mTru, truS, isNoneD, isBoolD, mRaise, raiseM, oneD, mDrop, aTup, aCons, aNil, twoK, mPar, mU1, mM1, strOf, List.replicate, e2, mAsgO, setO, mHeard, wipeR, heardK, f1, f2, lk_k, has, mAppend, getO, mCallB, runB, scalS, flatD, hs]
end
end K01
end
section
set_option maxRecDepth 100000
set_option maxHeartbeats 4000000
namespace K01
open PySem PySem.Spec DL
section
variable {a0 a2 a3 a4 a5 a6 a7 a8 a9 : Option Sl} {t : Option Deal} {dl : Deal} {ks : List Kd}
theorem rng3 : ∃ ds : List Sl, ∀ (r : Rho) (t : Option Deal), mRange rng1 (mCons (mK (.d (.int 3))) mNil) r t = .ok ds r t := ⟨rangeS 0 3, fun r t => by
  have hr : rng1 [.d (.int 3)] = some (rangeS 0 3) := rng1_nat (n := 3) (by decide)
  unfold mRange
  generalize rng1 = R1 at hr
  generalize rangeS 0 3 = RG at hr ⊢
  simp [M.bind, M.ret, M.st, mT, mOp, mVar, mK, use, keep, lft, boolOf, optM, mCB, useAll, mCons, mNil, mTup, mLst, mFz, keepD, mSeq, mRet, mIfS, mAnd, mOr, mNot, mAndV, mOrV, mNotV, mIfE, mCall, keepAll, runF, mAsg, aName, mNx, mChain, fnM, startR, isiF, isT, isTN, askT, tyN, isF, asks, truD, mTru, truS, isNoneD, isBoolD, mRaise, raiseM, oneD, mDrop, aTup, aCons, aNil, twoK, mPar, mU1, mM1, strOf, List.replicate, hr]⟩
theorem rng6 : ∃ ds : List Sl, ∀ (r : Rho) (t : Option Deal), mRange rng1 (mCons (mK (.d (.int 6))) mNil) r t = .ok ds r t := ⟨rangeS 0 6, fun r t => by
  have hr : rng1 [.d (.int 6)] = some (rangeS 0 6) := rng1_nat (n := 6) (by decide)
  unfold mRange
  generalize rng1 = R1 at hr
  generalize rangeS 0 6 = RG at hr ⊢
  simp [M.bind, M.ret, M.st, mT, mOp, mVar, mK, use, keep, lft, boolOf, optM, mCB, useAll, mCons, mNil, mTup, mLst, mFz, keepD, mSeq, mRet, mIfS, mAnd, mOr, mNot, mAndV, mOrV, mNotV, mIfE, mCall, keepAll, runF, mAsg, aName, mNx, mChain, fnM, startR, isiF, isT, isTN, askT, tyN, isF, asks, truD, mTru, truS, isNoneD, isBoolD, mRaise, raiseM, oneD, mDrop, aTup, aCons, aNil, twoK, mPar, mU1, mM1, strOf, List.replicate, hr]⟩
theorem m2_eq : m_law_2 = mFor (mRange rng1 (mCons (mK (.d (.int 3))) mNil)) (aName 4) (mSeq nA (mSeq nB (mSeq (mFor nCi (aName 6) nCb) nD))) := rfl
theorem m3_eq : m_law_3 = mFor (mIter (mVar [7] 3)) (aName 8) n3 := rfl
theorem t_2 (hm : Made ks) (hd : fineD dl) : ∃ (b4 b5 b6 b7 : Option Sl) (dl' : Deal), fineD dl' ∧ m_law_2 (sg a0 a2 (some (.d (ksD ks))) a4 a5 a6 a7 a8 a9) (some dl) = .ok .nx (sg a0 a2 (some (.d (ksD ks))) b4 b5 b6 b7 a8 a9) (some dl') := by
  obtain ⟨ds, hr⟩ := rng3
  obtain ⟨r', t', e, b4, b5, b6, b7, dl', h1, h2, h3⟩ := for_inv (I := fun r t' => ∃ b4 b5 b6 b7 dl', r = sg a0 a2 (some (.d (ksD ks))) b4 b5 b6 b7 a8 a9 ∧ t' = some dl' ∧ fineD dl') (f := aName 4) (body := mSeq nA (mSeq nB (mSeq (mFor nCi (aName 6) nCb) nD))) ds (fun d hd r t' ⟨b4, b5, b6, b7, dl', hr, ht, hf⟩ => by
    subst hr ht
    obtain ⟨x, xs, d1, h1, h2, e1⟩ := a_A (a0 := a0) (a2 := a2) (a4 := some d) (a5 := b5) (a6 := b6) (a7 := b7) (a8 := a8) (a9 := a9) hm hf
    obtain ⟨c6, e3⟩ := a_C (a0 := a0) (a2 := a2) (a3 := some (.d (ksD ks))) (a4 := some d) (a6 := b6) (a7 := b7) (a8 := a8) (a9 := a9) (t := some d1) h1
    obtain ⟨c7, e4⟩ := a_D (a0 := a0) (a2 := a2) (a3 := some (.d (ksD ks))) (a4 := some d) (a6 := c6) (a7 := b7) (a8 := a8) (a9 := a9) (t := some d1) h1.fine
    refine ⟨sg a0 a2 (some (.d (ksD ks))) (some d) b5 b6 b7 a8 a9, _, _, _, rfl, ?_, some d, some (.d x), c6, c7, d1, rfl, rfl, h2⟩
    rw [seq_nx e1, seq_nx (a_B h1.fine), seq_nx e3, e4]) (sg a0 a2 (some (.d (ksD ks))) a4 a5 a6 a7 a8 a9) (some dl) ⟨_, _, _, _, dl, rfl, rfl, hd⟩
  subst h1 h2
  refine ⟨b4, b5, b6, b7, dl', h3, ?_⟩
  rw [m2_eq]
  unfold mFor M.bind
  rw [hr]
  exact e
theorem at1 (a b c : PyData) : atF (.d (.tuple [a, b, c])) (.d (.int 1)) = some (.d b) := rfl
theorem b_3 (hm : Made ks) {k : Kd} (hk : k ∈ ks) : ∃ b7, n3 (sg a0 a2 (some (.d (ksD ks))) a4 a5 a6 a7 (some (.d (kD k))) a9) t = .ok .nx (sg a0 a2 (some (.d (ksD ks))) a4 a5 a6 b7 (some (.d (kD k))) a9) t := by
  have e1 := fields_made hm hk t
  have e2 := within_made hm hk t
  have e3 := lawin_made hm hk t
  have hl := lawin_len hm hk
  have hs : F__law_same [.d (.list [.tuple (k.2.map fD), strT (sortS (lawWithin ks k.1 (ks.length + 1) []))]), .d (.list [.tuple (k.2.map fD), strT (sortS (lawWithin ks k.1 (ks.length + 1) []))])] t = .ok (.d (.bool true)) t := by
    refine same_refl (eq_seq (n := 7) (fun x hx => ?_) (by simp)).1
    rcases List.mem_cons.mp hx with rfl | hx
    · refine (eq_seq (n := 6) (fun y hy => ?_) (by have := (hm.each k hk).1.len; rw [List.length_map]; omega)).2
      obtain ⟨f, _, rfl⟩ := List.mem_map.mp hy
      exact eq_fD 4 f
    · rw [List.mem_singleton.mp hx]
      refine (eq_seq (n := 6) (fun y hy => ?_) (by rw [List.length_map]; omega)).2
      obtain ⟨z, _, rfl⟩ := List.mem_map.mp hy
      exact eqS_str 5 z
  have ek : kD k = .tuple [.str "kind", .str k.1, .tuple (k.2.map fD)] := rfl
  rw [ek]
  generalize strT (sortS (lawWithin ks k.1 (ks.length + 1) [])) = WW at e2 e3 hs
  generalize k.2.map fD = FF at e1 hs ⊢
  generalize ksD ks = KS at e1 e2 e3 ⊢
  refine ⟨some (.d (.list [.tuple FF, WW])), ?_⟩
  simp [n3, sg, M.bind, M.ret, M.st, mT, mOp, mVar, mK, use, keep, lft, boolOf, optM, mCB, useAll, mCons, mNil, mTup, mLst, mFz, keepD, mSeq, mRet, mIfS, mAnd, mOr, mNot, mAndV, mOrV, mNotV, mIfE, mCall, keepAll, runF, mAsg, aName, mNx, mChain, fnM, startR, isiF, isT, isTN, askT, tyN, isF, asks, truD, mTru, truS, isNoneD, isBoolD, mRaise, raiseM, oneD, mDrop, aTup, aCons, aNil, twoK, mPar, mU1, mM1, strOf, List.replicate, at1, at2, mAsgO, setO, e1, e2, e3, mCallB, runB, scalS, flatD, hs]
theorem t_3 (hm : Made ks) : ∃ b7 b8, m_law_3 (sg a0 a2 (some (.d (ksD ks))) a4 a5 a6 a7 a8 a9) t = .ok .nx (sg a0 a2 (some (.d (ksD ks))) a4 a5 a6 b7 b8 a9) t := by
  have hi := iter_seq (j := 3) (ow := [7]) (r := sg a0 a2 (some (.d (ksD ks))) a4 a5 a6 a7 a8 a9) (t := t) (v := ksD ks) (vs := ks.map kD) rfl rfl (by decide)
  obtain ⟨r', t', e, b7, b8, h1, h2⟩ := for_inv (I := fun r t' => ∃ b7 b8, r = sg a0 a2 (some (.d (ksD ks))) a4 a5 a6 b7 b8 a9 ∧ t' = t) (f := aName 8) (body := n3) ((ks.map kD).map Sl.d) (fun d hd r t' ⟨b7, b8, hr, ht⟩ => by
    subst hr ht
    obtain ⟨y, hy, rfl⟩ := List.mem_map.mp hd
    obtain ⟨k, hk, rfl⟩ := List.mem_map.mp hy
    obtain ⟨c7, e⟩ := b_3 (a0 := a0) (a2 := a2) (a4 := a4) (a5 := a5) (a6 := a6) (a7 := b7) (a9 := a9) (t := t') hm hk
    exact ⟨sg a0 a2 (some (.d (ksD ks))) a4 a5 a6 b7 (some (.d (kD k))) a9, _, _, _, rfl, e, c7, _, rfl, rfl⟩) (sg a0 a2 (some (.d (ksD ks))) a4 a5 a6 a7 a8 a9) t ⟨_, _, rfl, rfl⟩
  subst h1 h2
  refine ⟨b7, b8, ?_⟩
  rw [m3_eq]
  unfold mFor M.bind
  rw [hi]
  exact e
theorem t_4 (hm : Made ks) (hd : fineD dl) : ∃ (v : PyData) (dl' : Deal), Odd ks v ∧ fineD dl' ∧ m_law_4 (sg a0 a2 (some (.d (ksD ks))) a4 a5 a6 a7 a8 a9) (some dl) = .ok .nx (sg a0 a2 (some (.d (ksD ks))) a4 a5 a6 a7 a8 (some (.d v))) (some dl') := by
  have hne := hm.ne
  cases ks with
  | nil => exact absurd rfl hne
  | cons k0 rest =>
    obtain ⟨v, dl', hv, hf, e⟩ := of_call (vs := [.none, .str "zzzz", .str "int", .int 3, .tuple [.str k0.1], .str ""]) (dl := dl) (by simp) (by simp) hd
    refine ⟨v, dl', odd_all hm List.mem_cons_self v hv, hf, ?_⟩
    have e0 : atF (.d (ksD (k0 :: rest))) (.d (.int 0)) = some (.d (kD k0)) := by
      unfold atF ksD
      simp only
      rw [atI_in (by decide) (by simp)]
      rfl
    have ek : kD k0 = .tuple [.str "kind", .str k0.1, .tuple (k0.2.map fD)] := rfl
    rw [ek] at e0
    generalize k0.2.map fD = FF at e0
    generalize ksD (k0 :: rest) = KS at e0 ⊢
    simp [m_law_4, sg, M.bind, M.ret, M.st, mT, mOp, mVar, mK, use, keep, lft, boolOf, optM, mCB, useAll, mCons, mNil, mTup, mLst, mFz, keepD, mSeq, mRet, mIfS, mAnd, mOr, mNot, mAndV, mOrV, mNotV, mIfE, mCall, keepAll, runF, mAsg, aName, mNx, mChain, fnM, startR, isiF, isT, isTN, askT, tyN, isF, asks, truD, mTru, truS, isNoneD, isBoolD, mRaise, raiseM, oneD, mDrop, aTup, aCons, aNil, twoK, mPar, mU1, mM1, strOf, List.replicate, e0, at1, e]
theorem t_5 (hm : Made ks) {v : PyData} (hv : Odd ks v) : m_law_5 (sg a0 a2 (some (.d (ksD ks))) a4 a5 a6 a7 a8 (some (.d v))) t = .ok .nx (sg a0 a2 (some (.d (ksD ks))) a4 a5 a6 (some (.d (.list [.tuple [.str "question", .int 1]]))) a8 (some (.d v))) t := by
  have f1 := fields_odd hm hv t
  generalize ksD ks = KS at f1 ⊢
  simp [m_law_5, sg, M.bind, M.ret, M.st, mT, mOp, mVar, mK, use, keep, lft, boolOf, optM, mCB, useAll, mCons, mNil, mTup, mLst, mFz, keepD, mSeq, mRet, mIfS, mAnd, mOr, mNot, mAndV, mOrV, mNotV, mIfE, mCall, keepAll, runF, mAsg, aName, mNx, mChain, fnM, startR, isiF, isT, isTN, askT, tyN, isF, asks, truD, mTru, truS, isNoneD, isBoolD, mRaise, raiseM, oneD, mDrop, aTup, aCons, aNil, twoK, mPar, mU1, mM1, strOf, List.replicate, mAsgO, setO, mHeard, wipeR, f1, lk_q]
theorem t_6 (hm : Made ks) {v : PyData} (hv : Odd ks v) : m_law_6 (sg a0 a2 (some (.d (ksD ks))) a4 a5 a6 (some (.d (.list [.tuple [.str "question", .int 1]]))) a8 (some (.d v))) t = .ok .nx (sg a0 a2 (some (.d (ksD ks))) a4 a5 a6 (some (.d (.list [.tuple [.str "question", .int 1], .tuple [.str "question", .int 1]]))) a8 (some (.d v))) t := by
  have f1 := within_odd hm hv t
  generalize ksD ks = KS at f1 ⊢
  simp [m_law_6, sg, M.bind, M.ret, M.st, mT, mOp, mVar, mK, use, keep, lft, boolOf, optM, mCB, useAll, mCons, mNil, mTup, mLst, mFz, keepD, mSeq, mRet, mIfS, mAnd, mOr, mNot, mAndV, mOrV, mNotV, mIfE, mCall, keepAll, runF, mAsg, aName, mNx, mChain, fnM, startR, isiF, isT, isTN, askT, tyN, isF, asks, truD, mTru, truS, isNoneD, isBoolD, mRaise, raiseM, oneD, mDrop, aTup, aCons, aNil, twoK, mPar, mU1, mM1, strOf, List.replicate, mHeard, wipeR, f1, lk_q, has, mAppend, getO, setO]
theorem t_7 : m_law_7 (sg a0 a2 a3 a4 a5 a6 (some (.d (.list [.tuple [.str "question", .int 1], .tuple [.str "question", .int 1]]))) a8 a9) t = .ok .nx (sg a0 a2 a3 a4 a5 a6 (some (.d (.list [.tuple [.str "question", .int 1], .tuple [.str "question", .int 1]]))) a8 a9) t := by
  have hs := two_same "question" 1 t
  simp [m_law_7, sg, M.bind, M.ret, M.st, mT, mOp, mVar, mK, use, keep, lft, boolOf, optM, mCB, useAll, mCons, mNil, mTup, mLst, mFz, keepD, mSeq, mRet, mIfS, mAnd, mOr, mNot, mAndV, mOrV, mNotV, mIfE, mCall, keepAll, runF, mAsg, aName, mNx, mChain, fnM, startR, isiF, isT, isTN, askT, tyN, isF, asks, truD, mTru, truS, isNoneD, isBoolD, mRaise, raiseM, oneD, mDrop, aTup, aCons, aNil, twoK, mPar, mU1, mM1, strOf, List.replicate, mCallB, runB, scalS, flatD, hs]
theorem t_turn (hd : fineD dl) : ∃ (b3 b4 b5 b6 b7 b8 b9 : Option Sl) (dl' : Deal), fineD dl' ∧ m_turn (sg a0 a2 a3 a4 a5 a6 a7 a8 a9) (some dl) = .ok .nx (sg a0 a2 b3 b4 b5 b6 b7 b8 b9) (some dl') := by
  obtain ⟨ks, d1, hm, h1, e0⟩ := t_0 (a0 := a0) (a2 := a2) (a3 := a3) (a4 := a4) (a5 := a5) (a6 := a6) (a7 := a7) (a8 := a8) (a9 := a9) hd
  obtain ⟨b4, b5, b6, b7, d2, h2, e2⟩ := t_2 (a0 := a0) (a2 := a2) (a4 := a4) (a5 := a5) (a6 := a6) (a7 := a7) (a8 := a8) (a9 := a9) hm h1
  obtain ⟨c7, c8, e3⟩ := t_3 (a0 := a0) (a2 := a2) (a4 := b4) (a5 := b5) (a6 := b6) (a7 := b7) (a8 := a8) (a9 := a9) (t := some d2) hm
  obtain ⟨v, d4, hv, h4, e4⟩ := t_4 (a0 := a0) (a2 := a2) (a4 := b4) (a5 := b5) (a6 := b6) (a7 := c7) (a8 := c8) (a9 := a9) hm h2
  refine ⟨some (.d (ksD ks)), b4, b5, b6, some (.d (.list [.tuple [.str "question", .int 1], .tuple [.str "question", .int 1]])), c8, some (.d v), d4, h4, ?_⟩
  unfold m_turn
  rw [seq_nx e0, seq_nx (t_1 hm), seq_nx e2, seq_nx e3, seq_nx e4, seq_nx (t_5 hm hv), seq_nx (t_6 hm hv)]
  exact t_7
theorem t_z (r : Rho) (t : Option Deal) : m_law_z r t = .ok (.rt (.d (.bool true))) r t := by
  have f0 : fine (.tuple []) = true := by decide +kernel
  have e1 := are_fine f0 t
  have u1 : (unKinds (.tuple [])).isSome = true := by decide +kernel
  rw [u1] at e1
  have f1 : fine (.tuple [.tuple [.str "kind", .str "a", .tuple []]]) = true := by decide +kernel
  have f2 : fine (.str "a") = true := by decide +kernel
  have u2 : unKinds (.tuple [.tuple [.str "kind", .str "a", .tuple []]]) = some [((("a" : Str), []) : Kd)] := by decide +kernel
  have n1 : nameIn [((("a" : Str), []) : Kd)] (.str "a") = some ((("a" : Str), []) : Kd) := by decide +kernel
  have w0 : withinL [((("a" : Str), []) : Kd)] "a" = [] := by decide +kernel
  have w1 : strT (withinL [((("a" : Str), []) : Kd)] "a") = .tuple [] := by rw [w0]; rfl
  have e2 : F_within_kinds [.d (.tuple [.tuple [.str "kind", .str "a", .tuple []]]), .d (.str "a")] t = .ok (.d (.tuple [])) t := by
    unfold F_within_kinds
    simp only [f1, f2, Bool.and_self, if_true, u2, n1, w1]
  have hs : F__law_same [.d (.list [.bool true, .tuple []]), .d (.list [.bool true, .tuple []])] t = .ok (.d (.bool true)) t := same_refl (by decide +kernel)
  simp [m_law_z, M.bind, M.ret, M.st, mT, mOp, mVar, mK, use, keep, lft, boolOf, optM, mCB, useAll, mCons, mNil, mTup, mLst, mFz, keepD, mSeq, mRet, mIfS, mAnd, mOr, mNot, mAndV, mOrV, mNotV, mIfE, mCall, keepAll, runF, mAsg, aName, mNx, mChain, fnM, startR, isiF, isT, isTN, askT, tyN, isF, asks, truD, mTru, truS, isNoneD, isBoolD, mRaise, raiseM, oneD, mDrop, aTup, aCons, aNil, twoK, mPar, mU1, mM1, strOf, List.replicate, e1, e2, hs]
theorem draw_fine (ns : List Int) : fineD ⟨cells0 ns, drawB ns 1⟩ := by
  have h : ∀ (l : List Int) (b : Int), 0 ≤ b ∧ b < 2147483647 → 0 ≤ l.foldl (fun b c => (b * 48271 + c % 2147483549 + 11) % 2147483647) b ∧ l.foldl (fun b c => (b * 48271 + c % 2147483549 + 11) % 2147483647) b < 2147483647 := by
    intro l
    induction l with
    | nil => intro b hb; exact hb
    | cons c l ih =>
      intro b hb
      rw [List.foldl_cons]
      exact ih _ ⟨Int.emod_nonneg _ (by decide), Int.emod_lt_of_pos _ (by decide)⟩
  exact h (drawC ns) _ (by decide)
theorem lawM : LawM := by
  intro ns x0
  obtain ⟨ds, hr⟩ := rng6
  obtain ⟨r', t', e, b2, b3, b4, b5, b6, b7, b8, b9, dl', h1, h2, h3⟩ := for_inv (I := fun r t' => ∃ b2 b3 b4 b5 b6 b7 b8 b9 dl', r = sg (some x0) b2 b3 b4 b5 b6 b7 b8 b9 ∧ t' = some dl' ∧ fineD dl') (f := aName 2) (body := m_turn) ds (fun d hd r t' ⟨b2, b3, b4, b5, b6, b7, b8, b9, dl', hr, ht, hf⟩ => by
    subst hr ht
    obtain ⟨c3, c4, c5, c6, c7, c8, c9, d1, h1, e⟩ := t_turn (a0 := some x0) (a2 := some d) (a3 := b3) (a4 := b4) (a5 := b5) (a6 := b6) (a7 := b7) (a8 := b8) (a9 := b9) hf
    exact ⟨sg (some x0) (some d) b3 b4 b5 b6 b7 b8 b9, _, _, _, rfl, e, some d, c3, c4, c5, c6, c7, c8, c9, d1, rfl, rfl, h1⟩) (slots0 x0 .deal) (some ⟨cells0 ns, drawB ns 1⟩) ⟨_, _, _, _, _, _, _, _, _, rfl, rfl, draw_fine ns⟩
  subst h1 h2
  refine ⟨sg (some x0) b2 b3 b4 b5 b6 b7 b8 b9, some dl', ?_⟩
  unfold m_law2
  have e0 : mFor (mRange rng1 (mCons (mK (.d (.int 6))) mNil)) (aName 2) m_turn (slots0 x0 .deal) (some ⟨cells0 ns, drawB ns 1⟩) = .ok .nx (sg (some x0) b2 b3 b4 b5 b6 b7 b8 b9) (some dl') := by
    unfold mFor M.bind
    rw [hr]
    exact e
  rw [seq_nx e0]
  exact t_z _ _
end
end K01
end
theorem PySem.Challenge.cw_heldshares_k01_whole_kinds_holds : PySem.Challenge.rw_heldshares_k01_whole_kinds.Holds := by
  exact K01.holds_of K01.lawM
