import PyProof.Rows.All
import Wide.All
import OpenK.AllK
import Wide.FinOn
import HandS.ForMost
import HandS.ForExc
import HandS.IsInst
import HandS.Wide
import HandS.Lambda
import HandS.TupAny
import HandS.TupMul
import HandS.TupLe
import HandS.Style
import HandS.Zip
import HandS.Defaults
import KE.KExcSuper
import HandS.ExcField
import HandS.ExcSuper
import HandS.TryMany
import HandS.Head0
import HandS.Head1
import HandS.Head2
import HandS.HeadEnd
import HandS.HeadHook1
import HandS.HeadHook2
import HandS.HeadHook3
import HandS.HeadHook4
import HandS.HeadWalk
import PySem.Challenge.RW_heldshares_k05_whole_shares
set_option Elab.async false
set_option linter.all false
section
set_option maxRecDepth 100000
set_option maxHeartbeats 4000000
/-! # The data layer: what a piece of the program computes over plain data, the heap met once, here. -/
namespace DL
open PySem PySem.Spec PyProof.Rows L2

/-! ### 1. Data, slots, the world -/
/-- what a slot holds: data, the deal, any other value -/
inductive Sl where
  | d (x : PyData) | deal | raw (v : V) | exc (C : Addr) (x : PyData) | scr (ns : List Int)
/-- the deal: the great cells left, the blend -/
structure Deal where
  cells : List Int
  blend : Int
/-- the frozen part of the heap; where the deal and its list of cells stand; the caught error: where it stands, its class, its dict -/
structure Bs where
  H : Hp
  dl : Option (Addr × Addr)
  x : Option (Addr × Addr × Addr)
  tb : List (Addr × Str)
structure Bs.le (B B' : Bs) : Prop where
  h : ∀ a o, B.H a = some o → B'.H a = some o
  d : ∀ p, B.dl = some p → B'.dl = some p
  e : ∀ p, B.x = some p → B'.x = some p
  b : B'.tb = B.tb
theorem Bs.le.refl (B : Bs) : B.le B := ⟨fun _ _ h => h, fun _ h => h, fun _ h => h, rfl⟩
theorem Bs.le.trans {A B C : Bs} (x : A.le B) (y : B.le C) : A.le C := ⟨fun a o h => y.h a o (x.h a o h), fun p h => y.d p (x.d p h), fun p h => y.e p (x.e p h), y.b.trans x.b⟩
def DealAt (G : Hp) (B : Bs) (H : Hp) : Option (Addr × Addr) → Option Deal → Prop
  | some (da, l), some t => H da = some (.lst [.ref l, .int t.blend]) ∧ H l = some (.lst (t.cells.map V.int)) ∧ B.H da = none ∧ B.H l = none ∧ G da = none ∧ G l = none ∧ da ≠ l ∧ t.cells.length ≤ 1000
  | none, none => True
  | _, _ => False
/-- the tables of code objects: known, and neither frozen nor foreign -/
structure TbOk (G : Hp) (B : Bs) (H : Hp) : Prop where
  tabs : LamX.Tabs B.tb H
  nB : ∀ a ps, B.H a ≠ some (.tbl ps)
  nG : ∀ a ps, G a ≠ some (.tbl ps)
theorem tabs_lay {T : List (Addr × Str)} {H : Hp} {p : Addr} {o : HO} (t : LamX.Tabs T H) (h : H p = none) : LamX.Tabs T (upd H p o) :=
  t.ext fun b u e => by rw [upd_ne (ne_of_none e h)]; exact e
theorem tabs_chg {T : List (Addr × Str)} {H : Hp} {p : Addr} {o : HO} {vs : List V} (t : LamX.Tabs T H) (h : H p = some (.lst vs)) : LamX.Tabs T (upd H p o) := fun q hq => by
  obtain ⟨ps, h1, h2, h3⟩ := t q hq
  have n1 : q.1 ≠ p := fun z => by rw [z, h] at h1; cases h1
  refine ⟨ps, by rw [upd_ne n1]; exact h1, h2, fun pos cv hc => ?_⟩
  obtain ⟨c, e1, e2⟩ := h3 pos cv hc
  have n2 : c ≠ p := fun z => by
    rw [z, h] at e2
    unfold LamX.CodeO at e2
    cases e2
  exact ⟨c, e1, by rw [upd_ne n2]; exact e2⟩
/-- G: what is foreign and stays; B: what is frozen; H: the heap -/
structure Wd (G : Hp) (B : Bs) (H : Hp) (t : Option Deal) : Prop where
  sub : ∀ a o, B.H a = some o → H a = some o
  fgn : ∀ a o, G a = some o → H a = some o ∧ B.H a = none
  deal : DealAt G B H B.dl t
  tb : TbOk G B H

/-! data that stands in the heap: lists are tracked ones -/
mutual
inductive Dq (K : PySem.W.Frag) (H : Hp) : V → PyData → Prop
  | non : Dq K H .non .none
  | bl (b : Bool) : Dq K H (.bl b) (.bool b)
  | int (i : Int) : Dq K H (.int i) (.int i)
  | str (x : Str) : Dq K H (.str x) (.str x)
  | lst {a : Addr} {xs : List V} {ds : List PyData} : H a = some (.lst xs) → DqAll K H xs ds → Dq K H (.ref a) (.list ds)
  | tup {a : Addr} {xs : List V} {ds : List PyData} : SqT K H a xs → DqAll K H xs ds → Dq K H (.ref a) (.tuple ds)
inductive DqAll (K : PySem.W.Frag) (H : Hp) : List V → List PyData → Prop
  | nil : DqAll K H [] []
  | cons {v : V} {vs : List V} {d : PyData} {ds : List PyData} : Dq K H v d → DqAll K H vs ds → DqAll K H (v :: vs) (d :: ds)
end
mutual
theorem Dq.dp {K : PySem.W.Frag} {H : Hp} : ∀ {v : V} {x : PyData}, Dq K H v x → Dp K H v x
  | _, _, .non => .non
  | _, _, .bl b => .bl b
  | _, _, .int i => .int i
  | _, _, .str s => .str s
  | _, _, .lst h r => .lst (SqL.of h) (DqAll.dp r)
  | _, _, .tup h r => .tup h (DqAll.dp r)
theorem DqAll.dp {K : PySem.W.Frag} {H : Hp} : ∀ {vs : List V} {xs : List PyData}, DqAll K H vs xs → DpAll K H vs xs
  | _, _, .nil => .nil
  | _, _, .cons h r => .cons (Dq.dp h) (DqAll.dp r)
end
/-! data: monotone in the frozen heap -/
theorem rd_mono {H H' : Hp} (e : ∀ a o, H a = some o → H' a = some o) {a : Addr} {u : HO} (h : Rd H a u) : Rd H' a u := by
  rcases h with h | ⟨o, h⟩
  · exact .inl (e _ _ h)
  · exact .inr ⟨o, e _ _ h⟩
theorem sql_mono {K : PySem.W.Frag} {H H' : Hp} (e : ∀ a o, H a = some o → H' a = some o) {a : Addr} {xs : List V} (h : SqL K H a xs) : SqL K H' a xs := h.imp (rd_mono e) id
theorem sqt_mono {K : PySem.W.Frag} {H H' : Hp} (e : ∀ a o, H a = some o → H' a = some o) {a : Addr} {xs : List V} (h : SqT K H a xs) : SqT K H' a xs := h.imp (rd_mono e) id
mutual
theorem dp_mono {K : PySem.W.Frag} {H H' : Hp} (e : ∀ a o, H a = some o → H' a = some o) : ∀ {v : V} {x : PyData}, Dq K H v x → Dq K H' v x
  | _, _, .non => .non
  | _, _, .bl b => .bl b
  | _, _, .int i => .int i
  | _, _, .str s => .str s
  | _, _, .lst h r => .lst (e _ _ h) (dpa_mono e r)
  | _, _, .tup h r => .tup (sqt_mono e h) (dpa_mono e r)
theorem dpa_mono {K : PySem.W.Frag} {H H' : Hp} (e : ∀ a o, H a = some o → H' a = some o) : ∀ {vs : List V} {xs : List PyData}, DqAll K H vs xs → DqAll K H' vs xs
  | _, _, .nil => .nil
  | _, _, .cons h r => .cons (dp_mono e h) (dpa_mono e r)
end
def Sv (K : PySem.W.Frag) (B : Bs) (v : V) : Sl → Prop
  | .d x => Dq K B.H v x
  | .deal => ∃ da l, B.dl = some (da, l) ∧ v = .ref da
  | .raw u => v = u
  | .exc C x => ∃ a dd u, B.x = some (a, C, dd) ∧ v = .ref a ∧ B.H dd = some (.xd [(("at" : Str), u)]) ∧ Dq K B.H u x
  | .scr ns => ∃ a, v = .ref a ∧ SqL K B.H a (ns.map V.int)
theorem Sv.mono {K : PySem.W.Frag} {B B' : Bs} (e : B.le B') {v : V} : ∀ {x : Sl}, Sv K B v x → Sv K B' v x
  | .d _, h => dp_mono e.h h
  | .deal, ⟨da, l, h, q⟩ => ⟨da, l, e.d _ h, q⟩
  | .raw _, h => h
  | .exc _ _, ⟨a, dd, u, h1, h2, h3, h4⟩ => ⟨a, dd, u, e.e _ h1, h2, e.h _ _ h3, dp_mono e.h h4⟩
  | .scr _, ⟨a, h1, h2⟩ => ⟨a, h1, sql_mono e.h h2⟩
theorem DqAll.len {K : PySem.W.Frag} {H : Hp} : ∀ {vs : List V} {xs : List PyData}, DqAll K H vs xs → vs.length = xs.length
  | _, _, .nil => rfl
  | _, _, .cons _ r => by simp [DqAll.len r]
theorem DqAll.app {K : PySem.W.Frag} {H : Hp} : ∀ {vs ws : List V} {xs ys : List PyData}, DqAll K H vs xs → DqAll K H ws ys → DqAll K H (vs ++ ws) (xs ++ ys)
  | _, _, _, _, .nil, s => s
  | _, _, _, _, .cons h r, s => .cons h (DqAll.app r s)
theorem DqAll.get {K : PySem.W.Frag} {H : Hp} : ∀ {vs : List V} {xs : List PyData} {i : Nat} {x : PyData}, DqAll K H vs xs → xs[i]? = some x → ∃ v, vs[i]? = some v ∧ Dq K H v x
  | _, _, i, _, .nil, e => by simp at e
  | _, _, 0, _, .cons h _, e => by simp at e; subst e; exact ⟨_, rfl, h⟩
  | _, _, i + 1, _, .cons _ r, e => by
    obtain ⟨v, h1, h2⟩ := DqAll.get (i := i) r (by simpa using e)
    exact ⟨v, by simpa using h1, h2⟩
theorem DqAll.getV {K : PySem.W.Frag} {H : Hp} : ∀ {vs : List V} {xs : List PyData} {i : Nat} {v : V}, DqAll K H vs xs → vs[i]? = some v → ∃ x, xs[i]? = some x ∧ Dq K H v x
  | _, _, i, _, .nil, e => by simp at e
  | _, _, 0, _, .cons h _, e => by simp at e; subst e; exact ⟨_, rfl, h⟩
  | _, _, i + 1, _, .cons _ r, e => by
    obtain ⟨v, h1, h2⟩ := DqAll.getV (i := i) r (by simpa using e)
    exact ⟨v, by simpa using h1, h2⟩
theorem DqAll.take {K : PySem.W.Frag} {H : Hp} : ∀ {vs : List V} {xs : List PyData} (n : Nat), DqAll K H vs xs → DqAll K H (vs.take n) (xs.take n)
  | _, _, 0, _ => .nil
  | _, _, _ + 1, .nil => .nil
  | _, _, n + 1, .cons h r => .cons h (DqAll.take n r)
theorem DqAll.drop {K : PySem.W.Frag} {H : Hp} : ∀ {vs : List V} {xs : List PyData} (n : Nat), DqAll K H vs xs → DqAll K H (vs.drop n) (xs.drop n)
  | _, _, 0, r => r
  | _, _, _ + 1, .nil => .nil
  | _, _, n + 1, .cons _ r => DqAll.drop n r
theorem DqAll.rev {K : PySem.W.Frag} {H : Hp} : ∀ {vs : List V} {xs : List PyData}, DqAll K H vs xs → DqAll K H vs.reverse xs.reverse
  | _, _, .nil => .nil
  | _, _, .cons h r => by
    rw [List.reverse_cons, List.reverse_cons]
    exact DqAll.app (DqAll.rev r) (.cons h .nil)
theorem DqAll.eraseIdx {K : PySem.W.Frag} {H : Hp} : ∀ {vs : List V} {xs : List PyData} (n : Nat), DqAll K H vs xs → DqAll K H (vs.eraseIdx n) (xs.eraseIdx n)
  | _, _, _, .nil => .nil
  | _, _, 0, .cons _ r => r
  | _, _, n + 1, .cons h r => .cons h (DqAll.eraseIdx n r)
theorem DqAll.set {K : PySem.W.Frag} {H : Hp} {v : V} {x : PyData} (q : Dq K H v x) : ∀ {vs : List V} {xs : List PyData} (n : Nat), DqAll K H vs xs → DqAll K H (vs.set n v) (xs.set n x)
  | _, _, _, .nil => .nil
  | _, _, 0, .cons _ r => .cons q r
  | _, _, n + 1, .cons h r => .cons h (DqAll.set q n r)
theorem dpa_ints {K : PySem.W.Frag} {H : Hp} : ∀ {vs : List V} {ns : List Int}, DqAll K H vs (ns.map PyData.int) → vs = ns.map V.int
  | _, [], .nil => rfl
  | _, n :: ns, .cons h r => by
    cases h
    rw [dpa_ints r] <;> rfl
theorem dpa_bls {K : PySem.W.Frag} {H : Hp} : ∀ {vs : List V} {ns : List Bool}, DqAll K H vs (ns.map PyData.bool) → vs = ns.map V.bl
  | _, [], .nil => rfl
  | _, n :: ns, .cons h r => by
    cases h
    rw [dpa_bls r] <;> rfl
theorem dpa_strs {K : PySem.W.Frag} {H : Hp} : ∀ {vs : List V} {ns : List Str}, DqAll K H vs (ns.map PyData.str) → vs = ns.map V.str
  | _, [], .nil => rfl
  | _, n :: ns, .cons h r => by
    cases h
    rw [dpa_strs r] <;> rfl
theorem dpa_of_strs {K : PySem.W.Frag} {H : Hp} : ∀ (ns : List Str), DqAll K H (ns.map V.str) (ns.map PyData.str)
  | [] => .nil
  | n :: ns => .cons (.str n) (dpa_of_strs ns)
theorem dpa_of_ints {K : PySem.W.Frag} {H : Hp} : ∀ (ns : List Int), DqAll K H (ns.map V.int) (ns.map PyData.int)
  | [] => .nil
  | n :: ns => .cons (.int n) (dpa_of_ints ns)

/-! worlds: adding -/
def Bs.add (B : Bs) (p : Addr) (o : HO) : Bs := ⟨upd B.H p o, B.dl, B.x, B.tb⟩
theorem Bs.le_add {B : Bs} {p : Addr} {o : HO} (h : B.H p = none) : B.le (B.add p o) :=
  ⟨fun a u e => by show upd B.H p o a = _; rw [upd_ne (ne_of_none e h)]; exact e, fun _ e => e, fun _ e => e, rfl⟩
section
variable {G : Hp} {B : Bs} {H : Hp} {t : Option Deal} {p : Addr} {o : HO}
theorem Wd.nb (w : Wd G B H t) (h : H p = none) : B.H p = none := by
  cases q : B.H p with
  | none => rfl
  | some u => rw [w.sub _ _ q] at h; cases h
theorem Wd.ng (w : Wd G B H t) (h : H p = none) : G p = none := by
  cases q : G p with
  | none => rfl
  | some u => rw [(w.fgn _ _ q).1] at h; cases h
/-- p is none of the deal's -/
def Ndl (B : Bs) (p : Addr) : Prop := ∀ da l, B.dl = some (da, l) → p ≠ da ∧ p ≠ l
theorem Wd.nd (w : Wd G B H t) (h : H p = none) : Ndl B p := fun da l e => by
  have d := w.deal
  rw [e] at d
  cases t with
  | none => exact d.elim
  | some t =>
    obtain ⟨h1, h2, _⟩ := d
    exact ⟨fun z => (by rw [z, h1] at h; cases h), fun z => (by rw [z, h2] at h; cases h)⟩
/-- a new object, frozen at once -/
theorem upd_nt {B : Hp} {p : Addr} {o : HO} (h : ∀ a ps, B a ≠ some (.tbl ps)) (ho : ∀ ps, o ≠ HO.tbl ps) : ∀ a ps, upd B p o a ≠ some (.tbl ps) := fun a ps e => by
  by_cases q : a = p
  · rw [q, upd_same] at e; injection e with e; exact ho _ e
  · rw [upd_ne q] at e; exact h _ _ e
theorem Wd.new (w : Wd G B H t) (h : H p = none) (ho : ∀ ps, o ≠ HO.tbl ps := by intro _ h; cases h) : Wd G (B.add p o) (upd H p o) t := by
  have nb := w.nb h
  have ng := w.ng h
  have nd := w.nd h
  refine ⟨fun a u e => ?_, fun a u e => ?_, ?_, ⟨tabs_lay w.tb.tabs h, upd_nt w.tb.nB ho, w.tb.nG⟩⟩
  · by_cases q : a = p
    · subst q
      have e' : upd B.H a o a = some u := e
      rw [upd_same] at e'
      rw [upd_same]; exact e'
    · have e' : upd B.H p o a = some u := e
      rw [upd_ne q] at e'
      rw [upd_ne q]; exact w.sub _ _ e'
  · have q : a ≠ p := fun z => by rw [z, ng] at e; cases e
    obtain ⟨e1, e2⟩ := w.fgn _ _ e
    exact ⟨by rw [upd_ne q]; exact e1, by show upd B.H p o a = none; rw [upd_ne q]; exact e2⟩
  · have d := w.deal
    show DealAt G (B.add p o) (upd H p o) B.dl t
    cases hd : B.dl with
    | none => rw [hd] at d; cases t <;> exact d
    | some q =>
      obtain ⟨da, l⟩ := q
      rw [hd] at d
      cases t with
      | none => exact d.elim
      | some t =>
        obtain ⟨h1, h2, h3, h4, h5⟩ := d
        obtain ⟨n1, n2⟩ := nd da l hd
        exact ⟨by rw [upd_ne n1.symm]; exact h1, by rw [upd_ne n2.symm]; exact h2, by show upd B.H p o da = none; rw [upd_ne n1.symm]; exact h3, by show upd B.H p o l = none; rw [upd_ne n2.symm]; exact h4, h5⟩
/-- a new object, not frozen -/
theorem Wd.lay (w : Wd G B H t) (h : H p = none) : Wd G B (upd H p o) t := by
  have nb := w.nb h
  have ng := w.ng h
  have nd := w.nd h
  refine ⟨fun a u e => ?_, fun a u e => ?_, ?_, ⟨tabs_lay w.tb.tabs h, w.tb.nB, w.tb.nG⟩⟩
  · rw [upd_ne (ne_of_none e nb)]
    exact w.sub _ _ e
  · obtain ⟨e1, e2⟩ := w.fgn _ _ e
    exact ⟨by rw [upd_ne (ne_of_none e ng)]; exact e1, e2⟩
  · have d := w.deal
    cases hd : B.dl with
    | none => rw [hd] at d; cases t <;> exact d
    | some q =>
      obtain ⟨da, l⟩ := q
      rw [hd] at d
      cases t with
      | none => exact d.elim
      | some t =>
        obtain ⟨h1, h2, h5⟩ := d
        obtain ⟨n1, n2⟩ := nd da l hd
        exact ⟨by rw [upd_ne n1.symm]; exact h1, by rw [upd_ne n2.symm]; exact h2, h5⟩
/-- an object that is neither foreign nor frozen nor the deal's is changed -/
theorem Wd.chg {vs : List V} (w : Wd G B H t) (hl : H p = some (.lst vs)) (nb : B.H p = none) (ng : G p = none) (nd : Ndl B p) : Wd G B (upd H p o) t := by
  refine ⟨fun a u e => ?_, fun a u e => ?_, ?_, ⟨tabs_chg w.tb.tabs hl, w.tb.nB, w.tb.nG⟩⟩
  · rw [upd_ne (ne_of_none e nb)]
    exact w.sub _ _ e
  · obtain ⟨e1, e2⟩ := w.fgn _ _ e
    exact ⟨by rw [upd_ne (ne_of_none e ng)]; exact e1, e2⟩
  · have d := w.deal
    cases hd : B.dl with
    | none => rw [hd] at d; cases t <;> exact d
    | some q =>
      obtain ⟨da, l⟩ := q
      rw [hd] at d
      cases t with
      | none => exact d.elim
      | some t =>
        obtain ⟨h1, h2, h5⟩ := d
        obtain ⟨n1, n2⟩ := nd da l hd
        exact ⟨by rw [upd_ne n1.symm]; exact h1, by rw [upd_ne n2.symm]; exact h2, h5⟩
/-- an object that stands unfrozen is frozen -/
theorem Wd.frz (w : Wd G B H t) (h : H p = some o) (nb : B.H p = none) (ng : G p = none) (nd : Ndl B p) (ho : ∀ ps, o ≠ HO.tbl ps := by intro _ h; cases h) : Wd G (B.add p o) H t := by
  refine ⟨fun a u e => ?_, fun a u e => ?_, ?_, ⟨w.tb.tabs, upd_nt w.tb.nB ho, w.tb.nG⟩⟩
  · by_cases q : a = p
    · subst q
      have e' : upd B.H a o a = some u := e
      rw [upd_same] at e'
      rw [h]; exact e'
    · have e' : upd B.H p o a = some u := e
      rw [upd_ne q] at e'
      exact w.sub _ _ e'
  · have q : a ≠ p := fun z => by rw [z, ng] at e; cases e
    obtain ⟨e1, e2⟩ := w.fgn _ _ e
    exact ⟨e1, by show upd B.H p o a = none; rw [upd_ne q]; exact e2⟩
  · have d := w.deal
    show DealAt G (B.add p o) H B.dl t
    cases hd : B.dl with
    | none => rw [hd] at d; cases t <;> exact d
    | some q =>
      obtain ⟨da, l⟩ := q
      rw [hd] at d
      cases t with
      | none => exact d.elim
      | some t =>
        obtain ⟨h1, h2, h3, h4, h5⟩ := d
        obtain ⟨n1, n2⟩ := nd da l hd
        exact ⟨h1, h2, by show upd B.H p o da = none; rw [upd_ne n1.symm]; exact h3, by show upd B.H p o l = none; rw [upd_ne n2.symm]; exact h4, h5⟩
/-- less is foreign -/
theorem Wd.less {G' : Hp} (w : Wd G' B H t) (h : ∀ a o, G a = some o → G' a = some o) : Wd G B H t := by
  refine ⟨w.sub, fun a u e => w.fgn _ _ (h _ _ e), ?_, ⟨w.tb.tabs, w.tb.nB, fun a ps e => w.tb.nG a ps (h _ _ e)⟩⟩
  have d := w.deal
  have hn : ∀ a, G' a = none → G a = none := fun a n => by
    cases q : G a with
    | none => rfl
    | some u => rw [h _ _ q] at n; cases n
  cases hd : B.dl with
  | none => rw [hd] at d; cases t <;> exact d
  | some q =>
    obtain ⟨da, l⟩ := q
    rw [hd] at d
    cases t with
    | none => exact d.elim
    | some t =>
      obtain ⟨h1, h2, h3, h4, h5, h6, h7⟩ := d
      exact ⟨h1, h2, h3, h4, hn _ h5, hn _ h6, h7⟩
/-- one more is foreign -/
theorem Wd.more (w : Wd G B H t) (h : H p = some o) (nb : B.H p = none) (nd : Ndl B p) (ho : ∀ ps, o ≠ HO.tbl ps := by intro _ h; cases h) : Wd (upd G p o) B H t := by
  refine ⟨w.sub, fun a u e => ?_, ?_, ⟨w.tb.tabs, w.tb.nB, upd_nt w.tb.nG ho⟩⟩
  · by_cases q : a = p
    · subst q
      rw [upd_same] at e
      rw [h, e]
      exact ⟨rfl, nb⟩
    · rw [upd_ne q] at e
      exact w.fgn _ _ e
  · have d := w.deal
    cases hd : B.dl with
    | none => rw [hd] at d; cases t <;> exact d
    | some q =>
      obtain ⟨da, l⟩ := q
      rw [hd] at d
      cases t with
      | none => exact d.elim
      | some t =>
        obtain ⟨h1, h2, h3, h4, h5, h6, h7⟩ := d
        obtain ⟨n1, n2⟩ := nd da l hd
        exact ⟨h1, h2, h3, h4, by rw [upd_ne n1.symm]; exact h5, by rw [upd_ne n2.symm]; exact h6, h7⟩
/-- the deal is none of the foreign -/
theorem Wd.ndg (w : Wd G B H t) (h : G p = some o) : Ndl B p := fun da l e => by
  have d := w.deal
  rw [e] at d
  cases t with
  | none => exact d.elim
  | some t =>
    obtain ⟨_, _, _, _, h5, h6, _⟩ := d
    exact ⟨fun z => (by rw [z, h5] at h; cases h), fun z => (by rw [z, h6] at h; cases h)⟩
end
end DL
end
section
set_option maxRecDepth 100000
set_option maxHeartbeats 4000000
namespace DL
open PySem PySem.Spec PyProof.Rows L2

/-! ### 2. What a piece computes -/
/-- what an expression hands on: a value that stays, or «the list that slot i owns, as it will be when it is read» -/
inductive Tk where
  | v (x : Sl) | o (i : Nat)
abbrev Rho := List (Option Sl)
inductive Out (α : Type) where
  | ok (a : α) (r : Rho) (t : Option Deal)
  | ex (c : Str) (x : PyData) (t : Option Deal)
  | st
def M (α : Type) := Rho → Option Deal → Out α
def M.ret {α : Type} (a : α) : M α := fun r t => .ok a r t
def M.bind {α β : Type} (m : M α) (f : α → M β) : M β := fun r t => match m r t with
  | .ok a r' t' => f a r' t'
  | .ex c x t' => .ex c x t'
  | .st => .st
def M.st {α : Type} : M α := fun _ _ => .st
def Out.post {α : Type} (o : Out α) (Q : α → Rho → Option Deal → Prop) (XP : Str → PyData → Option Deal → Prop) : Prop := match o with
  | .ok a r t => Q a r t
  | .ex c x t => XP c x t
  | .st => False
theorem post_bind {α β : Type} {m : M α} {f : α → M β} {r : Rho} {t : Option Deal} {Q : β → Rho → Option Deal → Prop} {XP : Str → PyData → Option Deal → Prop} :
    (M.bind m f r t).post Q XP ↔ (m r t).post (fun a r' t' => (f a r' t').post Q XP) XP := by
  unfold M.bind
  cases m r t <;> exact Iff.rfl
theorem post_mono {α : Type} {o : Out α} {Q Q' : α → Rho → Option Deal → Prop} {XP : Str → PyData → Option Deal → Prop} (h : o.post Q XP) (f : ∀ a r t, Q a r t → Q' a r t) : o.post Q' XP := by
  cases o with
  | ok a r t => exact f _ _ _ h
  | ex c x t => exact h
  | st => exact h

/-! the slots -/
def Live (r : Rho) (i : Nat) : Prop := ∃ x, r[i]? = some (some x)
structure Sls (K : PySem.W.Frag) (ow : List Nat) (G : Hp) (B : Bs) (H : Hp) (σ : L2.St) (r : Rho) : Prop where
  len : σ.length = r.length
  var : ∀ i x, r[i]? = some (some x) → i ∉ ow → ∃ v, σ[i]? = some (some v) ∧ Sv K B v x
  own : ∀ i x, r[i]? = some (some x) → i ∈ ow → ∃ (ds : List PyData) (p : Addr) (vs : List V), x = .d (.list ds) ∧ σ[i]? = some (some (.ref p)) ∧ H p = some (.lst vs) ∧ DqAll K B.H vs ds ∧ B.H p = none ∧ G p = none ∧ Ndl B p
  dis : ∀ i j p, i ∈ ow → j ∈ ow → i ≠ j → Live r i → Live r j → σ[i]? = some (some (.ref p)) → σ[j]? ≠ some (some (.ref p))
def Tv (K : PySem.W.Frag) (B : Bs) (ow : List Nat) (σ : L2.St) (v : V) : Tk → Prop
  | .v x => Sv K B v x
  | .o i => i ∈ ow ∧ σ[i]? = some (some v)
theorem Tv.mono {K : PySem.W.Frag} {B B' : Bs} {ow : List Nat} {σ : L2.St} (e : B.le B') {v : V} : ∀ {x : Tk}, Tv K B ow σ v x → Tv K B' ow σ v x
  | .v _, h => Sv.mono e h
  | .o _, h => h
/-- what the whole text tells: the errors' classes by name; the tables of code objects -/
structure Ec where
  f : Str → Option Addr
  tb : List (Addr × Str)
/-- an error of the class named c, its «at» being x -/
def XOk (K : PySem.W.Frag) (ec : Ec) (G : Hp) (B : Bs) (E : XK) (XP : Str → PyData → Option Deal → Prop) : Prop :=
  B.tb = ec.tb ∧ ∀ (c : Str) (x : PyData) (t : Option Deal) (B' : Bs) (H' : Hp) (C dd : Addr) (v : V), XP c x t → B.le B' → Wd G B' H' t → ec.f c = some C → B'.H dd = some (.xd [(("at" : Str), v)]) → Dq K B'.H v x → E (.ref C) (some dd) H'
theorem XOk.mono {K : PySem.W.Frag} {ec : Ec} {G : Hp} {B B' : Bs} {E : XK} {XP : Str → PyData → Option Deal → Prop} (e : B.le B') (h : XOk K ec G B E XP) : XOk K ec G B' E XP :=
  ⟨e.b.trans h.1, fun c x t B2 H2 C dd v a b d f g i => h.2 c x t B2 H2 C dd v a (e.trans b) d f g i⟩
theorem XOk.less {K : PySem.W.Frag} {ec : Ec} {G G' : Hp} {B : Bs} {E : XK} {XP : Str → PyData → Option Deal → Prop} (e : ∀ a o, G a = some o → G' a = some o) (h : XOk K ec G B E XP) : XOk K ec G' B E XP :=
  ⟨h.1, fun c x t B2 H2 C dd v a b d f g i => h.2 c x t B2 H2 C dd v a b (d.less e) f g i⟩
/-- the owned lists pushed among the foreign -/
theorem Sls.push {K : PySem.W.Frag} {ow : List Nat} {G : Hp} {B : Bs} {H : Hp} {σ : L2.St} {r : Rho} {t : Option Deal} (w : Wd G B H t) (s : Sls K ow G B H σ r) :
    ∃ G' : Hp, Wd G' B H t ∧ (∀ a o, G a = some o → G' a = some o) ∧ (∀ i p, i ∈ ow → Live r i → σ[i]? = some (some (.ref p)) → G' p = H p) ∧
      (∀ (B' : Bs) (H' : Hp) (t' : Option Deal), B.le B' → Wd G' B' H' t' → Wd G B' H' t' ∧ Sls K ow G B' H' σ r) := by
  classical
  let own : Addr → Prop := fun a => ∃ i, i ∈ ow ∧ Live r i ∧ σ[i]? = some (some (.ref a))
  have hown : ∀ a, own a → ∃ (ds : List PyData) (vs : List V), H a = some (.lst vs) ∧ DqAll K B.H vs ds ∧ B.H a = none ∧ G a = none ∧ Ndl B a := fun a ⟨i, hi, ⟨x, hx⟩, hs⟩ => by
    obtain ⟨ds, p, vs, _, h2, h3, h4, h5, h6, h7⟩ := s.own i x hx hi
    rw [hs] at h2
    have e : a = p := by injection h2 with h2; injection h2 with h2; injection h2
    subst e
    exact ⟨ds, vs, h3, h4, h5, h6, h7⟩
  let G' : Hp := fun a => if own a then H a else G a
  have gG : ∀ a o, G a = some o → G' a = some o := fun a o e => by
    have n : ¬ own a := fun q => by
      obtain ⟨_, _, _, _, _, z, _⟩ := hown a q
      rw [z] at e; cases e
    show (if own a then H a else G a) = some o
    rw [if_neg n]; exact e
  have gO : ∀ a, own a → G' a = H a := fun a q => if_pos q
  have w' : Wd G' B H t := by
    refine ⟨w.sub, fun a u e => ?_, ?_, ⟨w.tb.tabs, w.tb.nB, fun a ps e => ?_⟩⟩
    rotate_left 2
    · by_cases q : own a
      · rw [gO a q] at e
        obtain ⟨_, _, z, _⟩ := hown a q
        rw [z] at e; cases e
      · have e' : (if own a then H a else G a) = some (.tbl ps) := e
        rw [if_neg q] at e'
        exact w.tb.nG _ _ e'
    · by_cases q : own a
      · rw [gO a q] at e
        obtain ⟨_, _, _, _, z, _⟩ := hown a q
        exact ⟨e, z⟩
      · have e' : (if own a then H a else G a) = some u := e
        rw [if_neg q] at e'
        exact w.fgn _ _ e'
    · have d := w.deal
      have hn : ∀ a, G a = none → ¬ own a → G' a = none := fun a n q => by
        show (if own a then H a else G a) = none
        rw [if_neg q]; exact n
      cases hd : B.dl with
      | none => rw [hd] at d; cases t <;> exact d
      | some q =>
        obtain ⟨da, l⟩ := q
        rw [hd] at d
        cases t with
        | none => exact d.elim
        | some t =>
          obtain ⟨h1, h2, h3, h4, h5, h6, h7⟩ := d
          refine ⟨h1, h2, h3, h4, hn _ h5 fun q => ?_, hn _ h6 fun q => ?_, h7⟩
          · obtain ⟨_, _, _, _, _, _, z⟩ := hown _ q
            exact (z da l hd).1 rfl
          · obtain ⟨_, _, _, _, _, _, z⟩ := hown _ q
            exact (z da l hd).2 rfl
  refine ⟨G', w', gG, fun i p hi hl hs => gO p ⟨i, hi, hl, hs⟩, fun B' H' t' le w2 => ⟨w2.less gG, s.len, fun i x hx hi => ?_, fun i x hx hi => ?_, s.dis⟩⟩
  · obtain ⟨v, h1, h2⟩ := s.var i x hx hi
    exact ⟨v, h1, h2.mono le⟩
  · obtain ⟨ds, p, vs, h1, h2, h3, h4, h5, h6, h7⟩ := s.own i x hx hi
    have g : G' p = some (.lst vs) := by rw [gO p ⟨i, hi, ⟨x, hx⟩, h2⟩]; exact h3
    obtain ⟨a1, a2⟩ := w2.fgn _ _ g
    exact ⟨ds, p, vs, h1, h2, a1, dpa_mono le.h h4, a2, h6, w2.ndg g⟩

/-- what the layer knows of the text: the errors' classes by name; the slots that own their lists; what is wished of an error -/
structure Cd where
  ec : Ec
  ow : List Nat
  E : XK
abbrev XQ := Str → PyData → Option Deal → Prop

def RfE (K : PySem.W.Frag) (c : Cd) (te : TE) (m : M Tk) : Prop := ∀ (G : Hp) (B : Bs) (H : Hp) (σ : L2.St) (r : Rho) (t : Option Deal) (Q : VK) (XP : XQ), Wd G B H t → Sls K c.ow G B H σ r → XOk K c.ec G B c.E XP →
  (m r t).post (fun x r' t' => ∀ (v : V) (B' : Bs) (H' : Hp), B.le B' → Wd G B' H' t' → Sls K c.ow G B' H' σ r' → Tv K B' c.ow σ v x → Q v H') XP → te σ H Q
def RfT (K : PySem.W.Frag) (c : Cd) (tt : TT) (m : M Bool) : Prop := ∀ (G : Hp) (B : Bs) (H : Hp) (σ : L2.St) (r : Rho) (t : Option Deal) (Q : Bool → Hp → Prop) (XP : XQ), Wd G B H t → Sls K c.ow G B H σ r → XOk K c.ec G B c.E XP →
  (m r t).post (fun b r' t' => ∀ (B' : Bs) (H' : Hp), B.le B' → Wd G B' H' t' → Sls K c.ow G B' H' σ r' → Q b H') XP → tt σ H Q
def TvA (K : PySem.W.Frag) (B : Bs) (ow : List Nat) (σ : L2.St) : List V → List Tk → Prop
  | [], [] => True
  | v :: vs, x :: xs => Tv K B ow σ v x ∧ TvA K B ow σ vs xs
  | _, _ => False
theorem TvA.mono {K : PySem.W.Frag} {B B' : Bs} {ow : List Nat} {σ : L2.St} (e : B.le B') : ∀ {vs : List V} {xs : List Tk}, TvA K B ow σ vs xs → TvA K B' ow σ vs xs
  | [], [], _ => True.intro
  | _ :: _, _ :: _, h => ⟨h.1.mono e, TvA.mono e h.2⟩
  | [], _ :: _, h => h
  | _ :: _, [], h => h
def RfA (K : PySem.W.Frag) (c : Cd) (ta : TA) (m : M (List Tk)) : Prop := ∀ (G : Hp) (B : Bs) (H : Hp) (σ : L2.St) (r : Rho) (t : Option Deal) (Q : List V → Hp → Prop) (XP : XQ), Wd G B H t → Sls K c.ow G B H σ r → XOk K c.ec G B c.E XP →
  (m r t).post (fun xs r' t' => ∀ (vs : List V) (B' : Bs) (H' : Hp), B.le B' → Wd G B' H' t' → Sls K c.ow G B' H' σ r' → TvA K B' c.ow σ vs xs → Q vs H') XP → ta σ H Q
/-- how a statement ends -/
inductive Fl where
  | nx | bk | ct | rt (x : Sl)
def EndOk (K : PySem.W.Frag) (ow : List Nat) (G : Hp) (B : Bs) (D : Ends) (r' : Rho) (t' : Option Deal) : Fl → Prop
  | .nx => ∀ (σ' : L2.St) (B' : Bs) (H' : Hp), B.le B' → Wd G B' H' t' → Sls K ow G B' H' σ' r' → D.nx σ' H'
  | .bk => ∀ (σ' : L2.St) (B' : Bs) (H' : Hp), B.le B' → Wd G B' H' t' → Sls K ow G B' H' σ' r' → D.bk σ' H'
  | .ct => ∀ (σ' : L2.St) (B' : Bs) (H' : Hp), B.le B' → Wd G B' H' t' → Sls K ow G B' H' σ' r' → D.ct σ' H'
  | .rt x => ∀ (v : V) (B' : Bs) (H' : Hp), B.le B' → Wd G B' H' t' → Sv K B' v x → D.rt v H'
def RfS (K : PySem.W.Frag) (c : Cd) (ts : TS) (m : M Fl) : Prop := ∀ (G : Hp) (B : Bs) (H : Hp) (σ : L2.St) (r : Rho) (t : Option Deal) (D : Ends) (XP : XQ), Wd G B H t → Sls K c.ow G B H σ r → XOk K c.ec G B c.E XP →
  (m r t).post (fun f r' t' => EndOk K c.ow G B D r' t' f) XP → ts D σ H
theorem EndOk.mono {K : PySem.W.Frag} {ow : List Nat} {G : Hp} {B B' : Bs} {D : Ends} {r' : Rho} {t' : Option Deal} (e : B.le B') : ∀ {f : Fl}, EndOk K ow G B D r' t' f → EndOk K ow G B' D r' t' f
  | .nx, h => fun σ' B2 H' a => h σ' B2 H' (e.trans a)
  | .bk, h => fun σ' B2 H' a => h σ' B2 H' (e.trans a)
  | .ct, h => fun σ' B2 H' a => h σ' B2 H' (e.trans a)
  | .rt x, h => fun v B2 H' a => h v B2 H' (e.trans a)

/-! with the text -/
structure PED (X : Cx) (c : Cd) (e : Expr) (te : TE) (m : M Tk) : Prop where
  p : PE X e te
  k : RfE X.K c te m
structure PTD (X : Cx) (c : Cd) (e : Expr) (tt : TT) (m : M Bool) : Prop where
  p : PT X e tt
  k : RfT X.K c tt m
structure PAD (X : Cx) (c : Cd) (es : List Expr) (ta : TA) (m : M (List Tk)) : Prop where
  p : PA X es ta
  k : RfA X.K c ta m
structure PSD (X : Cx) (c : Cd) (s : Stmt) (ts : TS) (m : M Fl) : Prop where
  p : PS X s ts
  k : RfS X.K c ts m
structure PSsD (X : Cx) (c : Cd) (s : List Stmt) (ts : TS) (m : M Fl) : Prop where
  p : PSs X s ts
  k : RfS X.K c ts m

/-! ### 3. Names, constants, reading a token -/
section
variable {X : Cx} {c : Cd}
def mVar (ow : List Nat) (i : Nat) : M Tk := fun r t => match r[i]? with
  | some (some x) => if i ∈ ow then .ok (.o i) r t else .ok (.v x) r t
  | _ => .st
def mK (x : Sl) : M Tk := M.ret (.v x)
theorem rf_var {K : PySem.W.Frag} {i : Nat} : RfE K c (tVar i) (mVar c.ow i) := by
  intro G B H σ r t Q XP w s _ p
  unfold mVar at p
  cases h : r[i]? with
  | none => rw [h] at p; exact p.elim
  | some o =>
    cases o with
    | none => rw [h] at p; exact p.elim
    | some x =>
      rw [h] at p
      simp only at p
      by_cases q : i ∈ c.ow
      · rw [if_pos q] at p
        obtain ⟨ds, a, vs, _, h2, _⟩ := s.own i x h q
        exact ⟨_, h2, p _ B H (Bs.le.refl B) w s ⟨q, h2⟩⟩
      · rw [if_neg q] at p
        obtain ⟨v, h1, h2⟩ := s.var i x h q
        exact ⟨v, h1, p v B H (Bs.le.refl B) w s h2⟩
theorem rf_c {K : PySem.W.Frag} {v : V} {x : Sl} (h : ∀ B, Sv K B v x) : RfE K c (tC v) (mK x) := fun G B H σ r t Q XP w s _ p => p v B H (Bs.le.refl B) w s (h B)
theorem pd_var (i : Nat) {x : Str} {pos : Pos} (hN : X.N[i]? = some x := by rfl) (hv : Vis X.env.scope x := by first | exact Or.inl rfl | exact Or.inr (Or.inl rfl) | exact Or.inr (Or.inr rfl)) (hd : (x == ("__debug__" : Str)) = false := by decide)
    (hcd : (x == ("__classdict__" : Str)) = false := by decide) : PED X c (.Name x pos) (tVar i) (mVar c.ow i) := ⟨pe_var hN hv hd hcd, rf_var⟩
theorem pd_int {i : Int} {j : Nat} {pos : Pos} : PED X c (.Constant (.int i) j pos) (tC (.int i)) (mK (.d (.int i))) := ⟨pe_int, rf_c fun _ => .int i⟩
theorem pd_bl {b : Bool} {j : Nat} {pos : Pos} : PED X c (.Constant (.bool b) j pos) (tC (.bl b)) (mK (.d (.bool b))) := ⟨pe_bl, rf_c fun _ => .bl b⟩
theorem pd_non {j : Nat} {pos : Pos} : PED X c (.Constant .none j pos) (tC .non) (mK (.d .none)) := ⟨pe_non, rf_c fun _ => .non⟩
theorem pd_str {z : Str} {j : Nat} {pos : Pos} : PED X c (.Constant (.str z) j pos) (tC (.str z)) (mK (.d (.str z))) := ⟨pe_str, rf_c fun _ => .str z⟩
/-- a module's constant: written data -/
theorem pd_glob {x : Str} {v : V} {u : Value} {d : PyData} {pos : Pos} (hg : Gl X x) (hm : X.mg x = some u) (r : RelV v u) (hd : ∀ H, Dq X.K H v d) (hdb : (x == ("__debug__" : Str)) = false := by decide) : PED X c (.Name x pos) (tC v) (mK (.d d)) :=
  ⟨pe_glob hg hm r hdb, rf_c fun B => hd B.H⟩
/-- a class, a def, as a value -/
theorem pd_globR {x : Str} {v : V} {u : Value} {pos : Pos} (hg : Gl X x) (hm : X.mg x = some u) (r : RelV v u) (hdb : (x == ("__debug__" : Str)) = false := by decide) : PED X c (.Name x pos) (tC v) (mK (.raw v)) :=
  ⟨pe_glob hg hm r hdb, rf_c fun _ => rfl⟩
theorem pd_blt {x : Str} {v : V} {u : Value} {pos : Pos} (hg : Gl X x) (hm : X.mg x = none) (hv : bootBuiltins x = some u) (r : RelV v u) (hn : x ≠ "__name__" := by decide) (hdb : (x == ("__debug__" : Str)) = false := by decide) : PED X c (.Name x pos) (tC v) (mK (.raw v)) :=
  ⟨pe_bltn hg hm hv r hn hdb, rf_c fun _ => rfl⟩

/-- what is read now -/
def use (k : Tk) : M Sl := fun r t => match k with
  | .v x => .ok x r t
  | .o i => match r[i]? with
    | some (some x) => .ok x r t
    | _ => .st
/-- what is kept: no owned list -/
def keep (k : Tk) : M Sl := fun r t => match k with
  | .v x => .ok x r t
  | .o _ => .st
/-- the content of a value as it stands in H -/
def Bw (K : PySem.W.Frag) (B : Bs) (H : Hp) (v : V) (x : Sl) : Prop :=
  Sv K B v x ∨ ∃ (p : Addr) (vs : List V) (ds : List PyData), v = .ref p ∧ x = .d (.list ds) ∧ H p = some (.lst vs) ∧ DqAll K B.H vs ds
/-- a token's content, all owned lists being foreign -/
theorem use_ok {K : PySem.W.Frag} {ow : List Nat} {G : Hp} {B : Bs} {H : Hp} {σ : L2.St} {r : Rho} {t : Option Deal} {v : V} {k : Tk} {Q : Sl → Rho → Option Deal → Prop} {XP : XQ} (s : Sls K ow G B H σ r) (h : Tv K B ow σ v k) (p : (use k r t).post Q XP) :
    ∃ x, Bw K B H v x ∧ Q x r t := by
  cases k with
  | v x => exact ⟨x, .inl h, p⟩
  | o i =>
    obtain ⟨hi, hs⟩ := h
    unfold use at p
    simp only at p
    cases hr : r[i]? with
    | none => rw [hr] at p; exact p.elim
    | some o =>
      cases o with
      | none => rw [hr] at p; exact p.elim
      | some x =>
        rw [hr] at p
        obtain ⟨ds, a, vs, h1, h2, h3, h4, _⟩ := s.own i x hr hi
        rw [hs] at h2
        have e : v = .ref a := by injection h2 with h2; injection h2
        exact ⟨x, .inr ⟨a, vs, ds, e, h1, h3, h4⟩, p⟩
theorem keep_ok {K : PySem.W.Frag} {ow : List Nat} {B : Bs} {σ : L2.St} {r : Rho} {t : Option Deal} {v : V} {k : Tk} {Q : Sl → Rho → Option Deal → Prop} {XP : XQ} (h : Tv K B ow σ v k) (p : (keep k r t).post Q XP) :
    ∃ x, Sv K B v x ∧ Q x r t := by
  cases k with
  | v x => exact ⟨x, h, p⟩
  | o i => exact p.elim
end
end DL
end
section
set_option maxRecDepth 100000
set_option maxHeartbeats 4000000
/-! # tuple * k, k = 1 (the same object) and up to 100,000 -/
namespace DL
open PySem PySem.Spec PyProof.Rows L2
theorem tuple_mul1 (l : Addr) (items : Array Value) (n : Nat) (u : Tok) (dd : Option Addr) (sl : Array (Option Value)) (h0 : items.isEmpty = false) :
    Meets (Builtin.«tuple.__mul__» ⟨[.ref l, .int 1 u], []⟩) (fun _ R s => s.heap.get? l = some { cls := .type "tuple", dict := dd, data := .seq items n, slots := sl } ∧
      R (.ok (.ret (Value.ref l))) s) :=
  .of_wp fun prog w A R s h => by
    obtain ⟨hp, g, d, tk, os⟩ := s
    obtain ⟨hl, h⟩ := h
    have f1 := AutoSeq1.idx_int
    wp_walk using wpAny_loadPart' hl
    repeat (first
      | (refine wpAny_ite_false (decide_eq_false (by decide)) ?_; wp_walk using wpAny_loadPart' hl)
      | (refine wpAny_ite_true (decide_eq_true (by simp)) ?_; wp_walk using wpAny_loadPart' hl))
    exact ⟨_, rfl, h⟩
def rRepT2 (K : PySem.W.Frag) : R2 := fun x y H Q => ∃ l k xs, x = .ref l ∧ y = .int k ∧ SqT K H l xs ∧ xs ≠ [] ∧ 1 ≤ k ∧ k ≤ 100000 ∧ xs.length * k.toNat ≤ 1000000 ∧ (k = 1 → Q (.ref l) H) ∧ (k ≠ 1 → ∀ p, H p = none → Q (.ref p) (upd H p (.tup (List.replicate k.toNat xs).flatten)))
theorem op_repT2 {X : Cx} : OpR X (binaryOp .Mult) (rRepT2 X.K) := by
  intro pins s σ H x y v u Q I rx ry h
  obtain ⟨l, k, xs, rfl, rfl, hT, hne, h1, h2, hz, q1, q2⟩ := h
  cases rx
  obtain ⟨t, rfl⟩ := ry
  obtain ⟨its, r, ⟨⟨cls, dd, data, sl⟩, ho, hc, n, hd⟩, hs⟩ := I.tuple hT
  simp only at hc hd
  subst hc hd
  have hle : its.length = xs.length := r.length.symm
  have hn : its ≠ [] := fun e => hne (by
    rw [e] at hle
    exact List.eq_nil_of_length_eq_zero hle.symm)
  have hi : its.toArray.isEmpty = false := by
    cases its with
    | nil => exact absurd rfl hn
    | cons a b => rfl
  have hfs := F.fills_int_mul
  by_cases hk : k = 1
  · subst hk
    refine wpAny_binaryOp_repeat_ref (T := "tuple") (U := "int") (by decide) ⟨_, ho, rfl⟩ (fun s' => typeIs_int s' 1 t) noFill_tuple_mul F.fills_int_mul F.slot_int_rmul repeat_tuple F.slot_int_index.lookup
      (call_meets F.slot_int_rmul (typeIs_int s 1 t) F.entry_int_rmul (F.args_int_rmul_2 _ _) (int_rmul_tuple 1 t l its.toArray n dd sl)
        ⟨ho, rfl, ⟨_, ho, rfl⟩, call_meets F.slot_tuple_mul ⟨_, ho, rfl⟩ F.entry_tuple_mul (F.args_tuple_mul_2 _ _) (tuple_mul1 l its.toArray n t dd sl hi) ⟨ho, ?_⟩⟩)
    exact ⟨.ref l, H, I, rfl, q1 rfl⟩
  · have hsz0 : its.toArray.size = xs.length := by rw [List.size_toArray, hle]
    have hkn : ((k.toNat : Nat) : Int) = k := Int.toNat_of_nonneg (by omega)
    have hm : ((its.toArray.size : Nat) : Int) * k ≤ 1000000 := by
      rw [hsz0, ← hkn, ← Int.natCast_mul]
      omega
    have c0 : (decide (k < -(2 ^ 63)) || decide (k ≥ 2 ^ 63)) = false := by
      rw [decide_eq_false (by omega), decide_eq_false (by omega)] <;> rfl
    have c1 : (its.toArray.isEmpty || k == 1) = false := by
      rw [hi, Bool.false_or]
      exact beq_eq_false_iff_ne.mpr hk
    have c2 : (decide (k ≤ 0) || its.toArray.isEmpty) = false := by
      rw [hi, Bool.or_false]
      exact decide_eq_false (by omega)
    have c4 : Builtin.Tuple.tupleTooMany (((its.toArray.size : Nat) : Int) * k) = false := by
      unfold Builtin.Tuple.tupleTooMany
      rw [sizeLine_eq]
      exact decide_eq_false (by omega)
    have fl : (List.replicate k.toNat xs).flatten.length ≤ sizeLine := by
      rw [PyProof.Rows.lm_len_rep_flat, sizeLine_eq, Nat.mul_comm]
      omega
    have flen : (List.replicate k.toNat its).flatten.length ≤ sizeLine := by
      rw [PyProof.Rows.lm_len_rep_flat, hle, sizeLine_eq, Nat.mul_comm]
      omega
    refine wpAny_binaryOp_repeat_ref (T := "tuple") (U := "int") (by decide) ⟨_, ho, rfl⟩ (fun s' => typeIs_int s' k t) noFill_tuple_mul F.fills_int_mul F.slot_int_rmul repeat_tuple F.slot_int_index.lookup
      (call_meets F.slot_int_rmul (typeIs_int s k t) F.entry_int_rmul (F.args_int_rmul_2 _ _) (int_rmul_tuple k t l its.toArray n dd sl)
        ⟨ho, rfl, ⟨_, ho, rfl⟩, call_meets F.slot_tuple_mul ⟨_, ho, rfl⟩ F.entry_tuple_mul (F.args_tuple_mul_2 _ _) (tuple_mulW l its.toArray n dd sl k t c0 c1 c2 (by omega) c4 (by rw [size_rep, List.size_toArray]; exact flen)) ⟨ho, ?_⟩⟩)
    rw [size_rep]
    refine ⟨.ref s.heap.objs.size, _, I.laid (t' := s.toks) (o := .tup (List.replicate k.toNat xs).flatten) (fun b ob q => Heap.get?_push_of_some _ q) (Nat.le_refl _) ?_, rfl, q2 hk _ (I.hok.fresh (Nat.le_refl _))⟩
    exact ⟨fl, _, r.rep k.toNat, IsTup.new _ _⟩
end DL
end
section
set_option maxRecDepth 100000
set_option maxHeartbeats 4000000
namespace DL
open PySem PySem.Spec PyProof.Rows L2

/-! ### 4. Operators -/
section
variable {K : PySem.W.Frag} {G : Hp} {B : Bs} {H : Hp} {t : Option Deal} {v : V}
theorem Bw.int {i : Int} : Bw K B H v (.d (.int i)) → v = .int i
  | .inl h => by cases (show Dq K B.H v (.int i) from h); rfl
  | .inr ⟨_, _, _, _, e, _⟩ => by cases e
theorem Bw.str {i : Str} : Bw K B H v (.d (.str i)) → v = .str i
  | .inl h => by cases (show Dq K B.H v (.str i) from h); rfl
  | .inr ⟨_, _, _, _, e, _⟩ => by cases e
theorem Bw.bl {i : Bool} : Bw K B H v (.d (.bool i)) → v = .bl i
  | .inl h => by cases (show Dq K B.H v (.bool i) from h); rfl
  | .inr ⟨_, _, _, _, e, _⟩ => by cases e
theorem Bw.non : Bw K B H v (.d .none) → v = .non
  | .inl h => by cases (show Dq K B.H v .none from h); rfl
  | .inr ⟨_, _, _, _, e, _⟩ => by cases e
theorem Bw.lst {ds : List PyData} (w : Wd G B H t) : Bw K B H v (.d (.list ds)) → ∃ (a : Addr) (vs : List V), v = .ref a ∧ H a = some (.lst vs) ∧ DqAll K B.H vs ds
  | .inl h => by
    cases (show Dq K B.H v (.list ds) from h) with
    | @lst a xs _ h1 h2 => exact ⟨a, xs, rfl, w.sub _ _ h1, h2⟩
  | .inr ⟨p, vs, _, e1, e, h1, h2⟩ => by
    injection e with e
    injection e with e
    subst e
    exact ⟨p, vs, e1, h1, h2⟩
theorem Bw.tup {ds : List PyData} : Bw K B H v (.d (.tuple ds)) → ∃ (a : Addr) (vs : List V), v = .ref a ∧ SqT K B.H a vs ∧ DqAll K B.H vs ds
  | .inl h => by
    cases (show Dq K B.H v (.tuple ds) from h) with
    | @tup a xs _ h1 h2 => exact ⟨a, xs, rfl, h1, h2⟩
  | .inr ⟨_, _, _, _, e, _⟩ => by cases e
theorem Bw.dp {x : PyData} (w : Wd G B H t) : Bw K B H v (.d x) → Dp K H v x
  | .inl h => (dp_mono w.sub (show Dq K B.H v x from h)).dp
  | .inr ⟨p, vs, ds, e1, e, h1, h2⟩ => by
    injection e with e
    subst e1 e
    exact .lst (SqL.of h1) (dpa_mono w.sub h2).dp
theorem Bw.raw {u : V} : Bw K B H v (.raw u) → v = u
  | .inl h => h
  | .inr ⟨_, _, _, _, e, _⟩ => by cases e

/-- an operator on values computes f -/
def OpD (K : PySem.W.Frag) (r : R2) (f : Sl → Sl → Option Sl) : Prop := ∀ (G : Hp) (B : Bs) (H : Hp) (t : Option Deal) (x y : V) (a b z : Sl) (Q : VK), Wd G B H t → Bw K B H x a → Bw K B H y b → f a b = some z →
  (∀ (v : V) (B' : Bs) (H' : Hp), B.le B' → Wd G B' H' t → Sv K B' v z → Q v H') → r x y H Q
theorem OpD.or {r r' : R2} {f f' : Sl → Sl → Option Sl} (h : OpD K r f) (h' : OpD K r' f') : OpD K (fun x y H Q => r x y H Q ∨ r' x y H Q) (fun a b => (f a b).or (f' a b)) := by
  intro G B H t x y a b z Q w ha hb e q
  cases e1 : f a b with
  | some z1 =>
    simp only [e1, Option.some_or] at e
    cases e
    exact .inl (h G B H t x y a b _ Q w ha hb e1 q)
  | none =>
    simp only [e1, Option.none_or] at e
    exact .inr (h' G B H t x y a b z Q w ha hb e q)
end
def lft (o : Option Sl) : M Tk := fun r t => match o with
  | some z => .ok (.v z) r t
  | none => .st
def mOp (f : Sl → Sl → Option Sl) (ma mb : M Tk) : M Tk := ma.bind fun a => mb.bind fun b => (use a).bind fun x => (use b).bind fun y => lft (f x y)
theorem rf_op {K : PySem.W.Frag} {c : Cd} {r : R2} {f : Sl → Sl → Option Sl} {ta tb : TE} {ma mb : M Tk} (ho : OpD K r f) (ha : RfE K c ta ma) (hb : RfE K c tb mb) : RfE K c (tOp r ta tb) (mOp f ma mb) := by
  intro G B H σ rr t Q XP w s hx p
  unfold mOp at p
  rw [post_bind] at p
  refine ha G B H σ rr t _ XP w s hx (post_mono p fun a r1 t1 p => fun v1 B1 H1 l1 w1 s1 v1a => ?_)
  rw [post_bind] at p
  refine hb G B1 H1 σ r1 t1 _ XP w1 s1 (hx.mono l1) (post_mono p fun b r2 t2 p => fun v2 B2 H2 l2 w2 s2 v2b => ?_)
  rw [post_bind] at p
  obtain ⟨x, bx, p⟩ := use_ok s2 (v1a.mono l2) p
  rw [post_bind] at p
  obtain ⟨y, by_, p⟩ := use_ok s2 v2b p
  obtain ⟨G', w', gg, _, back⟩ := Sls.push w2 s2
  cases e : f x y with
  | none => rw [e] at p; exact p.elim
  | some z =>
    rw [e] at p
    refine ho G' B2 H2 t2 v1 v2 x y z Q w' bx by_ e fun v B' H' l w3 sv => ?_
    obtain ⟨w4, s4⟩ := back B' H' t2 l w3
    exact p v B' H' ((l1.trans l2).trans l) w4 s4 sv

/-! the operators -/
def addF : Sl → Sl → Option Sl
  | .d (.int i), .d (.int j) => some (.d (.int (i + j)))
  | .d (.str i), .d (.str j) => if i.length + j.length ≤ 16777216 then some (.d (.str (i ++ j))) else none
  | .d (.list xs), .d (.list ys) => if xs.length + ys.length ≤ 16777216 then some (.d (.list (xs ++ ys))) else none
  | .d (.tuple xs), .d (.tuple ys) => if xs.length + ys.length ≤ 16777216 then some (.d (.tuple (xs ++ ys))) else none
  | _, _ => none
theorem size_ok {n : Nat} (h : n ≤ 16777216) : n ≤ sizeLine := by rw [sizeLine_eq]; exact h
theorem size_lt {n : Nat} (h : n < 16777216) : n < sizeLine := by rw [sizeLine_eq]; exact h
def rAddS : R2 := fun x y H Q => ∃ i j, x = .str i ∧ y = .str j ∧ i.length + j.length ≤ sizeLine ∧ Q (.str (i ++ j)) H
def rAddA (K : PySem.W.Frag) : R2 := fun x y H Q => ((rI0 fun i j => .int (i + j)) x y H Q ∨ rAddS x y H Q) ∨ (rCat x y H Q ∨ rCatA K x y H Q)
theorem op_addA {X : Cx} : OpR X (binaryOp .Add) (rAddA X.K) := OpR.or (OpR.or op_add op_add_str) (OpR.or op_cat op_catA)
section
variable {K : PySem.W.Frag} {G : Hp} {B : Bs} {H : Hp} {t : Option Deal}
/-- a new list, frozen at once, reaches Q -/
theorem new_list {p : Addr} {vs : List V} {ds : List PyData} {Q : VK} (w : Wd G B H t) (h : H p = none) (r : DqAll K B.H vs ds) (q : ∀ (v : V) (B' : Bs) (H' : Hp), B.le B' → Wd G B' H' t → Sv K B' v (.d (.list ds)) → Q v H') : Q (.ref p) (upd H p (.lst vs)) :=
  q _ (B.add p (.lst vs)) _ (Bs.le_add (w.nb h)) (w.new h) (Dq.lst (show upd B.H p (.lst vs) p = _ from upd_same) (dpa_mono (Bs.le_add (o := .lst vs) (w.nb h)).h r))
theorem new_tup {p : Addr} {vs : List V} {ds : List PyData} {Q : VK} (w : Wd G B H t) (h : H p = none) (r : DqAll K B.H vs ds) (q : ∀ (v : V) (B' : Bs) (H' : Hp), B.le B' → Wd G B' H' t → Sv K B' v (.d (.tuple ds)) → Q v H') : Q (.ref p) (upd H p (.tup vs)) :=
  q _ (B.add p (.tup vs)) _ (Bs.le_add (w.nb h)) (w.new h) (Dq.tup (SqT.of (show upd B.H p (.tup vs) p = _ from upd_same)) (dpa_mono (Bs.le_add (o := .tup vs) (w.nb h)).h r))
theorem dq_nil {vs : List V} {ds : List PyData} (r : DqAll K H vs ds) : vs = [] ↔ ds = [] := by
  have e := r.len
  constructor
  · rintro rfl; exact List.eq_nil_of_length_eq_zero e.symm
  · rintro rfl; exact List.eq_nil_of_length_eq_zero e
theorem opd_add : OpD K (rAddA K) addF := by
  intro G B H t x y a b z Q w ha hb e q
  unfold addF at e
  split at e
  · cases e
    cases ha.int; cases hb.int
    exact .inl (.inl ⟨_, _, rfl, rfl, q _ B H (Bs.le.refl B) w (.int _)⟩)
  · split at e
    · rename_i hz
      cases e
      cases ha.str; cases hb.str
      exact .inl (.inr ⟨_, _, rfl, rfl, size_ok hz, q _ B H (Bs.le.refl B) w (.str _)⟩)
    · cases e
  · split at e
    · rename_i xs ys hz
      cases e
      obtain ⟨p1, vs1, rfl, h1, r1⟩ := ha.lst w
      obtain ⟨p2, vs2, rfl, h2, r2⟩ := hb.lst w
      exact .inr (.inl ⟨p1, p2, vs1, vs2, rfl, rfl, h1, h2, size_ok (by rw [r1.len, r2.len]; exact hz), fun p np => new_list w np (r1.app r2) q⟩)
    · cases e
  · split at e
    · rename_i xs ys hz
      cases e
      obtain ⟨p1, vs1, rfl, h1, r1⟩ := ha.tup
      obtain ⟨p2, vs2, rfl, h2, r2⟩ := hb.tup
      refine .inr (.inr ⟨p1, p2, vs1, vs2, rfl, rfl, sqt_mono w.sub h1, sqt_mono w.sub h2, size_ok (by rw [r1.len, r2.len]; exact hz), fun n1 => ?_, fun n1 n2 => ?_, fun n1 n2 p np => new_tup w np (r1.app r2) q⟩)
      · have n := (dq_nil r1).mp n1
        subst n
        exact q _ B H (Bs.le.refl B) w (Dq.tup h2 r2)
      · have n := (dq_nil r2).mp n2
        subst n
        rw [List.append_nil] at q
        exact q _ B H (Bs.le.refl B) w (Dq.tup h1 r1)
    · cases e
  · cases e
def subF : Sl → Sl → Option Sl
  | .d (.int i), .d (.int j) => some (.d (.int (i - j)))
  | _, _ => none
theorem opd_sub : OpD K (rI0 fun i j => .int (i - j)) subF := by
  intro G B H t x y a b z Q w ha hb e q
  unfold subF at e
  split at e
  · cases e
    cases ha.int; cases hb.int
    exact ⟨_, _, rfl, rfl, q _ B H (Bs.le.refl B) w (.int _)⟩
  · cases e
/-- sizes of factors -/
def mulF : Sl → Sl → Option Sl
  | .d (.int i), .d (.int j) => if i.natAbs.log2 + j.natAbs.log2 < 1000000 then some (.d (.int (i * j))) else none
  | .d (.list xs), .d (.int k) => if k ≤ 1000000 ∧ -1000000 ≤ k ∧ xs.length * k.toNat ≤ 16777216 then some (.d (.list (List.replicate k.toNat xs).flatten)) else none
  | .d (.tuple xs), .d (.int k) => if 1 ≤ k ∧ k ≤ 100000 ∧ xs.length * k.toNat ≤ 1000000 ∧ xs ≠ [] then some (.d (.tuple (List.replicate k.toNat xs).flatten)) else none
  | _, _ => none
def rMulA (K : PySem.W.Frag) : R2 := fun x y H Q => (rI CMulW fun i j => .int (i * j)) x y H Q ∨ (rRep x y H Q ∨ rRepT2 K x y H Q)
theorem op_mulA {X : Cx} : OpR X (binaryOp .Mult) (rMulA X.K) := OpR.or op_mulW (OpR.or op_rep op_repT2)
theorem dq_rep {vs : List V} {ds : List PyData} (r : DqAll K H vs ds) : ∀ n : Nat, DqAll K H (List.replicate n vs).flatten (List.replicate n ds).flatten
  | 0 => .nil
  | n + 1 => by
    rw [List.replicate_succ, List.replicate_succ, List.flatten_cons, List.flatten_cons]
    exact r.app (dq_rep r n)
theorem opd_mul : OpD K (rMulA K) mulF := by
  intro G B H t x y a b z Q w ha hb e q
  unfold mulF at e
  split at e
  · split at e
    · rename_i hz
      cases e
      cases ha.int; cases hb.int
      exact .inl ⟨_, _, rfl, rfl, hz, q _ B H (Bs.le.refl B) w (.int _)⟩
    · cases e
  · split at e
    · rename_i xs k hz
      cases e
      obtain ⟨p1, vs1, rfl, h1, r1⟩ := ha.lst w
      cases hb.int
      exact .inr (.inl ⟨p1, k, vs1, rfl, rfl, h1, by omega, by omega, size_ok (by rw [r1.len]; exact hz.2.2), fun p np => new_list w np (dq_rep r1 _) q⟩)
    · cases e
  · split at e
    · rename_i xs k hz
      cases e
      obtain ⟨p1, vs1, rfl, h1, r1⟩ := ha.tup
      cases hb.int
      exact .inr (.inr ⟨p1, k, vs1, rfl, rfl, sqt_mono w.sub h1, fun n => hz.2.2.2 ((dq_nil r1).mp n), hz.1, hz.2.1, by rw [r1.len]; exact hz.2.2.1, fun k1 => by
        subst k1
        have e1 : (List.replicate (1 : Int).toNat xs).flatten = xs := by simp
        rw [e1] at q
        exact q _ B H (Bs.le.refl B) w (.tup h1 r1), fun _ p np => new_tup w np (dq_rep r1 _) q⟩)
    · cases e
  · cases e
def fdivF : Sl → Sl → Option Sl
  | .d (.int i), .d (.int j) => if 0 < j ∧ j.natAbs.log2 < 9000 then some (.d (.int (i / j))) else none
  | _, _ => none
theorem opd_fdiv : OpD K (rI CDivW fun i j => .int (i / j)) fdivF := by
  intro G B H t x y a b z Q w ha hb e q
  unfold fdivF at e
  split at e
  · split at e
    · rename_i hz
      cases e
      cases ha.int; cases hb.int
      exact ⟨_, _, rfl, rfl, hz, q _ B H (Bs.le.refl B) w (.int _)⟩
    · cases e
  · cases e
def modF : Sl → Sl → Option Sl
  | .d (.int i), .d (.int j) => if 0 < j then some (.d (.int (i % j))) else none
  | _, _ => none
theorem opd_mod : OpD K (rI (fun _ j => 0 < j) fun i j => .int (i % j)) modF := by
  intro G B H t x y a b z Q w ha hb e q
  unfold modF at e
  split at e
  · split at e
    · rename_i hz
      cases e
      cases ha.int; cases hb.int
      exact ⟨_, _, rfl, rfl, hz, q _ B H (Bs.le.refl B) w (.int _)⟩
    · cases e
  · cases e
def powF : Sl → Sl → Option Sl
  | .d (.int i), .d (.int j) => if 0 ≤ j ∧ j ≤ 1000000 ∧ i.natAbs < 2 ^ 64 then some (.d (.int (i ^ j.toNat))) else none
  | _, _ => none
theorem opd_pow : OpD K (rI CPow fun i j => .int (i ^ j.toNat)) powF := by
  intro G B H t x y a b z Q w ha hb e q
  unfold powF at e
  split at e
  · split at e
    · rename_i hz
      cases e
      cases ha.int; cases hb.int
      exact ⟨_, _, rfl, rfl, hz, q _ B H (Bs.le.refl B) w (.int _)⟩
    · cases e
  · cases e
/-! comparisons -/
def ltF : Sl → Sl → Option Sl
  | .d (.int i), .d (.int j) => some (.d (.bool (decide (i < j))))
  | .d (.str i), .d (.str j) => some (.d (.bool (decide (i.cps.toList < j.cps.toList))))
  | _, _ => none
def rLtA : R2 := fun x y H Q => (rI0 fun i j => .bl (decide (i < j))) x y H Q ∨ (fun x y H (Q : VK) => ∃ i j, x = V.str i ∧ y = V.str j ∧ Q (.bl (decide (i.cps.toList < j.cps.toList))) H) x y H Q
theorem op_ltA {X : Cx} : OpR X (compareOp .Lt) rLtA := OpR.or op_lt op_lt_str
theorem opd_lt : OpD K rLtA ltF := by
  intro G B H t x y a b z Q w ha hb e q
  unfold ltF at e
  split at e
  · cases e
    cases ha.int; cases hb.int
    exact .inl ⟨_, _, rfl, rfl, q _ B H (Bs.le.refl B) w (.bl _)⟩
  · cases e
    cases ha.str; cases hb.str
    exact .inr ⟨_, _, rfl, rfl, q _ B H (Bs.le.refl B) w (.bl _)⟩
  · cases e
def cmpF (f : Int → Int → Bool) : Sl → Sl → Option Sl
  | .d (.int i), .d (.int j) => some (.d (.bool (f i j)))
  | _, _ => none
theorem opd_cmp {f : Int → Int → Bool} : OpD K (rI0 fun i j => .bl (f i j)) (cmpF f) := by
  intro G B H t x y a b z Q w ha hb e q
  unfold cmpF at e
  split at e
  · cases e
    cases ha.int; cases hb.int
    exact ⟨_, _, rfl, rfl, q _ B H (Bs.le.refl B) w (.bl _)⟩
  · cases e
/-- the scalars that == tells apart as data does -/
def scalD : PyData → PyData → Bool
  | .none, .none => true | .none, .int _ => true | .int _, .none => true | .none, .bool _ => true | .bool _, .none => true | .none, .str _ => true | .str _, .none => true
  | .int _, .int _ => true | .bool _, .bool _ => true | .str _, .str _ => true
  | .int _, .str _ => true | .str _, .int _ => true | .bool _, .str _ => true | .str _, .bool _ => true
  | _, _ => false
def eqOk (x y : PyData) : Bool := scalD x y || (SeqAt.shaped x && SeqAt.shaped y)
def eqF : Sl → Sl → Option Sl
  | .d x, .d y => if eqOk x y then some (.d (.bool (PyData.eqv x y))) else none
  | _, _ => none
def neF : Sl → Sl → Option Sl
  | .d x, .d y => if eqOk x y then some (.d (.bool (!PyData.eqv x y))) else none
  | _, _ => none
def rEqA (K : PySem.W.Frag) : R2 := fun x y H Q => rEq x y H Q ∨ rEqD K x y H Q
def rNeA (K : PySem.W.Frag) : R2 := fun x y H Q => rNe x y H Q ∨ rNeD K x y H Q
theorem op_eqA {X : Cx} (hu : X.A.units + 64 < cLine) : OpR X (compareOp .Eq) (rEqA X.K) := OpR.or op_eq (op_eqD hu)
theorem op_neA {X : Cx} (hu : X.A.units + 64 < cLine) : OpR X (compareOp .NotEq) (rNeA X.K) := OpR.or op_ne (op_neD hu)
theorem scal_eq {x y : V} {a b : PyData} (h : scalD a b = true) (ha : Dp K H x a) (hb : Dp K H y b) : scal x y = true ∧ decide (x = y) = PyData.eqv a b := by
  cases ha <;> cases hb <;> first | (cases h; done) | (refine ⟨rfl, ?_⟩; simp [PyData.eqv, Bool.beq_eq_decide_eq]; done) | exact ⟨rfl, by first | rfl | (rw [PyData.eqv]; simp) | decide⟩
theorem opd_eq : OpD K (rEqA K) eqF := by
  intro G B H t x y a b z Q w ha hb e q
  unfold eqF at e
  split at e
  · split at e
    · rename_i a b hz
      cases e
      have da := ha.dp w
      have db := hb.dp w
      unfold eqOk at hz
      rw [Bool.or_eq_true] at hz
      rcases hz with hz | hz
      · obtain ⟨s1, s2⟩ := scal_eq hz da db
        exact .inl ⟨s1, by rw [s2]; exact q _ B H (Bs.le.refl B) w (.bl _)⟩
      · rw [Bool.and_eq_true] at hz
        exact .inr ⟨_, _, da, db, hz.1, hz.2, q _ B H (Bs.le.refl B) w (.bl _)⟩
    · cases e
  · cases e
theorem opd_ne : OpD K (rNeA K) neF := by
  intro G B H t x y a b z Q w ha hb e q
  unfold neF at e
  split at e
  · split at e
    · rename_i a b hz
      cases e
      have da := ha.dp w
      have db := hb.dp w
      unfold eqOk at hz
      rw [Bool.or_eq_true] at hz
      rcases hz with hz | hz
      · obtain ⟨s1, s2⟩ := scal_eq hz da db
        exact .inl ⟨s1, by rw [s2]; exact q _ B H (Bs.le.refl B) w (.bl _)⟩
      · rw [Bool.and_eq_true] at hz
        exact .inr ⟨_, _, da, db, hz.1, hz.2, q _ B H (Bs.le.refl B) w (.bl _)⟩
    · cases e
  · cases e
end
end DL
end
section
set_option maxRecDepth 100000
set_option maxHeartbeats 4000000
namespace DL
open PySem PySem.Spec PyProof.Rows L2

/-! ### 5. in, is; subscripts -/
def flatD : PyData → Bool
  | .none => true | .bool _ => true | .int _ => true | .str _ => true | _ => false
def inD (x : PyData) (ds : List PyData) : Bool := ds.any fun y => PyData.eqv y x
theorem flat_v {K : PySem.W.Frag} {H : Hp} {v : V} {x : PyData} (h : Dq K H v x) (f : flatD x = true) : flatV v = true := by
  cases h <;> first | rfl | cases f
theorem flat_all {K : PySem.W.Frag} {H : Hp} : ∀ {vs : List V} {xs : List PyData}, DqAll K H vs xs → xs.all flatD = true → vs.all flatV = true
  | _, _, .nil, _ => rfl
  | _, _, .cons h r, f => by
    rw [List.all_cons, Bool.and_eq_true] at f ⊢
    exact ⟨flat_v h f.1, flat_all r f.2⟩
theorem eqv_flat {K : PySem.W.Frag} {H : Hp} {v u : V} {x y : PyData} (h : Dq K H v x) (k : Dq K H u y) (f : flatD x = true) (g : flatD y = true) : eqV v u = PyData.eqv x y := by
  cases h <;> first | (cases f; done) | (cases k <;> first | (cases g; done) | rfl | (simp [eqV, PyData.eqv]; done))
theorem any_flat {K : PySem.W.Frag} {H : Hp} {u : V} {y : PyData} (k : Dq K H u y) (g : flatD y = true) : ∀ {vs : List V} {xs : List PyData}, DqAll K H vs xs → xs.all flatD = true → inV u vs = inD y xs
  | _, _, .nil, _ => rfl
  | _, _, .cons h r, f => by
    rw [List.all_cons, Bool.and_eq_true] at f
    have e := any_flat k g r f.2
    unfold inV at e
    unfold inD at e
    unfold inV inD
    rw [List.any_cons, List.any_cons, e, eqv_flat h k f.1 g]
/-- the one sign of a text of one sign -/
def signOf (x : Str) : Option Nat := match x.cps.toList with
  | [c] => some c
  | _ => none
theorem signOf_ok {x : Str} {c : Nat} (h : signOf x = some c) : x = ⟨#[c]⟩ := by
  obtain ⟨cps⟩ := x
  unfold signOf at h
  split at h
  · rename_i c' hc
    cases h
    have hc : cps.toList = [c] := hc
    have : cps = #[c] := by rw [← Array.toArray_toList (xs := cps), hc]
    rw [this]
  · cases h
def inF (neg : Bool) : Sl → Sl → Option Sl
  | .d x, .d (.list ds) => if flatD x && ds.all flatD then some (.d (.bool (if neg then !inD x ds else inD x ds))) else none
  | .d x, .d (.tuple ds) => if flatD x && ds.all flatD then some (.d (.bool (if neg then !inD x ds else inD x ds))) else none
  | .d (.str x), .d (.str z) => (signOf x).map fun c => .d (.bool (if neg then !decide (c ∈ z.cps.toList) else decide (c ∈ z.cps.toList)))
  | _, _ => none
def rInSign (neg : Bool) : R2 := fun x y H Q => ∃ (c : Nat) (z : Str), x = .str ⟨#[c]⟩ ∧ y = .str z ∧ Q (.bl (if neg then !decide (c ∈ z.cps.toList) else decide (c ∈ z.cps.toList))) H
def rInA (K : PySem.W.Frag) (neg : Bool) : R2 := fun x y H Q => rIn K neg x y H Q ∨ rInSign neg x y H Q
theorem op_inA {X : Cx} : OpR X (compareOp .In) (rInA X.K false) := OpR.or op_in_seq op_in_sign
theorem op_notInA {X : Cx} : OpR X (compareOp .NotIn) (rInA X.K true) := OpR.or op_notIn_seq op_notIn_sign
section
variable {K : PySem.W.Frag} {G : Hp} {B : Bs} {H : Hp} {t : Option Deal}
theorem Bw.flat {v : V} {x : PyData} (h : Bw K B H v (.d x)) (f : flatD x = true) : Dq K B.H v x := by
  rcases h with h | ⟨_, _, _, _, e, _⟩
  · exact h
  · cases e; cases f
theorem opd_in {neg : Bool} : OpD K (rInA K neg) (inF neg) := by
  intro G B H t x y a b z Q w ha hb e q
  unfold inF at e
  split at e
  · split at e
    · rename_i x' ds hz
      cases e
      rw [Bool.and_eq_true] at hz
      have hx := ha.flat hz.1
      obtain ⟨p, vs, rfl, h1, r1⟩ := hb.lst w
      exact .inl ⟨p, vs, rfl, .inl (SqL.of h1), flat_v hx hz.1, flat_all r1 hz.2, by rw [any_flat hx hz.1 r1 hz.2]; exact q _ B H (Bs.le.refl B) w (.bl _)⟩
    · cases e
  · split at e
    · rename_i x' ds hz
      cases e
      rw [Bool.and_eq_true] at hz
      have hx := ha.flat hz.1
      obtain ⟨p, vs, rfl, h1, r1⟩ := hb.tup
      exact .inl ⟨p, vs, rfl, .inr (sqt_mono w.sub h1), flat_v hx hz.1, flat_all r1 hz.2, by rw [any_flat hx hz.1 r1 hz.2]; exact q _ B H (Bs.le.refl B) w (.bl _)⟩
    · cases e
  · rename_i xx zz
    cases hc : signOf xx with
    | none => rw [hc] at e; cases e
    | some c =>
      rw [hc] at e
      cases e
      cases ha.str; cases hb.str
      cases signOf_ok hc
      exact .inr ⟨c, zz, rfl, rfl, q _ B H (Bs.le.refl B) w (.bl _)⟩
  · cases e
/-! is, of None, True, False -/
def isNoneD : PyData → Bool
  | .none => true | _ => false
def isBoolD (b : Bool) : PyData → Bool
  | .bool a => a == b | _ => false
def isF (neg : Bool) : Sl → Sl → Option Sl
  | .d x, .d .none => some (.d (.bool (xor neg (isNoneD x))))
  | .d x, .d (.bool b) => some (.d (.bool (xor neg (isBoolD b x))))
  | _, _ => none
def bIs : V → Bool → Bool
  | .bl a, b => a == b
  | _, _ => false
def rIsA (neg : Bool) : R2 := fun x y H Q => (y = .non ∧ Q (.bl (xor neg (decide (x = .non)))) H) ∨ ∃ b, y = .bl b ∧ (match x with | .ty _ => False | .flt _ => False | .byt _ => False | _ => True) ∧ Q (.bl (xor neg (bIs x b))) H
theorem op_isA {X : Cx} : OpR X (compareOp .Is) (rIsA false) := by
  intro pins s σ H x y v u Q I rx ry h
  rcases h with ⟨e, q⟩ | ⟨b, e, hx, q⟩
  · exact op_isN pins s σ H x y v u Q I rx ry ⟨e, by simpa using q⟩
  · subst e
    cases (show u = Value.bool b from ry)
    have q' : Q (.bl (bIs x b)) H := by simpa using q
    cases x with
    | non => cases rx; exact wpAny_pure ⟨.bl _, H, I, rfl, q'⟩
    | bl a =>
      cases (show v = Value.bool a from rx)
      exact PyProof.Rows.is_bool (by exact ⟨.bl _, H, I, rfl, q'⟩)
    | int i => obtain ⟨t, rfl⟩ := rx; exact wpAny_pure ⟨.bl _, H, I, rfl, q'⟩
    | str i => obtain ⟨t, rfl⟩ := rx; exact wpAny_pure ⟨.bl _, H, I, rfl, q'⟩
    | ref a => cases rx; exact wpAny_pure ⟨.bl _, H, I, rfl, q'⟩
    | ty _ => exact hx.elim
    | flt _ => exact hx.elim
    | byt _ => exact hx.elim
theorem op_isNotA {X : Cx} : OpR X (compareOp .IsNot) (rIsA true) := by
  intro pins s σ H x y v u Q I rx ry h
  rcases h with ⟨e, q⟩ | ⟨b, e, hx, q⟩
  · exact op_notN pins s σ H x y v u Q I rx ry ⟨e, by simpa using q⟩
  · subst e
    cases (show u = Value.bool b from ry)
    have q' : Q (.bl (!bIs x b)) H := by simpa using q
    cases x with
    | non => cases rx; exact wpAny_pure ⟨.bl _, H, I, rfl, q'⟩
    | bl a =>
      cases (show v = Value.bool a from rx)
      refine PyProof.Rows.isnot_bool ⟨.bl _, H, I, ?_, q'⟩
      show _ = _
      cases a <;> cases b <;> rfl
    | int i => obtain ⟨t, rfl⟩ := rx; exact wpAny_pure ⟨.bl _, H, I, rfl, q'⟩
    | str i => obtain ⟨t, rfl⟩ := rx; exact wpAny_pure ⟨.bl _, H, I, rfl, q'⟩
    | ref a => cases rx; exact wpAny_pure ⟨.bl _, H, I, rfl, q'⟩
    | ty _ => exact hx.elim
    | flt _ => exact hx.elim
    | byt _ => exact hx.elim
theorem opd_is {neg : Bool} : OpD K (rIsA neg) (isF neg) := by
  intro G B H t x y a b z Q w ha hb e q
  unfold isF at e
  split at e
  · rename_i xd
    cases e
    cases hb.non
    refine .inl ⟨rfl, ?_⟩
    have ee : decide (x = .non) = isNoneD xd := by
      have d := ha.dp w
      cases d <;> rfl
    rw [ee]
    exact q _ B H (Bs.le.refl B) w (.bl _)
  · rename_i xd bb
    cases e
    cases hb.bl
    have d := ha.dp w
    refine .inr ⟨bb, rfl, by cases d <;> exact True.intro, ?_⟩
    have ee : bIs x bb = isBoolD bb xd := by
      cases d <;> rfl
    rw [ee]
    exact q _ B H (Bs.le.refl B) w (.bl _)
  · cases e
/-! x[i] -/
def atF : Sl → Sl → Option Sl
  | .d (.list ds), .d (.int i) => (atI ds i).map .d
  | .d (.tuple ds), .d (.int i) => (atI ds i).map .d
  | .d (.str z), .d (.int i) => if z.length ≤ 16777216 then (atI z.cps.toList i).map fun c => .d (.str ⟨#[c]⟩) else none
  | _, _ => none
def rAtA (K : PySem.W.Frag) : R2 := fun x y H Q => rIxL K x y H Q ∨ (rIxT K x y H Q ∨ rIxS x y H Q)
theorem IxR.or {X : Cx} {r r' : R2} (h : IxR X r) (h' : IxR X r') : IxR X (fun x y H Q => r x y H Q ∨ r' x y H Q) := fun value slice pins s σ H x y v u Q I rx ry q hs => by
  rcases q with q | q
  · exact h value slice pins s σ H x y v u Q I rx ry q hs
  · exact h' value slice pins s σ H x y v u Q I rx ry q hs
theorem ix_A {X : Cx} : IxR X (rAtA X.K) := IxR.or ix_list (IxR.or ix_tup ix_str)
theorem atI_dq {vs : List V} {ds : List PyData} {i : Int} {d : PyData} (r : DqAll K H vs ds) (h : atI ds i = some d) : ∃ v, atI vs i = some v ∧ Dq K H v d := by
  unfold atI at h ⊢
  rw [r.len]
  cases e : ixN ds.length i with
  | none => rw [e] at h; cases h
  | some j =>
    rw [e, Option.bind_some] at h
    obtain ⟨v, h1, h2⟩ := r.get h
    exact ⟨v, h1, h2⟩
theorem opd_at : OpD K (rAtA K) atF := by
  intro G B H t x y a b z Q w ha hb e q
  unfold atF at e
  split at e
  · rename_i ds i
    cases h : atI ds i with
    | none => rw [h] at e; cases e
    | some d =>
      rw [h] at e
      cases e
      obtain ⟨p, vs, rfl, h1, r1⟩ := ha.lst w
      cases hb.int
      obtain ⟨v, e1, e2⟩ := atI_dq r1 h
      exact .inl ⟨p, vs, i, v, rfl, rfl, SqL.of h1, e1, q v B H (Bs.le.refl B) w e2⟩
  · rename_i ds i
    cases h : atI ds i with
    | none => rw [h] at e; cases e
    | some d =>
      rw [h] at e
      cases e
      obtain ⟨p, vs, rfl, h1, r1⟩ := ha.tup
      cases hb.int
      obtain ⟨v, e1, e2⟩ := atI_dq r1 h
      exact .inr (.inl ⟨p, vs, i, v, rfl, rfl, sqt_mono w.sub h1, e1, q v B H (Bs.le.refl B) w e2⟩)
  · split at e
    · rename_i zz i hz
      cases h : atI zz.cps.toList i with
      | none => rw [h] at e; cases e
      | some d =>
        rw [h] at e
        cases e
        cases ha.str; cases hb.int
        exact .inr (.inr ⟨zz, i, d, rfl, rfl, size_ok hz, h, q _ B H (Bs.le.refl B) w (.str _)⟩)
    · cases e
  · cases e
end

/-! ### 6. Expressions over the text -/
section
variable {X : Cx} {c : Cd} {a b e : Expr} {ma mb me : M Tk} {ta tb te : TE} {pos : Pos}
theorem pd_op {op : Operator} {r : R2} {f : Sl → Sl → Option Sl} (ho : OpR X (binaryOp op) r) (hd : OpD X.K r f) (ha : PED X c a ta ma) (hb : PED X c b tb mb) : PED X c (.BinOp a op b pos) (tOp r ta tb) (mOp f ma mb) := by
  obtain ⟨h1, k1⟩ := ha
  obtain ⟨h2, k2⟩ := hb
  exact ⟨pe_op ho h1 h2, rf_op hd k1 k2⟩
theorem pd_add (ha : PED X c a ta ma) (hb : PED X c b tb mb) : PED X c (.BinOp a .Add b pos) (tOp (rAddA X.K) ta tb) (mOp addF ma mb) := pd_op op_addA opd_add ha hb
theorem pd_sub (ha : PED X c a ta ma) (hb : PED X c b tb mb) : PED X c (.BinOp a .Sub b pos) (tOp (rI0 fun i j => .int (i - j)) ta tb) (mOp subF ma mb) := pd_op op_sub opd_sub ha hb
theorem pd_mul (ha : PED X c a ta ma) (hb : PED X c b tb mb) : PED X c (.BinOp a .Mult b pos) (tOp (rMulA X.K) ta tb) (mOp mulF ma mb) := pd_op op_mulA opd_mul ha hb
theorem pd_fdiv (ha : PED X c a ta ma) (hb : PED X c b tb mb) : PED X c (.BinOp a .FloorDiv b pos) (tOp (rI CDivW fun i j => .int (i / j)) ta tb) (mOp fdivF ma mb) := pd_op op_fdivW opd_fdiv ha hb
theorem pd_mod (ha : PED X c a ta ma) (hb : PED X c b tb mb) : PED X c (.BinOp a .Mod b pos) (tOp (rI (fun _ j => 0 < j) fun i j => .int (i % j)) ta tb) (mOp modF ma mb) := pd_op op_mod opd_mod ha hb
theorem pd_pow (ha : PED X c a ta ma) (hb : PED X c b tb mb) : PED X c (.BinOp a .Pow b pos) (tOp (rI CPow fun i j => .int (i ^ j.toNat)) ta tb) (mOp powF ma mb) := pd_op op_pow opd_pow ha hb
theorem pd_cmp {op : CmpOp} {r : R2} {f : Sl → Sl → Option Sl} (ho : OpR X (compareOp op) r) (hd : OpD X.K r f) (ha : PED X c a ta ma) (hb : PED X c b tb mb) (hm : behindInMarks op b = false) : PED X c (.Compare a [op] [b] pos) (tOp r ta tb) (mOp f ma mb) := by
  obtain ⟨h1, k1⟩ := ha
  obtain ⟨h2, k2⟩ := hb
  exact ⟨pe_cmpR ho h1 h2 hm, rf_op hd k1 k2⟩
theorem pd_lt (ha : PED X c a ta ma) (hb : PED X c b tb mb) : PED X c (.Compare a [.Lt] [b] pos) (tOp rLtA ta tb) (mOp ltF ma mb) := pd_cmp op_ltA opd_lt ha hb (nomark _)
abbrev leF := cmpF fun i j => decide (i ≤ j)
abbrev gtF := cmpF fun i j => decide (j < i)
abbrev geF := cmpF fun i j => decide (j ≤ i)
theorem pd_le (ha : PED X c a ta ma) (hb : PED X c b tb mb) : PED X c (.Compare a [.LtE] [b] pos) (tOp (rI0 fun i j => .bl (decide (i ≤ j))) ta tb) (mOp leF ma mb) := pd_cmp op_le opd_cmp ha hb (nomark _)
theorem pd_gt (ha : PED X c a ta ma) (hb : PED X c b tb mb) : PED X c (.Compare a [.Gt] [b] pos) (tOp (rI0 fun i j => .bl (decide (j < i))) ta tb) (mOp gtF ma mb) := pd_cmp op_gt opd_cmp ha hb (nomark _)
theorem pd_ge (ha : PED X c a ta ma) (hb : PED X c b tb mb) : PED X c (.Compare a [.GtE] [b] pos) (tOp (rI0 fun i j => .bl (decide (j ≤ i))) ta tb) (mOp geF ma mb) := pd_cmp op_ge opd_cmp ha hb (nomark _)
theorem pd_eq (hu : X.A.units + 64 < cLine) (ha : PED X c a ta ma) (hb : PED X c b tb mb) : PED X c (.Compare a [.Eq] [b] pos) (tOp (rEqA X.K) ta tb) (mOp eqF ma mb) := pd_cmp (op_eqA hu) opd_eq ha hb (nomark _)
theorem pd_ne (hu : X.A.units + 64 < cLine) (ha : PED X c a ta ma) (hb : PED X c b tb mb) : PED X c (.Compare a [.NotEq] [b] pos) (tOp (rNeA X.K) ta tb) (mOp neF ma mb) := pd_cmp (op_neA hu) opd_ne ha hb (nomark _)
theorem pd_in (ha : PED X c a ta ma) (hb : PED X c b tb mb) (hm : behindInMarks .In b = false := by rfl) : PED X c (.Compare a [.In] [b] pos) (tOp (rInA X.K false) ta tb) (mOp (inF false) ma mb) := pd_cmp op_inA opd_in ha hb hm
theorem pd_notin (ha : PED X c a ta ma) (hb : PED X c b tb mb) (hm : behindInMarks .NotIn b = false := by rfl) : PED X c (.Compare a [.NotIn] [b] pos) (tOp (rInA X.K true) ta tb) (mOp (inF true) ma mb) := pd_cmp op_notInA opd_in ha hb hm
theorem pd_is (ha : PED X c a ta ma) (hb : PED X c b tb mb) : PED X c (.Compare a [.Is] [b] pos) (tOp (rIsA false) ta tb) (mOp (isF false) ma mb) := pd_cmp op_isA opd_is ha hb (nomark _)
theorem pd_isnot (ha : PED X c a ta ma) (hb : PED X c b tb mb) : PED X c (.Compare a [.IsNot] [b] pos) (tOp (rIsA true) ta tb) (mOp (isF true) ma mb) := pd_cmp op_isNotA opd_is ha hb (nomark _)
theorem pd_at (ha : PED X c a ta ma) (hb : PED X c b tb mb) (hs : PlainIx b := by exact fun _ _ => rfl) : PED X c (.Subscript a b pos) (tOp (rAtA X.K) ta tb) (mOp atF ma mb) := by
  obtain ⟨h1, k1⟩ := ha
  obtain ⟨h2, k2⟩ := hb
  exact ⟨pe_ix ix_A h1 h2 hs, rf_op opd_at k1 k2⟩
/-! a < b < c -/
def boolOf (k : Tk) : M Bool := fun r t => match k with
  | .v (.d (.bool b)) => .ok b r t
  | _ => .st
def mChain (f g : Sl → Sl → Option Sl) (ma mb mc : M Tk) : M Tk := ma.bind fun a => mb.bind fun b => (use a).bind fun x => (use b).bind fun y => (lft (f x y)).bind fun k => (boolOf k).bind fun k => if k then mc.bind fun z => (use b).bind fun y => (use z).bind fun z => lft (g y z) else M.ret (.v (.d (.bool false)))
theorem boolOf_ok {K : PySem.W.Frag} {ow : List Nat} {B : Bs} {σ : L2.St} {r : Rho} {t : Option Deal} {v : V} {k : Tk} {Q : Bool → Rho → Option Deal → Prop} {XP : XQ} (h : Tv K B ow σ v k) (p : (boolOf k r t).post Q XP) : ∃ b, v = .bl b ∧ Q b r t := by
  cases k with
  | o i => exact p.elim
  | v x =>
    cases x with
    | deal => exact p.elim
    | raw _ => exact p.elim
    | exc _ _ => exact p.elim
    | scr _ => exact p.elim
    | d x =>
      cases x with
      | bool b =>
        cases (show Dq K B.H v (.bool b) from h)
        exact ⟨b, rfl, p⟩
      | _ => exact p.elim
end
end DL
end
section
set_option maxRecDepth 100000
set_option maxHeartbeats 4000000
namespace DL
open PySem PySem.Spec PyProof.Rows L2

/-! ### 7. Chains, and | or | not, tests, conditional expressions -/
section
variable {X : Cx} {c : Cd} {a b e d : Expr} {ma mb me mc : M Tk} {ta tb te tc : TE} {tt tu : TT} {pos : Pos} {K : PySem.W.Frag}
theorem rf_chain {r r' : R2} {f g : Sl → Sl → Option Sl} (hr : OpD K r f) (hr' : OpD K r' g) (ha : RfE K c ta ma) (hb : RfE K c tb mb) (hc : RfE K c tc mc) : RfE K c (tChain r r' ta tb tc) (mChain f g ma mb mc) := by
  intro G B H σ rr t Q XP w s hx p
  unfold mChain at p
  rw [post_bind] at p
  refine ha G B H σ rr t _ XP w s hx (post_mono p fun a r1 t1 p => fun v1 B1 H1 l1 w1 s1 v1a => ?_)
  rw [post_bind] at p
  refine hb G B1 H1 σ r1 t1 _ XP w1 s1 (hx.mono l1) (post_mono p fun b r2 t2 p => fun v2 B2 H2 l2 w2 s2 v2b => ?_)
  rw [post_bind] at p
  obtain ⟨x, bx, p⟩ := use_ok s2 (v1a.mono l2) p
  rw [post_bind] at p
  obtain ⟨y, by_, p⟩ := use_ok s2 v2b p
  obtain ⟨G', w', gg, _, back⟩ := Sls.push w2 s2
  cases e : f x y with
  | none => rw [e] at p; exact p.elim
  | some z =>
    rw [e] at p
    refine hr G' B2 H2 t2 v1 v2 x y z _ w' bx by_ e fun v3 B3 H3 l3 w3 sv => ?_
    obtain ⟨w3, s3⟩ := back B3 H3 t2 l3 w3
    rw [post_bind] at p
    have p : ((boolOf (.v z)).bind _ r2 t2).post _ _ := p
    rw [post_bind] at p
    obtain ⟨k, ek, p⟩ := boolOf_ok (K := K) (B := B3) (ow := c.ow) (σ := σ) (v := v3) (k := .v z) sv p
    refine ⟨k, ek, ?_⟩
    cases k with
    | false =>
      rw [if_neg Bool.false_ne_true]
      exact p _ B3 H3 ((l1.trans l2).trans l3) w3 s3 (Dq.bl false)
    | true =>
      rw [if_pos rfl]
      have p : (mc.bind _ r2 t2).post _ _ := p
      rw [post_bind] at p
      refine hc G B3 H3 σ r2 t2 _ XP w3 s3 (hx.mono ((l1.trans l2).trans l3)) (post_mono p fun z4 r4 t4 p => fun v4 B4 H4 l4 w4 s4 v4z => ?_)
      rw [post_bind] at p
      obtain ⟨y', by', p⟩ := use_ok s4 (v2b.mono (l3.trans l4)) p
      rw [post_bind] at p
      obtain ⟨z', bz', p⟩ := use_ok s4 v4z p
      obtain ⟨G5, w5, _, _, back5⟩ := Sls.push w4 s4
      cases e5 : g y' z' with
      | none => rw [e5] at p; exact p.elim
      | some z5 =>
        rw [e5] at p
        refine hr' G5 B4 H4 t4 v2 v4 y' z' z5 Q w5 by' bz' e5 fun v6 B6 H6 l6 w6 sv6 => ?_
        obtain ⟨w7, s7⟩ := back5 B6 H6 t4 l6 w6
        exact p v6 B6 H6 ((((l1.trans l2).trans l3).trans l4).trans l6) w7 s7 sv6
theorem pd_chain {op op' : CmpOp} {r r' : R2} {f g : Sl → Sl → Option Sl} (ho : OpR X (compareOp op) r) (ho' : OpR X (compareOp op') r') (hd : OpD X.K r f) (hd' : OpD X.K r' g) (ha : PED X c a ta ma) (hb : PED X c b tb mb) (hc : PED X c d tc mc)
    (hp : ∀ {ta tb tc : TE}, PE X a ta → PE X b tb → PE X d tc → PE X (.Compare a [op, op'] [b, d] pos) (tChain r r' ta tb tc)) : PED X c (.Compare a [op, op'] [b, d] pos) (tChain r r' ta tb tc) (mChain f g ma mb mc) := by
  obtain ⟨h1, k1⟩ := ha
  obtain ⟨h2, k2⟩ := hb
  obtain ⟨h3, k3⟩ := hc
  exact ⟨hp h1 h2 h3, rf_chain hd hd' k1 k2 k3⟩
/-- a value as a test: a bool -/
def mT (m : M Tk) : M Bool := m.bind boolOf
theorem rf_T {te : TE} {m : M Tk} (h : RfE K c te m) : RfT K c (tTest te) (mT m) := by
  intro G B H σ rr t Q XP w s hx p
  unfold mT at p
  rw [post_bind] at p
  refine h G B H σ rr t _ XP w s hx (post_mono p fun a r1 t1 p => fun v1 B1 H1 l1 w1 s1 v1a => ?_)
  obtain ⟨k, ek, p⟩ := boolOf_ok v1a p
  exact ⟨k, ek, p B1 H1 l1 w1 s1⟩
theorem ptd_cmp {op : CmpOp} {r : R2} {f : Sl → Sl → Option Sl} (ho : OpR X (compareOp op) r) (hd : OpD X.K r f) (ha : PED X c a ta ma) (hb : PED X c b tb mb) (hm : behindInMarks op b = false) : PTD X c (.Compare a [op] [b] pos) (tTest (tOp r ta tb)) (mT (mOp f ma mb)) := by
  obtain ⟨h1, k1⟩ := ha
  obtain ⟨h2, k2⟩ := hb
  exact ⟨pt_cmpR ho h1 h2 hm, rf_T (rf_op hd k1 k2)⟩
theorem ptd_lt (ha : PED X c a ta ma) (hb : PED X c b tb mb) : PTD X c (.Compare a [.Lt] [b] pos) (tTest (tOp rLtA ta tb)) (mT (mOp ltF ma mb)) := ptd_cmp op_ltA opd_lt ha hb (nomark _)
theorem ptd_le (ha : PED X c a ta ma) (hb : PED X c b tb mb) : PTD X c (.Compare a [.LtE] [b] pos) (tTest (tOp (rI0 fun i j => .bl (decide (i ≤ j))) ta tb)) (mT (mOp leF ma mb)) := ptd_cmp op_le opd_cmp ha hb (nomark _)
theorem ptd_gt (ha : PED X c a ta ma) (hb : PED X c b tb mb) : PTD X c (.Compare a [.Gt] [b] pos) (tTest (tOp (rI0 fun i j => .bl (decide (j < i))) ta tb)) (mT (mOp gtF ma mb)) := ptd_cmp op_gt opd_cmp ha hb (nomark _)
theorem ptd_ge (ha : PED X c a ta ma) (hb : PED X c b tb mb) : PTD X c (.Compare a [.GtE] [b] pos) (tTest (tOp (rI0 fun i j => .bl (decide (j ≤ i))) ta tb)) (mT (mOp geF ma mb)) := ptd_cmp op_ge opd_cmp ha hb (nomark _)
theorem ptd_eq (hu : X.A.units + 64 < cLine) (ha : PED X c a ta ma) (hb : PED X c b tb mb) : PTD X c (.Compare a [.Eq] [b] pos) (tTest (tOp (rEqA X.K) ta tb)) (mT (mOp eqF ma mb)) := ptd_cmp (op_eqA hu) opd_eq ha hb (nomark _)
theorem ptd_ne (hu : X.A.units + 64 < cLine) (ha : PED X c a ta ma) (hb : PED X c b tb mb) : PTD X c (.Compare a [.NotEq] [b] pos) (tTest (tOp (rNeA X.K) ta tb)) (mT (mOp neF ma mb)) := ptd_cmp (op_neA hu) opd_ne ha hb (nomark _)
theorem ptd_in (ha : PED X c a ta ma) (hb : PED X c b tb mb) (hm : behindInMarks .In b = false := by rfl) : PTD X c (.Compare a [.In] [b] pos) (tTest (tOp (rInA X.K false) ta tb)) (mT (mOp (inF false) ma mb)) := ptd_cmp op_inA opd_in ha hb hm
theorem ptd_notin (ha : PED X c a ta ma) (hb : PED X c b tb mb) (hm : behindInMarks .NotIn b = false := by rfl) : PTD X c (.Compare a [.NotIn] [b] pos) (tTest (tOp (rInA X.K true) ta tb)) (mT (mOp (inF true) ma mb)) := ptd_cmp op_notInA opd_in ha hb hm
theorem ptd_is (ha : PED X c a ta ma) (hb : PED X c b tb mb) : PTD X c (.Compare a [.Is] [b] pos) (tTest (tOp (rIsA false) ta tb)) (mT (mOp (isF false) ma mb)) := ptd_cmp op_isA opd_is ha hb (nomark _)
theorem ptd_isnot (ha : PED X c a ta ma) (hb : PED X c b tb mb) : PTD X c (.Compare a [.IsNot] [b] pos) (tTest (tOp (rIsA true) ta tb)) (mT (mOp (isF true) ma mb)) := ptd_cmp op_isNotA opd_is ha hb (nomark _)
theorem ptd_chain {op op' : CmpOp} {r r' : R2} {f g : Sl → Sl → Option Sl} (hd : OpD X.K r f) (hd' : OpD X.K r' g) (ha : PED X c a ta ma) (hb : PED X c b tb mb) (hc : PED X c d tc mc)
    (hp : ∀ {ta tb tc : TE}, PE X a ta → PE X b tb → PE X d tc → PT X (.Compare a [op, op'] [b, d] pos) (tTest (tChain r r' ta tb tc))) : PTD X c (.Compare a [op, op'] [b, d] pos) (tTest (tChain r r' ta tb tc)) (mT (mChain f g ma mb mc)) := by
  obtain ⟨h1, k1⟩ := ha
  obtain ⟨h2, k2⟩ := hb
  obtain ⟨h3, k3⟩ := hc
  exact ⟨hp h1 h2 h3, rf_T (rf_chain hd hd' k1 k2 k3)⟩
def optM {α : Type} (o : Option α) : M α := fun r t => match o with
  | some a => .ok a r t
  | none => .st
theorem optM_ok {α : Type} {o : Option α} {r : Rho} {t : Option Deal} {Q : α → Rho → Option Deal → Prop} {XP : XQ} (p : (optM o r t).post Q XP) : ∃ a, o = some a ∧ Q a r t := by
  cases o with
  | none => exact p.elim
  | some a => exact ⟨a, rfl, p⟩
/-- a value's truth -/
def truD : PyData → Option Bool
  | .none => some false
  | .bool b => some b
  | .int i => some (i != 0)
  | .str z => if z.length ≤ 16777216 then some ((z.length : Int) != 0) else none
  | .list ds => some (!ds.isEmpty)
  | .tuple ds => some (!ds.isEmpty)
  | .dict _ => none
def truS : Sl → Option Bool
  | .d x => truD x
  | _ => none
def mTru (m : M Tk) : M Bool := m.bind fun k => (use k).bind fun x => optM (truS x)
theorem isE {vs : List V} {ds : List PyData} {H : Hp} (r : DqAll K H vs ds) : vs.isEmpty = ds.isEmpty := by
  cases r <;> rfl
theorem rf_tru {te : TE} {m : M Tk} (h : RfE K c te m) : RfT K c (fun σ H Q => te σ H fun x H' => ∃ k, TruV K x H' k ∧ Q k H') (mTru m) := by
  intro G B H σ rr t Q XP w s hx p
  unfold mTru at p
  rw [post_bind] at p
  refine h G B H σ rr t _ XP w s hx (post_mono p fun a r1 t1 p => fun v1 B1 H1 l1 w1 s1 v1a => ?_)
  rw [post_bind] at p
  obtain ⟨x, bx, p⟩ := use_ok s1 v1a p
  obtain ⟨b, ht, p⟩ := optM_ok p
  refine ⟨b, ?_, p B1 H1 l1 w1 s1⟩
  cases x with
  | deal => cases ht
  | raw _ => cases ht
  | exc _ _ => cases ht
  | scr _ => cases ht
  | d x =>
      have ht : truD x = some b := ht
      cases x with
      | none => cases bx.non; cases ht; rfl
      | bool y => cases bx.bl; cases ht; rfl
      | int y => cases bx.int; cases ht; rfl
      | str y =>
        cases bx.str
        have ht : (if y.length ≤ 16777216 then some ((y.length : Int) != 0) else none) = some b := ht
        by_cases hz : y.length ≤ 16777216
        · rw [if_pos hz] at ht
          cases ht
          exact ⟨size_ok hz, rfl⟩
        · rw [if_neg hz] at ht
          cases ht
      | list ds =>
        obtain ⟨p1, vs1, rfl, h1, r1⟩ := bx.lst w1
        cases ht
        exact .inl ⟨vs1, SqL.of h1, by rw [isE r1]⟩
      | tuple ds =>
        obtain ⟨p1, vs1, rfl, h1, r1⟩ := bx.tup
        cases ht
        exact .inr (.inl ⟨vs1, sqt_mono w1.sub h1, by rw [isE r1]⟩)
      | dict _ => cases ht
theorem ptd_tru (h : PED X c e te me) (he : ∀ whole, isTrue e X.env whole = (do let v ← whole; standAt e.pos; holding [v] (truthy v)) := by intro _; rfl) : PTD X c e (fun σ H Q => te σ H fun x H' => ∃ k, TruV X.K x H' k ∧ Q k H') (mTru me) := by
  obtain ⟨h1, k1⟩ := h
  exact ⟨pt_truth h1 he, rf_tru k1⟩
/-! and, or, not as tests -/
structure PWD (X : Cx) (c : Cd) (e : Expr) (tt : TT) (m : M Bool) : Prop where
  p : PW X e tt
  k : RfT X.K c tt m
def mAnd (m n : M Bool) : M Bool := m.bind fun b => if b then n else M.ret false
def mOr (m n : M Bool) : M Bool := m.bind fun b => if b then M.ret true else n
def mNot (m : M Bool) : M Bool := m.bind fun b => M.ret (!b)
variable {m n : M Bool} {rest : List Expr}
theorem rf_and (h1 : RfT K c tt m) (h2 : RfT K c tu n) : RfT K c (tAnd tt tu) (mAnd m n) := by
  intro G B H σ rr t Q XP w s hx p
  unfold mAnd at p
  rw [post_bind] at p
  refine h1 G B H σ rr t _ XP w s hx (post_mono p fun b r1 t1 p => fun B1 H1 l1 w1 s1 => ?_)
  cases b with
  | false => exact p B1 H1 l1 w1 s1
  | true => exact h2 G B1 H1 σ r1 t1 Q XP w1 s1 (hx.mono l1) (post_mono p fun b r2 t2 p => fun B2 H2 l2 w2 s2 => p B2 H2 (l1.trans l2) w2 s2)
theorem rf_or (h1 : RfT K c tt m) (h2 : RfT K c tu n) : RfT K c (tOr tt tu) (mOr m n) := by
  intro G B H σ rr t Q XP w s hx p
  unfold mOr at p
  rw [post_bind] at p
  refine h1 G B H σ rr t _ XP w s hx (post_mono p fun b r1 t1 p => fun B1 H1 l1 w1 s1 => ?_)
  cases b with
  | true => exact p B1 H1 l1 w1 s1
  | false => exact h2 G B1 H1 σ r1 t1 Q XP w1 s1 (hx.mono l1) (post_mono p fun b r2 t2 p => fun B2 H2 l2 w2 s2 => p B2 H2 (l1.trans l2) w2 s2)
theorem rf_not (h1 : RfT K c tt m) : RfT K c (tNot tt) (mNot m) := by
  intro G B H σ rr t Q XP w s hx p
  unfold mNot at p
  rw [post_bind] at p
  exact h1 G B H σ rr t _ XP w s hx (post_mono p fun b r1 t1 p => fun B1 H1 l1 w1 s1 => p B1 H1 l1 w1 s1)
theorem pwd_and1 (h : PTD X c a tt m) : PWD X c (.BoolOp .And [a] pos) tt m := by
  obtain ⟨h1, k1⟩ := h
  exact ⟨pw_and1 h1, k1⟩
theorem pwd_or1 (h : PTD X c a tt m) : PWD X c (.BoolOp .Or [a] pos) tt m := by
  obtain ⟨h1, k1⟩ := h
  exact ⟨pw_or1 h1, k1⟩
theorem pwd_and (h : PTD X c a tt m) (k : PWD X c (.BoolOp .And (b :: rest) pos) tu n) : PWD X c (.BoolOp .And (a :: b :: rest) pos) (tAnd tt tu) (mAnd m n) := by
  obtain ⟨h1, k1⟩ := h
  obtain ⟨h2, k2⟩ := k
  exact ⟨pw_and h1 h2, rf_and k1 k2⟩
theorem pwd_or (h : PTD X c a tt m) (k : PWD X c (.BoolOp .Or (b :: rest) pos) tu n) : PWD X c (.BoolOp .Or (a :: b :: rest) pos) (tOr tt tu) (mOr m n) := by
  obtain ⟨h1, k1⟩ := h
  obtain ⟨h2, k2⟩ := k
  exact ⟨pw_or h1 h2, rf_or k1 k2⟩
theorem ptd_w (h : PWD X c e tt m) : PTD X c e tt m := by
  obtain ⟨h1, k1⟩ := h
  exact ⟨h1.pt, k1⟩
theorem ptd_not (h : PTD X c a tt m) : PTD X c (.UnaryOp .Not a pos) (tNot tt) (mNot m) := by
  obtain ⟨h1, k1⟩ := h
  exact ⟨pt_not h1, rf_not k1⟩
/-! and, or, not as values: all but the last a bool -/
def mAndV (ma mb : M Tk) : M Tk := (mT ma).bind fun b => if b then mb else M.ret (.v (.d (.bool false)))
def mOrV (ma mb : M Tk) : M Tk := (mT ma).bind fun b => if b then M.ret (.v (.d (.bool true))) else mb
def mNotV (ma : M Tk) : M Tk := (mT ma).bind fun b => M.ret (.v (.d (.bool (!b))))
theorem rf_andV (h1 : RfE K c ta ma) (h2 : RfE K c tb mb) : RfE K c (tAndV ta tb) (mAndV ma mb) := by
  intro G B H σ rr t Q XP w s hx p
  unfold mAndV at p
  rw [post_bind] at p
  unfold mT at p
  rw [post_bind] at p
  refine h1 G B H σ rr t _ XP w s hx (post_mono p fun a r1 t1 p => fun v1 B1 H1 l1 w1 s1 v1a => ?_)
  obtain ⟨k, ek, p⟩ := boolOf_ok v1a p
  refine ⟨k, ek, ?_⟩
  cases k with
  | false => rw [if_neg Bool.false_ne_true]; exact p _ B1 H1 l1 w1 s1 (Dq.bl false)
  | true =>
    rw [if_pos rfl]
    exact h2 G B1 H1 σ r1 t1 Q XP w1 s1 (hx.mono l1) (post_mono p fun b r2 t2 p => fun v2 B2 H2 l2 w2 s2 v2b => p v2 B2 H2 (l1.trans l2) w2 s2 v2b)
theorem rf_orV (h1 : RfE K c ta ma) (h2 : RfE K c tb mb) : RfE K c (tOrV ta tb) (mOrV ma mb) := by
  intro G B H σ rr t Q XP w s hx p
  unfold mOrV at p
  rw [post_bind] at p
  unfold mT at p
  rw [post_bind] at p
  refine h1 G B H σ rr t _ XP w s hx (post_mono p fun a r1 t1 p => fun v1 B1 H1 l1 w1 s1 v1a => ?_)
  obtain ⟨k, ek, p⟩ := boolOf_ok v1a p
  refine ⟨k, ek, ?_⟩
  cases k with
  | true => rw [if_pos rfl]; exact p _ B1 H1 l1 w1 s1 (Dq.bl true)
  | false =>
    rw [if_neg Bool.false_ne_true]
    exact h2 G B1 H1 σ r1 t1 Q XP w1 s1 (hx.mono l1) (post_mono p fun b r2 t2 p => fun v2 B2 H2 l2 w2 s2 v2b => p v2 B2 H2 (l1.trans l2) w2 s2 v2b)
theorem rf_notV (h1 : RfE K c ta ma) : RfE K c (tNotV ta) (mNotV ma) := by
  intro G B H σ rr t Q XP w s hx p
  unfold mNotV at p
  rw [post_bind] at p
  unfold mT at p
  rw [post_bind] at p
  refine h1 G B H σ rr t _ XP w s hx (post_mono p fun a r1 t1 p => fun v1 B1 H1 l1 w1 s1 v1a => ?_)
  obtain ⟨k, ek, p⟩ := boolOf_ok v1a p
  exact ⟨k, ek, p _ B1 H1 l1 w1 s1 (Dq.bl _)⟩
theorem pd_one {op : BoolOp} (h : PED X c a ta ma) : PED X c (.BoolOp op [a] pos) ta ma := by
  obtain ⟨h1, k1⟩ := h
  exact ⟨pe_one h1, k1⟩
theorem pd_and (h : PED X c a ta ma) (k : PED X c (.BoolOp .And (b :: rest) pos) tb mb) : PED X c (.BoolOp .And (a :: b :: rest) pos) (tAndV ta tb) (mAndV ma mb) := by
  obtain ⟨h1, k1⟩ := h
  obtain ⟨h2, k2⟩ := k
  exact ⟨pe_and h1 h2, rf_andV k1 k2⟩
theorem pd_or (h : PED X c a ta ma) (k : PED X c (.BoolOp .Or (b :: rest) pos) tb mb) : PED X c (.BoolOp .Or (a :: b :: rest) pos) (tOrV ta tb) (mOrV ma mb) := by
  obtain ⟨h1, k1⟩ := h
  obtain ⟨h2, k2⟩ := k
  exact ⟨pe_or h1 h2, rf_orV k1 k2⟩
theorem pd_not (h : PED X c a ta ma) : PED X c (.UnaryOp .Not a pos) (tNotV ta) (mNotV ma) := by
  obtain ⟨h1, k1⟩ := h
  exact ⟨pe_not h1, rf_notV k1⟩
def mIfE (m : M Bool) (ma mb : M Tk) : M Tk := m.bind fun b => if b then ma else mb
theorem rf_ifE (h : RfT K c tt m) (h1 : RfE K c ta ma) (h2 : RfE K c tb mb) : RfE K c (tIf tt ta tb) (mIfE m ma mb) := by
  intro G B H σ rr t Q XP w s hx p
  unfold mIfE at p
  rw [post_bind] at p
  refine h G B H σ rr t _ XP w s hx (post_mono p fun b r1 t1 p => fun B1 H1 l1 w1 s1 => ?_)
  cases b with
  | true => exact h1 G B1 H1 σ r1 t1 Q XP w1 s1 (hx.mono l1) (post_mono p fun b r2 t2 p => fun v2 B2 H2 l2 w2 s2 v2b => p v2 B2 H2 (l1.trans l2) w2 s2 v2b)
  | false => exact h2 G B1 H1 σ r1 t1 Q XP w1 s1 (hx.mono l1) (post_mono p fun b r2 t2 p => fun v2 B2 H2 l2 w2 s2 v2b => p v2 B2 H2 (l1.trans l2) w2 s2 v2b)
theorem pd_ifE {cc : Expr} (h : PTD X c cc tt m) (ha : PED X c a ta ma) (hb : PED X c b tb mb) : PED X c (.IfExp cc a b pos) (tIf tt ta tb) (mIfE m ma mb) := by
  obtain ⟨h1, k1⟩ := h
  obtain ⟨h2, k2⟩ := ha
  obtain ⟨h3, k3⟩ := hb
  exact ⟨pe_ifExp h1 h2 h3, rf_ifE k1 k2 k3⟩

/-! ### 8. Arguments, displays -/
def mNil : M (List Tk) := M.ret []
def mCons (m : M Tk) (n : M (List Tk)) : M (List Tk) := m.bind fun k => n.bind fun ks => M.ret (k :: ks)
theorem rf_nil : RfA K c tNil mNil := fun G B H σ rr t Q XP w s hx p => p [] B H (Bs.le.refl B) w s True.intro
theorem rf_cons {te : TE} {tr : TA} {m : M Tk} {n : M (List Tk)} (h1 : RfE K c te m) (h2 : RfA K c tr n) : RfA K c (tCons te tr) (mCons m n) := by
  intro G B H σ rr t Q XP w s hx p
  unfold mCons at p
  rw [post_bind] at p
  refine h1 G B H σ rr t _ XP w s hx (post_mono p fun a r1 t1 p => fun v1 B1 H1 l1 w1 s1 v1a => ?_)
  rw [post_bind] at p
  exact h2 G B1 H1 σ r1 t1 _ XP w1 s1 (hx.mono l1) (post_mono p fun ks r2 t2 p => fun vs B2 H2 l2 w2 s2 v2 => p (v1 :: vs) B2 H2 (l1.trans l2) w2 s2 ⟨v1a.mono l2, v2⟩)
theorem pad_nil : PAD X c [] tNil mNil := ⟨pa_nil, rf_nil⟩
theorem pad_cons {es : List Expr} {m : M Tk} {n : M (List Tk)} {t : TA} (h1 : PED X c e te m) (h2 : PAD X c es t n) (hs : starEach (e :: es) X.env = (false, eval e X.env) :: starEach es X.env := by rfl) : PAD X c (e :: es) (tCons te t) (mCons m n) := by
  obtain ⟨h1, k1⟩ := h1
  obtain ⟨h2, k2⟩ := h2
  exact ⟨pa_cons h1 h2 hs, rf_cons k1 k2⟩
/-- data that is kept -/
def keepD : List Tk → Option (List PyData)
  | [] => some []
  | .v (.d x) :: ks => match keepD ks with
    | some xs => some (x :: xs)
    | none => none
  | _ :: _ => none
theorem keepD_ok {B : Bs} {ow : List Nat} {σ : L2.St} : ∀ {ks : List Tk} {vs : List V} {xs : List PyData}, keepD ks = some xs → TvA K B ow σ vs ks → DqAll K B.H vs xs
  | [], [], xs, e, _ => by cases e; exact .nil
  | .v (.d x) :: ks, v :: vs, xs, e, h => by
    unfold keepD at e
    cases q : keepD ks with
    | none => rw [q] at e; cases e
    | some ys =>
      rw [q] at e
      cases e
      exact .cons h.1 (keepD_ok q h.2)
  | [], _ :: _, _, _, h => h.elim
  | .v (.d _) :: _, [], _, _, h => h.elim
  | .v .deal :: _, _, _, e, _ => by cases e
  | .v (.raw _) :: _, _, _, e, _ => by cases e
  | .v (.exc _ _) :: _, _, _, e, _ => by cases e
  | .v (.scr _) :: _, _, _, e, _ => by cases e
  | .o _ :: _, _, _, e, _ => by cases e
def mTup (ma : M (List Tk)) : M Tk := ma.bind fun ks => (optM (keepD ks)).bind fun xs => if xs.length ≤ 100000 then M.ret (.v (.d (.tuple xs))) else M.st
theorem small_ok {n : Nat} (h : n ≤ 100000) : n ≤ sizeLine := by rw [sizeLine_eq]; omega
theorem rf_tup {t : TA} {m : M (List Tk)} (h : RfA K c t m) : RfE K c (tTup t) (mTup m) := by
  intro G B H σ rr dl Q XP w s hx p
  unfold mTup at p
  rw [post_bind] at p
  refine h G B H σ rr dl _ XP w s hx (post_mono p fun ks r1 t1 p => fun vs B1 H1 l1 w1 s1 v1 => ?_)
  rw [post_bind] at p
  obtain ⟨xs, q, p⟩ := optM_ok p
  have r := keepD_ok q v1
  by_cases hz : xs.length ≤ 100000
  · rw [if_pos hz] at p
    obtain ⟨G', w', gg, _, back⟩ := Sls.push w1 s1
    refine ⟨small_ok (by rw [r.len]; exact hz), fun a na => new_tup w' na r fun v B' H' l' w2 sv => ?_⟩
    obtain ⟨w3, s3⟩ := back B' H' t1 l' w2
    exact p v B' H' (l1.trans l') w3 s3 sv
  · rw [if_neg hz] at p
    exact p.elim
theorem pd_tup {es : List Expr} {x1 : Nat} {t : TA} {m : M (List Tk)} (h : PAD X c es t m) : PED X c (.Tuple es x1 pos) (tTup t) (mTup m) := by
  obtain ⟨h1, k1⟩ := h
  exact ⟨pe_tup h1, rf_tup k1⟩
end
end DL
end
section
set_option maxRecDepth 100000
set_option maxHeartbeats 4000000
namespace DL
open PySem PySem.Spec PyProof.Rows L2

/-! ### 9. The slots kept through changes -/
section
variable {K : PySem.W.Frag} {ow : List Nat} {G : Hp} {B B' : Bs} {H H' : Hp} {σ : L2.St} {r : Rho} {t : Option Deal} {p : Addr} {o : HO}
/-- p is none of the owned lists -/
def NOw (ow : List Nat) (σ : L2.St) (r : Rho) (p : Addr) : Prop := ∀ i, i ∈ ow → Live r i → σ[i]? ≠ some (some (.ref p))
theorem Sls.now (s : Sls K ow G B H σ r) (h : H p = none) : NOw ow σ r p := fun i hi ⟨x, hx⟩ e => by
  obtain ⟨ds, a, vs, _, h2, h3, _⟩ := s.own i x hx hi
  rw [e] at h2
  injection h2 with h2; injection h2 with h2; injection h2 with h2
  rw [← h2, h] at h3; cases h3
theorem Sls.lay (s : Sls K ow G B H σ r) (h : H p = none) : Sls K ow G B (upd H p o) σ r := by
  refine ⟨s.len, s.var, fun i x hx hi => ?_, s.dis⟩
  obtain ⟨ds, a, vs, h1, h2, h3, h4⟩ := s.own i x hx hi
  exact ⟨ds, a, vs, h1, h2, by rw [upd_ne (ne_of_none h3 h)]; exact h3, h4⟩
/-- an object that is none of the owned lists is changed -/
theorem Sls.chgN (s : Sls K ow G B H σ r) (n : NOw ow σ r p) : Sls K ow G B (upd H p o) σ r := by
  refine ⟨s.len, s.var, fun i x hx hi => ?_, s.dis⟩
  obtain ⟨ds, a, vs, h1, h2, h3, h4⟩ := s.own i x hx hi
  have q : a ≠ p := fun e => by subst e; exact n i hi ⟨x, hx⟩ h2
  exact ⟨ds, a, vs, h1, h2, by rw [upd_ne q]; exact h3, h4⟩
/-- an object is frozen -/
theorem Sls.frz (s : Sls K ow G B H σ r) (h : B.H p = none) (n : NOw ow σ r p) : Sls K ow G (B.add p o) H σ r := by
  have le := Bs.le_add (o := o) h
  refine ⟨s.len, fun i x hx hi => ?_, fun i x hx hi => ?_, s.dis⟩
  · obtain ⟨v, h1, h2⟩ := s.var i x hx hi
    exact ⟨v, h1, h2.mono le⟩
  · obtain ⟨ds, a, vs, h1, h2, h3, h4, h5, h6, h7⟩ := s.own i x hx hi
    have q : a ≠ p := fun e => by subst e; exact n i hi ⟨x, hx⟩ h2
    exact ⟨ds, a, vs, h1, h2, h3, dpa_mono le.h h4, by show upd B.H p o a = none; rw [upd_ne q]; exact h5, h6, h7⟩
/-- a slot that owns nothing is stored -/
theorem Sls.set (s : Sls K ow G B H σ r) {i : Nat} {v : V} {x : Sl} (hi : i ∉ ow) (hv : Sv K B v x) : Sls K ow G B H (σ.set i (some v)) (r.set i (some x)) := by
  have key : ∀ {j : Nat}, j ≠ i → (r.set i (some x))[j]? = r[j]? ∧ (σ.set i (some v))[j]? = σ[j]? := fun h => ⟨List.getElem?_set_ne (Ne.symm h), List.getElem?_set_ne (Ne.symm h)⟩
  refine ⟨by simp [s.len], fun j y hy hj => ?_, fun j y hy hj => ?_, fun j k p hj hk jk lj lk e => ?_⟩
  · by_cases q : j = i
    · subst q
      have hl : j < r.length := by
        have := (List.getElem?_eq_some_iff.mp hy).1
        simpa using this
      rw [List.getElem?_set_self hl] at hy
      cases hy
      exact ⟨v, List.getElem?_set_self (by rw [s.len]; exact hl), hv⟩
    · rw [(key q).1] at hy
      rw [(key q).2]
      exact s.var j y hy hj
  · have q : j ≠ i := fun e => hi (e ▸ hj)
    rw [(key q).1] at hy
    rw [(key q).2]
    exact s.own j y hy hj
  · have q : j ≠ i := fun e => hi (e ▸ hj)
    have q2 : k ≠ i := fun e => hi (e ▸ hk)
    unfold Live at lj lk
    rw [(key q).1] at lj
    rw [(key q2).1] at lk
    rw [(key q).2] at e
    rw [(key q2).2]
    exact s.dis j k p hj hk jk lj lk e
/-- a slot that owns its list is stored: a list that nobody else has -/
theorem Sls.setO (s : Sls K ow G B H σ r) {i : Nat} {vs : List V} {ds : List PyData} (hi : i ∈ ow) (hp : H p = some (.lst vs)) (hd : DqAll K B.H vs ds) (hb : B.H p = none) (hg : G p = none) (hn : Ndl B p) (no : NOw ow σ r p) :
    Sls K ow G B H (σ.set i (some (.ref p))) (r.set i (some (.d (.list ds)))) := by
  have key : ∀ {j : Nat}, j ≠ i → (r.set i (some (.d (.list ds))))[j]? = r[j]? ∧ (σ.set i (some (.ref p)))[j]? = σ[j]? := fun h => ⟨List.getElem?_set_ne (Ne.symm h), List.getElem?_set_ne (Ne.symm h)⟩
  refine ⟨by simp [s.len], fun j y hy hj => ?_, fun j y hy hj => ?_, fun j k a hj hk jk lj lk e => ?_⟩
  · have q : j ≠ i := fun e => hj (e ▸ hi)
    rw [(key q).1] at hy
    rw [(key q).2]
    exact s.var j y hy hj
  · by_cases q : j = i
    · subst q
      have hl : j < r.length := by
        have := (List.getElem?_eq_some_iff.mp hy).1
        simpa using this
      rw [List.getElem?_set_self hl] at hy
      cases hy
      exact ⟨ds, p, vs, rfl, List.getElem?_set_self (by rw [s.len]; exact hl), hp, hd, hb, hg, hn⟩
    · rw [(key q).1] at hy
      rw [(key q).2]
      exact s.own j y hy hj
  · by_cases q : j = i
    · subst q
      have q2 : k ≠ j := Ne.symm jk
      unfold Live at lk
      rw [(key q2).1] at lk
      rw [(key q2).2]
      intro e2
      have hl : j < r.length := by
        obtain ⟨y, hy⟩ := lj
        have := (List.getElem?_eq_some_iff.mp hy).1
        simpa using this
      rw [List.getElem?_set_self (by rw [s.len]; exact hl)] at e
      injection e with e; injection e with e; injection e with e
      subst e
      exact no k hk lk e2
    · unfold Live at lj lk
      rw [(key q).1] at lj
      rw [(key q).2] at e
      by_cases q2 : k = i
      · subst q2
        intro e2
        have hl : k < r.length := by
          obtain ⟨y, hy⟩ := lk
          have := (List.getElem?_eq_some_iff.mp hy).1
          simpa using this
        rw [List.getElem?_set_self (by rw [s.len]; exact hl)] at e2
        injection e2 with e2; injection e2 with e2; injection e2 with e2
        subst e2
        exact no j hj lj e
      · rw [(key q2).1] at lk
        rw [(key q2).2]
        exact s.dis j k a hj hk jk lj lk e
/-- an owned list is changed -/
theorem Sls.chg (s : Sls K ow G B H σ r) {i : Nat} {vs : List V} {ds : List PyData} {x : Sl} (hi : i ∈ ow) (hx : r[i]? = some (some x)) (hs : σ[i]? = some (some (.ref p))) (hd : DqAll K B.H vs ds) :
    Sls K ow G B (upd H p (.lst vs)) σ (r.set i (some (.d (.list ds)))) := by
  have hl : i < r.length := (List.getElem?_eq_some_iff.mp hx).1
  obtain ⟨ds0, a0, vs0, g1, g2, g3, g4, g5, g6, g7⟩ := s.own i x hx hi
  rw [hs] at g2
  injection g2 with g2; injection g2 with g2; injection g2 with g2
  subst g2
  have live : ∀ {j : Nat}, Live (r.set i (some (.d (.list ds)))) j → Live r j := fun {j} ⟨y, hy⟩ => by
    by_cases q : j = i
    · subst q; exact ⟨x, hx⟩
    · rw [List.getElem?_set_ne (Ne.symm q)] at hy
      exact ⟨y, hy⟩
  refine ⟨by simp [s.len], fun j y hy hj => ?_, fun j y hy hj => ?_, fun j k a hj hk jk lj lk e => s.dis j k a hj hk jk (live lj) (live lk) e⟩
  · have q : j ≠ i := fun e => hj (e ▸ hi)
    rw [List.getElem?_set_ne (Ne.symm q)] at hy
    exact s.var j y hy hj
  · by_cases q : j = i
    · subst q
      rw [List.getElem?_set_self hl] at hy
      cases hy
      exact ⟨ds, p, vs, rfl, hs, upd_same, hd, g5, g6, g7⟩
    · rw [List.getElem?_set_ne (Ne.symm q)] at hy
      obtain ⟨ds1, a1, vs1, h1, h2, h3, h4⟩ := s.own j y hy hj
      have n : a1 ≠ p := fun e => by
        subst e
        exact s.dis i j a1 hi hj (Ne.symm q) ⟨x, hx⟩ ⟨y, hy⟩ hs h2
      exact ⟨ds1, a1, vs1, h1, h2, by rw [upd_ne n]; exact h3, h4⟩
end

/-! ### 10. Fresh lists -/
/-- the list's address: nobody has it -/
structure Fr (K : PySem.W.Frag) (ow : List Nat) (G : Hp) (B : Bs) (H : Hp) (σ : L2.St) (r : Rho) (p : Addr) (ds : List PyData) : Prop where
  at_ : ∃ vs, H p = some (.lst vs) ∧ DqAll K B.H vs ds
  b : B.H p = none
  g : G p = none
  d : Ndl B p
  o : NOw ow σ r p
def RfF (K : PySem.W.Frag) (c : Cd) (te : TE) (m : M (List PyData)) : Prop := ∀ (G : Hp) (B : Bs) (H : Hp) (σ : L2.St) (r : Rho) (t : Option Deal) (Q : VK) (XP : XQ), Wd G B H t → Sls K c.ow G B H σ r → XOk K c.ec G B c.E XP →
  (m r t).post (fun ds r' t' => ∀ (p : Addr) (B' : Bs) (H' : Hp), B.le B' → Wd G B' H' t' → Sls K c.ow G B' H' σ r' → Fr K c.ow G B' H' σ r' p ds → Q (.ref p) H') XP → te σ H Q
structure PFD (X : Cx) (c : Cd) (e : Expr) (te : TE) (m : M (List PyData)) : Prop where
  p : PE X e te
  k : RfF X.K c te m
def mFz (m : M (List PyData)) : M Tk := m.bind fun ds => M.ret (.v (.d (.list ds)))
section
variable {X : Cx} {c : Cd} {a b e d : Expr} {ma mb me mc : M Tk} {ta tb te tc : TE} {tt tu : TT} {pos : Pos} {K : PySem.W.Frag}
theorem rf_fz {m : M (List PyData)} (h : RfF K c te m) : RfE K c te (mFz m) := by
  intro G B H σ rr t Q XP w s hx p
  unfold mFz at p
  rw [post_bind] at p
  refine h G B H σ rr t _ XP w s hx (post_mono p fun ds r1 t1 p => fun a B1 H1 l1 w1 s1 f => ?_)
  obtain ⟨vs, h1, h2⟩ := f.at_
  have le := Bs.le_add (o := .lst vs) f.b
  exact p (.ref a) (B1.add a (.lst vs)) H1 (l1.trans le) (w1.frz h1 f.b f.g f.d) (s1.frz f.b f.o) (Dq.lst (show upd B1.H a (.lst vs) a = _ from upd_same) (dpa_mono le.h h2))
theorem pd_fz {m : M (List PyData)} (h : PFD X c e te m) : PED X c e te (mFz m) := ⟨h.p, rf_fz h.k⟩
theorem new_fr {G : Hp} {B : Bs} {H : Hp} {σ : L2.St} {r : Rho} {t : Option Deal} {p : Addr} {vs : List V} {ds : List PyData} (w : Wd G B H t) (s : Sls K c.ow G B H σ r) (h : H p = none) (q : DqAll K B.H vs ds) :
    Wd G B (upd H p (.lst vs)) t ∧ Sls K c.ow G B (upd H p (.lst vs)) σ r ∧ Fr K c.ow G B (upd H p (.lst vs)) σ r p ds :=
  ⟨w.lay h, s.lay h, ⟨⟨vs, upd_same, q⟩, w.nb h, w.ng h, w.nd h, s.now h⟩⟩
def mLst (ma : M (List Tk)) : M (List PyData) := ma.bind fun ks => (optM (keepD ks)).bind fun xs => if xs.length ≤ 100000 then M.ret xs else M.st
theorem rf_lst {t : TA} {m : M (List Tk)} (h : RfA K c t m) : RfF K c (tLst t) (mLst m) := by
  intro G B H σ rr dl Q XP w s hx p
  unfold mLst at p
  rw [post_bind] at p
  refine h G B H σ rr dl _ XP w s hx (post_mono p fun ks r1 t1 p => fun vs B1 H1 l1 w1 s1 v1 => ?_)
  rw [post_bind] at p
  obtain ⟨xs, q, p⟩ := optM_ok p
  have r := keepD_ok q v1
  by_cases hz : xs.length ≤ 100000
  · rw [if_pos hz] at p
    refine ⟨small_ok (by rw [r.len]; exact hz), fun a na => ?_⟩
    obtain ⟨w2, s2, f2⟩ := new_fr (K := K) (c := c) w1 s1 na r
    exact p a B1 _ l1 w2 s2 f2
  · rw [if_neg hz] at p
    exact p.elim
theorem pf_lst {es : List Expr} {t : TA} {m : M (List Tk)} (h : PAD X c es t m) : PFD X c (.List es pos) (tLst t) (mLst m) := ⟨pe_lst h.p, rf_lst h.k⟩
/-- an operator that makes a new list -/
def OpF (K : PySem.W.Frag) (r : R2) (f : Sl → Sl → Option (List PyData)) : Prop := ∀ (G : Hp) (B : Bs) (H : Hp) (t : Option Deal) (x y : V) (a b : Sl) (ds : List PyData) (Q : VK), Wd G B H t → Bw K B H x a → Bw K B H y b → f a b = some ds →
  (∀ (p : Addr) (vs : List V), H p = none → DqAll K B.H vs ds → Q (.ref p) (upd H p (.lst vs))) → r x y H Q
def mOpF (f : Sl → Sl → Option (List PyData)) (ma mb : M Tk) : M (List PyData) := ma.bind fun a => mb.bind fun b => (use a).bind fun x => (use b).bind fun y => optM (f x y)
theorem rf_opF {r : R2} {f : Sl → Sl → Option (List PyData)} (ho : OpF K r f) (ha : RfE K c ta ma) (hb : RfE K c tb mb) : RfF K c (tOp r ta tb) (mOpF f ma mb) := by
  intro G B H σ rr t Q XP w s hx p
  unfold mOpF at p
  rw [post_bind] at p
  refine ha G B H σ rr t _ XP w s hx (post_mono p fun a r1 t1 p => fun v1 B1 H1 l1 w1 s1 v1a => ?_)
  rw [post_bind] at p
  refine hb G B1 H1 σ r1 t1 _ XP w1 s1 (hx.mono l1) (post_mono p fun b r2 t2 p => fun v2 B2 H2 l2 w2 s2 v2b => ?_)
  rw [post_bind] at p
  obtain ⟨x, bx, p⟩ := use_ok s2 (v1a.mono l2) p
  rw [post_bind] at p
  obtain ⟨y, by_, p⟩ := use_ok s2 v2b p
  obtain ⟨ds, e, p⟩ := optM_ok p
  refine ho G B2 H2 t2 v1 v2 x y ds Q w2 bx by_ e fun a vs na q => ?_
  obtain ⟨w3, s3, f3⟩ := new_fr (K := K) (c := c) w2 s2 na q
  exact p a B2 _ (l1.trans l2) w3 s3 f3
def catF : Sl → Sl → Option (List PyData)
  | .d (.list xs), .d (.list ys) => if xs.length + ys.length ≤ 16777216 then some (xs ++ ys) else none
  | _, _ => none
theorem opf_cat : OpF K (rAddA K) catF := by
  intro G B H t x y a b ds Q w ha hb e q
  unfold catF at e
  split at e
  · split at e
    · rename_i xs ys hz
      cases e
      obtain ⟨p1, vs1, rfl, h1, r1⟩ := ha.lst w
      obtain ⟨p2, vs2, rfl, h2, r2⟩ := hb.lst w
      exact .inr (.inl ⟨p1, p2, vs1, vs2, rfl, rfl, h1, h2, size_ok (by rw [r1.len, r2.len]; exact hz), fun p np => q p _ np (r1.app r2)⟩)
    · cases e
  · cases e
theorem pf_cat (ha : PED X c a ta ma) (hb : PED X c b tb mb) : PFD X c (.BinOp a .Add b pos) (tOp (rAddA X.K) ta tb) (mOpF catF ma mb) := ⟨pe_op op_addA ha.p hb.p, rf_opF opf_cat ha.k hb.k⟩

/-! xs[::-1] -/
def revF : Sl → Option (List PyData)
  | .d (.list xs) => some xs.reverse
  | _ => none
def mRev (m : M Tk) : M (List PyData) := m.bind fun k => (use k).bind fun x => optM (revF x)
theorem rf_rev (h : RfE K c te me) : RfF K c (tRevL K te) (mRev me) := by
  intro G B H σ rr t Q XP w s hx p
  unfold mRev at p
  rw [post_bind] at p
  refine h G B H σ rr t _ XP w s hx (post_mono p fun k r1 t1 p => fun v1 B1 H1 l1 w1 s1 v1k => ?_)
  rw [post_bind] at p
  obtain ⟨x, bx, p⟩ := use_ok s1 v1k p
  obtain ⟨ds, e, p⟩ := optM_ok p
  unfold revF at e
  split at e
  · cases e
    obtain ⟨a, vs, rfl, h1, q1⟩ := bx.lst w1
    refine ⟨a, vs, rfl, SqL.of h1, fun q nq => ?_⟩
    obtain ⟨w2, s2, f2⟩ := new_fr (K := K) (c := c) w1 s1 nq q1.rev
    exact p q B1 _ l1 w2 s2 f2
  · cases e
theorem pf_rev {k : Nat} {p1 p2 p3 : Pos} (h : PED X c e te me) : PFD X c (.Subscript e (.Slice none none (some (.UnaryOp .USub (.Constant (.int 1) k p1) p2)) p3) pos) (tRevL X.K te) (mRev me) := ⟨pe_revL h.p, rf_rev h.k⟩

/-! ### 11. Slices -/
def RfO (K : PySem.W.Frag) (c : Cd) (to : TO) (m : M (Option Int)) : Prop := ∀ (G : Hp) (B : Bs) (H : Hp) (σ : L2.St) (r : Rho) (t : Option Deal) (Q : Option Int → Hp → Prop) (XP : XQ), Wd G B H t → Sls K c.ow G B H σ r → XOk K c.ec G B c.E XP →
  (m r t).post (fun b r' t' => ∀ (B' : Bs) (H' : Hp), B.le B' → Wd G B' H' t' → Sls K c.ow G B' H' σ r' → Q b H') XP → to σ H Q
structure POD (X : Cx) (c : Cd) (e : Option Expr) (to : TO) (m : M (Option Int)) : Prop where
  p : PO X e to
  k : RfO X.K c to m
def intOf : Sl → Option Int
  | .d (.int i) => some i
  | _ => none
def mPart (m : M Tk) : M (Option Int) := m.bind fun k => (use k).bind fun x => (optM (intOf x)).bind fun i => M.ret (some i)
def mNoP : M (Option Int) := M.ret none
theorem rf_part (h : RfE K c te me) : RfO K c (tPart te) (mPart me) := by
  intro G B H σ rr t Q XP w s hx p
  unfold mPart at p
  rw [post_bind] at p
  refine h G B H σ rr t _ XP w s hx (post_mono p fun a r1 t1 p => fun v1 B1 H1 l1 w1 s1 v1a => ?_)
  rw [post_bind] at p
  obtain ⟨x, bx, p⟩ := use_ok s1 v1a p
  rw [post_bind] at p
  obtain ⟨i, e, p⟩ := optM_ok p
  unfold intOf at e
  split at e
  · cases e
    exact ⟨_, bx.int, p B1 H1 l1 w1 s1⟩
  · cases e
theorem pod_none : POD X c none tNoPart mNoP := ⟨po_none, fun G B H σ rr t Q XP w s hx p => p B H (Bs.le.refl B) w s⟩
theorem pod_some (h : PED X c e te me) : POD X c (some e) (tPart te) (mPart me) := ⟨po_some h.p, rf_part h.k⟩
def cutL {α : Type} (xs : List α) (lo hi : Option Int) : List α := (xs.drop (HT.sIx xs.length 0 lo)).take (HT.sIx xs.length xs.length hi - HT.sIx xs.length 0 lo)
def slF (lo hi : Option Int) : Sl → Option Sl
  | .d (.list ds) => some (.d (.list (cutL ds lo hi)))
  | .d (.tuple ds) => some (.d (.tuple (cutL ds lo hi)))
  | .d (.str z) => if z.length ≤ 16777216 then some (.d (.str (cutS z lo hi))) else none
  | .scr ns => some (.d (.list (cutL (ns.map PyData.int) lo hi)))
  | _ => none
def mSl (m : M Tk) (ml mh : M (Option Int)) : M Tk := m.bind fun k => ml.bind fun lo => mh.bind fun hi => (use k).bind fun x => lft (slF lo hi x)
def rSlAll (K : PySem.W.Frag) : V → Option Int → Option Int → Hp → VK → Prop := fun x lo hi H Q => rSlL K x lo hi H Q ∨ (rSlA K x lo hi H Q ∨ rSlS x lo hi H Q)
theorem SlR.or {r r' : V → Option Int → Option Int → Hp → VK → Prop} (h : SlR X r) (h' : SlR X r') : SlR X (fun x lo hi H Q => r x lo hi H Q ∨ r' x lo hi H Q) := by
  intro pins s σ H x v vl vu lo hi sl Q I rx hs pl pu q
  rcases q with q | q
  · exact h pins s σ H x v vl vu lo hi sl Q I rx hs pl pu q
  · exact h' pins s σ H x v vl vu lo hi sl Q I rx hs pl pu q
theorem sl_All : SlR X (rSlAll X.K) := SlR.or sl_list (SlR.or sl_tupA sl_str)
theorem cut_dq {H : Hp} {vs : List V} {ds : List PyData} {lo hi : Option Int} (r : DqAll K H vs ds) : DqAll K H (cutV vs lo hi) (cutL ds lo hi) := by
  unfold cutV cutL
  rw [r.len]
  exact (r.drop _).take _
theorem cut_whole {α : Type} {xs : List α} {lo hi : Option Int} (h : HT.sIx xs.length 0 lo = 0 ∧ HT.sIx xs.length xs.length hi = xs.length) : cutL xs lo hi = xs := by
  unfold cutL
  rw [h.1, h.2]
  simp
theorem rf_sl {tl th : TO} {ml mh : M (Option Int)} (h : RfE K c te me) (hl : RfO K c tl ml) (hh : RfO K c th mh) : RfE K c (tSl (rSlAll K) te tl th) (mSl me ml mh) := by
  intro G B H σ rr t Q XP w s hx p
  unfold mSl at p
  rw [post_bind] at p
  refine h G B H σ rr t _ XP w s hx (post_mono p fun k r1 t1 p => fun v1 B1 H1 l1 w1 s1 v1k => ?_)
  rw [post_bind] at p
  refine hl G B1 H1 σ r1 t1 _ XP w1 s1 (hx.mono l1) (post_mono p fun lo r2 t2 p => fun B2 H2 l2 w2 s2 => ?_)
  rw [post_bind] at p
  refine hh G B2 H2 σ r2 t2 _ XP w2 s2 (hx.mono (l1.trans l2)) (post_mono p fun hi r3 t3 p => fun B3 H3 l3 w3 s3 => ?_)
  rw [post_bind] at p
  obtain ⟨x, bx, p⟩ := use_ok s3 (v1k.mono (l2.trans l3)) p
  have l13 := (l1.trans l2).trans l3
  obtain ⟨G', w', gg, _, back⟩ := Sls.push w3 s3
  cases e : slF lo hi x with
  | none => rw [e] at p; exact p.elim
  | some z =>
    rw [e] at p
    have fin : ∀ (v : V) (B' : Bs) (H' : Hp), B3.le B' → Wd G' B' H' t3 → Sv K B' v z → Q v H' := fun v B' H' l w4 sv => by
      obtain ⟨w5, s5⟩ := back B' H' t3 l w4
      exact p v B' H' (l13.trans l) w5 s5 sv
    unfold slF at e
    split at e
    · cases e
      obtain ⟨a, vs, rfl, h1, q1⟩ := bx.lst w3
      exact .inl ⟨a, vs, rfl, SqL.of h1, fun p np => new_list w' np (cut_dq q1) fin⟩
    · rename_i ds
      cases e
      obtain ⟨a, vs, rfl, h1, q1⟩ := bx.tup
      refine .inr (.inl ⟨a, vs, rfl, sqt_mono w3.sub h1, fun hw => ?_, fun hw p np => new_tup w' np (cut_dq q1) fin⟩)
      rw [q1.len] at hw
      refine fin _ B3 H3 (Bs.le.refl B3) w' ?_
      rw [cut_whole hw]
      exact Dq.tup h1 q1
    · split at e
      · rename_i z hz
        cases e
        cases bx.str
        exact .inr (.inr ⟨z, rfl, size_ok hz, fin _ B3 H3 (Bs.le.refl B3) w' (.str _)⟩)
      · cases e
    · rename_i ns
      cases e
      rcases bx with ⟨a, rfl, hS⟩ | ⟨_, _, _, _, z, _⟩
      · exact .inl ⟨a, ns.map V.int, rfl, sql_mono w3.sub hS, fun p np => new_list w' np (cut_dq (dpa_of_ints ns)) fin⟩
      · cases z
    · cases e
theorem pd_sl {lo hi : Option Expr} {p2 : Pos} {tl th : TO} {ml mh : M (Option Int)} (h : PED X c e te me) (hl : POD X c lo tl ml) (hh : POD X c hi th mh) : PED X c (.Subscript e (.Slice lo hi none p2) pos) (tSl (rSlAll X.K) te tl th) (mSl me ml mh) :=
  ⟨pe_slice sl_All h.p hl.p hh.p, rf_sl h.k hl.k hh.k⟩
end
end DL
end
section
set_option maxRecDepth 100000
set_option maxHeartbeats 4000000
namespace DL
open PySem PySem.Spec PyProof.Rows L2

/-! ### 12. Built-ins by values -/
def useAll : List Tk → M (List Sl)
  | [] => M.ret []
  | k :: ks => (use k).bind fun x => (useAll ks).bind fun xs => M.ret (x :: xs)
def BwA (K : PySem.W.Frag) (B : Bs) (H : Hp) : List V → List Sl → Prop
  | [], [] => True
  | v :: vs, x :: xs => Bw K B H v x ∧ BwA K B H vs xs
  | _, _ => False
section
variable {X : Cx} {c : Cd} {a b e d : Expr} {ma mb me mc : M Tk} {ta tb te tc : TE} {tt tu : TT} {pos : Pos} {K : PySem.W.Frag}
theorem useAll_ok {ow : List Nat} {G : Hp} {B : Bs} {H : Hp} {σ : L2.St} {r : Rho} {t : Option Deal} {XP : XQ} (s : Sls K ow G B H σ r) : ∀ {vs : List V} {ks : List Tk} {Q : List Sl → Rho → Option Deal → Prop}, TvA K B ow σ vs ks → (useAll ks r t).post Q XP → ∃ xs, BwA K B H vs xs ∧ Q xs r t
  | [], [], Q, _, p => ⟨[], True.intro, p⟩
  | v :: vs, k :: ks, Q, h, p => by
    unfold useAll at p
    rw [post_bind] at p
    obtain ⟨x, bx, p⟩ := use_ok s h.1 p
    rw [post_bind] at p
    obtain ⟨xs, bxs, p⟩ := useAll_ok s h.2 p
    exact ⟨x :: xs, ⟨bx, bxs⟩, p⟩
  | [], _ :: _, _, h, _ => h.elim
  | _ :: _, [], _, h, _ => h.elim
def CbD (K : PySem.W.Frag) (r : List V → Hp → VK → Prop) (f : List Sl → Option Sl) : Prop := ∀ (G : Hp) (B : Bs) (H : Hp) (t : Option Deal) (vs : List V) (xs : List Sl) (z : Sl) (Q : VK), Wd G B H t → BwA K B H vs xs → f xs = some z →
  (∀ (v : V) (B' : Bs) (H' : Hp), B.le B' → Wd G B' H' t → Sv K B' v z → Q v H') → r vs H Q
def mCB (f : List Sl → Option Sl) (m : M (List Tk)) : M Tk := m.bind fun ks => (useAll ks).bind fun xs => lft (f xs)
theorem rf_cb {r : List V → Hp → VK → Prop} {f : List Sl → Option Sl} {t : TA} {m : M (List Tk)} (ho : CbD K r f) (h : RfA K c t m) : RfE K c (tCB r t) (mCB f m) := by
  intro G B H σ rr dl Q XP w s hx p
  unfold mCB at p
  rw [post_bind] at p
  refine h G B H σ rr dl _ XP w s hx (post_mono p fun ks r1 t1 p => fun vs B1 H1 l1 w1 s1 v1 => ?_)
  rw [post_bind] at p
  obtain ⟨xs, bx, p⟩ := useAll_ok s1 v1 p
  obtain ⟨G', w', gg, _, back⟩ := Sls.push w1 s1
  cases e : f xs with
  | none => rw [e] at p; exact p.elim
  | some z =>
    rw [e] at p
    refine ho G' B1 H1 t1 vs xs z Q w' bx e fun v B' H' l w3 sv => ?_
    obtain ⟨w4, s4⟩ := back B' H' t1 l w3
    exact p v B' H' (l1.trans l) w4 s4 sv
/-- f(e, ..), f a built-in -/
theorem pd_cb {x : Str} {p : Pos} {es : List Expr} {id : String} {r : List V → Hp → VK → Prop} {f : List Sl → Option Sl} {t : TA} {m : M (List Tk)} (hc : CallR X (.builtin id) r) (hd : CbD X.K r f) (hg : Gl X x) (hm : X.mg x = none) (hv : bootBuiltins x = some (.builtin id))
    (ha : PAD X c (e :: es) t m) (hp : PA X (e :: es) t → PE X (.Call (.Name x p) (e :: es) [] pos) (tCB r t)) : PED X c (.Call (.Name x p) (e :: es) [] pos) (tCB r t) (mCB f m) := ⟨hp ha.p, rf_cb hd ha.k⟩
def lenF : List Sl → Option Sl
  | [.d (.str z)] => if z.length ≤ 16777216 then some (.d (.int z.length)) else none
  | [.d (.list ds)] => some (.d (.int ds.length))
  | [.d (.tuple ds)] => some (.d (.int ds.length))
  | _ => none
def rLenA (K : PySem.W.Frag) : List V → Hp → VK → Prop := fun xs H Q => ∃ x n, xs = [x] ∧ LenV K x H n ∧ Q (.int n) H
theorem cbd_len : CbD K (rLenA K) lenF := by
  intro G B H t vs xs z Q w h e q
  unfold lenF at e
  split at e
  · split at e
    · rename_i zz hz
      cases e
      match vs, h with
      | [v], h =>
        cases h.1.str
        exact ⟨_, _, rfl, ⟨size_ok hz, rfl⟩, q _ B H (Bs.le.refl B) w (.int _)⟩
    · cases e
  · rename_i ds
    cases e
    match vs, h with
    | [v], h =>
      obtain ⟨a, ws, rfl, h1, r1⟩ := h.1.lst w
      exact ⟨_, ds.length, rfl, .inl ⟨ws, SqL.of h1, r1.len.symm⟩, q _ B H (Bs.le.refl B) w (.int _)⟩
  · rename_i ds
    cases e
    match vs, h with
    | [v], h =>
      obtain ⟨a, ws, rfl, h1, r1⟩ := h.1.tup
      exact ⟨_, ds.length, rfl, .inr ⟨ws, sqt_mono w.sub h1, r1.len.symm⟩, q _ B H (Bs.le.refl B) w (.int _)⟩
  · cases e
theorem pd_len {p : Pos} {es : List Expr} {t : TA} {m : M (List Tk)} (hg : Gl X "len") (hm : X.mg "len" = none) (ha : PAD X c (e :: es) t m)
    (he : starEach (e :: es) X.env = (false, eval e X.env) :: starEach es X.env := by rfl) (hpl : (backTo pos (starEach es X.env)).any (·.1) = false := by rfl) : PED X c (.Call (.Name "len" p) (e :: es) [] pos) (tCB (rLenA X.K) t) (mCB lenF m) :=
  ⟨pe_callB call_len hg hm boot_len ha.p (by decide) (by decide) he hpl, rf_cb cbd_len ha.k⟩
/-! all, any, sum, max, min, abs, int -/
def boolsOf : List PyData → Option (List Bool)
  | [] => some []
  | .bool b :: ds => match boolsOf ds with
    | some bs => some (b :: bs)
    | none => none
  | _ :: _ => none
def intsOf : List PyData → Option (List Int)
  | [] => some []
  | .int b :: ds => match intsOf ds with
    | some bs => some (b :: bs)
    | none => none
  | _ :: _ => none
theorem boolsOf_ok : ∀ {ds : List PyData} {bs : List Bool}, boolsOf ds = some bs → ds = bs.map PyData.bool
  | [], bs, e => by cases e; rfl
  | .bool b :: ds, bs, e => by
    unfold boolsOf at e
    cases q : boolsOf ds with
    | none => rw [q] at e; cases e
    | some cs => rw [q] at e; cases e; rw [boolsOf_ok q, List.map_cons]
  | .none :: _, _, e => by cases e
  | .int _ :: _, _, e => by cases e
  | .str _ :: _, _, e => by cases e
  | .list _ :: _, _, e => by cases e
  | .tuple _ :: _, _, e => by cases e
  | .dict _ :: _, _, e => by cases e
theorem intsOf_ok : ∀ {ds : List PyData} {bs : List Int}, intsOf ds = some bs → ds = bs.map PyData.int
  | [], bs, e => by cases e; rfl
  | .int b :: ds, bs, e => by
    unfold intsOf at e
    cases q : intsOf ds with
    | none => rw [q] at e; cases e
    | some cs => rw [q] at e; cases e; rw [intsOf_ok q, List.map_cons]
  | .none :: _, _, e => by cases e
  | .bool _ :: _, _, e => by cases e
  | .str _ :: _, _, e => by cases e
  | .list _ :: _, _, e => by cases e
  | .tuple _ :: _, _, e => by cases e
  | .dict _ :: _, _, e => by cases e
@[simp] theorem boolsOf_map : ∀ bs : List Bool, boolsOf (bs.map PyData.bool) = some bs
  | [] => rfl
  | b :: bs => by rw [List.map_cons, boolsOf, boolsOf_map bs]
@[simp] theorem intsOf_map : ∀ bs : List Int, intsOf (bs.map PyData.int) = some bs
  | [] => rfl
  | b :: bs => by rw [List.map_cons, intsOf, intsOf_map bs]
def allF : List Sl → Option Sl
  | [.d (.list ds)] => (boolsOf ds).map fun bs => .d (.bool (bs.all id))
  | _ => none
def anyF : List Sl → Option Sl
  | [.d (.list ds)] => (boolsOf ds).map fun bs => .d (.bool (bs.any id))
  | _ => none
def sumF : List Sl → Option Sl
  | [.d (.list ds)] => (intsOf ds).map fun ns => .d (.int ns.sum)
  | _ => none
theorem cbd_all : CbD K (rAll K) allF := by
  intro G B H t vs xs z Q w h e q
  unfold allF at e
  split at e
  · rename_i ds
    cases hb : boolsOf ds with
    | none => rw [hb] at e; cases e
    | some bs =>
      rw [hb] at e
      cases e
      match vs, h with
      | [v], h =>
        obtain ⟨a, ws, rfl, h1, r1⟩ := h.1.lst w
        rw [boolsOf_ok hb] at r1
        have ew := dpa_bls r1
        subst ew
        exact ⟨a, bs, rfl, SqL.of h1, q _ B H (Bs.le.refl B) w (.bl _)⟩
  · cases e
theorem cbd_any : CbD K (rAny K) anyF := by
  intro G B H t vs xs z Q w h e q
  unfold anyF at e
  split at e
  · rename_i ds
    cases hb : boolsOf ds with
    | none => rw [hb] at e; cases e
    | some bs =>
      rw [hb] at e
      cases e
      match vs, h with
      | [v], h =>
        obtain ⟨a, ws, rfl, h1, r1⟩ := h.1.lst w
        rw [boolsOf_ok hb] at r1
        have ew := dpa_bls r1
        subst ew
        exact ⟨a, bs, rfl, SqL.of h1, q _ B H (Bs.le.refl B) w (.bl _)⟩
  · cases e
theorem cbd_sum : CbD K (rSum K) sumF := by
  intro G B H t vs xs z Q w h e q
  unfold sumF at e
  split at e
  · rename_i ds
    cases hb : intsOf ds with
    | none => rw [hb] at e; cases e
    | some bs =>
      rw [hb] at e
      cases e
      match vs, h with
      | [v], h =>
        obtain ⟨a, ws, rfl, h1, r1⟩ := h.1.lst w
        rw [intsOf_ok hb] at r1
        have ew := dpa_ints r1
        subst ew
        exact ⟨a, bs, rfl, SqL.of h1, q _ B H (Bs.le.refl B) w (.int _)⟩
  · cases e
theorem pd_all {p : Pos} {es : List Expr} {t : TA} {m : M (List Tk)} (hc : X.calm = true) (hg : Gl X "all") (hm : X.mg "all" = none) (ha : PAD X c (e :: es) t m)
    (he : starEach (e :: es) X.env = (false, eval e X.env) :: starEach es X.env := by rfl) (hpl : (backTo pos (starEach es X.env)).any (·.1) = false := by rfl) : PED X c (.Call (.Name "all" p) (e :: es) [] pos) (tCB (rAll X.K) t) (mCB allF m) :=
  ⟨pe_callB (cr_all hc) hg hm (by decide +kernel) ha.p (by decide) (by decide) he hpl, rf_cb cbd_all ha.k⟩
theorem pd_any {p : Pos} {es : List Expr} {t : TA} {m : M (List Tk)} (hc : X.calm = true) (hg : Gl X "any") (hm : X.mg "any" = none) (ha : PAD X c (e :: es) t m)
    (he : starEach (e :: es) X.env = (false, eval e X.env) :: starEach es X.env := by rfl) (hpl : (backTo pos (starEach es X.env)).any (·.1) = false := by rfl) : PED X c (.Call (.Name "any" p) (e :: es) [] pos) (tCB (rAny X.K) t) (mCB anyF m) :=
  ⟨pe_callB (cr_any hc) hg hm (by decide +kernel) ha.p (by decide) (by decide) he hpl, rf_cb cbd_any ha.k⟩
theorem pd_sum {p : Pos} {es : List Expr} {t : TA} {m : M (List Tk)} (hc : X.calm = true) (hg : Gl X "sum") (hm : X.mg "sum" = none) (ha : PAD X c (e :: es) t m)
    (he : starEach (e :: es) X.env = (false, eval e X.env) :: starEach es X.env := by rfl) (hpl : (backTo pos (starEach es X.env)).any (·.1) = false := by rfl) : PED X c (.Call (.Name "sum" p) (e :: es) [] pos) (tCB (rSum X.K) t) (mCB sumF m) :=
  ⟨pe_callB (cr_sum hc) hg hm (by decide +kernel) ha.p (by decide) (by decide) he hpl, rf_cb cbd_sum ha.k⟩
/-! isinstance -/
def tyN : PyData → String
  | .none => "NoneType" | .bool _ => "bool" | .int _ => "int" | .str _ => "str" | .list _ => "list" | .tuple _ => "tuple" | .dict _ => "dict"
def isTN (T n : String) : Bool := n == T || (T == "int" && n == "bool")
def isT (T : String) (x : PyData) : Bool := isTN T (tyN x)
theorem ty_of {G : Hp} {B : Bs} {H : Hp} {t : Option Deal} {v : V} {x : PyData} (w : Wd G B H t) (h : Bw K B H v (.d x)) : TyX K H v (.type (tyN x)) := by
  cases x with
  | none => cases h.non; exact .base .non
  | bool b => cases h.bl; exact .base (.bl _)
  | int i => cases h.int; exact .base (.int _)
  | str i => cases h.str; exact .base (.str _)
  | list ds =>
    obtain ⟨a, vs, rfl, h1, _⟩ := h.lst w
    exact .base (.lst h1)
  | tuple ds =>
    obtain ⟨a, vs, rfl, h1, _⟩ := h.tup
    rcases h1 with (h1 | ⟨o, h1⟩) | ⟨o, its, n, h1, h2, _⟩
    · exact .base (.tup (w.sub _ _ h1))
    · exact .fTuple (w.sub _ _ h1)
    · exact .kTuple h1 h2
  | dict _ =>
    have := h.dp w
    cases this
def tysOf : List Sl → Option (List String)
  | [] => some []
  | .raw (.ty n) :: xs => match tysOf xs with
    | some ns => some (n :: ns)
    | none => none
  | _ :: _ => none
/-- the built-in classes that are asked for -/
def asks : List String := ["int", "str", "bool", "tuple", "list", "dict"]
def askT (T : String) : Bool := decide (T ∈ asks)
theorem kit_all : ∀ n ∈ (["NoneType", "bool", "int", "str", "list", "tuple", "dict"] : List String), ∀ T ∈ asks, kitB n T = some (isTN T n) := by decide +kernel
theorem tyN_mem (x : PyData) : tyN x ∈ (["NoneType", "bool", "int", "str", "list", "tuple", "dict"] : List String) := by
  cases x <;> simp [tyN]
theorem kit_one {T : String} {x : PyData} (h : askT T = true) : PySem.W.kitOne K (.type (tyN x)) (.type T) = some (isT T x) :=
  kit_ty (kit_all _ (tyN_mem x) _ (of_decide_eq_true h))
def isiF : List Sl → Option Sl
  | [.d x, .raw (.ty T)] => if askT T then some (.d (.bool (isT T x))) else none
  | _ => none
theorem cbd_isi : CbD K (rIsi K) isiF := by
  intro G B H t vs xs z Q w h e q
  unfold isiF at e
  split at e
  · split at e
    · rename_i x T hT
      cases e
      match vs, h with
      | [v, u], h =>
        have eu : u = .ty T := h.2.1.raw
        subst eu
        exact ⟨v, _, _, _, _, rfl, .ty T, ty_of w h.1, kit_one hT, q _ B H (Bs.le.refl B) w (.bl _)⟩
    · cases e
  · cases e
theorem pd_isi {p : Pos} {es : List Expr} {t : TA} {m : M (List Tk)} (hg : Gl X "isinstance") (hm : X.mg "isinstance" = none) (ha : PAD X c (e :: es) t m)
    (he : starEach (e :: es) X.env = (false, eval e X.env) :: starEach es X.env := by rfl) (hpl : (backTo pos (starEach es X.env)).any (·.1) = false := by rfl) : PED X c (.Call (.Name "isinstance" p) (e :: es) [] pos) (tCB (rIsi X.K) t) (mCB isiF m) :=
  ⟨pe_callB call_isi hg hm (by decide +kernel) ha.p (by decide) (by decide) he hpl, rf_cb cbd_isi ha.k⟩
end
end DL
end
section
set_option maxRecDepth 100000
set_option maxHeartbeats 4000000
namespace DL
open PySem PySem.Spec PyProof.Rows L2

section
variable {X : Cx} {c : Cd} {a b e d : Expr} {ma mb me mc : M Tk} {ta tb te tc : TE} {tt tu : TT} {pos : Pos} {K : PySem.W.Frag}
/-! isinstance(e, (T, U)) -/
def mIsi2 (T U : String) (m : M Tk) : M Tk := m.bind fun k => (use k).bind fun x => match x with
  | .d x => if askT T && askT U then M.ret (.v (.d (.bool (isT T x || isT U x)))) else M.st
  | _ => M.st
theorem kit_two {T U : String} {x : PyData} (h1 : askT T = true) (h2 : askT U = true) : PySem.W.kitAny K (.type (tyN x)) [.type T, .type U] = some (isT T x || isT U x) := by
  refine kitAny_cons (kit_one h1) (fun e => ?_) (fun e => by rw [e, Bool.true_or])
  rw [e, Bool.false_or]
  exact kitAny_cons (kit_one h2) (fun e => by rw [e]; rfl) (fun e => e)
theorem rf_isi2 {T U : String} (h : RfE K c te me) : RfE K c (tCB (rIsiT K) (tCons te (tCons (tTup (tCons (tC (.ty T)) (tCons (tC (.ty U)) tNil))) tNil))) (mIsi2 T U me) := by
  intro G B H σ rr t Q XP w s hx p
  unfold mIsi2 at p
  rw [post_bind] at p
  refine h G B H σ rr t _ XP w s hx (post_mono p fun k r1 t1 p => fun v1 B1 H1 l1 w1 s1 v1k => ?_)
  rw [post_bind] at p
  obtain ⟨x, bx, p⟩ := use_ok s1 v1k p
  cases x with
  | deal => exact p.elim
  | raw _ => exact p.elim
  | exc _ _ => exact p.elim
  | scr _ => exact p.elim
  | d x =>
    by_cases hh : (askT T && askT U) = true
    · have p : ((if (askT T && askT U) = true then M.ret (.v (.d (.bool (isT T x || isT U x)))) else M.st : M Tk) r1 t1).post _ XP := p
      rw [if_pos hh] at p
      rw [Bool.and_eq_true] at hh
      refine ⟨(by show 2 ≤ sizeLine; decide), fun q hq => ?_⟩
      obtain ⟨G', w', gg, _, back⟩ := Sls.push w1 s1
      refine ⟨v1, q, [.ty T, .ty U], .type (tyN x), [.type T, .type U], _, rfl, upd_same, .cons (.ty T) (.cons (.ty U) .nil), ?_, kit_two hh.1 hh.2, ?_⟩
      · refine ty_of (w1.lay (o := .tup [.ty T, .ty U]) hq) ?_
        rcases bx with bx | ⟨p1, vs, ds, e1, e2, e3, e4⟩
        · exact .inl bx
        · exact .inr ⟨p1, vs, ds, e1, e2, by rw [upd_ne (ne_of_none e3 hq)]; exact e3, e4⟩
      · obtain ⟨w4, s4⟩ := back B1 _ t1 (Bs.le.refl B1) (w'.lay (o := .tup [.ty T, .ty U]) hq)
        exact p _ B1 _ l1 w4 s4 (Dq.bl _)
    · have p : ((if (askT T && askT U) = true then M.ret (.v (.d (.bool (isT T x || isT U x)))) else M.st : M Tk) r1 t1).post _ XP := p
      rw [if_neg hh] at p
      exact p.elim
theorem pd_isi2 {p p1 p2 p3 : Pos} {k : Nat} {y z : Str} {T U : String} (hg : Gl X "isinstance") (hm : X.mg "isinstance" = none) (he : PED X c e te me) (hg1 : Gl X y) (hm1 : X.mg y = none) (hv1 : bootBuiltins y = some (.type T)) (hn1 : y ≠ "__name__") (hd1 : (y == ("__debug__" : Str)) = false)
    (hg2 : Gl X z) (hm2 : X.mg z = none) (hv2 : bootBuiltins z = some (.type U)) (hn2 : z ≠ "__name__") (hd2 : (z == ("__debug__" : Str)) = false)
    (hs : starEach [e, .Tuple [.Name y p1, .Name z p2] k p3] X.env = (false, eval e X.env) :: starEach [.Tuple [.Name y p1, .Name z p2] k p3] X.env := by rfl) :
    PED X c (.Call (.Name "isinstance" p) [e, .Tuple [.Name y p1, .Name z p2] k p3] [] pos) (tCB (rIsiT X.K) (tCons te (tCons (tTup (tCons (tC (.ty T)) (tCons (tC (.ty U)) tNil))) tNil))) (mIsi2 T U me) :=
  ⟨pe_callB call_isiT hg hm (by decide +kernel) (pa_cons he.p (pa_cons (pe_tup (pa_cons (pe_bltn hg1 hm1 hv1 rfl hn1 hd1) (pa_cons (pe_bltn hg2 hm2 hv2 rfl hn2 hd2) pa_nil))) pa_nil) hs) (by decide) (by decide) hs, rf_isi2 he.k⟩
/-! abs, int, tuple, list, max, min -/
def absF : List Sl → Option Sl
  | [.d (.int i)] => some (.d (.int (if i < 0 then -i else i)))
  | _ => none
def rAbs : List V → Hp → VK → Prop := fun xs H Q => ∃ i, xs = [.int i] ∧ Q (.int (if i < 0 then -i else i)) H
theorem cbd_abs : CbD K rAbs absF := by
  intro G B H t vs xs z Q w h e q
  unfold absF at e
  split at e
  · cases e
    match vs, h with
    | [v], h =>
      cases h.1.int
      exact ⟨_, rfl, q _ B H (Bs.le.refl B) w (.int _)⟩
  · cases e
def intF : List Sl → Option Sl
  | [.d (.int i)] => some (.d (.int i))
  | [.d (.bool b)] => some (.d (.int (if b then 1 else 0)))
  | _ => none
def rInt : List V → Hp → VK → Prop := fun xs H Q => (∃ i, xs = [.int i] ∧ Q (.int i) H) ∨ ∃ k, xs = [.bl k] ∧ Q (.int (if k then 1 else 0)) H
theorem cbd_int : CbD K rInt intF := by
  intro G B H t vs xs z Q w h e q
  unfold intF at e
  split at e
  · cases e
    match vs, h with
    | [v], h =>
      cases h.1.int
      exact .inl ⟨_, rfl, q _ B H (Bs.le.refl B) w (.int _)⟩
  · cases e
    match vs, h with
    | [v], h =>
      cases h.1.bl
      exact .inr ⟨_, rfl, q _ B H (Bs.le.refl B) w (.int _)⟩
  · cases e
def maxF : List Sl → Option Sl
  | [.d (.int i), .d (.int j)] => some (.d (.int (if j > i then j else i)))
  | _ => none
def minF : List Sl → Option Sl
  | [.d (.int i), .d (.int j)] => some (.d (.int (if j < i then j else i)))
  | _ => none
def rMax2' : List V → Hp → VK → Prop := fun xs H Q => ∃ i j, xs = [.int i, .int j] ∧ Q (.int (if j > i then j else i)) H
def rMin2' : List V → Hp → VK → Prop := fun xs H Q => ∃ i j, xs = [.int i, .int j] ∧ Q (.int (if j < i then j else i)) H
theorem cbd_max2 : CbD K rMax2' maxF := by
  intro G B H t vs xs z Q w h e q
  unfold maxF at e
  split at e
  · cases e
    match vs, h with
    | [v, u], h =>
      cases h.1.int
      cases h.2.1.int
      exact ⟨_, _, rfl, q _ B H (Bs.le.refl B) w (.int _)⟩
  · cases e
theorem cbd_min2 : CbD K rMin2' minF := by
  intro G B H t vs xs z Q w h e q
  unfold minF at e
  split at e
  · cases e
    match vs, h with
    | [v, u], h =>
      cases h.1.int
      cases h.2.1.int
      exact ⟨_, _, rfl, q _ B H (Bs.le.refl B) w (.int _)⟩
  · cases e
def tupF : List Sl → Option Sl
  | [.d (.list ds)] => some (.d (.tuple ds))
  | [.d (.tuple ds)] => some (.d (.tuple ds))
  | _ => none
def rTupC (K : PySem.W.Frag) : List V → Hp → VK → Prop := fun xs H Q => ∃ p ys, xs = [.ref p] ∧ ((SqL K H p ys ∧ ∀ l, H l = none → Q (.ref l) (upd H l (.tup ys))) ∨ SqT K H p ys ∧ Q (.ref p) H)
theorem cbd_tuple : CbD K (rTupC K) tupF := by
  intro G B H t vs xs z Q w h e q
  unfold tupF at e
  split at e
  · cases e
    match vs, h with
    | [v], h =>
      obtain ⟨a, ws, rfl, h1, r1⟩ := h.1.lst w
      exact ⟨a, ws, rfl, .inl ⟨SqL.of h1, fun l nl => new_tup w nl r1 q⟩⟩
  · cases e
    match vs, h with
    | [v], h =>
      obtain ⟨a, ws, rfl, h1, r1⟩ := h.1.tup
      exact ⟨a, ws, rfl, .inr ⟨sqt_mono w.sub h1, q _ B H (Bs.le.refl B) w (Dq.tup h1 r1)⟩⟩
  · cases e
section
variable {p : Pos} {es : List Expr} {t : TA} {m : M (List Tk)}
theorem pd_abs (hg : Gl X "abs") (hm : X.mg "abs" = none) (ha : PAD X c (e :: es) t m)
    (he : starEach (e :: es) X.env = (false, eval e X.env) :: starEach es X.env := by rfl) (hpl : (backTo pos (starEach es X.env)).any (·.1) = false := by rfl) : PED X c (.Call (.Name "abs" p) (e :: es) [] pos) (tCB rAbs t) (mCB absF m) :=
  ⟨pe_callB call_abs hg hm (by decide +kernel) ha.p (by decide) (by decide) he hpl, rf_cb cbd_abs ha.k⟩
theorem pd_intc (hg : Gl X "int") (hm : X.mg "int" = none) (ha : PAD X c (e :: es) t m)
    (he : starEach (e :: es) X.env = (false, eval e X.env) :: starEach es X.env := by rfl) (hpl : (backTo pos (starEach es X.env)).any (·.1) = false := by rfl) : PED X c (.Call (.Name "int" p) (e :: es) [] pos) (tCB rInt t) (mCB intF m) :=
  ⟨pe_callTy call_int1 hg hm (by decide +kernel) ha.p (by decide) (by decide) he hpl, rf_cb cbd_int ha.k⟩
theorem pd_max2 (hc : X.calm = true) (hg : Gl X "max") (hm : X.mg "max" = none) (ha : PAD X c (e :: es) t m)
    (he : starEach (e :: es) X.env = (false, eval e X.env) :: starEach es X.env := by rfl) (hpl : (backTo pos (starEach es X.env)).any (·.1) = false := by rfl) : PED X c (.Call (.Name "max" p) (e :: es) [] pos) (tCB rMax2' t) (mCB maxF m) :=
  ⟨pe_callB (call_max2 hc) hg hm (by decide +kernel) ha.p (by decide) (by decide) he hpl, rf_cb cbd_max2 ha.k⟩
theorem pd_min2 (hc : X.calm = true) (hg : Gl X "min") (hm : X.mg "min" = none) (ha : PAD X c (e :: es) t m)
    (he : starEach (e :: es) X.env = (false, eval e X.env) :: starEach es X.env := by rfl) (hpl : (backTo pos (starEach es X.env)).any (·.1) = false := by rfl) : PED X c (.Call (.Name "min" p) (e :: es) [] pos) (tCB rMin2' t) (mCB minF m) :=
  ⟨pe_callB (call_min2 hc) hg hm (by decide +kernel) ha.p (by decide) (by decide) he hpl, rf_cb cbd_min2 ha.k⟩
theorem pd_tupc (hg : Gl X "tuple") (hm : X.mg "tuple" = none) (ha : PAD X c (e :: es) t m)
    (he : starEach (e :: es) X.env = (false, eval e X.env) :: starEach es X.env := by rfl) (hpl : (backTo pos (starEach es X.env)).any (·.1) = false := by rfl) : PED X c (.Call (.Name "tuple" p) (e :: es) [] pos) (tCB (rTupC X.K) t) (mCB tupF m) :=
  ⟨pe_callTy call_tuple_of hg hm (by decide +kernel) ha.p (by decide) (by decide) he hpl, rf_cb cbd_tuple ha.k⟩
end
/-! built-ins that make a new list -/
def CbF (K : PySem.W.Frag) (r : List V → Hp → VK → Prop) (f : List Sl → Option (List PyData)) : Prop := ∀ (G : Hp) (B : Bs) (H : Hp) (t : Option Deal) (vs : List V) (xs : List Sl) (ds : List PyData) (Q : VK), Wd G B H t → BwA K B H vs xs → f xs = some ds →
  (∀ (p : Addr) (vs : List V), H p = none → DqAll K B.H vs ds → Q (.ref p) (upd H p (.lst vs))) → r vs H Q
def mCBF (f : List Sl → Option (List PyData)) (m : M (List Tk)) : M (List PyData) := m.bind fun ks => (useAll ks).bind fun xs => optM (f xs)
theorem rf_cbF {r : List V → Hp → VK → Prop} {f : List Sl → Option (List PyData)} {t : TA} {m : M (List Tk)} (ho : CbF K r f) (h : RfA K c t m) : RfF K c (tCB r t) (mCBF f m) := by
  intro G B H σ rr dl Q XP w s hx p
  unfold mCBF at p
  rw [post_bind] at p
  refine h G B H σ rr dl _ XP w s hx (post_mono p fun ks r1 t1 p => fun vs B1 H1 l1 w1 s1 v1 => ?_)
  rw [post_bind] at p
  obtain ⟨xs, bx, p⟩ := useAll_ok s1 v1 p
  obtain ⟨ds, e, p⟩ := optM_ok p
  refine ho G B1 H1 t1 vs xs ds Q w1 bx e fun a ws na q => ?_
  obtain ⟨w3, s3, f3⟩ := new_fr (K := K) (c := c) w1 s1 na q
  exact p a B1 _ l1 w3 s3 f3
def listF : List Sl → Option (List PyData)
  | [.d (.list ds)] => some ds
  | [.d (.tuple ds)] => some ds
  | _ => none
def rListC (K : PySem.W.Frag) : List V → Hp → VK → Prop := fun xs H Q => ∃ p ys, xs = [.ref p] ∧ (SqL K H p ys ∨ SqT K H p ys) ∧ ∀ l, H l = none → Q (.ref l) (upd H l (.lst ys))
theorem cbf_list : CbF K (rListC K) listF := by
  intro G B H t vs xs z Q w h e q
  unfold listF at e
  split at e
  · cases e
    match vs, h with
    | [v], h =>
      obtain ⟨a, ws, rfl, h1, r1⟩ := h.1.lst w
      exact ⟨a, ws, rfl, .inl (SqL.of h1), fun l nl => q l ws nl r1⟩
  · cases e
    match vs, h with
    | [v], h =>
      obtain ⟨a, ws, rfl, h1, r1⟩ := h.1.tup
      exact ⟨a, ws, rfl, .inr (sqt_mono w.sub h1), fun l nl => q l ws nl r1⟩
  · cases e
theorem pf_list {p : Pos} {es : List Expr} {t : TA} {m : M (List Tk)} (hg : Gl X "list") (hm : X.mg "list" = none) (ha : PAD X c (e :: es) t m)
    (he : starEach (e :: es) X.env = (false, eval e X.env) :: starEach es X.env := by rfl) (hpl : (backTo pos (starEach es X.env)).any (·.1) = false := by rfl) : PFD X c (.Call (.Name "list" p) (e :: es) [] pos) (tCB (rListC X.K) t) (mCBF listF m) :=
  ⟨pe_callTy call_list_of hg hm (by decide +kernel) ha.p (by decide) (by decide) he hpl, rf_cbF cbf_list ha.k⟩

/-! ### 13. Methods of an owned list -/
/-- the content of the list that slot i owns -/
def getO (i : Nat) : M (List PyData) := fun r t => match r[i]? with
  | some (some (.d (.list ds))) => .ok ds r t
  | _ => .st
def setO {α : Type} (i : Nat) (ds : List PyData) (a : α) : M α := fun r t => .ok a (r.set i (some (.d (.list ds)))) t
def oneD : List Tk → Option PyData
  | [.v (.d x)] => some x
  | _ => none
def mAppend (i : Nat) (m : M (List Tk)) : M Tk := m.bind fun ks => (optM (oneD ks)).bind fun x => (getO i).bind fun ds => if ds.length < 16777216 then setO i (ds ++ [x]) (.v (.d .none)) else M.st
theorem getO_ok {ow : List Nat} {G : Hp} {B : Bs} {H : Hp} {σ : L2.St} {r : Rho} {t : Option Deal} {XP : XQ} {i : Nat} {Q : List PyData → Rho → Option Deal → Prop} (s : Sls K ow G B H σ r) (hi : i ∈ ow) (p : (getO i r t).post Q XP) :
    ∃ (ds : List PyData) (a : Addr) (vs : List V), r[i]? = some (some (.d (.list ds))) ∧ σ[i]? = some (some (.ref a)) ∧ H a = some (.lst vs) ∧ DqAll K B.H vs ds ∧ B.H a = none ∧ G a = none ∧ Ndl B a ∧ Q ds r t := by
  unfold getO at p
  split at p
  · rename_i ds h
    obtain ⟨ds', a, vs, h1, h2, h3, h4, h5, h6, h7⟩ := s.own i _ h hi
    injection h1 with h1
    injection h1 with h1
    subst h1
    exact ⟨ds, a, vs, h, h2, h3, h4, h5, h6, h7, p⟩
  · exact p.elim
theorem oneD_ok {B : Bs} {ow : List Nat} {σ : L2.St} {ks : List Tk} {vs : List V} {x : PyData} (e : oneD ks = some x) (h : TvA K B ow σ vs ks) : ∃ v, vs = [v] ∧ Dq K B.H v x := by
  unfold oneD at e
  split at e
  · cases e
    match vs, h with
    | [v], h => exact ⟨v, rfl, h.1⟩
  · cases e
theorem own_var {ow : List Nat} {G : Hp} {B : Bs} {H : Hp} {σ : L2.St} {r : Rho} {i : Nat} {x : Sl} (s : Sls K ow G B H σ r) (hi : i ∈ ow) (hx : r[i]? = some (some x)) : ∃ (p : Addr) (vs : List V), σ[i]? = some (some (.ref p)) ∧ H p = some (.lst vs) := by
  obtain ⟨ds, a, vs, _, h2, h3, _⟩ := s.own i x hx hi
  exact ⟨a, vs, h2, h3⟩
/-- slot i has a list -/
def has {α : Type} (i : Nat) (m : M α) : M α := fun r t => match r[i]? with
  | some (some (.d (.list _))) => m r t
  | _ => .st
theorem rf_append {i : Nat} (hi : i ∈ c.ow) {t : TA} {m : M (List Tk)} (h : RfA K c t m) : RfE K c (tBM K "list" (fun x vs H Q => rAppend x vs H Q) (tVar i) t) (has i (mAppend i m)) := by
  intro G B H σ rr dl Q XP w s hx p
  unfold has at p
  split at p
  · rename_i d0 h0
    obtain ⟨p0, vs0, e1, e2⟩ := own_var s hi h0
    refine ⟨_, e1, .inl ⟨rfl, vs0, SqL.of e2⟩, ?_⟩
    unfold mAppend at p
    rw [post_bind] at p
    refine h G B H σ rr dl _ XP w s hx (post_mono p fun ks r1 t1 p => fun vs B1 H1 l1 w1 s1 v1 => ?_)
    rw [post_bind] at p
    obtain ⟨x, ex, p⟩ := optM_ok p
    rw [post_bind] at p
    obtain ⟨ds, a, ws, g1, g2, g3, g4, g5, g6, g7, p⟩ := getO_ok s1 hi p
    obtain ⟨v, rfl, dv⟩ := oneD_ok ex v1
    by_cases hz : ds.length < 16777216
    · rw [if_pos hz] at p
      rw [e1] at g2
      injection g2 with g2; injection g2 with g2; injection g2 with g2
      subst g2
      refine ⟨p0, ws, v, rfl, rfl, g3, size_lt (by rw [g4.len]; exact hz), ?_⟩
      exact p .non B1 _ l1 (w1.chg g3 g5 g6 g7) (s1.chg hi g1 e1 (g4.app (.cons dv .nil))) .non
    · rw [if_neg hz] at p
      exact p.elim
  · exact p.elim
theorem pd_append {i : Nat} (hi : i ∈ c.ow) {x : Str} {px apos : Pos} {es : List Expr} {t : TA} {m : M (List Tk)} (hN : X.N[i]? = some x) (hv : Vis X.env.scope x) (ha : PAD X c (e :: es) t m) (hp : PE X (.Name x px) (tVar i) → PA X (e :: es) t → PE X (.Call (.Attribute (.Name x px) "append" apos) (e :: es) [] pos) (tBM X.K "list" (fun x vs H Q => rAppend x vs H Q) (tVar i) t))
    (hd : (x == ("__debug__" : Str)) = false := by decide) (hcd : (x == ("__classdict__" : Str)) = false := by decide) :
    PED X c (.Call (.Attribute (.Name x px) "append" apos) (e :: es) [] pos) (tBM X.K "list" (fun x vs H Q => rAppend x vs H Q) (tVar i) t) (has i (mAppend i m)) := ⟨hp (pe_var hN hv hd hcd) ha.p, rf_append hi ha.k⟩
/-- pop() -/
def mPop (i : Nat) : M Tk := (getO i).bind fun ds => (optM ds.getLast?).bind fun x => setO i ds.dropLast (.v (.d x))
theorem DqAll.dropLast {H : Hp} {vs : List V} {xs : List PyData} (h : DqAll K H vs xs) : DqAll K H vs.dropLast xs.dropLast := by
  rw [List.dropLast_eq_take, List.dropLast_eq_take, h.len]
  exact h.take _
theorem rf_pop {i : Nat} (hi : i ∈ c.ow) : RfE K c (tBM0 K "list" (fun x vs H Q => rPop x vs H Q) (tVar i)) (mPop i) := by
  intro G B H σ rr dl Q XP w s hx p
  unfold mPop at p
  rw [post_bind] at p
  obtain ⟨ds, a, ws, g1, g2, g3, g4, g5, g6, g7, p⟩ := getO_ok s hi p
  rw [post_bind] at p
  obtain ⟨x, ex, p⟩ := optM_ok p
  have ex' : ds[ds.length - 1]? = some x := by rw [← List.getLast?_eq_getElem?]; exact ex
  obtain ⟨v, ev, dv⟩ := g4.get ex'
  refine ⟨_, g2, .inl ⟨rfl, ws, SqL.of g3⟩, a, ws, v, rfl, rfl, g3, by rw [g4.len]; exact ev, ?_⟩
  exact p v B _ (Bs.le.refl B) (w.chg g3 g5 g6 g7) (s.chg hi g1 g2 g4.dropLast) dv
theorem pd_pop {i : Nat} (hi : i ∈ c.ow) {x : Str} {px apos : Pos} (hN : X.N[i]? = some x) (hv : Vis X.env.scope x) (hp : PE X (.Name x px) (tVar i) → PE X (.Call (.Attribute (.Name x px) "pop" apos) [] [] pos) (tBM0 X.K "list" (fun x vs H Q => rPop x vs H Q) (tVar i)))
    (hd : (x == ("__debug__" : Str)) = false := by decide) (hcd : (x == ("__classdict__" : Str)) = false := by decide) :
    PED X c (.Call (.Attribute (.Name x px) "pop" apos) [] [] pos) (tBM0 X.K "list" (fun x vs H Q => rPop x vs H Q) (tVar i)) (mPop i) := ⟨hp (pe_var hN hv hd hcd), rf_pop hi⟩
/-- pop(k), 0 ≤ k -/
def mPopAt (i : Nat) (m : M (List Tk)) : M Tk := m.bind fun ks => (optM (oneD ks)).bind fun x => (optM (intOf (.d x))).bind fun k => (getO i).bind fun ds => if 0 ≤ k ∧ k < 1000000 then (optM ds[k.toNat]?).bind fun y => setO i (ds.eraseIdx k.toNat) (.v (.d y)) else M.st
theorem intOf_ok {x : PyData} {k : Int} (h : intOf (.d x) = some k) : x = .int k := by
  cases x with
  | int i => cases h; rfl
  | _ => cases h
theorem seqIndex_nat {k : Int} {n : Nat} (h0 : 0 ≤ k) (h : k.toNat < n) : seqIndex? k n = some k.toNat := by
  unfold seqIndex?
  have h1 : ¬ k < 0 := by omega
  have h2 : (decide (0 ≤ k) && decide (k < (n : Int))) = true := by
    rw [Bool.and_eq_true]
    exact ⟨decide_eq_true h0, decide_eq_true (by omega)⟩
  simp only [h1, if_false, h2, if_true]
theorem rf_popAt {i : Nat} (hi : i ∈ c.ow) {t : TA} {m : M (List Tk)} (h : RfA K c t m) : RfE K c (tBM K "list" (fun x vs H Q => rPopAt x vs H Q) (tVar i) t) (has i (mPopAt i m)) := by
  intro G B H σ rr dl Q XP w s hx p
  unfold has at p
  split at p
  · rename_i d0 h0
    obtain ⟨p0, vs0, e1, e2⟩ := own_var s hi h0
    refine ⟨_, e1, .inl ⟨rfl, vs0, SqL.of e2⟩, ?_⟩
    unfold mPopAt at p
    rw [post_bind] at p
    refine h G B H σ rr dl _ XP w s hx (post_mono p fun ks r1 t1 p => fun vs B1 H1 l1 w1 s1 v1 => ?_)
    rw [post_bind] at p
    obtain ⟨x, ex, p⟩ := optM_ok p
    rw [post_bind] at p
    obtain ⟨k, ek, p⟩ := optM_ok p
    rw [post_bind] at p
    obtain ⟨ds, a, ws, g1, g2, g3, g4, g5, g6, g7, p⟩ := getO_ok s1 hi p
    obtain ⟨v, rfl, dv⟩ := oneD_ok ex v1
    by_cases hz : 0 ≤ k ∧ k < 1000000
    · rw [if_pos hz, post_bind] at p
      obtain ⟨y, ey, pp⟩ := optM_ok p
      rw [e1] at g2
      injection g2 with g2; injection g2 with g2; injection g2 with g2
      subst g2
      obtain ⟨u, eu, du⟩ := g4.get ey
      have ex2 := intOf_ok ek
      subst ex2
      have ev : v = .int k := by cases dv; rfl
      subst ev
      refine ⟨p0, ws, k, k.toNat, u, rfl, rfl, g3, by omega, by omega, seqIndex_nat hz.1 (by rw [g4.len]; exact (List.getElem?_eq_some_iff.mp ey).1), eu, ?_⟩
      exact pp u B1 _ l1 (w1.chg g3 g5 g6 g7) (s1.chg hi g1 e1 (g4.eraseIdx _)) du
    · rw [if_neg hz] at p
      exact p.elim
  · exact p.elim
theorem pd_popAt {i : Nat} (hi : i ∈ c.ow) {x : Str} {px apos : Pos} {es : List Expr} {t : TA} {m : M (List Tk)} (hN : X.N[i]? = some x) (hv : Vis X.env.scope x) (ha : PAD X c (e :: es) t m) (hp : PE X (.Name x px) (tVar i) → PA X (e :: es) t → PE X (.Call (.Attribute (.Name x px) "pop" apos) (e :: es) [] pos) (tBM X.K "list" (fun x vs H Q => rPopAt x vs H Q) (tVar i) t))
    (hd : (x == ("__debug__" : Str)) = false := by decide) (hcd : (x == ("__classdict__" : Str)) = false := by decide) :
    PED X c (.Call (.Attribute (.Name x px) "pop" apos) (e :: es) [] pos) (tBM X.K "list" (fun x vs H Q => rPopAt x vs H Q) (tVar i) t) (has i (mPopAt i m)) := ⟨hp (pe_var hN hv hd hcd) ha.p, rf_popAt hi ha.k⟩
/-- extend(e) -/
def mExtend (i : Nat) (m : M (List PyData)) : M Tk := m.bind fun xs => (getO i).bind fun ds => if ds.length + xs.length ≤ 16777216 then setO i (ds ++ xs) (.v (.d .none)) else M.st
theorem rf_extend {i : Nat} (hi : i ∈ c.ow) {m : M (List PyData)} (h : RfF K c te m) : RfE K c (tBM K "list" (fun x vs H Q => rExtend x vs H Q) (tVar i) (tCons te tNil)) (has i (mExtend i m)) := by
  intro G B H σ rr dl Q XP w s hx p
  unfold has at p
  split at p
  · rename_i d0 h0
    obtain ⟨p0, vs0, e1, e2⟩ := own_var s hi h0
    refine ⟨_, e1, .inl ⟨rfl, vs0, SqL.of e2⟩, ?_⟩
    unfold mExtend at p
    rw [post_bind] at p
    refine h G B H σ rr dl _ XP w s hx (post_mono p fun xs r1 t1 p => fun a B1 H1 l1 w1 s1 f => ?_)
    rw [post_bind] at p
    obtain ⟨ds, a', ws, g1, g2, g3, g4, g5, g6, g7, p⟩ := getO_ok s1 hi p
    obtain ⟨vs, h1, h2⟩ := f.at_
    by_cases hz : ds.length + xs.length ≤ 16777216
    · rw [if_pos hz] at p
      rw [e1] at g2
      injection g2 with g2; injection g2 with g2; injection g2 with g2
      subst g2
      refine ⟨p0, a, ws, vs, rfl, rfl, g3, h1, size_ok (by rw [g4.len, h2.len]; exact hz), ?_⟩
      exact p .non B1 _ l1 (w1.chg g3 g5 g6 g7) (s1.chg hi g1 e1 (g4.app h2)) .non
    · rw [if_neg hz] at p
      exact p.elim
  · exact p.elim
theorem pd_extend {i : Nat} (hi : i ∈ c.ow) {x : Str} {px apos : Pos} {m : M (List PyData)} (hN : X.N[i]? = some x) (hv : Vis X.env.scope x) (ha : PFD X c e te m) (hp : PE X (.Name x px) (tVar i) → PA X [e] (tCons te tNil) → PE X (.Call (.Attribute (.Name x px) "extend" apos) [e] [] pos) (tBM X.K "list" (fun x vs H Q => rExtend x vs H Q) (tVar i) (tCons te tNil)))
    (hs : starEach [e] X.env = (false, eval e X.env) :: starEach [] X.env := by rfl) (hd : (x == ("__debug__" : Str)) = false := by decide) (hcd : (x == ("__classdict__" : Str)) = false := by decide) :
    PED X c (.Call (.Attribute (.Name x px) "extend" apos) [e] [] pos) (tBM X.K "list" (fun x vs H Q => rExtend x vs H Q) (tVar i) (tCons te tNil)) (has i (mExtend i m)) := ⟨hp (pe_var hN hv hd hcd) (pa_cons ha.p pa_nil hs), rf_extend hi ha.k⟩
end
end DL
end
section
set_option maxRecDepth 100000
set_option maxHeartbeats 4000000
namespace DL
open PySem PySem.Spec PyProof.Rows L2

/-! ### 14. Defs: what they compute, their promise, their calls -/
inductive Res where
  | ok (x : Sl) (t : Option Deal)
  | ex (c : Str) (x : PyData) (t : Option Deal)
  | st
abbrev FM := List Sl → Option Deal → Res
def SvA (K : PySem.W.Frag) (B : Bs) : List V → List Sl → Prop
  | [], [] => True
  | v :: vs, x :: xs => Sv K B v x ∧ SvA K B vs xs
  | _, _ => False
theorem SvA.len {K : PySem.W.Frag} {B : Bs} : ∀ {vs : List V} {xs : List Sl}, SvA K B vs xs → vs.length = xs.length
  | [], [], _ => rfl
  | _ :: _, _ :: _, h => by simp [SvA.len h.2]
  | [], _ :: _, h => h.elim
  | _ :: _, [], h => h.elim
theorem SvA.get {K : PySem.W.Frag} {B : Bs} : ∀ {vs : List V} {xs : List Sl} {i : Nat} {x : Sl}, SvA K B vs xs → xs[i]? = some x → ∃ v, vs[i]? = some v ∧ Sv K B v x
  | [], [], i, _, _, e => by simp at e
  | v :: _, _ :: _, 0, _, h, e => by simp at e; subst e; exact ⟨v, rfl, h.1⟩
  | _ :: _, _ :: _, i + 1, _, h, e => by
    obtain ⟨v, h1, h2⟩ := SvA.get (i := i) h.2 (by simpa using e)
    exact ⟨v, by simpa using h1, h2⟩
  | [], _ :: _, _, _, h, _ => h.elim
  | _ :: _, [], _, _, h, _ => h.elim
/-- the promise «computes F» of a def of n parameters -/
def spD (K : PySem.W.Frag) (ec : Ec) (n : Nat) (F : FM) : Sp := fun vs H Q E => ∃ (G : Hp) (B : Bs) (xs : List Sl) (t : Option Deal), Wd G B H t ∧ B.tb = ec.tb ∧ SvA K B vs xs ∧ xs.length = n ∧ match F xs t with
  | .ok x t' => ∀ (v : V) (B' : Bs) (H' : Hp), B.le B' → Wd G B' H' t' → Sv K B' v x → Q v H'
  | .ex c x t' => ∀ (B' : Bs) (H' : Hp) (C dd : Addr) (v : V), B.le B' → Wd G B' H' t' → ec.f c = some C → B'.H dd = some (.xd [(("at" : Str), v)]) → Dq K B'.H v x → E (.ref C) (some dd) H'
  | .st => False
theorem spD_len {K : PySem.W.Frag} {ec : Ec} {n : Nat} {F : FM} {vs : List V} {H : Hp} {Q : VK} {E : XK} (h : spD K ec n F vs H Q E) : vs.length = n := by
  obtain ⟨G, B, xs, t, _, _, h1, h2, _⟩ := h
  rw [h1.len, h2]
def keepAll : List Tk → Option (List Sl)
  | [] => some []
  | .v x :: ks => match keepAll ks with
    | some xs => some (x :: xs)
    | none => none
  | .o _ :: _ => none
def runF (F : FM) (xs : List Sl) : M Tk := fun r t => match F xs t with
  | .ok x t' => .ok (.v x) r t'
  | .ex c x t' => .ex c x t'
  | .st => .st
def mCall (n : Nat) (F : FM) (m : M (List Tk)) : M Tk := m.bind fun ks => (optM (keepAll ks)).bind fun xs => if xs.length = n then runF F xs else M.st
section
variable {X : Cx} {c : Cd} {a b e d : Expr} {ma mb me mc : M Tk} {ta tb te tc : TE} {tt tu : TT} {pos : Pos} {K : PySem.W.Frag}
theorem keepAll_ok {B : Bs} {ow : List Nat} {σ : L2.St} : ∀ {ks : List Tk} {vs : List V} {xs : List Sl}, keepAll ks = some xs → TvA K B ow σ vs ks → SvA K B vs xs
  | [], [], xs, e, _ => by cases e; exact True.intro
  | .v x :: ks, v :: vs, xs, e, h => by
    unfold keepAll at e
    cases q : keepAll ks with
    | none => rw [q] at e; cases e
    | some ys =>
      rw [q] at e
      cases e
      exact ⟨h.1, keepAll_ok q h.2⟩
  | [], _ :: _, _, _, h => h.elim
  | .v _ :: _, [], _, _, h => h.elim
  | .o _ :: _, _, _, e, _ => by cases e
theorem rf_call {n : Nat} {F : FM} {t : TA} {m : M (List Tk)} (h : RfA K c t m) : RfE K c (tCall (spD K c.ec n F) [] c.E t) (mCall n F m) := by
  intro G B H σ rr dl Q XP w s hx p
  unfold mCall at p
  rw [post_bind] at p
  refine h G B H σ rr dl _ XP w s hx (post_mono p fun ks r1 t1 p => fun vs B1 H1 l1 w1 s1 v1 => ?_)
  rw [post_bind] at p
  obtain ⟨xs, ex, p⟩ := optM_ok p
  by_cases hn : xs.length = n
  · rw [if_pos hn] at p
    obtain ⟨G', w', gg, _, back⟩ := Sls.push w1 s1
    refine ⟨G', B1, xs, t1, w', l1.b.trans hx.1, by rw [List.append_nil]; exact keepAll_ok ex v1, hn, ?_⟩
    unfold runF at p
    cases hF : F xs t1 with
    | ok x t' =>
      rw [hF] at p
      intro v B' H' l w2 sv
      obtain ⟨w3, s3⟩ := back B' H' t' l w2
      exact p v B' H' (l1.trans l) w3 s3 sv
    | ex cn x t' =>
      rw [hF] at p
      intro B' H' C dd v l w2 he hd hq
      exact hx.2 cn x t' B' H' C dd v p (l1.trans l) (w2.less gg) he hd hq
    | st => rw [hF] at p; exact p.elim
  · rw [if_neg hn] at p
    exact p.elim
/-- f(e, ..) -/
theorem pd_call {x : Str} {p : Pos} {f : Addr} {fd : FuncData} {ps : List Str} {k n : Nat} {F : FM} {es : List Expr} {t : TA} {m : M (List Tk)} {CX : CXT} (Fk : FnOk X.prog X.w X.K X.mg X.base CX k f fd ps (spD X.K c.ec n F)) (hr : Room k X.A) (hg : Gl X x) (hm : X.mg x = some (.ref f)) (hk : PySem.W.keepIn X.K (.ref f) = true)
    (hb : Binds X.K fd ps []) (hx : Passes CX X c.E) (ha : PAD X c (e :: es) t m) (hdb : (x == ("__debug__" : Str)) = false := by decide)
    (he : starEach (e :: es) X.env = (false, eval e X.env) :: starEach es X.env := by rfl) (hpl : (backTo pos (starEach es X.env)).any (·.1) = false := by rfl) :
    PED X c (.Call (.Name x p) (e :: es) [] pos) (tCall (spD X.K c.ec n F) [] c.E t) (mCall n F m) := ⟨pe_call Fk hr hg hm hk hb .nil hx ha.p hdb he hpl, rf_call ha.k⟩
/-! keyword arguments alone -/
def tCallK0 (sp : Sp) (gV : List V → List V) (E : XK) (tk : TA) : TE := fun σ H Q => tk σ H fun zs H2 => sp (gV zs) H2 Q E
theorem pe_callK0 {CX : CXT} {k : Nat} {f : Addr} {fd : FuncData} {ps ks : List Str} {sp : Sp} {E : XK} {x : Str} {p : Pos} {kws : List Keyword} {tk : TA} {g : List Value → List Value} {gV : List V → List V}
    (F : FnOk X.prog X.w X.K X.mg X.base CX k f fd ps sp) (hr : Room k X.A) (hg : Gl X x) (hm : X.mg x = some (.ref f)) (hk : PySem.W.keepIn X.K (.ref f) = true) (hx : Passes CX X E)
    (hb : ∀ (s : Shared) (ws : List Value), (g ws).length = ps.length → BindsTo s fd ⟨[], ks.zip ws⟩ (ps.zip (g ws))) (hrel : ∀ {zs : List V} {ws : List Value}, Vals zs ws → Vals (gV zs) (g ws))
    (hkw : PK X kws tk) (hall : (backToKw pos (keywordEach kws X.env)).all (·.1.isSome) = true := by rfl) (hks : (backToKw pos (keywordEach kws X.env)).filterMap (·.1) = ks := by rfl) (hdb : (x == ("__debug__" : Str)) = false := by decide)
    (hpl : ((backTo pos (starEach [] X.env)).any (·.1) || (backToKw pos (keywordEach kws X.env)).any (·.1.isNone)) = false := by rfl) :
    PE X (.Call (.Name x p) [] kws pos) (tCallK0 sp gV E tk) := by
  refine ⟨fun pins s σ H Q I h => ?_⟩
  refine wpAny_Call_Name_kw (ld_glob I hg hm ?_ hdb)
  refine PySem.W.callWith_KW0 (h₀ := X.base) I.ok.mod.kin hk hall (thn (hkw.run pos pins s σ H _ I h) fun ws s2 ⟨zs, H2, I2, rz, q2⟩ => ⟨I2.kIn, ?_⟩) hpl
  rw [hks]
  have r2 := hrel rz
  have hl : (g ws).length = ps.length := by rw [← r2.length]; exact F.len _ _ _ _ q2
  refine wpAny_call (codeAny_mono (F.run X.A X.stack s2 H2 ⟨[], ks.zip ws⟩ (g ws) (gV zs) Q E hr I2.env0 (hb s2 ws hl) r2 q2) fun r s' hq => ?_)
  cases r with
  | error e => exact hx pins σ H2 s2 e s' I2 hq
  | ok fl =>
    cases fl with
    | ret u => exact I2.after hq
    | next => exact False.elim hq
    | brk => exact False.elim hq
    | cont => exact False.elim hq
structure PKD (X : Cx) (c : Cd) (kws : List Keyword) (ta : TA) (m : M (List Tk)) : Prop where
  p : PK X kws ta
  k : RfA X.K c ta m
theorem pkd_nil : PKD X c [] tNil mNil := ⟨pk_nil, rf_nil⟩
theorem pkd_cons {kws : List Keyword} {t : TA} {n : M (List Tk)} {nm : Option Str} {kpos : Pos} (h1 : PED X c e te me) (h2 : PKD X c kws t n) : PKD X c (⟨nm, e, kpos⟩ :: kws) (tCons te t) (mCons me n) := ⟨pk_cons h1.p h2.p, rf_cons h1.k h2.k⟩
/-- in the parameters' order -/
theorem rf_callK {n : Nat} {F : FM} {t : TA} {m : M (List Tk)} (h : RfA K c t m) : RfE K c (tCallK0 (spD K c.ec n F) (fun z => z) c.E t) (mCall n F m) := by
  have q := rf_call (K := K) (c := c) (n := n) (F := F) h
  intro G B H σ rr dl Q XP w s hx p
  have z := q G B H σ rr dl Q XP w s hx p
  unfold tCall at z
  simp only [List.append_nil] at z
  exact z
theorem pd_callK {x : Str} {p : Pos} {f : Addr} {fd : FuncData} {ps : List Str} {k n : Nat} {F : FM} {kws : List Keyword} {t : TA} {m : M (List Tk)} {CX : CXT} (Fk : FnOk X.prog X.w X.K X.mg X.base CX k f fd ps (spD X.K c.ec n F)) (hr : Room k X.A) (hg : Gl X x) (hm : X.mg x = some (.ref f)) (hk : PySem.W.keepIn X.K (.ref f) = true)
    (hx : Passes CX X c.E) (hb : ∀ (s : Shared) (ws : List Value), ws.length = ps.length → BindsTo s fd ⟨[], ps.zip ws⟩ (ps.zip ws)) (ha : PKD X c kws t m)
    (hall : (backToKw pos (keywordEach kws X.env)).all (·.1.isSome) = true := by rfl) (hks : (backToKw pos (keywordEach kws X.env)).filterMap (·.1) = ps := by rfl) (hdb : (x == ("__debug__" : Str)) = false := by decide)
    (hpl : ((backTo pos (starEach [] X.env)).any (·.1) || (backToKw pos (keywordEach kws X.env)).any (·.1.isNone)) = false := by rfl) :
    PED X c (.Call (.Name x p) [] kws pos) (tCallK0 (spD X.K c.ec n F) (fun z => z) c.E t) (mCall n F m) :=
  ⟨pe_callK0 (g := fun z => z) (gV := fun z => z) Fk hr hg hm hk hx hb (fun h => h) ha.p hall hks hdb hpl, rf_callK ha.k⟩
/-! a call that is handed an owned list to read: it hands back a scalar -/
def scalS : Sl → Bool
  | .d x => flatD x
  | _ => false
def runB (F : FM) (xs : List Sl) : M Tk := fun r t => match F xs t with
  | .ok x t' => if scalS x then .ok (.v x) r t' else .st
  | .ex c x t' => if flatD x then .ex c x t' else .st
  | .st => .st
def mCallB (n : Nat) (F : FM) (m : M (List Tk)) : M Tk := m.bind fun ks => (useAll ks).bind fun xs => if xs.length = n then runB F xs else M.st
theorem sv_scal {B B' : Bs} {v : V} {x : PyData} (h : Dq K B.H v x) (f : flatD x = true) : Dq K B'.H v x := by
  cases h <;> first | (cases f; done) | constructor
theorem rf_callB {n : Nat} {F : FM} {t : TA} {m : M (List Tk)} (h : RfA K c t m) : RfE K c (tCall (spD K c.ec n F) [] c.E t) (mCallB n F m) := by
  classical
  intro G B H σ rr dl Q XP w s hx p
  unfold mCallB at p
  rw [post_bind] at p
  refine h G B H σ rr dl _ XP w s hx (post_mono p fun ks r1 t1 p => fun vs B1 H1 l1 w1 s1 v1 => ?_)
  rw [post_bind] at p
  -- all owned lists frozen for the time being
  let own : Addr → Prop := fun a => ∃ i, i ∈ c.ow ∧ Live r1 i ∧ σ[i]? = some (some (.ref a))
  have hown : ∀ a, own a → ∃ (ds : List PyData) (vs : List V), H1 a = some (.lst vs) ∧ DqAll K B1.H vs ds ∧ B1.H a = none ∧ G a = none ∧ Ndl B1 a := fun a ⟨i, hi, ⟨x, hx⟩, hs⟩ => by
    obtain ⟨ds, p, vs, _, h2, h3, h4, h5, h6, h7⟩ := s1.own i x hx hi
    rw [hs] at h2
    have e : a = p := by injection h2 with h2; injection h2 with h2; injection h2
    subst e
    exact ⟨ds, vs, h3, h4, h5, h6, h7⟩
  let B2 : Bs := ⟨fun a => if own a then H1 a else B1.H a, B1.dl, B1.x, B1.tb⟩
  have b2o : ∀ a, own a → B2.H a = H1 a := fun a q => if_pos q
  have b2n : ∀ a, ¬ own a → B2.H a = B1.H a := fun a q => if_neg q
  have l2 : B1.le B2 := ⟨fun a o e => by
    have n : ¬ own a := fun q => by
      obtain ⟨_, _, _, _, z, _⟩ := hown a q
      rw [z] at e; cases e
    rw [b2n a n]; exact e, fun _ e => e, fun _ e => e, rfl⟩
  have w2 : Wd G B2 H1 t1 := by
    refine ⟨fun a o e => ?_, fun a o e => ?_, ?_, ⟨w1.tb.tabs, fun a ps e => ?_, w1.tb.nG⟩⟩
    rotate_left 3
    · by_cases q : own a
      · rw [b2o a q] at e
        obtain ⟨_, _, z, _⟩ := hown a q
        rw [z] at e; cases e
      · rw [b2n a q] at e; exact w1.tb.nB _ _ e
    · by_cases q : own a
      · rw [b2o a q] at e; exact e
      · rw [b2n a q] at e; exact w1.sub _ _ e
    · have n : ¬ own a := fun q => by
        obtain ⟨_, _, _, _, _, z, _⟩ := hown a q
        rw [z] at e; cases e
      obtain ⟨e1, e2⟩ := w1.fgn _ _ e
      exact ⟨e1, by rw [b2n a n]; exact e2⟩
    · have dd := w1.deal
      show DealAt G B2 H1 B1.dl t1
      cases hd : B1.dl with
      | none => rw [hd] at dd; cases t1 <;> exact dd
      | some q =>
        obtain ⟨da, l⟩ := q
        rw [hd] at dd
        cases t1 with
        | none => exact dd.elim
        | some t1 =>
          obtain ⟨h1, h2, h3, h4, h5⟩ := dd
          have n1 : ¬ own da := fun q => by
            obtain ⟨_, _, _, _, _, _, z⟩ := hown _ q
            exact (z da l hd).1 rfl
          have n2 : ¬ own l := fun q => by
            obtain ⟨_, _, _, _, _, _, z⟩ := hown _ q
            exact (z da l hd).2 rfl
          exact ⟨h1, h2, by rw [b2n _ n1]; exact h3, by rw [b2n _ n2]; exact h4, h5⟩
  have args : ∀ {ks : List Tk} {vs : List V} {Q : List Sl → Rho → Option Deal → Prop}, TvA K B1 c.ow σ vs ks → (useAll ks r1 t1).post Q XP → ∃ xs, SvA K B2 vs xs ∧ Q xs r1 t1 := by
    intro ks
    induction ks with
    | nil =>
      intro vs Q h p
      cases vs with
      | nil => exact ⟨[], True.intro, p⟩
      | cons _ _ => exact h.elim
    | cons k ks ih =>
      intro vs Q h p
      cases vs with
      | nil => exact h.elim
      | cons v vs =>
        unfold useAll at p
        rw [post_bind] at p
        cases k with
        | v x =>
          have p : ((useAll ks).bind (fun xs => M.ret (x :: xs)) r1 t1).post Q XP := p
          rw [post_bind] at p
          obtain ⟨xs, hxs, p⟩ := ih h.2 p
          exact ⟨x :: xs, ⟨Sv.mono l2 h.1, hxs⟩, p⟩
        | o i =>
          obtain ⟨hi, hs⟩ := h.1
          unfold use at p
          simp only at p
          cases hr : r1[i]? with
          | none => rw [hr] at p; exact p.elim
          | some o =>
            cases o with
            | none => rw [hr] at p; exact p.elim
            | some x =>
              rw [hr] at p
              obtain ⟨ds, a, ws, h1, h2, h3, h4, _⟩ := s1.own i x hr hi
              rw [hs] at h2
              have e : v = .ref a := by injection h2 with h2; injection h2
              subst e
              subst h1
              have p : ((useAll ks).bind (fun xs => M.ret (Sl.d (.list ds) :: xs)) r1 t1).post Q XP := p
              rw [post_bind] at p
              obtain ⟨xs, hxs, p⟩ := ih h.2 p
              exact ⟨Sl.d (.list ds) :: xs, ⟨Dq.lst (show B2.H a = _ by rw [b2o a ⟨i, hi, ⟨_, hr⟩, hs⟩]; exact h3) (dpa_mono l2.h h4), hxs⟩, p⟩
  obtain ⟨xs, sxs, p⟩ := args v1 p
  by_cases hn : xs.length = n
  · rw [if_pos hn] at p
    refine ⟨G, B2, xs, t1, w2, l1.b.trans hx.1, by rw [List.append_nil]; exact sxs, hn, ?_⟩
    -- behind the call the owned lists are owned again
    have back : ∀ (B3 : Bs) (H3 : Hp) (t3 : Option Deal), B2.le B3 → Wd G B3 H3 t3 → ∃ B4 : Bs, B1.le B4 ∧ Wd G B4 H3 t3 ∧ Sls K c.ow G B4 H3 σ r1 ∧ (∀ a fs, B3.H a = some (.xd fs) → B4.H a = some (.xd fs)) := fun B3 H3 t3 l3 w3 => by
      let B4 : Bs := ⟨fun a => if own a then none else B3.H a, B3.dl, B3.x, B3.tb⟩
      have b4o : ∀ a, own a → B4.H a = none := fun a q => if_pos q
      have b4n : ∀ a, ¬ own a → B4.H a = B3.H a := fun a q => if_neg q
      have l4 : B1.le B4 := ⟨fun a o e => by
        have nn : ¬ own a := fun q => by
          obtain ⟨_, _, _, _, z, _⟩ := hown a q
          rw [z] at e; cases e
        rw [b4n a nn]; exact l3.h _ _ (l2.h _ _ e), fun p e => l3.d _ e, fun p e => l3.e _ e, l3.b⟩
      have at3 : ∀ a, own a → ∀ o, H1 a = some o → B3.H a = some o := fun a q o e => l3.h _ _ (by rw [b2o a q]; exact e)
      have nd3 : ∀ a, own a → Ndl B4 a := fun a q da l hd => by
        obtain ⟨ds, vs, z1, _⟩ := hown a q
        have z := at3 a q _ z1
        have dd := w3.deal
        have hd : B3.dl = some (da, l) := hd
        rw [hd] at dd
        cases t3 with
        | none => exact dd.elim
        | some t3 =>
          obtain ⟨_, _, g3, g4, _⟩ := dd
          exact ⟨fun e => (by rw [e, g3] at z; cases z), fun e => (by rw [e, g4] at z; cases z)⟩
      refine ⟨B4, l4, ⟨fun a o e => ?_, fun a o e => ?_, ?_, ⟨w3.tb.tabs, fun a ps e => ?_, w3.tb.nG⟩⟩, ⟨s1.len, fun i x hx hi => ?_, fun i x hx hi => ?_, s1.dis⟩, fun a fs e => ?_⟩
      rotate_left 3
      · by_cases q : own a
        · rw [b4o a q] at e; cases e
        · rw [b4n a q] at e; exact w3.tb.nB _ _ e
      rotate_right 3
      rotate_right 1
      · have n : ¬ own a := fun q => by
          obtain ⟨_, vs, z, _⟩ := hown a q
          have z := at3 a q _ z
          rw [e] at z; cases z
        rw [b4n a n]; exact e
      · by_cases q : own a
        · rw [b4o a q] at e; cases e
        · rw [b4n a q] at e; exact w3.sub _ _ e
      · obtain ⟨e1, e2⟩ := w3.fgn _ _ e
        refine ⟨e1, ?_⟩
        by_cases q : own a
        · exact b4o a q
        · rw [b4n a q]; exact e2
      · have dd := w3.deal
        show DealAt G B4 H3 B3.dl t3
        cases hd : B3.dl with
        | none => rw [hd] at dd; cases t3 <;> exact dd
        | some q =>
          obtain ⟨da, l⟩ := q
          rw [hd] at dd
          cases t3 with
          | none => exact dd.elim
          | some t3 =>
            obtain ⟨h1, h2, h3, h4, h5⟩ := dd
            have f : ∀ a, B3.H a = none → B4.H a = none := fun a e => by
              by_cases q : own a
              · exact b4o a q
              · rw [b4n a q]; exact e
            exact ⟨h1, h2, f _ h3, f _ h4, h5⟩
      · obtain ⟨v, h1, h2⟩ := s1.var i x hx hi
        exact ⟨v, h1, h2.mono l4⟩
      · obtain ⟨ds, a, vs, h1, h2, h3, h4, h5, h6, h7⟩ := s1.own i x hx hi
        have q : own a := ⟨i, hi, ⟨x, hx⟩, h2⟩
        exact ⟨ds, a, vs, h1, h2, w3.sub _ _ (at3 a q _ h3), dpa_mono l4.h h4, b4o a q, h6, nd3 a q⟩
    unfold runB at p
    cases hF : F xs t1 with
    | ok x t' =>
      rw [hF] at p
      intro v B3 H3 l3 w3 sv
      obtain ⟨B4, l4, w4, s4, x4⟩ := back B3 H3 t' l3 w3
      by_cases hs : scalS x = true
      · have p : ((if scalS x = true then Out.ok (.v x) r1 t' else Out.st : Out Tk)).post _ XP := p
        rw [if_pos hs] at p
        cases x with
        | d x => exact p v B4 H3 (l1.trans l4) w4 s4 (sv_scal (B := B3) sv hs)
        | deal => cases hs
        | raw _ => cases hs
        | exc _ _ => cases hs
        | scr _ => cases hs
      · have p : ((if scalS x = true then Out.ok (.v x) r1 t' else Out.st : Out Tk)).post _ XP := p
        rw [if_neg hs] at p
        exact p.elim
    | ex cn x t' =>
      rw [hF] at p
      intro B3 H3 C dd v l3 w3 he hd hq
      obtain ⟨B4, l4, w4, s4, x4⟩ := back B3 H3 t' l3 w3
      by_cases hs : flatD x = true
      · have p : ((if flatD x = true then Out.ex cn x t' else Out.st : Out Tk)).post _ XP := p
        rw [if_pos hs] at p
        exact hx.2 cn x t' B4 H3 C dd v p (l1.trans l4) w4 he (x4 _ _ hd) (sv_scal (B := B3) hq hs)
      · have p : ((if flatD x = true then Out.ex cn x t' else Out.st : Out Tk)).post _ XP := p
        rw [if_neg hs] at p
        exact p.elim
    | st => rw [hF] at p; exact p.elim
  · rw [if_neg hn] at p
    exact p.elim
theorem pd_callB {x : Str} {p : Pos} {f : Addr} {fd : FuncData} {ps : List Str} {k n : Nat} {F : FM} {es : List Expr} {t : TA} {m : M (List Tk)} {CX : CXT} (Fk : FnOk X.prog X.w X.K X.mg X.base CX k f fd ps (spD X.K c.ec n F)) (hr : Room k X.A) (hg : Gl X x) (hm : X.mg x = some (.ref f)) (hk : PySem.W.keepIn X.K (.ref f) = true)
    (hb : Binds X.K fd ps []) (hx : Passes CX X c.E) (ha : PAD X c (e :: es) t m) (hdb : (x == ("__debug__" : Str)) = false := by decide)
    (he : starEach (e :: es) X.env = (false, eval e X.env) :: starEach es X.env := by rfl) (hpl : (backTo pos (starEach es X.env)).any (·.1) = false := by rfl) :
    PED X c (.Call (.Name x p) (e :: es) [] pos) (tCall (spD X.K c.ec n F) [] c.E t) (mCallB n F m) := ⟨pe_call Fk hr hg hm hk hb .nil hx ha.p hdb he hpl, rf_callB ha.k⟩
end
end DL
end
section
set_option maxRecDepth 100000
set_option maxHeartbeats 4000000
namespace DL
open PySem PySem.Spec PyProof.Rows L2

/-! ### 15. Statements -/
section
variable {X : Cx} {c : Cd} {a b e d : Expr} {ma mb me mc : M Tk} {ta tb te tc : TE} {tt tu : TT} {pos : Pos} {K : PySem.W.Frag} {st : Stmt} {rest : List Stmt} {t1 t2 : TS} {m n : M Fl}
def mSeq (m n : M Fl) : M Fl := m.bind fun f => match f with
  | .nx => n
  | .bk => M.ret .bk
  | .ct => M.ret .ct
  | .rt x => M.ret (.rt x)
def mNx : M Fl := M.ret .nx
theorem rf_seq (h1 : RfS K c t1 m) (h2 : RfS K c t2 n) : RfS K c (tSeq t1 t2) (mSeq m n) := by
  intro G B H σ r t D XP w s hx p
  unfold mSeq at p
  rw [post_bind] at p
  refine h1 G B H σ r t { D with nx := t2 D } XP w s hx (post_mono p fun f r1 tt1 p => ?_)
  cases f with
  | nx => exact fun σ' B' H' l w' s' => h2 G B' H' σ' r1 tt1 D XP w' s' (hx.mono l) (post_mono p fun f r2 tt2 p => EndOk.mono l p)
  | bk => exact p
  | ct => exact p
  | rt x => exact p
theorem rf_next : RfS K c tNext mNx := fun G B H σ r t D XP w s hx p => p σ B H (Bs.le.refl B) w s
theorem psd_nil : PSsD X c [] tNext mNx := ⟨pss_nil, rf_next⟩
theorem psd_cons (h1 : PSD X c st t1 m) (h2 : PSsD X c rest t2 n) : PSsD X c (st :: rest) (tSeq t1 t2) (mSeq m n) := ⟨pss_cons h1.p h2.p, rf_seq h1.k h2.k⟩
theorem psd_one (h1 : PSD X c st t1 m) : PSsD X c [st] t1 m := ⟨pss_one h1.p, h1.k⟩
theorem psd_pass : PSD X c (.Pass pos) tNext mNx := ⟨ps_pass, rf_next⟩
theorem psd_break : PSD X c (.Break pos) tBreak (M.ret .bk) := ⟨ps_break, fun G B H σ r t D XP w s hx p => p σ B H (Bs.le.refl B) w s⟩
theorem psd_continue : PSD X c (.Continue pos) tCont (M.ret .ct) := ⟨ps_continue, fun G B H σ r t D XP w s hx p => p σ B H (Bs.le.refl B) w s⟩
def mDrop (m : M Tk) : M Fl := m.bind fun _ => M.ret .nx
theorem rf_drop (h : RfE K c te me) : RfS K c (tDrop te) (mDrop me) := by
  intro G B H σ r t D XP w s hx p
  unfold mDrop at p
  rw [post_bind] at p
  exact h G B H σ r t _ XP w s hx (post_mono p fun k r1 tt1 p => fun v B1 H1 l1 w1 s1 _ => p σ B1 H1 l1 w1 s1)
theorem psd_expr (h : PED X c e te me) (hs : swapsWith e none pos.line X.env = pure false := by rfl) : PSD X c (.Expr e pos) (tDrop te) (mDrop me) := ⟨ps_expr h.p hs, rf_drop h.k⟩
def mRet (m : M Tk) : M Fl := m.bind fun k => (use k).bind fun x => M.ret (.rt x)
theorem rf_ret (h : RfE K c te me) : RfS K c (tRet te) (mRet me) := by
  intro G B H σ r t D XP w s hx p
  unfold mRet at p
  rw [post_bind] at p
  refine h G B H σ r t _ XP w s hx (post_mono p fun k r1 tt1 p => fun v B1 H1 l1 w1 s1 vk => ?_)
  rw [post_bind] at p
  cases k with
  | v x => exact p v B1 H1 l1 w1 vk
  | o i =>
    obtain ⟨hi, hs⟩ := vk
    unfold use at p
    simp only at p
    cases hr : r1[i]? with
    | none => rw [hr] at p; exact p.elim
    | some o =>
      cases o with
      | none => rw [hr] at p; exact p.elim
      | some x =>
        rw [hr] at p
        obtain ⟨ds, a, vs, h1, h2, h3, h4, h5, h6, h7⟩ := s1.own i x hr hi
        rw [hs] at h2
        have ev : v = .ref a := by injection h2 with h2; injection h2
        subst ev
        subst h1
        have le := Bs.le_add (o := .lst vs) h5
        exact p (.ref a) (B1.add a (.lst vs)) H1 (l1.trans le) (w1.frz h3 h5 h6 h7) (Dq.lst (show upd B1.H a (.lst vs) a = _ from upd_same) (dpa_mono le.h h4))
theorem psd_ret (h : PED X c e te me) : PSD X c (.Return (some e) pos) (tRet te) (mRet me) := ⟨ps_ret h.p, rf_ret h.k⟩
theorem psd_retN : PSD X c (.Return none pos) tRetN (M.ret (.rt (.d .none))) := ⟨ps_retN, fun G B H σ r t D XP w s hx p => p .non B H (Bs.le.refl B) w .non⟩
def mIfS (cc : M Bool) (m n : M Fl) : M Fl := cc.bind fun b => if b then m else n
theorem rf_ifS {cc : M Bool} (h : RfT K c tt cc) (h1 : RfS K c t1 m) (h2 : RfS K c t2 n) : RfS K c (tIfS tt t1 t2) (mIfS cc m n) := by
  intro G B H σ r t D XP w s hx p
  unfold mIfS at p
  rw [post_bind] at p
  refine h G B H σ r t _ XP w s hx (post_mono p fun b r1 tt1 p => fun B1 H1 l1 w1 s1 => ?_)
  cases b with
  | true => rw [if_pos rfl]; exact h1 G B1 H1 σ r1 tt1 D XP w1 s1 (hx.mono l1) (post_mono p fun f r2 tt2 p => EndOk.mono l1 p)
  | false => rw [if_neg Bool.false_ne_true]; exact h2 G B1 H1 σ r1 tt1 D XP w1 s1 (hx.mono l1) (post_mono p fun f r2 tt2 p => EndOk.mono l1 p)
theorem psd_if {cc : M Bool} {ce : Expr} {x y : List Stmt} (h : PTD X c ce tt cc) (h1 : PSsD X c x t1 m) (h2 : PSsD X c y t2 n) : PSD X c (.If ce x y pos) (tIfS tt t1 t2) (mIfS cc m n) := ⟨ps_if h.p h1.p h2.p, rf_ifS h.k h1.k h2.k⟩

/-! targets -/
def Chg (is : List Nat) (σ σ' : L2.St) : Prop := σ'.length = σ.length ∧ ∀ j, j ∉ is → σ'[j]? = σ[j]?
theorem Chg.refl {is : List Nat} {σ : L2.St} : Chg is σ σ := ⟨rfl, fun _ _ => rfl⟩
theorem Chg.trans {is js : List Nat} {σ σ1 σ2 : L2.St} (a : Chg is σ σ1) (b : Chg js σ1 σ2) : Chg (is ++ js) σ σ2 := ⟨b.1.trans a.1, fun j h => by
  rw [List.mem_append, not_or] at h
  rw [b.2 j h.2, a.2 j h.1]⟩
def RfG (K : PySem.W.Frag) (c : Cd) (is : List Nat) (g : TG) (a : Sl → M Unit) : Prop := ∀ (G : Hp) (B : Bs) (H : Hp) (σ : L2.St) (r : Rho) (t : Option Deal) (Q : L2.St → Hp → Prop) (XP : XQ) (v : V) (x : Sl), Wd G B H t → Sls K c.ow G B H σ r → Sv K B v x →
  (a x r t).post (fun _ r' t' => ∀ (σ' : L2.St) (B' : Bs) (H' : Hp), B.le B' → Wd G B' H' t' → Sls K c.ow G B' H' σ' r' → Chg is σ σ' → Q σ' H') XP → g v σ H Q
def RfGs (K : PySem.W.Frag) (c : Cd) (is : List Nat) (g : TGs) (a : List PyData → M Unit) : Prop := ∀ (G : Hp) (B : Bs) (H : Hp) (σ : L2.St) (r : Rho) (t : Option Deal) (Q : L2.St → Hp → Prop) (XP : XQ) (vs : List V) (xs : List PyData), Wd G B H t → Sls K c.ow G B H σ r → DqAll K B.H vs xs →
  (a xs r t).post (fun _ r' t' => ∀ (σ' : L2.St) (B' : Bs) (H' : Hp), B.le B' → Wd G B' H' t' → Sls K c.ow G B' H' σ' r' → Chg is σ σ' → Q σ' H') XP → g vs σ H Q
structure PGD (X : Cx) (c : Cd) (e : Expr) (is : List Nat) (g : TG) (a : Sl → M Unit) : Prop where
  p : PG X e g
  k : RfG X.K c is g a
structure PGsD (X : Cx) (c : Cd) (es : List Expr) (is : List Nat) (n : Nat) (g : TGs) (a : List PyData → M Unit) : Prop where
  p : PGs X es g
  k : RfGs X.K c is g a
  l : es.length = n
def aName (i : Nat) (x : Sl) : M Unit := fun r t => .ok () (r.set i (some x)) t
theorem rf_gName {i : Nat} (hi : i ∉ c.ow) : RfG K c [i] (gName i) (aName i) := by
  intro G B H σ r t Q XP v x w s sv p
  exact p _ B H (Bs.le.refl B) w (s.set hi sv) ⟨by simp, fun j hj => List.getElem?_set_ne (fun e => hj (by simp [e]))⟩
theorem pgd_name {i : Nat} {x : Str} (hi : i ∉ c.ow) (hN : X.N.Nodup) (hx : X.N[i]? = some x) (hl : Loc X.env.scope x) (hf : X.fn x = true ∨ X.env.scope.names.lookup x = some .local := by first | exact .inl rfl | exact .inr rfl | assumption) : PGD X c (.Name x pos) [i] (gName i) (aName i) := ⟨pg_name hN hx hl hf, rf_gName hi⟩
def aNil : List PyData → M Unit
  | [] => M.ret ()
  | _ => M.st
def aCons (f : Sl → M Unit) (g : List PyData → M Unit) : List PyData → M Unit
  | x :: xs => (f (.d x)).bind fun _ => g xs
  | [] => M.st
theorem pgsd_nil : PGsD X c [] [] 0 gNil aNil := ⟨pgs_nil, fun G B H σ r t Q XP vs xs w s h p => by
  cases h with
  | nil => exact ⟨rfl, p σ B H (Bs.le.refl B) w s Chg.refl⟩
  | cons _ _ => exact p.elim, rfl⟩
theorem pgsd_cons {es : List Expr} {is js : List Nat} {n : Nat} {g : TG} {gs : TGs} {f : Sl → M Unit} {fs : List PyData → M Unit} (h1 : PGD X c e is g f) (h2 : PGsD X c es js n gs fs) (hs : PG X e g → PGs X es gs → PGs X (e :: es) (gCons g gs)) : PGsD X c (e :: es) (is ++ js) (n + 1) (gCons g gs) (aCons f fs) := ⟨hs h1.p h2.p, fun G B H σ r t Q XP vs xs w s h p => by
  cases h with
  | nil => exact p.elim
  | cons hd tl =>
    unfold aCons at p
    rw [post_bind] at p
    refine ⟨_, _, rfl, ?_⟩
    refine h1.k G B H σ r t _ XP _ (.d _) w s hd (post_mono p fun _ r1 tt1 p => fun σ1 B1 H1 l1 w1 s1 c1 => ?_)
    exact h2.k G B1 H1 σ1 r1 tt1 Q XP _ _ w1 s1 (dpa_mono l1.h tl) (post_mono p fun _ r2 tt2 p => fun σ2 B2 H2 l2 w2 s2 c2 => p σ2 B2 H2 (l1.trans l2) w2 s2 (c1.trans c2)), by simp [h2.l]⟩
def aTup (n : Nat) (f : List PyData → M Unit) : Sl → M Unit
  | .d (.tuple xs) => if xs.length = n then f xs else M.st
  | _ => M.st
theorem pgd_tup {es : List Expr} {is : List Nat} {n kk : Nat} {gs : TGs} {fs : List PyData → M Unit} (h : PGsD X c es is n gs fs) (hp : PGs X es gs → PG X (.Tuple es kk pos) (gTup X.K n gs)) : PGD X c (.Tuple es kk pos) is (gTup X.K n gs) (aTup n fs) := ⟨hp h.p, fun G B H σ r t Q XP v x w s sv p => by
  unfold aTup at p
  split at p
  · rename_i xs
    cases (show Dq X.K B.H v (.tuple xs) from sv) with
    | @tup a vs _ h1 h2 =>
      by_cases hz : xs.length = n
      · rw [if_pos hz] at p
        exact ⟨a, vs, rfl, sqt_mono w.sub h1, by rw [h2.len]; exact hz, h.k G B H σ r t Q XP vs xs w s h2 p⟩
      · rw [if_neg hz] at p
        exact p.elim
  · exact p.elim⟩
/-! assignments -/
def mAsg (f : Sl → M Unit) (m : M Tk) : M Fl := m.bind fun k => (keep k).bind fun x => (f x).bind fun _ => M.ret .nx
theorem rf_asg {is : List Nat} {g : TG} {f : Sl → M Unit} (h : RfE K c te me) (hg : RfG K c is g f) : RfS K c (tAsg te g) (mAsg f me) := by
  intro G B H σ r t D XP w s hx p
  unfold mAsg at p
  rw [post_bind] at p
  refine h G B H σ r t _ XP w s hx (post_mono p fun k r1 tt1 p => fun v B1 H1 l1 w1 s1 vk => ?_)
  rw [post_bind] at p
  obtain ⟨x, sx, p⟩ := keep_ok vk p
  rw [post_bind] at p
  exact hg G B1 H1 σ r1 tt1 D.nx XP v x w1 s1 sx (post_mono p fun _ r2 tt2 p => fun σ2 B2 H2 l2 w2 s2 _ => p σ2 B2 H2 (l1.trans l2) w2 s2)
theorem psd_asg {tg : Expr} {is : List Nat} {g : TG} {f : Sl → M Unit} (h : PED X c e te me) (hg : PGD X c tg is g f) (hp : PE X e te → PG X tg g → PS X (.Assign [tg] e pos) (tAsg te g)) : PSD X c (.Assign [tg] e pos) (tAsg te g) (mAsg f me) := ⟨hp h.p hg.p, rf_asg h.k hg.k⟩
/-- x = e -/
theorem psd_set {i : Nat} {x : Str} {pos' : Pos} (hi : i ∉ c.ow) (h : PED X c e te me) (hp : PE X e te → PS X (.Assign [.Name x pos'] e pos) (tAsg te (gName i))) : PSD X c (.Assign [.Name x pos'] e pos) (tAsg te (gName i)) (mAsg (aName i) me) := ⟨hp h.p, rf_asg h.k (rf_gName hi)⟩
/-- x = e, x the owner of its list -/
def mAsgO (i : Nat) (m : M (List PyData)) : M Fl := m.bind fun ds => setO i ds Fl.nx
theorem rf_asgO {i : Nat} {m : M (List PyData)} (hi : i ∈ c.ow) (h : RfF K c te m) : RfS K c (tAsg te (gName i)) (mAsgO i m) := by
  intro G B H σ r t D XP w s hx p
  unfold mAsgO at p
  rw [post_bind] at p
  refine h G B H σ r t _ XP w s hx (post_mono p fun ds r1 tt1 p => fun a B1 H1 l1 w1 s1 f => ?_)
  obtain ⟨vs, h1, h2⟩ := f.at_
  exact p _ B1 H1 l1 w1 (s1.setO hi h1 h2 f.b f.g f.d f.o)
theorem psd_setO {i : Nat} {x : Str} {pos' : Pos} {m : M (List PyData)} (hi : i ∈ c.ow) (h : PFD X c e te m) (hp : PE X e te → PS X (.Assign [.Name x pos'] e pos) (tAsg te (gName i))) : PSD X c (.Assign [.Name x pos'] e pos) (tAsg te (gName i)) (mAsgO i m) := ⟨hp h.p, rf_asgO hi h.k⟩
/-- x op= e -/
def mAug (f : Sl → Sl → Option Sl) (i : Nat) (m : M Tk) : M Fl := (mVar [] i).bind fun k => m.bind fun k2 => (use k).bind fun x => (use k2).bind fun y => (lft (f x y)).bind fun z => (keep z).bind fun z => (aName i z).bind fun _ => M.ret .nx
end
end DL
end
section
set_option maxRecDepth 100000
set_option maxHeartbeats 4000000
namespace DL
open PySem PySem.Spec PyProof.Rows L2

section
variable {X : Cx} {c : Cd} {a b e d : Expr} {ma mb me mc : M Tk} {ta tb te tc : TE} {tt tu : TT} {pos : Pos} {K : PySem.W.Frag} {st : Stmt} {rest : List Stmt} {t1 t2 : TS} {m n : M Fl}
/-! x op= e -/
theorem rf_aug {r : R2} {f : Sl → Sl → Option Sl} {i : Nat} (hi : i ∉ c.ow) (ho : OpD K r f) (h : RfE K c te me) : RfS K c (tAug i te r) (mAug f i me) := by
  intro G B H σ rr t D XP w s hx p
  unfold mAug at p
  rw [post_bind] at p
  unfold mVar at p
  cases hr : rr[i]? with
  | none => rw [hr] at p; exact p.elim
  | some o =>
    cases o with
    | none => rw [hr] at p; exact p.elim
    | some x0 =>
      rw [hr] at p
      simp only [List.not_mem_nil, if_false] at p
      obtain ⟨v0, h1, h2⟩ := s.var i x0 hr hi
      refine ⟨v0, h1, ?_⟩
      have p : ((me.bind fun k2 => (use (.v x0)).bind fun x => (use k2).bind fun y => (lft (f x y)).bind fun z => (keep z).bind fun z => (aName i z).bind fun _ => M.ret Fl.nx) rr t).post _ XP := p
      rw [post_bind] at p
      refine h G B H σ rr t _ XP w s hx (post_mono p fun k r1 tt1 p => fun v1 B1 H1 l1 w1 s1 vk => ?_)
      have p : (((use k).bind fun y => (lft (f x0 y)).bind fun z => (keep z).bind fun z => (aName i z).bind fun _ => M.ret Fl.nx) r1 tt1).post _ XP := p
      rw [post_bind] at p
      obtain ⟨y, by_, p⟩ := use_ok s1 vk p
      obtain ⟨G', w', gg, _, back⟩ := Sls.push w1 s1
      cases ef : f x0 y with
      | none => rw [ef] at p; exact p.elim
      | some z =>
        rw [ef] at p
        refine ho G' B1 H1 tt1 v0 v1 x0 y z _ w' (.inl (h2.mono l1)) by_ ef fun v B' H' l w3 sv => ?_
        obtain ⟨w4, s4⟩ := back B' H' tt1 l w3
        exact p _ B' H' (l1.trans l) w4 (s4.set hi sv)
theorem psd_aug {op : Operator} {r : R2} {f : Sl → Sl → Option Sl} {i : Nat} {x : Str} {pos' : Pos} (hi : i ∉ c.ow) (ho : OpR X (inplaceOp op) r) (hd : OpD X.K r f) (hN : X.N.Nodup) (hx : X.N[i]? = some x) (hl : Loc X.env.scope x) (h : PED X c e te me)
    (hf : X.fn x = true ∨ X.env.scope.names.lookup x = some .local := by first | exact .inl rfl | exact .inr rfl | assumption) : PSD X c (.AugAssign (.Name x pos') op e pos) (tAug i te r) (mAug f i me) := ⟨ps_aug hN hx hl h.p (show PIp X op r from ho) hf, rf_aug hi hd h.k⟩
/-! a, b = e1, e2 -/
def twoK : List Tk → Option (Sl × Sl)
  | [.v x, .v y] => some (x, y)
  | _ => none
def mPar (i j : Nat) (m : M (List Tk)) : M Fl := m.bind fun ks => (optM (twoK ks)).bind fun q => (aName i q.1).bind fun _ => (aName j q.2).bind fun _ => M.ret .nx
theorem rf_par {i j : Nat} (hi : i ∉ c.ow) (hj : j ∉ c.ow) {t : TA} {m : M (List Tk)} (h : RfA K c t m) : RfS K c (tPar i j t) (mPar i j m) := by
  intro G B H σ rr dl D XP w s hx p
  unfold mPar at p
  rw [post_bind] at p
  refine h G B H σ rr dl _ XP w s hx (post_mono p fun ks r1 tt1 p => fun vs B1 H1 l1 w1 s1 v1 => ?_)
  rw [post_bind] at p
  obtain ⟨q, eq, p⟩ := optM_ok p
  unfold twoK at eq
  split at eq
  · rename_i x y
    cases eq
    match vs, v1 with
    | [v, u], v1 =>
      refine ⟨v, u, rfl, ?_⟩
      exact p _ B1 H1 l1 w1 ((s1.set hi v1.1).set hj v1.2.1)
  · cases eq
theorem psd_par {i j : Nat} {x y : Str} {t : TA} {m : M (List Tk)} {px py pt pt2 : Pos} {kt k2 : Nat} (hi : i ∉ c.ow) (hj : j ∉ c.ow) (ha : PAD X c [a, b] t m) (hp : PA X [a, b] t → PS X (.Assign [.Tuple [.Name x px, .Name y py] kt pt] (.Tuple [a, b] k2 pt2) pos) (tPar i j t)) :
    PSD X c (.Assign [.Tuple [.Name x px, .Name y py] kt pt] (.Tuple [a, b] k2 pt2) pos) (tPar i j t) (mPar i j m) := ⟨hp ha.p, rf_par hi hj ha.k⟩
/-- the second one an owner -/
def mParO (i j : Nat) (m : M Tk) (n : M (List PyData)) : M Fl := m.bind fun k => n.bind fun ds => (keep k).bind fun x => (aName i x).bind fun _ => setO j ds Fl.nx
theorem rf_parO {i j : Nat} (hi : i ∉ c.ow) (hj : j ∈ c.ow) {n : M (List PyData)} (h1 : RfE K c ta ma) (h2 : RfF K c tb n) : RfS K c (tPar i j (tCons ta (tCons tb tNil))) (mParO i j ma n) := by
  intro G B H σ rr dl D XP w s hx p
  unfold mParO at p
  rw [post_bind] at p
  refine h1 G B H σ rr dl _ XP w s hx (post_mono p fun k r1 tt1 p => fun v1 B1 H1 l1 w1 s1 vk => ?_)
  rw [post_bind] at p
  refine h2 G B1 H1 σ r1 tt1 _ XP w1 s1 (hx.mono l1) (post_mono p fun ds r2 tt2 p => fun q B2 H2 l2 w2 s2 f => ?_)
  rw [post_bind] at p
  obtain ⟨x, sx, p⟩ := keep_ok (vk.mono l2) p
  obtain ⟨vs, g1, g2⟩ := f.at_
  refine ⟨v1, .ref q, rfl, ?_⟩
  have no : NOw c.ow (σ.set i (some v1)) (r2.set i (some x)) q := fun k hk hl => by
    have ne : k ≠ i := fun e => hi (e ▸ hk)
    rw [List.getElem?_set_ne (Ne.symm ne)]
    unfold Live at hl
    rw [List.getElem?_set_ne (Ne.symm ne)] at hl
    exact f.o k hk hl
  exact p _ B2 H2 (l1.trans l2) w2 ((s2.set hi sx).setO hj g1 g2 f.b f.g f.d no)
/-- both owners -/
def mParOO (i j : Nat) (m n : M (List PyData)) : M Fl := m.bind fun ds => n.bind fun es => (setO i ds ()).bind fun _ => setO j es Fl.nx
/-- the first one an owner -/
def mParFO (i j : Nat) (m : M (List PyData)) (n : M Tk) : M Fl := m.bind fun ds => n.bind fun k => (keep k).bind fun x => (setO i ds ()).bind fun _ => (aName j x).bind fun _ => M.ret .nx
/-- a fresh list kept aside while more is evaluated -/
theorem Fr.stay {G : Hp} {B : Bs} {H : Hp} {σ : L2.St} {r : Rho} {t : Option Deal} {p : Addr} {ds : List PyData} (w : Wd G B H t) (f : Fr K c.ow G B H σ r p ds) :
    ∃ vs, H p = some (.lst vs) ∧ Wd (upd G p (.lst vs)) B H t ∧ (∀ a o, G a = some o → upd G p (.lst vs) a = some o) ∧
      (∀ (B' : Bs) (H' : Hp) (t' : Option Deal), B.le B' → Wd (upd G p (.lst vs)) B' H' t' → Wd G B' H' t' ∧ H' p = some (.lst vs) ∧ DqAll K B'.H vs ds ∧ B'.H p = none ∧ Ndl B' p) := by
  obtain ⟨vs, h1, h2⟩ := f.at_
  have gg : ∀ a o, G a = some o → upd G p (.lst vs) a = some o := fun a o e => by
    have n : a ≠ p := fun z => by rw [z, f.g] at e; cases e
    rw [upd_ne n]; exact e
  refine ⟨vs, h1, w.more h1 f.b f.d, gg, fun B' H' t' l w2 => ?_⟩
  obtain ⟨e1, e2⟩ := w2.fgn p _ upd_same
  exact ⟨w2.less gg, e1, dpa_mono l.h h2, e2, w2.ndg (p := p) upd_same⟩
theorem Sls.moreG {ow : List Nat} {G : Hp} {B : Bs} {H : Hp} {σ : L2.St} {r : Rho} {p : Addr} {o : HO} (s : Sls K ow G B H σ r) (n : NOw ow σ r p) : Sls K ow (upd G p o) B H σ r := by
  refine ⟨s.len, s.var, fun i x hx hi => ?_, s.dis⟩
  obtain ⟨ds, a, vs, h1, h2, h3, h4, h5, h6, h7⟩ := s.own i x hx hi
  have q : a ≠ p := fun e => by subst e; exact n i hi ⟨x, hx⟩ h2
  exact ⟨ds, a, vs, h1, h2, h3, h4, h5, by rw [upd_ne q]; exact h6, h7⟩
theorem Sls.lessG {ow : List Nat} {G G' : Hp} {B : Bs} {H : Hp} {σ : L2.St} {r : Rho} (s : Sls K ow G' B H σ r) (h : ∀ a o, G a = some o → G' a = some o) : Sls K ow G B H σ r := by
  refine ⟨s.len, s.var, fun i x hx hi => ?_, s.dis⟩
  obtain ⟨ds, a, vs, h1, h2, h3, h4, h5, h6, h7⟩ := s.own i x hx hi
  refine ⟨ds, a, vs, h1, h2, h3, h4, h5, ?_, h7⟩
  cases q : G a with
  | none => rfl
  | some o => rw [h _ _ q] at h6; cases h6
theorem Sls.nowG {ow : List Nat} {G : Hp} {B : Bs} {H : Hp} {σ : L2.St} {r : Rho} {p : Addr} {o : HO} (s : Sls K ow G B H σ r) (h : G p = some o) : NOw ow σ r p := fun i hi ⟨x, hx⟩ e => by
  obtain ⟨ds, a, vs, h1, h2, h3, h4, h5, h6, h7⟩ := s.own i x hx hi
  rw [e] at h2
  injection h2 with h2; injection h2 with h2; injection h2 with h2
  rw [← h2, h] at h6
  cases h6
theorem rf_parOO {i j : Nat} (hi : i ∈ c.ow) (hj : j ∈ c.ow) (hij : i ≠ j) {m n : M (List PyData)} (h1 : RfF K c ta m) (h2 : RfF K c tb n) : RfS K c (tPar i j (tCons ta (tCons tb tNil))) (mParOO i j m n) := by
  intro G B H σ rr dl D XP w s hx p
  unfold mParOO at p
  rw [post_bind] at p
  refine h1 G B H σ rr dl _ XP w s hx (post_mono p fun ds r1 tt1 p => fun p1 B1 H1 l1 w1 s1 f1 => ?_)
  rw [post_bind] at p
  obtain ⟨vs1, e1, w1', gg, back⟩ := Fr.stay w1 f1
  refine h2 _ B1 H1 σ r1 tt1 _ XP w1' (s1.moreG f1.o) ((hx.mono l1).less gg) (post_mono p fun es r2 tt2 p => fun p2 B2 H2 l2 w2 s2 f2 => ?_)
  obtain ⟨w3, g1, g2, g3, g4⟩ := back B2 H2 tt2 l2 w2
  obtain ⟨vs2, k1, k2⟩ := f2.at_
  have n1 := s2.nowG (p := p1) upd_same
  have s3 := s2.lessG gg
  have ne : p1 ≠ p2 := fun e => by
    have := f2.g
    rw [← e, upd_same] at this
    cases this
  refine ⟨.ref p1, .ref p2, rfl, ?_⟩
  have s4 := s3.setO hi g1 g2 g3 f1.g g4 n1
  have no : NOw c.ow (σ.set i (some (.ref p1))) (r2.set i (some (.d (.list ds)))) p2 := fun k hk hl => by
    by_cases q : k = i
    · subst q
      intro z
      have hlt : k < r2.length := by
        obtain ⟨y, hy⟩ := hl
        have := (List.getElem?_eq_some_iff.mp hy).1
        simpa using this
      rw [List.getElem?_set_self (by rw [s3.len]; exact hlt)] at z
      injection z with z; injection z with z; injection z with z
      exact ne z
    · rw [List.getElem?_set_ne (Ne.symm q)]
      unfold Live at hl
      rw [List.getElem?_set_ne (Ne.symm q)] at hl
      exact f2.o k hk hl
  have f2g : G p2 = none := by
    have := f2.g
    rw [upd_ne (Ne.symm ne)] at this
    exact this
  exact p _ B2 H2 (l1.trans l2) w3 (s4.setO hj k1 k2 f2.b f2g f2.d no)
theorem rf_parFO {i j : Nat} (hi : i ∈ c.ow) (hj : j ∉ c.ow) {m : M (List PyData)} {n : M Tk} (h1 : RfF K c ta m) (h2 : RfE K c tb n) : RfS K c (tPar i j (tCons ta (tCons tb tNil))) (mParFO i j m n) := by
  intro G B H σ rr dl D XP w s hx p
  unfold mParFO at p
  rw [post_bind] at p
  refine h1 G B H σ rr dl _ XP w s hx (post_mono p fun ds r1 tt1 p => fun p1 B1 H1 l1 w1 s1 f1 => ?_)
  rw [post_bind] at p
  obtain ⟨vs1, e1, w1', gg, back⟩ := Fr.stay w1 f1
  refine h2 _ B1 H1 σ r1 tt1 _ XP w1' (s1.moreG f1.o) ((hx.mono l1).less gg) (post_mono p fun k r2 tt2 p => fun v2 B2 H2 l2 w2 s2 vk => ?_)
  obtain ⟨w3, g1, g2, g3, g4⟩ := back B2 H2 tt2 l2 w2
  have n1 := s2.nowG (p := p1) upd_same
  have s3 := s2.lessG gg
  rw [post_bind] at p
  obtain ⟨x, sx, p⟩ := keep_ok vk p
  refine ⟨.ref p1, v2, rfl, ?_⟩
  exact p _ B2 H2 (l1.trans l2) w3 ((s3.setO hi g1 g2 g3 f1.g g4 n1).set hj sx)
section
variable {i j : Nat} {x y : Str} {px py pt pt2 : Pos} {kt k2 : Nat}
theorem psd_parO {n : M (List PyData)} (hi : i ∉ c.ow) (hj : j ∈ c.ow) (h1 : PED X c a ta ma) (h2 : PFD X c b tb n) (hp : PE X a ta → PE X b tb → PS X (.Assign [.Tuple [.Name x px, .Name y py] kt pt] (.Tuple [a, b] k2 pt2) pos) (tPar i j (tCons ta (tCons tb tNil)))) :
    PSD X c (.Assign [.Tuple [.Name x px, .Name y py] kt pt] (.Tuple [a, b] k2 pt2) pos) (tPar i j (tCons ta (tCons tb tNil))) (mParO i j ma n) := ⟨hp h1.p h2.p, rf_parO hi hj h1.k h2.k⟩
theorem psd_parOO {m n : M (List PyData)} (hi : i ∈ c.ow) (hj : j ∈ c.ow) (hij : i ≠ j) (h1 : PFD X c a ta m) (h2 : PFD X c b tb n) (hp : PE X a ta → PE X b tb → PS X (.Assign [.Tuple [.Name x px, .Name y py] kt pt] (.Tuple [a, b] k2 pt2) pos) (tPar i j (tCons ta (tCons tb tNil)))) :
    PSD X c (.Assign [.Tuple [.Name x px, .Name y py] kt pt] (.Tuple [a, b] k2 pt2) pos) (tPar i j (tCons ta (tCons tb tNil))) (mParOO i j m n) := ⟨hp h1.p h2.p, rf_parOO hi hj hij h1.k h2.k⟩
theorem psd_parFO {m : M (List PyData)} (hi : i ∈ c.ow) (hj : j ∉ c.ow) (h1 : PFD X c a ta m) (h2 : PED X c b tb mb) (hp : PE X a ta → PE X b tb → PS X (.Assign [.Tuple [.Name x px, .Name y py] kt pt] (.Tuple [a, b] k2 pt2) pos) (tPar i j (tCons ta (tCons tb tNil)))) :
    PSD X c (.Assign [.Tuple [.Name x px, .Name y py] kt pt] (.Tuple [a, b] k2 pt2) pos) (tPar i j (tCons ta (tCons tb tNil))) (mParFO i j m mb) := ⟨hp h1.p h2.p, rf_parFO hi hj h1.k h2.k⟩
end

/-! ### 16. What is walked -/
def ItOk (K : PySem.W.Frag) (J : It) (ds : List Sl) (B : Bs) : Prop := ∀ (G : Hp) (B2 : Bs) (H2 : Hp) (t2 : Option Deal), B.le B2 → Wd G B2 H2 t2 → ∀ i, (ds.length ≤ i → J.stop i H2) ∧
  ∀ d, ds[i]? = some d → J.go i H2 ∧ ∀ x H3, J.yld i H2 x H3 → ∃ B3 : Bs, B2.le B3 ∧ Wd G B3 H3 t2 ∧ Sv K B3 x d
def RfI (K : PySem.W.Frag) (c : Cd) (wi : TI) (m : M (List Sl)) : Prop := ∀ (G : Hp) (B : Bs) (H : Hp) (σ : L2.St) (r : Rho) (t : Option Deal) (R : It → Hp → Prop) (XP : XQ), Wd G B H t → Sls K c.ow G B H σ r → XOk K c.ec G B c.E XP →
  (m r t).post (fun ds r' t' => ∀ (J : It) (B' : Bs) (H' : Hp), B.le B' → Wd G B' H' t' → Sls K c.ow G B' H' σ r' → ItOk K J ds B' → R J H') XP → wi σ H R
structure PID (X : Cx) (c : Cd) (tg iter : Expr) (wi : TI) (m : M (List Sl)) : Prop where
  p : PI X tg iter wi
  k : RfI X.K c wi m
def signs (z : Str) : List Sl := z.cps.toList.map fun k => .d (.str ⟨#[k]⟩)
def itemsOf : Sl → Option (List Sl)
  | .d (.list ds) => some (ds.map .d)
  | .d (.tuple ds) => some (ds.map .d)
  | .d (.str z) => some (signs z)
  | _ => none
def mIter (m : M Tk) : M (List Sl) := m.bind fun k => (keep k).bind fun x => optM (itemsOf x)
def iAny (K : PySem.W.Frag) (tl : TE) : TI := fun σ H R => tl σ H fun x H1 => (∃ a, x = .ref a ∧ (∃ xs, SqL K H1 a xs) ∧ R (Itl K a) H1) ∨ (∃ a, x = .ref a ∧ (∃ xs, SqT K H1 a xs) ∧ R (Itt K a) H1) ∨ (∃ z, x = .str z ∧ R (Its z) H1)
theorem pi_any {tg l : Expr} {tl : TE} (hl : PE X l tl) : PI X tg l (iAny X.K tl) := by
  refine ⟨fun pins s σ H R I h => ?_⟩
  refine thn (hl.run pins s σ H _ I h) fun v s1 ⟨x, H1, I1, r1, q1⟩ => ?_
  rcases q1 with ⟨a, e, ⟨xs, hq⟩, q⟩ | ⟨a, e, ⟨xs, hq⟩, q⟩ | ⟨z, e, q⟩
  · subst e
    cases r1
    obtain ⟨its, rv, p, hz⟩ := I1.list hq
    refine wpAny_pyIter_list p.isList ?_
    exact pi_one (tk := s1.toks) I1 _ (turn_list a _) ⟨_, Heap.get?_push_size _ rfl, rfl, rfl⟩ q
  · subst e
    cases r1
    obtain ⟨its, rv, p, hz⟩ := I1.tuple hq
    refine wpAny_pyIter_tuple (show s1.heap.IsTuple a its.toArray from p) ?_
    exact pi_one (tk := s1.toks) I1 _ (turn_tuple a _) ⟨_, Heap.get?_push_size _ rfl, rfl, rfl⟩ q
  · subst e
    obtain ⟨t, rfl⟩ := r1
    cases ha : z.cps.all (· < 128)
    · exact wpAny_pyIter_wide ha (pi_one (tk := s1.toks) I1 _ (turn_str _ z t "str_iterator" (.inr rfl)) ⟨_, Heap.get?_push_size _ rfl, rfl, rfl⟩ q)
    · exact wpAny_pyIter_ascii ha (pi_one (tk := s1.toks) I1 _ (turn_str _ z t "str_ascii_iterator" (.inl rfl)) ⟨_, Heap.get?_push_size _ rfl, rfl, rfl⟩ q)
theorem itok_list {B : Bs} {a : Addr} {vs : List V} {ds : List PyData} (h : B.H a = some (.lst vs)) (r : DqAll K B.H vs ds) : ItOk K (Itl K a) (ds.map .d) B := fun G B2 H2 t2 l w i => by
  have h2 : SqL K H2 a vs := SqL.of (w.sub _ _ (l.h _ _ h))
  refine ⟨fun hi => ⟨vs, h2, by rw [r.len]; simpa using hi⟩, fun d hd => ?_⟩
  rw [List.getElem?_map] at hd
  cases e : ds[i]? with
  | none => rw [e] at hd; cases hd
  | some x =>
    rw [e] at hd
    cases hd
    obtain ⟨v, hv, dv⟩ := r.get e
    refine ⟨⟨vs, v, h2, hv⟩, fun y H3 ⟨eH, hy⟩ => ?_⟩
    subst eH
    have q := hy vs h2
    rw [hv] at q
    cases q
    exact ⟨B2, Bs.le.refl B2, w, dpa_mono_one l dv⟩
where dpa_mono_one {B B2 : Bs} {v : V} {x : PyData} (l : B.le B2) (h : Dq K B.H v x) : Sv K B2 v (.d x) := dp_mono l.h h
theorem itok_tup {B : Bs} {a : Addr} {vs : List V} {ds : List PyData} (h : SqT K B.H a vs) (r : DqAll K B.H vs ds) : ItOk K (Itt K a) (ds.map .d) B := fun G B2 H2 t2 l w i => by
  have h2 : SqT K H2 a vs := sqt_mono w.sub (sqt_mono l.h h)
  refine ⟨fun hi => ⟨vs, h2, by rw [r.len]; simpa using hi⟩, fun d hd => ?_⟩
  rw [List.getElem?_map] at hd
  cases e : ds[i]? with
  | none => rw [e] at hd; cases hd
  | some x =>
    rw [e] at hd
    cases hd
    obtain ⟨v, hv, dv⟩ := r.get e
    refine ⟨⟨vs, v, h2, hv⟩, fun y H3 ⟨eH, hy⟩ => ?_⟩
    subst eH
    have q := hy vs h2
    rw [hv] at q
    cases q
    exact ⟨B2, Bs.le.refl B2, w, dp_mono l.h dv⟩
theorem itok_str {B : Bs} {z : Str} : ItOk K (Its z) (signs z) B := fun G B2 H2 t2 l w i => by
  unfold signs
  refine ⟨fun hi => (show z.cps.size ≤ i by simpa using hi), fun d hd => ?_⟩
  rw [List.getElem?_map] at hd
  cases e : z.cps.toList[i]? with
  | none => rw [e] at hd; cases hd
  | some x =>
    rw [e] at hd
    cases hd
    have hi : i < z.cps.size := by
      have := (List.getElem?_eq_some_iff.mp e).1
      simpa using this
    refine ⟨hi, fun y H3 ⟨eH, k, hk, hy⟩ => ?_⟩
    subst eH
    subst hy
    rw [Array.getElem?_toList] at e
    rw [e] at hk
    cases hk
    exact ⟨B2, Bs.le.refl B2, w, .str _⟩
theorem rf_iter (h : RfE K c te me) : RfI K c (iAny K te) (mIter me) := by
  intro G B H σ r t R XP w s hx p
  unfold mIter at p
  rw [post_bind] at p
  refine h G B H σ r t _ XP w s hx (post_mono p fun k r1 tt1 p => fun v B1 H1 l1 w1 s1 vk => ?_)
  rw [post_bind] at p
  obtain ⟨x, sx, p⟩ := keep_ok vk p
  obtain ⟨ds, e, p⟩ := optM_ok p
  unfold itemsOf at e
  split at e
  · cases e
    cases (show Dq K B1.H v (.list _) from sx) with
    | @lst a vs _ h1 h2 => exact .inl ⟨a, rfl, ⟨vs, SqL.of (w1.sub _ _ h1)⟩, p _ B1 H1 l1 w1 s1 (itok_list h1 h2)⟩
  · cases e
    cases (show Dq K B1.H v (.tuple _) from sx) with
    | @tup a vs _ h1 h2 => exact .inr (.inl ⟨a, rfl, ⟨vs, sqt_mono w1.sub h1⟩, p _ B1 H1 l1 w1 s1 (itok_tup h1 h2)⟩)
  · cases e
    cases (show Dq K B1.H v (.str _) from sx)
    exact .inr (.inr ⟨_, rfl, p _ B1 H1 l1 w1 s1 itok_str⟩)
  · cases e
theorem pid_any {tg : Expr} (h : PED X c e te me) : PID X c tg e (iAny X.K te) (mIter me) := ⟨pi_any h.p, rf_iter h.k⟩
/-! range -/
def rangeS (lo : Int) (n : Nat) : List Sl := (List.range n).map fun i => .d (.int (lo + (i : Nat)))
theorem itok_range {B : Bs} {lo : Int} {n : Nat} : ItOk K (Itr lo n) (rangeS lo n) B := fun G B2 H2 t2 l w i => by
  unfold rangeS
  refine ⟨fun hi => (show n ≤ i by simpa using hi), fun d hd => ?_⟩
  rw [List.getElem?_map] at hd
  by_cases hi : i < n
  · rw [List.getElem?_range hi] at hd
    cases hd
    refine ⟨hi, fun y H3 ⟨eH, hy⟩ => ?_⟩
    subst eH
    subst hy
    exact ⟨B2, Bs.le.refl B2, w, .int _⟩
  · rw [List.getElem?_eq_none (by simpa using hi)] at hd
    cases hd
def rng1 : List Sl → Option (List Sl)
  | [.d (.int j)] => if -1000000000000 ≤ j ∧ j < 1000000000000 then some (rangeS 0 j.toNat) else none
  | _ => none
def rng2 : List Sl → Option (List Sl)
  | [.d (.int i), .d (.int j)] => if -1000000000000 ≤ i ∧ i < 1000000000000 ∧ -1000000000000 ≤ j ∧ j < 1000000000000 then some (rangeS i (j - i).toNat) else none
  | _ => none
def mRange (f : List Sl → Option (List Sl)) (m : M (List Tk)) : M (List Sl) := m.bind fun ks => (useAll ks).bind fun xs => optM (f xs)
theorem rf_range1 {t : TA} {m : M (List Tk)} (h : RfA K c t m) : RfI K c (iRng1 t) (mRange rng1 m) := by
  intro G B H σ r dl R XP w s hx p
  unfold mRange at p
  rw [post_bind] at p
  refine h G B H σ r dl _ XP w s hx (post_mono p fun ks r1 tt1 p => fun vs B1 H1 l1 w1 s1 v1 => ?_)
  rw [post_bind] at p
  obtain ⟨xs, bx, p⟩ := useAll_ok s1 v1 p
  obtain ⟨ds, e, p⟩ := optM_ok p
  unfold rng1 at e
  split at e
  · split at e
    · rename_i j hj
      cases e
      match vs, bx with
      | [v], bx =>
        cases bx.1.int
        exact ⟨j, rfl, by omega, by omega, p _ B1 H1 l1 w1 s1 itok_range⟩
    · cases e
  · cases e
theorem rf_range2 {t : TA} {m : M (List Tk)} (h : RfA K c t m) : RfI K c (iRng2 t) (mRange rng2 m) := by
  intro G B H σ r dl R XP w s hx p
  unfold mRange at p
  rw [post_bind] at p
  refine h G B H σ r dl _ XP w s hx (post_mono p fun ks r1 tt1 p => fun vs B1 H1 l1 w1 s1 v1 => ?_)
  rw [post_bind] at p
  obtain ⟨xs, bx, p⟩ := useAll_ok s1 v1 p
  obtain ⟨ds, e, p⟩ := optM_ok p
  unfold rng2 at e
  split at e
  · split at e
    · rename_i i j hj
      cases e
      match vs, bx with
      | [v, u], bx =>
        cases bx.1.int
        cases bx.2.1.int
        exact ⟨i, j, rfl, by omega, p _ B1 H1 l1 w1 s1 itok_range⟩
    · cases e
  · cases e
theorem pid_range1 {tg : Expr} {p : Pos} {t : TA} {m : M (List Tk)} (hg : Gl X "range") (hm : X.mg "range" = none) (ha : PAD X c [a] t m) (hs : starEach [a] X.env = [(false, eval a X.env)] := by rfl) : PID X c tg (.Call (.Name "range" p) [a] [] pos) (iRng1 t) (mRange rng1 m) := ⟨pi_range1 hg hm ha.p hs, rf_range1 ha.k⟩
theorem pid_range2 {tg : Expr} {p : Pos} {t : TA} {m : M (List Tk)} (hg : Gl X "range") (hm : X.mg "range" = none) (ha : PAD X c [a, b] t m) (hs : starEach [a, b] X.env = [(false, eval a X.env), (false, eval b X.env)] := by rfl) (hs2 : starEach [b] X.env = [(false, eval b X.env)] := by rfl) : PID X c tg (.Call (.Name "range" p) [a, b] [] pos) (iRng2 t) (mRange rng2 m) := ⟨pi_range2 hg hm ha.p hs hs2, rf_range2 ha.k⟩
/-! zip of two lists, of two tuples -/
def pairS (q : PyData × PyData) : Sl := .d (.tuple [q.1, q.2])
def zipF : List Sl → Option (List Sl)
  | [.d (.list xs), .d (.list ys)] => some ((xs.zip ys).map pairS)
  | [.d (.tuple xs), .d (.tuple ys)] => some ((xs.zip ys).map pairS)
  | _ => none
def mZip (m : M (List Tk)) : M (List Sl) := m.bind fun ks => (optM (keepAll ks)).bind fun xs => optM (zipF xs)
theorem zip_get {xs ys : List PyData} {i : Nat} {d : Sl} (h : ((xs.zip ys).map pairS)[i]? = some d) : ∃ x y, xs[i]? = some x ∧ ys[i]? = some y ∧ d = .d (.tuple [x, y]) := by
  rw [List.getElem?_map] at h
  cases e : (xs.zip ys)[i]? with
  | none => rw [e] at h; cases h
  | some q =>
    rw [e] at h
    cases h
    obtain ⟨x, y⟩ := q
    rw [List.getElem?_zip_eq_some] at e
    exact ⟨x, y, e.1, e.2, rfl⟩
theorem pair_new {G : Hp} {B2 : Bs} {H2 : Hp} {t2 : Option Deal} {T : Addr} {v u : V} {x y : PyData} (w : Wd G B2 H2 t2) (hT : H2 T = none) (hx : Dq K B2.H v x) (hy : Dq K B2.H u y) :
    ∃ B3 : Bs, B2.le B3 ∧ Wd G B3 (upd H2 T (.tup [v, u])) t2 ∧ Sv K B3 (.ref T) (.d (.tuple [x, y])) := by
  have le := Bs.le_add (o := .tup [v, u]) (w.nb hT)
  exact ⟨_, le, w.new hT, Dq.tup (SqT.of (show upd B2.H T (.tup [v, u]) T = _ from upd_same)) (.cons (dp_mono le.h hx) (.cons (dp_mono le.h hy) .nil))⟩
theorem itok_zipL {B : Bs} {a b : Addr} {vs us : List V} {xs ys : List PyData} (h : B.H a = some (.lst vs)) (h' : B.H b = some (.lst us)) (r : DqAll K B.H vs xs) (r' : DqAll K B.H us ys) : ItOk K (Itz K a b) ((xs.zip ys).map pairS) B := fun G B2 H2 t2 l w i => by
  have h2 : SqL K H2 a vs := SqL.of (w.sub _ _ (l.h _ _ h))
  have h3 : SqL K H2 b us := SqL.of (w.sub _ _ (l.h _ _ h'))
  refine ⟨fun hi => ⟨vs, us, h2, h3, by rw [r.len, r'.len]; simp at hi; omega⟩, fun d hd => ?_⟩
  obtain ⟨x, y, e1, e2, rfl⟩ := zip_get hd
  obtain ⟨v, hv, dv⟩ := r.get e1
  obtain ⟨u, hu, du⟩ := r'.get e2
  refine ⟨⟨vs, us, v, u, h2, h3, hv, hu⟩, fun z H3 ⟨T, v', u', ez, hT, eH, q1, q2⟩ => ?_⟩
  have q1 := q1 vs h2
  have q2 := q2 us h3
  rw [hv] at q1
  rw [hu] at q2
  cases q1; cases q2
  subst ez eH
  exact pair_new w hT (dp_mono l.h dv) (dp_mono l.h du)
theorem itok_zipT {B : Bs} {a b : Addr} {vs us : List V} {xs ys : List PyData} (h : SqT K B.H a vs) (h' : SqT K B.H b us) (r : DqAll K B.H vs xs) (r' : DqAll K B.H us ys) : ItOk K (RZ.ItzT K a b) ((xs.zip ys).map pairS) B := fun G B2 H2 t2 l w i => by
  have h2 : SqT K H2 a vs := sqt_mono w.sub (sqt_mono l.h h)
  have h3 : SqT K H2 b us := sqt_mono w.sub (sqt_mono l.h h')
  refine ⟨fun hi => ⟨vs, us, h2, h3, by rw [r.len, r'.len]; simp at hi; omega⟩, fun d hd => ?_⟩
  obtain ⟨x, y, e1, e2, rfl⟩ := zip_get hd
  obtain ⟨v, hv, dv⟩ := r.get e1
  obtain ⟨u, hu, du⟩ := r'.get e2
  refine ⟨⟨vs, us, v, u, h2, h3, hv, hu⟩, fun z H3 ⟨T, v', u', ez, hT, eH, q1, q2⟩ => ?_⟩
  have q1 := q1 vs h2
  have q2 := q2 us h3
  rw [hv] at q1
  rw [hu] at q2
  cases q1; cases q2
  subst ez eH
  exact pair_new w hT (dp_mono l.h dv) (dp_mono l.h du)
theorem rf_zip {t : TA} {m : M (List Tk)} (h : RfA K c t m) : RfI K c (RZ.iZipA K t) (mZip m) := by
  intro G B H σ r dl R XP w s hx p
  unfold mZip at p
  rw [post_bind] at p
  refine h G B H σ r dl _ XP w s hx (post_mono p fun ks r1 tt1 p => fun vs B1 H1 l1 w1 s1 v1 => ?_)
  rw [post_bind] at p
  obtain ⟨xs, e0, p⟩ := optM_ok p
  have sv := keepAll_ok e0 v1
  obtain ⟨ds, e, p⟩ := optM_ok p
  unfold zipF at e
  split at e
  · cases e
    match vs, sv with
    | [v, u], sv =>
      obtain ⟨sv1, sv2, _⟩ := sv
      cases (show Dq K B1.H v (.list _) from sv1) with
      | @lst a vs _ h1 h2 =>
        cases (show Dq K B1.H u (.list _) from sv2) with
        | @lst b us _ h3 h4 => exact ⟨a, b, vs, us, rfl, .inl ⟨SqL.of (w1.sub _ _ h1), SqL.of (w1.sub _ _ h3), p _ B1 H1 l1 w1 s1 (itok_zipL h1 h3 h2 h4)⟩⟩
  · cases e
    match vs, sv with
    | [v, u], sv =>
      obtain ⟨sv1, sv2, _⟩ := sv
      cases (show Dq K B1.H v (.tuple _) from sv1) with
      | @tup a vs _ h1 h2 =>
        cases (show Dq K B1.H u (.tuple _) from sv2) with
        | @tup b us _ h3 h4 => exact ⟨a, b, vs, us, rfl, .inr ⟨sqt_mono w1.sub h1, sqt_mono w1.sub h3, p _ B1 H1 l1 w1 s1 (itok_zipT h1 h3 h2 h4)⟩⟩
  · cases e
theorem pid_zip {p tpos : Pos} {elts : List Expr} {kk : Nat} {t : TA} {m : M (List Tk)} (hg : Gl X "zip") (hm : X.mg "zip" = none) (ha : PAD X c [a, b] t m)
    (hs : starEach [a, b] X.env = (false, eval a X.env) :: starEach [b] X.env := by rfl) (hpl : (backTo pos (starEach [b] X.env)).any (·.1) = false := by rfl) :
    PID X c (.Tuple elts kk tpos) (.Call (.Name "zip" p) [a, b] [] pos) (RZ.iZipA X.K t) (mZip m) := ⟨RZ.pi_zipA hg hm ha.p hs hpl, rf_zip ha.k⟩
end
end DL
end
section
set_option maxRecDepth 100000
set_option maxHeartbeats 4000000
namespace DL
open PySem PySem.Spec PyProof.Rows L2

/-! ### 17. Loops -/
section
variable {X : Cx} {c : Cd} {a b e d : Expr} {ma mb me mc : M Tk} {ta tb te tc : TE} {tt tu : TT} {pos : Pos} {K : PySem.W.Frag} {st : Stmt} {rest : List Stmt} {t1 t2 : TS} {m n : M Fl}
/-- behind a turn's body -/
def afterF (cont : M Fl) : Fl → M Fl
  | .nx => cont
  | .ct => cont
  | .bk => M.ret .nx
  | .rt x => M.ret (.rt x)
def forL (f : Sl → M Unit) (body : M Fl) : List Sl → M Fl
  | [] => M.ret .nx
  | d :: ds => (f d).bind fun _ => body.bind (afterF (forL f body ds))
def mFor (mi : M (List Sl)) (f : Sl → M Unit) (body : M Fl) : M Fl := mi.bind fun ds => forL f body ds
theorem rf_for {wi : TI} {mi : M (List Sl)} {is : List Nat} {g : TG} {f : Sl → M Unit} {tb : TS} {body : M Fl} (hi : RfI K c wi mi) (hg : RfG K c is g f) (hb : RfS K c tb body) : RfS K c (tFor wi g tb) (mFor mi f body) := by
  intro G B H σ r t D XP w s hx p
  unfold mFor at p
  rw [post_bind] at p
  refine hi G B H σ r t _ XP w s hx (post_mono p fun ds r1 tt1 p => fun J B1 H1 l1 w1 s1 it => ?_)
  refine ⟨fun i m σ' H' => m = ds.length - i ∧ i ≤ ds.length ∧ ∃ (B' : Bs) (r' : Rho) (t' : Option Deal), B1.le B' ∧ Wd G B' H' t' ∧ Sls K c.ow G B' H' σ' r' ∧ (forL f body (ds.drop i) r' t').post (fun k r'' t'' => EndOk K c.ow G B D r'' t'' k) XP, ⟨ds.length, by simp, Nat.zero_le _, B1, r1, tt1, Bs.le.refl B1, w1, s1, by simpa using p⟩, ?_⟩
  rintro i m σ' H' ⟨rfl, hle, B2, r2, tt2, l2, w2, s2, q⟩
  by_cases hlt : i < ds.length
  · obtain ⟨d, hd⟩ : ∃ d, ds[i]? = some d := ⟨ds[i], List.getElem?_eq_getElem hlt⟩
    have hdrop : ds.drop i = d :: ds.drop (i + 1) := by
      rw [List.drop_eq_getElem_cons hlt]
      congr 1
      rw [List.getElem?_eq_getElem hlt] at hd
      exact Option.some.inj hd
    rw [hdrop] at q
    unfold forL at q
    rw [post_bind] at q
    obtain ⟨G', w2', gg, _, back⟩ := Sls.push w2 s2
    obtain ⟨_, hgo⟩ := it G' B2 H' tt2 l2 w2' i
    obtain ⟨go, hy⟩ := hgo d hd
    refine .inr ⟨go, fun σ' H' => ∃ (B' : Bs) (r' : Rho) (t' : Option Deal), B1.le B' ∧ Wd G B' H' t' ∧ Sls K c.ow G B' H' σ' r' ∧ (forL f body (ds.drop (i + 1)) r' t').post (fun k r'' t'' => EndOk K c.ow G B D r'' t'' k) XP, fun σ' H' h => ⟨ds.length - (i + 1), by omega, rfl, hlt, h⟩, fun x H3 yy => ?_⟩
    obtain ⟨B3, l3, w3', sv⟩ := hy x H3 yy
    obtain ⟨w3, s3⟩ := back B3 H3 tt2 l3 w3'
    have l13 := (l1.trans l2).trans l3
    refine hg G B3 H3 σ' r2 tt2 _ XP x d w3 s3 sv (post_mono q fun _ r4 tt4 q => fun σ4 B4 H4 l4 w4 s4 _ => ?_)
    rw [post_bind] at q
    refine hb G B4 H4 σ4 r4 tt4 _ XP w4 s4 (hx.mono (l13.trans l4)) (post_mono q fun k r5 tt5 q => ?_)
    have l14 := l13.trans l4
    have l24 := (l2.trans l3).trans l4
    cases k with
    | nx => exact fun σ5 B5 H5 l5 w5 s5 => ⟨B5, r5, tt5, l24.trans l5, w5, s5, q⟩
    | ct => exact fun σ5 B5 H5 l5 w5 s5 => ⟨B5, r5, tt5, l24.trans l5, w5, s5, q⟩
    | bk => exact fun σ5 B5 H5 l5 w5 s5 => q σ5 B5 H5 (l14.trans l5) w5 s5
    | rt x => exact fun v B5 H5 l5 w5 sv5 => q v B5 H5 (l14.trans l5) w5 sv5
  · have e : i = ds.length := by omega
    subst e
    rw [List.drop_length] at q
    obtain ⟨hstop, _⟩ := it G B2 H' tt2 l2 w2 ds.length
    exact .inl ⟨hstop (Nat.le_refl _), q σ' B2 H' (l1.trans l2) w2 s2⟩
theorem psd_for {iter tg : Expr} {body : List Stmt} {wi : TI} {mi : M (List Sl)} {is : List Nat} {g : TG} {f : Sl → M Unit} {tb : TS} {mbody : M Fl} (hp : PassesOwn (model X.prog X.w) X.A X.env X.xe) (hc : X.calm = true) (hi : PID X c tg iter wi mi) (hg : PGD X c tg is g f) (hb : PSsD X c body tb mbody)
    (hs : ∀ x, foldedSetIterable iter X.env x = pure x := by intro _; rfl) : PSD X c (.For tg iter body [] pos) (tFor wi g tb) (mFor mi f mbody) := ⟨ps_for hp hc hi.p hg.p hb.p hs, rf_for hi.k hg.k hb.k⟩

def whileT (body cont : M Fl) : Bool → M Fl
  | true => body.bind (afterF cont)
  | false => M.ret .nx
def whileN (cc : M Bool) (body : M Fl) : Nat → M Fl
  | 0 => M.st
  | n + 1 => cc.bind (whileT body (whileN cc body n))
open Classical in
noncomputable def mWhile (cc : M Bool) (body : M Fl) : M Fl := fun r t => if h : ∃ n, whileN cc body n r t ≠ .st then whileN cc body h.choose r t else .st
theorem rf_while {cc : M Bool} {tb : TS} {body : M Fl} (hc : RfT K c tt cc) (hb : RfS K c tb body) : RfS K c (tWhile tt tb) (mWhile cc body) := by
  intro G B H σ r t D XP w s hx p
  unfold mWhile at p
  split at p
  · rename_i h
    refine ⟨fun m σ' H' => ∃ (B' : Bs) (r' : Rho) (t' : Option Deal), B.le B' ∧ Wd G B' H' t' ∧ Sls K c.ow G B' H' σ' r' ∧ (whileN cc body m r' t').post (fun k r'' t'' => EndOk K c.ow G B D r'' t'' k) XP, ⟨h.choose, B, r, t, Bs.le.refl B, w, s, p⟩, ?_⟩
    rintro m σ1 H1 ⟨B1, r1, tt1, l1, w1, s1, q⟩
    cases m with
    | zero => exact q.elim
    | succ m =>
      unfold whileN at q
      rw [post_bind] at q
      refine hc G B1 H1 σ1 r1 tt1 _ XP w1 s1 (hx.mono l1) (post_mono q fun b r2 tt2 q => fun B2 H2 l2 w2 s2 => ?_)
      cases b with
      | false =>
        rw [if_neg Bool.false_ne_true]
        exact q σ1 B2 H2 (l1.trans l2) w2 s2
      | true =>
        rw [if_pos rfl]
        unfold whileT at q
        rw [post_bind] at q
        refine ⟨fun σ' H' => ∃ (B' : Bs) (r' : Rho) (t' : Option Deal), B.le B' ∧ Wd G B' H' t' ∧ Sls K c.ow G B' H' σ' r' ∧ (whileN cc body m r' t').post (fun k r'' t'' => EndOk K c.ow G B D r'' t'' k) XP, fun σ' H' h => ⟨m, Nat.lt_succ_self m, h⟩, ?_⟩
        have l12 := l1.trans l2
        refine hb G B2 H2 σ1 r2 tt2 _ XP w2 s2 (hx.mono l12) (post_mono q fun k r5 tt5 q => ?_)
        cases k with
        | nx => exact fun σ5 B5 H5 l5 w5 s5 => ⟨B5, r5, tt5, l12.trans l5, w5, s5, q⟩
        | ct => exact fun σ5 B5 H5 l5 w5 s5 => ⟨B5, r5, tt5, l12.trans l5, w5, s5, q⟩
        | bk => exact fun σ5 B5 H5 l5 w5 s5 => q σ5 B5 H5 (l12.trans l5) w5 s5
        | rt x => exact fun v B5 H5 l5 w5 sv5 => q v B5 H5 (l12.trans l5) w5 sv5
  · exact p.elim
theorem psd_while {ce : Expr} {body : List Stmt} {cc : M Bool} {tb : TS} {mbody : M Fl} (hp : PassesOwn (model X.prog X.w) X.A X.env X.xe) (hc : PTD X c ce tt cc) (hb : PSsD X c body tb mbody) : PSD X c (.While ce body [] pos) (tWhile tt tb) (mWhile cc mbody) := ⟨ps_while hp hc.p hb.p, rf_while hc.k hb.k⟩
/-- a continuation that is more than another one -/
theorem bind_more {α β : Type} {m : M α} {f g : α → M β} {r : Rho} {t : Option Deal} (h : M.bind m f r t ≠ .st) (hg : ∀ a r1 t1, f a r1 t1 ≠ .st → g a r1 t1 = f a r1 t1) : M.bind m g r t = M.bind m f r t := by
  unfold M.bind at h ⊢
  cases e : m r t with
  | st => rfl
  | ex _ _ _ => rfl
  | ok a r1 t1 =>
    rw [e] at h
    exact hg a r1 t1 h
theorem afterF_more {c1 c2 : M Fl} (hg : ∀ r1 t1, c1 r1 t1 ≠ .st → c2 r1 t1 = c1 r1 t1) : ∀ k r1 t1, afterF c1 k r1 t1 ≠ .st → afterF c2 k r1 t1 = afterF c1 k r1 t1
  | .nx, r1, t1, h => hg r1 t1 h
  | .ct, r1, t1, h => hg r1 t1 h
  | .bk, _, _, _ => rfl
  | .rt _, _, _, _ => rfl
theorem whileT_more {body c1 c2 : M Fl} (hg : ∀ r1 t1, c1 r1 t1 ≠ .st → c2 r1 t1 = c1 r1 t1) : ∀ b r1 t1, whileT body c1 b r1 t1 ≠ .st → whileT body c2 b r1 t1 = whileT body c1 b r1 t1
  | true, r1, t1, h => bind_more (m := body) (f := afterF c1) (g := afterF c2) h (afterF_more hg)
  | false, _, _, _ => rfl
theorem whileN_more {cc : M Bool} {body : M Fl} : ∀ (n : Nat) (r : Rho) (t : Option Deal), whileN cc body n r t ≠ .st → ∀ k, whileN cc body (n + k) r t = whileN cc body n r t
  | 0, r, t, h, k => absurd rfl h
  | n + 1, r, t, h, k => by
    rw [Nat.add_right_comm]
    exact bind_more (m := cc) (f := whileT body (whileN cc body n)) (g := whileT body (whileN cc body (n + k))) h (whileT_more fun r1 t1 h => whileN_more n r1 t1 h k)
theorem mWhile_of {cc : M Bool} {body : M Fl} {n : Nat} {r : Rho} {t : Option Deal} (h : whileN cc body n r t ≠ .st) : mWhile cc body r t = whileN cc body n r t := by
  unfold mWhile
  have hx : ∃ n, whileN cc body n r t ≠ .st := ⟨n, h⟩
  rw [dif_pos hx]
  have h2 := hx.choose_spec
  rcases Nat.le_total hx.choose n with q | q
  · have := whileN_more _ r t h2 (n - hx.choose)
    rw [Nat.add_sub_cancel' q] at this
    exact this.symm
  · have := whileN_more _ r t h (hx.choose - n)
    rw [Nat.add_sub_cancel' q] at this
    exact this
theorem mWhile_no {cc : M Bool} {body : M Fl} {r : Rho} {t : Option Deal} (h : ∀ n, whileN cc body n r t = .st) : mWhile cc body r t = .st := by
  unfold mWhile
  rw [dif_neg (fun ⟨n, hn⟩ => hn (h n))]
/-- one turn of a while -/
theorem mWhile_eq {cc : M Bool} {body : M Fl} {r : Rho} {t : Option Deal} : mWhile cc body r t = cc.bind (whileT body (mWhile cc body)) r t := by
  by_cases hx : ∃ n, whileN cc body n r t ≠ .st
  · obtain ⟨n, hn⟩ := hx
    rw [mWhile_of hn]
    cases n with
    | zero => exact absurd rfl hn
    | succ n => exact (bind_more (m := cc) (f := whileT body (whileN cc body n)) (g := whileT body (mWhile cc body)) hn (whileT_more fun r1 t1 h => mWhile_of h)).symm
  · have all : ∀ n, whileN cc body n r t = .st := fun n => Classical.byContradiction fun h => hx ⟨n, h⟩
    rw [mWhile_no all]
    apply Classical.byContradiction
    intro hne
    have hne : cc.bind (whileT body (mWhile cc body)) r t ≠ .st := fun e => hne e.symm
    -- what the one turn does is done with enough turns
    cases e : cc r t with
    | st => exact hne (by unfold M.bind; rw [e])
    | ex c x t1 =>
      have := all 1
      have z : cc.bind (whileT body (whileN cc body 0)) r t = .st := this
      unfold M.bind at z
      rw [e] at z
      cases z
    | ok b r1 t1 =>
      have turn : ∀ n, whileT body (whileN cc body n) b r1 t1 = .st := fun n => by
        have z : cc.bind (whileT body (whileN cc body n)) r t = .st := all (n + 1)
        unfold M.bind at z
        rw [e] at z
        exact z
      have hne2 : whileT body (mWhile cc body) b r1 t1 ≠ .st := fun z => hne (by unfold M.bind; rw [e]; exact z)
      cases b with
      | false => exact absurd (turn 0) (fun z => by cases z)
      | true =>
        cases e2 : body r1 t1 with
        | st => exact hne2 (by show M.bind body (afterF (mWhile cc body)) r1 t1 = .st; unfold M.bind; rw [e2])
        | ex c x t2 =>
          have z : body.bind (afterF (whileN cc body 0)) r1 t1 = .st := turn 0
          unfold M.bind at z
          rw [e2] at z
          cases z
        | ok k r2 t2 =>
          have turn2 : ∀ n, afterF (whileN cc body n) k r2 t2 = .st := fun n => by
            have z : body.bind (afterF (whileN cc body n)) r1 t1 = .st := turn n
            unfold M.bind at z
            rw [e2] at z
            exact z
          have hne3 : afterF (mWhile cc body) k r2 t2 ≠ .st := fun z => hne2 (by show M.bind body (afterF (mWhile cc body)) r1 t1 = .st; unfold M.bind; rw [e2]; exact z)
          cases k with
          | nx => exact hne3 (mWhile_no turn2)
          | ct => exact hne3 (mWhile_no turn2)
          | bk => exact absurd (turn2 0) (fun z => by cases z)
          | rt x => exact absurd (turn2 0) (fun z => by cases z)

/-! ### 18. Comprehensions -/
def wipeR (r : Rho) : List Nat → Rho
  | [] => r
  | v :: vs => (wipeR r vs).set v none
theorem wipeR_len (r : Rho) : ∀ vs : List Nat, (wipeR r vs).length = r.length
  | [] => rfl
  | v :: vs => by unfold wipeR; rw [List.length_set, wipeR_len r vs]
theorem wipeR_out {r : Rho} {i : Nat} : ∀ {vs : List Nat}, i ∉ vs → (wipeR r vs)[i]? = r[i]?
  | [], _ => rfl
  | v :: vs, h => by
    unfold wipeR
    rw [List.mem_cons, not_or] at h
    rw [List.getElem?_set_ne (Ne.symm h.1), wipeR_out h.2]
theorem wipeR_in {r : Rho} {i : Nat} {x : Sl} : ∀ {vs : List Nat}, i ∈ vs → (wipeR r vs)[i]? ≠ some (some x)
  | v :: vs, h => by
    unfold wipeR
    by_cases q : i = v
    · subst q
      by_cases hl : i < (wipeR r vs).length
      · rw [List.getElem?_set_self hl]
        intro z
        cases z
      · rw [List.getElem?_eq_none (by simpa using hl)]
        intro z
        cases z
    · rw [List.getElem?_set_ne (Ne.symm q)]
      exact wipeR_in ((List.mem_cons.mp h).resolve_left q)
theorem wipe_in {σ : L2.St} {i : Nat} : ∀ {vs : List Nat}, i ∈ vs → i < σ.length → (wipe σ vs)[i]? = some none
  | v :: vs, h, hl => by
    unfold wipe
    by_cases q : i = v
    · subst q
      rw [List.getElem?_set_self (by rw [wipe_length]; exact hl)]
    · rw [List.getElem?_set_ne (Ne.symm q)]
      exact wipe_in ((List.mem_cons.mp h).resolve_left q) hl
theorem wipe_chg {σ σ' : L2.St} {is vs : List Nat} (h : Chg is σ σ') (hs : ∀ i ∈ is, i ∈ vs) : wipe σ' vs = wipe σ vs := by
  apply List.ext_getElem?
  intro i
  by_cases q : i ∈ vs
  · by_cases hl : i < σ.length
    · rw [wipe_in q hl, wipe_in q (by rw [h.1]; exact hl)]
    · rw [List.getElem?_eq_none (by rw [wipe_length, h.1]; omega), List.getElem?_eq_none (by rw [wipe_length]; omega)]
  · rw [wipe_out q, wipe_out q]
    exact h.2 i fun z => q (hs i z)
theorem wipe_wipe {σ : L2.St} {vs : List Nat} : wipe (wipe σ vs) vs = wipe σ vs := by
  refine wipe_chg (is := vs) ⟨wipe_length σ vs, fun j hj => wipe_out hj⟩ (fun _ h => h)
theorem Sls.wipe {ow : List Nat} {G : Hp} {B : Bs} {H : Hp} {σ : L2.St} {r : Rho} {vs : List Nat} (s : Sls K ow G B H σ r) (hv : ∀ i ∈ vs, i ∉ ow) : Sls K ow G B H (L2.wipe σ vs) (wipeR r vs) := by
  refine ⟨by rw [wipe_length, wipeR_len]; exact s.len, fun i x hx hi => ?_, fun i x hx hi => ?_, fun i j p hi hj ij li lj e => ?_⟩
  · by_cases q : i ∈ vs
    · exact absurd hx (wipeR_in q)
    · rw [wipeR_out q] at hx
      rw [wipe_out q]
      exact s.var i x hx hi
  · have q : i ∉ vs := fun z => hv i z hi
    rw [wipeR_out q] at hx
    rw [wipe_out q]
    exact s.own i x hx hi
  · have q : i ∉ vs := fun z => hv i z hi
    have q2 : j ∉ vs := fun z => hv j z hj
    rw [wipe_out q] at e
    rw [wipe_out q2]
    unfold Live at li lj
    rw [wipeR_out q] at li
    rw [wipeR_out q2] at lj
    exact s.dis i j p hi hj ij li lj e
/-- the slots vs as they stood in r0 -/
def restR (r0 r : Rho) : List Nat → Rho
  | [] => r
  | v :: vs => (restR r0 r vs).set v (r0[v]?.getD none)
theorem restR_len (r0 r : Rho) : ∀ vs : List Nat, (restR r0 r vs).length = r.length
  | [] => rfl
  | v :: vs => by unfold restR; rw [List.length_set, restR_len r0 r vs]
theorem restR_out {r0 r : Rho} {i : Nat} : ∀ {vs : List Nat}, i ∉ vs → (restR r0 r vs)[i]? = r[i]?
  | [], _ => rfl
  | v :: vs, h => by
    unfold restR
    rw [List.mem_cons, not_or] at h
    rw [List.getElem?_set_ne (Ne.symm h.1), restR_out h.2]
theorem restR_in {r0 r : Rho} {i : Nat} {x : Sl} : ∀ {vs : List Nat}, i ∈ vs → (restR r0 r vs)[i]? = some (some x) → r0[i]? = some (some x)
  | v :: vs, h, e => by
    unfold restR at e
    by_cases q : i = v
    · subst q
      by_cases hl : i < (restR r0 r vs).length
      · rw [List.getElem?_set_self hl] at e
        cases z : r0[i]? with
        | none => rw [z] at e; cases e
        | some y => rw [z] at e; simpa using e
      · rw [List.getElem?_eq_none (by simpa using hl)] at e
        cases e
    · rw [List.getElem?_set_ne (Ne.symm q)] at e
      exact restR_in ((List.mem_cons.mp h).resolve_left q) e
theorem Sls.restI {ow : List Nat} {G : Hp} {B B' : Bs} {H H' : Hp} {σ : L2.St} {r0 r : Rho} {vs : List Nat} (s0 : Sls K ow G B H σ r0) (l : B.le B') (s : Sls K ow G B' H' (L2.wipe σ vs) r) (hv : ∀ i ∈ vs, i ∉ ow) : Sls K ow G B' H' σ (restR r0 r vs) := by
  refine ⟨by rw [restR_len, ← s.len, wipe_length], fun i x hx hi => ?_, fun i x hx hi => ?_, fun i j p hi hj ij li lj e => ?_⟩
  · by_cases q : i ∈ vs
    · obtain ⟨v, h1, h2⟩ := s0.var i x (restR_in q hx) hi
      exact ⟨v, h1, h2.mono l⟩
    · rw [restR_out q] at hx
      obtain ⟨v, h1, h2⟩ := s.var i x hx hi
      rw [wipe_out q] at h1
      exact ⟨v, h1, h2⟩
  · have q : i ∉ vs := fun z => hv i z hi
    rw [restR_out q] at hx
    obtain ⟨ds, a, ws, h1, h2, h3⟩ := s.own i x hx hi
    rw [wipe_out q] at h2
    exact ⟨ds, a, ws, h1, h2, h3⟩
  · have q : i ∉ vs := fun z => hv i z hi
    have q2 : j ∉ vs := fun z => hv j z hj
    unfold Live at li lj
    rw [restR_out q] at li
    rw [restR_out q2] at lj
    have := s.dis i j p hi hj ij li lj (by rw [wipe_out q]; exact e)
    rw [wipe_out q2] at this
    exact this
/-- nothing is raised within -/
def noX {α : Type} (m : M α) : M α := fun r t => match m r t with
  | .ok a r t => .ok a r t
  | _ => .st
theorem noX_post {α : Type} {m : M α} {r : Rho} {t : Option Deal} {Q : α → Rho → Option Deal → Prop} {XP XP' : XQ} (h : (noX m r t).post Q XP) : (m r t).post Q XP' := by
  unfold noX at h
  cases e : m r t with
  | ok a r t => rw [e] at h; exact h
  | ex _ _ _ => rw [e] at h; exact h.elim
  | st => rw [e] at h; exact h.elim
def dataOf : Tk → Option PyData
  | .v (.d x) => some x
  | _ => none
/-- one turn: the item, if it is kept -/
def wipeM (vs : List Nat) : M Unit := fun r t => .ok () (wipeR r vs) t
def lcOne (vs : List Nat) (f : Sl → M Unit) (test : M Bool) (elt : M Tk) (d : Sl) : M (Option PyData) := (wipeM vs).bind fun _ => (f d).bind fun _ => test.bind fun b => if b then elt.bind fun k => (optM (dataOf k)).bind fun x => M.ret (some x) else M.ret none
def lcPut (acc : List PyData) (cont : List PyData → M (List PyData)) : Option PyData → M (List PyData)
  | some x => if acc.length < 16777216 then cont (acc ++ [x]) else M.st
  | none => cont acc
def lcL (vs : List Nat) (f : Sl → M Unit) (test : M Bool) (elt : M Tk) : List Sl → List PyData → M (List PyData)
  | [], acc => M.ret acc
  | d :: ds, acc => (lcOne vs f test elt d).bind (lcPut acc (lcL vs f test elt ds))
/-- behind a comprehension its own slots are as they were -/
def inComp {α : Type} (vs : List Nat) (m : M α) : M α := fun r t => match noX m (wipeR r vs) t with
  | .ok xs r' t' => .ok xs (restR r (wipeR r' vs) vs) t'
  | _ => .st
def mLc (mi : M (List Sl)) (vs : List Nat) (f : Sl → M Unit) (test : M Bool) (elt : M Tk) : M (List PyData) := mi.bind fun ds => inComp vs (lcL vs f test elt ds [])
theorem inComp_post {α : Type} {vs : List Nat} {m : M α} {r : Rho} {t : Option Deal} {Q : α → Rho → Option Deal → Prop} {XP XP' : XQ} (h : (inComp vs m r t).post Q XP) : (m (wipeR r vs) t).post (fun a r' t' => Q a (restR r (wipeR r' vs) vs) t') XP' := by
  unfold inComp at h
  cases e : noX m (wipeR r vs) t with
  | ok a r' t' =>
    rw [e] at h
    unfold noX at e
    cases e2 : m (wipeR r vs) t with
    | ok a2 r2 t2 =>
      rw [e2] at e
      cases e
      exact h
    | ex _ _ _ => rw [e2] at e; cases e
    | st => rw [e2] at e; cases e
  | ex _ _ _ => rw [e] at h; exact h.elim
  | st => rw [e] at h; exact h.elim
/-- [elt for target in iter if test] -/
theorem rf_lc {wi : TI} {mi : M (List Sl)} {is vs : List Nat} {g : TG} {f : Sl → M Unit} {test : M Bool} {elt : M Tk} (hi : RfI K c wi mi) (hg : RfG K { c with E := E0 } is g f) (ht : RfT K { c with E := E0 } tt test) (he : RfE K { c with E := E0 } te elt) (hv : ∀ i ∈ vs, i ∉ c.ow) (his : ∀ i ∈ is, i ∈ vs) :
    RfF K c (tLc wi g tt te vs) (mLc mi vs f test elt) := by
  intro G B H σ r t Q XP w s hx p
  unfold mLc at p
  rw [post_bind] at p
  refine hi G B H σ r t _ XP w s hx (post_mono p fun ds r1 tt1 p => fun J B1 H1 l1 w1 s1 it => ?_)
  have nox : ∀ (G : Hp) (B2 : Bs), B.le B2 → XOk K c.ec G B2 E0 (fun _ _ _ => False) := fun G B2 l => ⟨l.b.trans hx.1, fun _ _ _ _ _ _ _ _ h => h.elim⟩
  intro D hD
  have p := inComp_post (XP' := fun _ _ _ => False) p
  -- the state of a turn: the list at D, what is still to come
  let W : Nat → Nat → Hp → Prop := fun i m H' => m = ds.length - i ∧ i ≤ ds.length ∧ ∃ (B' : Bs) (r' : Rho) (t' : Option Deal) (acc : List V) (ac : List PyData), B1.le B' ∧ Wd (upd G D (.lst acc)) B' H' t' ∧ Sls K c.ow (upd G D (.lst acc)) B' H' (wipe σ vs) (wipeR r' vs) ∧ DqAll K B'.H acc ac ∧
    (lcL vs f test elt (ds.drop i) ac r' t').post (fun xs r'' t'' => ∀ (p : Addr) (B2 : Bs) (H2 : Hp), B.le B2 → Wd G B2 H2 t'' → Sls K c.ow G B2 H2 σ (restR r1 (wipeR r'' vs) vs) → Fr K c.ow G B2 H2 σ (restR r1 (wipeR r'' vs) vs) p xs → Q (.ref p) H2) (fun _ _ _ => False)
  have nG : G D = none := w1.ng hD
  have up : ∀ acc, ∀ a o, G a = some o → upd G D (.lst acc) a = some o := fun acc a o e => by
    rw [upd_ne (ne_of_none e nG)]; exact e
  have ww : wipeR (wipeR r1 vs) vs = wipeR r1 vs := by
    apply List.ext_getElem?
    intro k
    by_cases q : k ∈ vs
    · have len : (wipeR (wipeR r1 vs) vs).length = (wipeR r1 vs).length := wipeR_len _ _
      cases e1 : (wipeR (wipeR r1 vs) vs)[k]? with
      | none =>
        have := List.getElem?_eq_none_iff.mp e1
        exact (List.getElem?_eq_none (by omega)).symm
      | some o =>
        cases o with
        | some x => exact absurd e1 (wipeR_in q)
        | none =>
          cases e2 : (wipeR r1 vs)[k]? with
          | none =>
            have h1 := (List.getElem?_eq_some_iff.mp e1).1
            have h2 := List.getElem?_eq_none_iff.mp e2
            omega
          | some o =>
            cases o with
            | some x => exact absurd e2 (wipeR_in q)
            | none => rfl
    · rw [wipeR_out q]
  refine ⟨W, ⟨ds.length, rfl.trans (by simp), Nat.zero_le _, B1, wipeR r1 vs, tt1, [], [], Bs.le.refl B1, ?_, ?_, .nil, by simpa using p⟩, ?_⟩
  · exact (w1.lay hD).more upd_same (w1.nb hD) (w1.nd hD)
  · rw [ww]
    exact ((s1.wipe hv).lay hD).moreG ((s1.wipe hv).now hD)
  · rintro i m H' ⟨rfl, hle, B2, r2, tt2, acc, ac, l2, w2, s2, dq, q⟩
    have wD : H' D = some (.lst acc) ∧ B2.H D = none := w2.fgn D _ upd_same
    by_cases hlt : i < ds.length
    · obtain ⟨d, hd⟩ : ∃ d, ds[i]? = some d := ⟨ds[i], List.getElem?_eq_getElem hlt⟩
      have hdrop : ds.drop i = d :: ds.drop (i + 1) := by
        rw [List.drop_eq_getElem_cons hlt]
        congr 1
        rw [List.getElem?_eq_getElem hlt] at hd
        exact Option.some.inj hd
      rw [hdrop] at q
      unfold lcL at q
      rw [post_bind] at q
      unfold lcOne at q
      rw [post_bind] at q
      have q : (((f d).bind fun _ => test.bind fun b => if b then elt.bind fun k => (optM (dataOf k)).bind fun x => M.ret (some x) else M.ret none) (wipeR r2 vs) tt2).post _ _ := q
      rw [post_bind] at q
      obtain ⟨G', w2', gg, _, back⟩ := Sls.push w2 s2
      obtain ⟨_, hgo⟩ := it G' B2 H' tt2 l2 w2' i
      obtain ⟨go, hy⟩ := hgo d hd
      refine .inr ⟨go, fun H' => W (i + 1) (ds.length - (i + 1)) H', fun H' h => ⟨_, by omega, h⟩, fun x H3 yy => ?_⟩
      obtain ⟨B3, l3, w3', sv⟩ := hy x H3 yy
      obtain ⟨w3, s3⟩ := back B3 H3 tt2 l3 w3'
      refine hg (upd G D (.lst acc)) B3 H3 (wipe σ vs) (wipeR r2 vs) tt2 _ _ x d w3 s3 sv (post_mono q fun _ r4 tt4 q => fun σ4 B4 H4 l4 w4 s4 ch => ?_)
      have ew : wipe σ4 vs = wipe σ vs := by
        rw [wipe_chg ch his, wipe_wipe]
      refine ⟨ew, ?_⟩
      rw [post_bind] at q
      refine ht (upd G D (.lst acc)) B4 H4 σ4 r4 tt4 _ _ w4 s4 (nox _ _ (l1.trans ((l2.trans l3).trans l4))) (post_mono q fun b r5 tt5 q => fun B5 H5 l5 w5 s5 => ?_)
      have l25 := ((l2.trans l3).trans l4).trans l5
      cases b with
      | false =>
        rw [if_neg Bool.false_ne_true]
        have q : (lcL vs f test elt (ds.drop (i + 1)) ac r5 tt5).post _ _ := q
        exact ⟨rfl, hlt, B5, r5, tt5, acc, ac, l25, w5, by rw [← ew]; exact s5.wipe hv, dpa_mono (((l3.trans l4).trans l5)).h dq, q⟩
      | true =>
        rw [if_pos rfl]
        have q : ((elt.bind fun k => (optM (dataOf k)).bind fun x => M.ret (some x)) r5 tt5).post _ _ := q
        rw [post_bind] at q
        refine he (upd G D (.lst acc)) B5 H5 σ4 r5 tt5 _ _ w5 s5 (nox _ _ (l1.trans l25)) (post_mono q fun k r6 tt6 q => fun v B6 H6 l6 w6 s6 vk => ?_)
        rw [post_bind] at q
        obtain ⟨y, ey, q⟩ := optM_ok q
        have dv : Dq K B6.H v y := by
          unfold dataOf at ey
          split at ey
          · cases ey; exact vk
          · cases ey
        have q : (lcPut ac (lcL vs f test elt (ds.drop (i + 1))) (some y) r6 tt6).post _ _ := q
        unfold lcPut at q
        by_cases hz : ac.length < 16777216
        · simp only at q
          rw [if_pos hz] at q
          obtain ⟨eD, bD⟩ := w6.fgn D _ upd_same
          have dq6 := dpa_mono (((l3.trans l4).trans l5).trans l6).h dq
          refine ⟨acc, eD, size_lt (by rw [dq.len]; exact hz), rfl, hlt, B6, r6, tt6, acc ++ [v], ac ++ [y], l25.trans l6, ?_, ?_, dq6.app (.cons dv .nil), q⟩
          · have wg := w6.less (up acc)
            exact (wg.chg eD bD nG (w6.ndg (p := D) upd_same)).more upd_same bD (w6.ndg (p := D) upd_same)
          · rw [← ew]
            have no := s6.nowG (p := D) upd_same
            exact (((s6.lessG (up acc)).chgN no).moreG no).wipe hv
        · simp only at q
          rw [if_neg hz] at q
          exact q.elim
    · have e : i = ds.length := by omega
      subst e
      rw [List.drop_length] at q
      obtain ⟨hstop, _⟩ := it (upd G D (.lst acc)) B2 H' tt2 l2 w2 ds.length
      refine .inl ⟨hstop (Nat.le_refl _), ?_⟩
      have q : (M.ret ac r2 tt2 : Out (List PyData)).post _ _ := q
      have s2' := s2.lessG (up acc)
      have sf := Sls.restI s1 l2 s2' hv
      have noW := s2.nowG (p := D) upd_same
      have noD : NOw c.ow σ (restR r1 (wipeR r2 vs) vs) D := fun k hk hl => by
        have hkv : k ∉ vs := fun z => hv k z hk
        unfold Live at hl
        rw [restR_out hkv] at hl
        have := noW k hk hl
        rw [wipe_out hkv] at this
        exact this
      exact q D B2 H' (l1.trans l2) (w2.less (up acc)) sf ⟨⟨acc, wD.1, dq⟩, wD.2, nG, w2.ndg (p := D) upd_same, noD⟩
end
end DL
end
section
set_option maxRecDepth 100000
set_option maxHeartbeats 4000000
namespace DL
open PySem PySem.Spec PyProof.Rows L2

/-! ### 19. Comprehensions, defs, raises over the text -/
section
variable {X : Cx} {c : Cd} {a b e d : Expr} {ma mb me mc : M Tk} {ta tb te tc : TE} {tt tu : TT} {pos : Pos} {K : PySem.W.Frag} {st : Stmt} {t1 t2 : TS} {m n : M Fl}
abbrev Cd.calm (c : Cd) : Cd := { c with E := E0 }
/-- in a comprehension's block -/
abbrev Blk (X : Cx) (scope : Scope) (s : Shared) (H : Hp) (C : Addr) (cl : List (Str × Addr)) (fp : List Addr) : Cx := X.blk s H scope (compEnvC scope cl C X.env) fp
structure PTsD (X : Cx) (c : Cd) (ifs : List Expr) (tt : TT) (m : M Bool) : Prop where
  p : PTs X ifs tt
  k : RfT X.K c tt m
theorem ptsd_nil : PTsD X c [] tYes (M.ret true) := ⟨pts_nil, fun G B H σ r t Q XP w s hx p => p B H (Bs.le.refl B) w s⟩
theorem ptsd_one {m : M Bool} (h : PTD X c e tt m) : PTsD X c [e] tt m := ⟨pts_one h.p, h.k⟩
theorem pfd_lc {elt tg iter : Expr} {ifs : List Expr} {scope : Scope} {own : List (Str × Nat)} {wi : TI} {mi : M (List Sl)} {is : List Nat} {g : TG} {f : Sl → M Unit} {test : M Bool} (hc : X.calm = true) (hN : X.N.Nodup) (hi : PID X c tg iter wi mi) (ok : BlkOk X.N X.env.scope scope own)
    (hg : ∀ s H C cl fp, PGD (Blk X scope s H C cl fp) c.calm tg is g f) (ht : ∀ s H C cl fp, PTsD (Blk X scope s H C cl fp) c.calm ifs tt test) (he : ∀ s H C cl fp, PED (Blk X scope s H C cl fp) c.calm elt te me)
    (hv : ∀ i ∈ own.map (·.2), i ∉ c.ow) (his : ∀ i ∈ is, i ∈ own.map (·.2)) (hs : ∀ x, foldedSetIterable iter X.env x = pure x := by intro _; rfl) :
    PFD X c (.ListComp elt [⟨tg, iter, ifs, 0⟩] scope pos) (tLc wi g tt te (own.map (·.2))) (mLc mi (own.map (·.2)) f test me) :=
  ⟨pe_lc hc hN hi.p ok (fun s H C cl fp => (hg s H C cl fp).p) (fun s H C cl fp => (ht s H C cl fp).p) (fun s H C cl fp => (he s H C cl fp).p) hs,
    rf_lc hi.k (hg X.s_0 X.H_0 0 [] []).k (ht X.s_0 X.H_0 0 [] []).k (he X.s_0 X.H_0 0 [] []).k hv his⟩
/-- y = [..], y a local that owns nothing -/
theorem psd_setLc {i : Nat} {y : Str} {py : Pos} {elt tg iter : Expr} {ifs : List Expr} {scope : Scope} {own : List (Str × Nat)} {spos : Pos} {wi : TI} {mi : M (List Sl)} {is : List Nat} {g : TG} {f : Sl → M Unit} {test : M Bool} (hio : i ∉ c.ow) (hc : X.calm = true) (hN : X.N.Nodup)
    (hy : X.N[i]? = some y) (hyl : X.env.scope.names.lookup y = some .local) (hsw : swapsWith (.ListComp elt [⟨tg, iter, ifs, 0⟩] scope pos) (some (.Name y py)) spos.line X.env = pure true)
    (hi : PID X c tg iter wi mi) (ok : BlkOk X.N X.env.scope scope own)
    (hg : ∀ s H C cl fp, PGD (Blk X scope s H C cl fp) c.calm tg is g f) (ht : ∀ s H C cl fp, PTsD (Blk X scope s H C cl fp) c.calm ifs tt test) (he : ∀ s H C cl fp, PED (Blk X scope s H C cl fp) c.calm elt te me)
    (hv : ∀ i ∈ own.map (·.2), i ∉ c.ow) (his : ∀ i ∈ is, i ∈ own.map (·.2)) (hs : ∀ x, foldedSetIterable iter X.env x = pure x := by intro _; rfl) :
    PSD X c (.Assign [.Name y py] (.ListComp elt [⟨tg, iter, ifs, 0⟩] scope pos) spos) (tAsg (tLc wi g tt te (own.map (·.2))) (gName i)) (mAsg (aName i) (mFz (mLc mi (own.map (·.2)) f test me))) :=
  ⟨ps_setLc hc hN hy hyl hsw hi.p ok (fun s H C cl fp => (hg s H C cl fp).p) (fun s H C cl fp => (ht s H C cl fp).p) (fun s H C cl fp => (he s H C cl fp).p) hs,
    rf_asg (rf_fz (rf_lc hi.k (hg X.s_0 X.H_0 0 [] []).k (ht X.s_0 X.H_0 0 [] []).k (he X.s_0 X.H_0 0 [] []).k hv his)) (rf_gName hio)⟩
/-- y = [..], y a local that owns its list -/
theorem psd_setLcO {i : Nat} {y : Str} {py : Pos} {elt tg iter : Expr} {ifs : List Expr} {scope : Scope} {own : List (Str × Nat)} {spos : Pos} {wi : TI} {mi : M (List Sl)} {is : List Nat} {g : TG} {f : Sl → M Unit} {test : M Bool} (hio : i ∈ c.ow) (hc : X.calm = true) (hN : X.N.Nodup)
    (hy : X.N[i]? = some y) (hyl : X.env.scope.names.lookup y = some .local) (hsw : swapsWith (.ListComp elt [⟨tg, iter, ifs, 0⟩] scope pos) (some (.Name y py)) spos.line X.env = pure true)
    (hi : PID X c tg iter wi mi) (ok : BlkOk X.N X.env.scope scope own)
    (hg : ∀ s H C cl fp, PGD (Blk X scope s H C cl fp) c.calm tg is g f) (ht : ∀ s H C cl fp, PTsD (Blk X scope s H C cl fp) c.calm ifs tt test) (he : ∀ s H C cl fp, PED (Blk X scope s H C cl fp) c.calm elt te me)
    (hv : ∀ i ∈ own.map (·.2), i ∉ c.ow) (his : ∀ i ∈ is, i ∈ own.map (·.2)) (hs : ∀ x, foldedSetIterable iter X.env x = pure x := by intro _; rfl) :
    PSD X c (.Assign [.Name y py] (.ListComp elt [⟨tg, iter, ifs, 0⟩] scope pos) spos) (tAsg (tLc wi g tt te (own.map (·.2))) (gName i)) (mAsgO i (mLc mi (own.map (·.2)) f test me)) :=
  ⟨ps_setLc hc hN hy hyl hsw hi.p ok (fun s H C cl fp => (hg s H C cl fp).p) (fun s H C cl fp => (ht s H C cl fp).p) (fun s H C cl fp => (he s H C cl fp).p) hs,
    rf_asgO hio (rf_lc hi.k (hg X.s_0 X.H_0 0 [] []).k (ht X.s_0 X.H_0 0 [] []).k (he X.s_0 X.H_0 0 [] []).k hv his)⟩

/-! a def's body computes m: the def keeps the promise -/
def startR (n : Nat) (xs : List Sl) : Rho := xs.map some ++ List.replicate (n - xs.length) none
def fnM (n : Nat) (body : M Fl) : FM := fun xs t => match body (startR n xs) t with
  | .ok (.rt x) _ t' => .ok x t'
  | .ok .nx _ t' => .ok (.d .none) t'
  | .ok _ _ _ => .st
  | .ex c x t' => .ex c x t'
  | .st => .st
theorem sls_start {ow : List Nat} {G : Hp} {B : Bs} {H : Hp} {N : List Str} {vs : List V} {xs : List Sl} {n : Nat} (h : SvA K B vs xs) (hn : xs.length = n) (ho : ∀ i ∈ ow, n ≤ i) : Sls K ow G B H (L2.start N vs) (startR N.length xs) := by
  have hl := h.len
  have none_ : ∀ i x, n ≤ i → (startR N.length xs)[i]? = some (some x) → False := fun i x hi e => by
    unfold startR at e
    rw [List.getElem?_append_right (by simp; omega)] at e
    rw [List.getElem?_replicate] at e
    split at e
    · injection e with e; cases e
    · cases e
  refine ⟨?_, fun i x hx hi => ?_, fun i x hx hi => (none_ i x (ho i hi) hx).elim, fun i j p hi hj ij li lj e => ?_⟩
  · unfold L2.start startR
    simp [hl]
  · by_cases q : i < n
    · unfold startR at hx
      rw [List.getElem?_append_left (by simp; omega), List.getElem?_map] at hx
      cases e : xs[i]? with
      | none => rw [e] at hx; cases hx
      | some y =>
        rw [e] at hx
        cases hx
        obtain ⟨v, h1, h2⟩ := h.get e
        refine ⟨v, ?_, h2⟩
        unfold L2.start
        rw [List.getElem?_append_left (by simp; omega), List.getElem?_map, h1]
        rfl
    · exact (none_ i x (by omega) hx).elim
  · obtain ⟨x, hx⟩ := li
    exact (none_ i x (ho i hi) hx).elim
theorem okD {P : Program} {w : World} {mg : Str → Option Value} {base : Heap} {x : Str} {params : Arguments} {body : List Stmt} {scope : Scope} {f : Addr} {fd : FuncData} {N ps : List Str} {k : Nat} {ec : Ec} {ow : List Nat} {m : M Fl} (F : FunD K x x params body scope [] [] f fd) (S : FnScope N ps scope)
    (how : ∀ i ∈ ow, ps.length ≤ i)
    (hb : ∀ (cdv : Value) (A : Around) (outer : List Env) (s : Shared) (H : Hp) (E : XK), Room k (A.deeper (envOfC x scope s.heap.objs.size f cdv)) →
      ∃ ts, PSsD (cxOf (L2.CX P w) P w K mg base N x scope f cdv A outer s H E) ⟨ec, ow, E⟩ body ts m) :
    FnOk P w K mg base (L2.CX P w) (k + 1) f fd ps (spD K ec ps.length (fnM N.length m)) := by
  refine F.ok S (fun vs H Q E h => spD_len h) fun cdv A outer s H vs Q E hr h => ?_
  obtain ⟨ts, hp, hk⟩ := hb cdv A outer s H E hr
  refine ⟨ts, hp, ?_⟩
  obtain ⟨G, B, xs, t, w, tb, sv, hn, hF⟩ := h
  refine hk G B H (L2.start N vs) (startR N.length xs) t { nx := fun _ H' => Q .non H', rt := Q }
    (fun cn x t' => m (startR N.length xs) t = .ex cn x t') w (sls_start sv hn how) ⟨tb, fun cn x t' B' H' C dd v hm l w' he hd hq => ?_⟩ ?_
  · unfold fnM at hF
    rw [hm] at hF
    exact hF B' H' C dd v l w' he hd hq
  · unfold fnM at hF
    cases e : m (startR N.length xs) t with
    | ok fl r' t' =>
      rw [e] at hF
      cases fl with
      | nx => exact fun σ' B' H' l w' s' => hF .non B' H' l w' .non
      | bk => exact hF.elim
      | ct => exact hF.elim
      | rt y => exact fun v B' H' l w' sv' => hF v B' H' l w' sv'
    | ex cn y t' => exact rfl
    | st => rw [e] at hF; exact hF.elim

/-! raise C(e) -/
def tMkErr (C : Addr) (ta : TA) : L2.St → Hp → XK → Prop := fun σ H Q => ta σ H fun vs H1 => ∃ v, vs = [v] ∧ ∀ d, H1 d = none → Q (.ref C) (some d) (upd H1 d (.xd [(("at" : Str), v)]))
def tRaiseErr (C : Addr) (E : XK) (ta : TA) : TS := fun _ σ H => tMkErr C ta σ H fun cls d H' => E cls d H'
def raiseM {α : Type} (cn : Str) (x : PyData) : M α := fun _ t => .ex cn x t
def mRaise (cn : Str) (m : M (List Tk)) : M Fl := m.bind fun ks => (optM (oneD ks)).bind fun x => raiseM cn x
theorem rf_raise {C : Addr} {cn : Str} {t : TA} {m : M (List Tk)} (hC : c.ec.f cn = some C) (h : RfA K c t m) : RfS K c (tRaiseErr C c.E t) (mRaise cn m) := by
  intro G B H σ r dl D XP w s hx p
  unfold mRaise at p
  rw [post_bind] at p
  refine h G B H σ r dl _ XP w s hx (post_mono p fun ks r1 tt1 p => fun vs B1 H1 l1 w1 s1 v1 => ?_)
  rw [post_bind] at p
  obtain ⟨x, ex, p⟩ := optM_ok p
  obtain ⟨v, rfl, dv⟩ := oneD_ok ex v1
  exact ⟨v, rfl, fun d hd => hx.2 cn x tt1 _ _ C d v p (l1.trans (Bs.le_add (w1.nb hd))) (w1.new hd) hC upd_same (dp_mono (Bs.le_add (w1.nb hd)).h dv)⟩
theorem psd_raise {C : Addr} {cn : Str} {p pos2 : Pos} {es : List Expr} {t : TA} {m : M (List Tk)} (hc : X.calm = true) (tk : Takes X (fun cls d _ H => c.E cls d H)) (hC : c.ec.f cn = some C) (ha : PAD X c (e :: es) t m) (hm : PA X (e :: es) t → PMk X (.Call (.Name cn p) (e :: es) [] pos) (tMkErr C t)) :
    PSD X c (.Raise (some (.Call (.Name cn p) (e :: es) [] pos)) none pos2) (tRaiseErr C c.E t) (mRaise cn m) := ⟨ps_raise hc tk (hm ha.p), rf_raise hC ha.k⟩
end
end DL
end
section
set_option maxRecDepth 100000
set_option maxHeartbeats 4000000
/-! # The package's errors: class X(HoldError): def __init__(self, at): super().__init__(at); self.at = at -/
namespace ErrX
open PySem PySem.W PySem.Calls PyProof.Rows PySem.HandSPX

def eA (p1 p2 : Pos) : Arguments := { posonlyargs := [], args := [{ arg := "self", annotation := none, pos := p1 }, { arg := "at", annotation := none, pos := p2 }], vararg := none, kwonlyargs := [], kw_defaults := [], kwarg := none, defaults := [] }
def eB (q1 q2 q3 q4 q5 q6 r1 r2 r3 r4 : Pos) : List Stmt :=
  [.Expr (.Call (.Attribute (.Call (.Name "super" q1) [] [] q2) "__init__" q3) [.Name "at" q4] [] q5) q6, .Assign [.Attribute (.Name "self" r1) "at" r2] (.Name "at" r3) r4]
def eS : Scope := { kind := .function, names := [("self", .local), ("at", .local), ("__class__", .free), ("super", .globalImplicit)], isGenerator := false, isCoroutine := false, more := [] }
/-- what the written part says of such a class, at C, of its __init__, at fI, of the cell of __class__ and of the code -/
structure ErrTxt (prog : Program) (K : Frag) (mg : Str → Option Value) (x : Str) (C : Addr) : Prop where
  gC : mg x = some (.ref C)
  gs : mg "super" = none
  cls : ∃ nm q N bs bm sn sub ab col dd k0 k1 k2 k3 k5, K.lookup C = some (excClassObj nm q C N bs bm true sn sub ab col dd k0 k1 k2 k3 k5 "ValueError.__new__") ∧ refsVE bm = true ∧ alongIn K "__init__" bm = some (some (.builtin "ValueError.__init__"))
  sa : findIn K (.ref C) "__setattr__" = some (some (.builtin "object.__setattr__"))
  xf : L2.XfC K C
  noN : findIn K (.ref C) "at" = some none
  kC : keepIn K (.ref C) = true
  exC : subIn K (.ref C) (.type "BaseException") = some true
  tyC : typeIn K (.ref C) = some (.type "type")
  opq : nsIn K cStatics "thirdparty.any" = some none
  top : (prog.main.scope.names.lookup ("super" : Str)).isSome = false
  sbC : mroIn K C (.ref C) = some true
  fn : ∃ (fI cc cda : Addr) (qual : Str) (oc dV kV doc pm ct : Value) (od an : Option Addr) (osl : Array (Option Value)) (p1 p2 q1 q2 q3 q4 q5 q6 r1 r2 r3 r4 : Pos) (cl ccl : Value) (cld cdd : Option Addr) (csl ccs : Array (Option Value)) (vs : Array Value) (file : Str) (tf : Tok),
    findIn K (.ref C) "__init__" = some (some (.ref fI)) ∧ typeIn K (.ref fI) = some (.type "function") ∧
    K.lookup fI = some ⟨oc, od, .func (ksFn "__init__" qual (eA p1 p2) (eB q1 q2 q3 q4 q5 q6 r1 r2 r3 r4) eS dV kV doc pm an (.ref cda) ct cc), osl⟩ ∧ dV = .none ∧ codeIn K (.ref cda) qual = true ∧
    K.lookup cc = some ⟨cl, cld, .cell (some (.ref C)), csl⟩ ∧ K.lookup cda = some ⟨ccl, cdd, .fields vs, ccs⟩ ∧ vs[2]? = some (.str file tf) ∧ ((prog.main.file : Str) == file) = true ∧ (q3.endLine == q5.line) = true

section
variable {prog : Program} {w : World} {A : Around} {E : Value → Shared → Prop} {h : Heap} {g : Array GenState} {d : Drawn} {t : Nat} {os : OsState}
variable {nm q : Str} {C N : Addr} {bs bm : List Value} {hdct : Bool} {sn : List Str} {sub : List Value} {ab : Bool} {col : Option Bool} {dd : Option Addr} {k0 k1 k2 k3 k5 : Option Value}
/-- super().__init__(..), bound, called -/
theorem call_bw {u e t0 : Addr} {rest : List Value} {Q : Value → Shared → Prop}
    (hC : h.get? C = some (excClassObj nm q C N bs bm hdct sn sub ab col dd k0 k1 k2 k3 k5 "ValueError.__new__")) (he : h.get? e = some (excO C t0)) (hu : h.get? u = some (kxs_mw "ValueError.__init__" e)) (hrest : rest.length ≤ sizeLine)
    (hq : ∀ h' t1, (∀ b o, b ≠ e → h.get? b = some o → h'.get? b = some o) → h'.get? e = some (excO C t1) → Q .none ⟨h', g, d, t, os⟩) :
    wpAny (model prog w) A (call (.ref u) rest) Q E ⟨h, g, d, t, os⟩ := by
  refine wpAny_call (codeAny_of_tree ?_)
  show wpAny _ A.in1 (callAny (.ref u) ⟨rest, []⟩) _ _ _
  simp only [callAny]
  refine wpAny_bind (wpAny_load hu ?_)
  simp only [kxs_mw, show (Value.type "method-wrapper" == Value.type "method" || Value.type "method-wrapper" == Value.type "builtin_function_or_method" || Value.type "method-wrapper" == Value.type "method-wrapper") = true by decide, if_true]
  refine W.KFB.if_so (by decide) ?_
  refine wpAny_bind (PySem.ESX.check_bound F.excBase_ValueError hC he rfl ?_)
  refine wpAny_bind (wpAny_pure (wpAny_pure ?_))
  refine ⟨Code.quiet_builtin _ (by decide +kernel), codeAny_builtin F.excBase_ValueError.initEntry ?_⟩
  rw [Around.under_plainId F.excBase_ValueError.init.plain _]
  wp_walk
  refine hq _ h.objs.size (fun b o hb ho => ?_) ?_
  · rw [Heap.get?_update_other _ _ (Ne.symm hb)]
    exact Heap.get?_push_of_some _ ho
  · rw [Heap.get?_update_self _ (Heap.get?_push_of_some _ he) rfl]
    rfl
end
/-- what __init__ leaves of a fresh exception at x -/
structure ErrEnd (h h' : Heap) (x C dx t1 : Addr) (v : Value) : Prop where
  keep : ∀ b o, b ≠ x → h.get? b = some o → h'.get? b = some o
  obj : h'.get? x = some { cls := .ref C, dict := some dx, data := .fields #[.ref t1, .none, .none, .none, .bool false, .none] }
  dbig : h.objs.size ≤ dx
  dne : dx ≠ x
  ns : h'.Ns1 dx (fun y => if y = "at" then some v else none)
theorem ldC {M : Model} {s : Shared} {env : Env} {m : Str → Option Value} {x : Str} {pos : Pos} {v : Value} {Q : Value → Shared → Prop} {A : Around} {E : Value → Shared → Prop} (hn : s.heap.Ns env.locals m) (hv : m x = some v) (h : Q v s)
    (hk : env.scope.kind = .function) (hl : env.kindOf x = some .local) (hd : (x == ("__debug__" : Str)) = false := by decide) :
    wpAny M A (eval (.Name x pos) env) Q E s := wpAny_Name (wpAny_loadName_local hk hl hn hv h) hd
section
variable {prog : Program} {w : World} {A : Around} {E : Value → Shared → Prop} {R : Result → Shared → Prop} {s : Shared} {K : Frag} {mg : Str → Option Value} {C : Addr} {nm0 : Str}
theorem superCall {q1 q2 q3 q4 q5 : Pos} {env : Env} (hline : (q3.endLine == q5.line) = true) : eval (.Call (.Attribute (.Call (.Name "super" q1) [] [] q2) "__init__" q3) [.Name "at" q4] [] q5) env = (do
      let ov ← attributeBase (.Call (.Name "super" q1) [] [] q2) "__init__" env (eval (.Call (.Name "super" q1) [] [] q2) env)
      standAt q3.atName
      let (f, first) ← holding [ov] (getMethod ov "__init__" (do return (← importBound (.Call (.Name "super" q1) [] [] q2) env).getD true))
      callWith q5 f first (backTo q5 (starEach [.Name "at" q4] env)) []) := by
  rw [arm_eval_Call]
  have hform : methodCallForm (([.Name "at" q4] : List Expr).length + ([] : List Keyword).length) (backTo q5 (starEach [.Name "at" q4] env)) (backToKw q5 (keywordEach [] env)) = true := by rfl
  have hpos : methodCallPos true (.Call (.Name "super" q1) [] [] q2) env q3 q5 = pure q5 := by unfold methodCallPos; simp [hline]
  unfold methodCall
  rw [hform]
  simp only [hpos, pure_bind]
  rfl
theorem err_init (T : ErrTxt prog K mg nm0 C) {fI : Addr} (hfI : findIn K (.ref C) "__init__" = some (some (.ref fI))) {x t0 : Addr} {v : Value} (X : K.In s.heap) (hg : s.heap.Ns mainGlobals mg) (hb : ∃ mb, s.heap.Ns builtinsNs mb ∧ ∀ y : Str, y ≠ "__name__" → mb y = bootBuiltins y) (hlim : s.heap.NoLimit)
    (hx : s.heap.get? x = some (excO C t0)) (hnx : K.lookup x = none) (hroom : A.depth < recursionLimit)
    (hq : ∀ h' tk dx t1, ErrEnd s.heap h' x C dx t1 v → R (.ok (.ret .none)) { s with heap := h', toks := tk }) :
    codeAny (model prog w) A (.call (.ref fI) ⟨[.ref x, v], []⟩) R s := by
  obtain ⟨fI', cc, cda, qual, oc, dV, kV, doc, pm, ct, od, an, osl, p1, p2, q1, q2, q3, q4, q5, q6, r1, r2, r3, r4, cl, ccl, cld, cdd, csl, ccs, vs, file, tf, h1, h2, ho, hdV, hcd, hcell, hcode, hvs, hfile, hline⟩ := T.fn
  rw [hfI] at h1
  injection h1 with h1; injection h1 with h1; injection h1 with h1
  subst h1
  obtain ⟨nm, q, N, bs, bm, sn, sub, ab, col, dd, k0, k1, k2, k3, k5, hC, hbm, hal⟩ := T.cls
  have hcl : clsIn K C = some { name := nm, bases := bs, mro := .ref C :: bm, ns := N, qualname := q, hasDict := true, slotNames := sn, subclasses := sub, abstract := ab, collection := col, hasDel := false } := by unfold clsIn; rw [hC] <;> rfl
  refine ks_codeAny_call_defAt (fd := ksFn "__init__" qual (eA p1 p2) (eB q1 q2 q3 q4 q5 q6 r1 r2 r3 r4) eS dV kV doc pm an (.ref cda) ct cc) (body := eB q1 q2 q3 q4 q5 q6 r1 r2 r3 r4) (binds := [("self", .ref x), ("at", v)])
    hroom (X _ _ ho) rfl hlim (codeRec_of X hcd) rfl (BindsTo.of_eq (by subst hdV; first | rfl | with_unfolding_all rfl)) (show ∀ y ∈ eS.names, y.2 ≠ .cell by decide) (by
      intro y hy
      rcases List.mem_cons.mp hy with rfl | hy
      · rfl
      · rcases List.mem_cons.mp hy with rfl | hy
        · rfl
        · cases hy) (fun h₁ hns k₁ => ?_) rfl rfl rfl
  have X₁ : K.In h₁ := X.keeps k₁
  have hx₁ := k₁ _ _ hx
  obtain ⟨mb, hb1, hb2⟩ := hb
  have hxC : x ≠ C := fun e => by subst e; rw [hC] at hnx; cases hnx
  obtain ⟨oD, hD1, hD2⟩ : ∃ oD, h₁.get? C = some oD ∧ oD.data = .cls { name := nm, bases := bs, mro := .ref C :: bm, ns := N, qualname := q, hasDict := true, slotNames := sn, subclasses := sub, abstract := ab, collection := col, hasDel := false } := ⟨_, X₁ _ _ hC, rfl⟩
  have hself : (fun y => ([("self", Value.ref x), ("at", v)] : List (Str × Value)).reverse.lookup y) "self" = some (.ref x) := by first | rfl | with_unfolding_all rfl | decide
  have hat : (fun y => ([("self", Value.ref x), ("at", v)] : List (Str × Value)).reverse.lookup y) "at" = some v := by first | rfl | with_unfolding_all rfl | decide
  refine ks_wpAt_execs_cons (ks_wpAt_Expr_any (ks_wpAt_MethodCall (pl := do return (← importBound (.Call (.Name "super" q1) [] [] q2) (callEnv (ksFn "__init__" qual (eA p1 p2) (eB q1 q2 q3 q4 q5 q6 r1 r2 r3 r4) eS dV kV doc pm an (.ref cda) ct cc) s.heap.objs.size fI)).getD true) ?_ (superCall hline)))
  refine ks_wpAt_super_base (f := fI) (cc := cda) rfl rfl (by decide) rfl (X₁ _ _ ho) rfl rfl rfl (X₁ _ _ hcode) rfl hvs hfile T.top ?_
  refine ks_loadName_global rfl rfl (loadGlobal_builtin (hg.keeps k₁) T.gs (hb1.keeps k₁) ((hb2 _ (by decide +kernel)).trans (by decide +kernel)) ⟨rfl, ?_⟩)
  refine wpAny_loadName_free rfl rfl rfl ⟨_, X₁ _ _ hcell, rfl⟩ ?_
  refine wpAny_loadName_local rfl rfl hns hself ?_
  refine ks_wpAny_isType_cls hD1 hD2 ⟨rfl, ?_⟩
  refine ks_wpAny_call_super hD1 hD2 hx₁ rfl (fun c e => by cases e) (looks_mroIn X₁ T.sbC) (fun h₂ e₂ k₂ => ?_)
  have X₂ : K.In h₂ := X₁.keeps k₂
  have hx₂ := k₂ _ _ hx₁
  have hI : Looks (model prog w) h₂ (isInstance (.ref x) (.type "ValueError")) true := by
    have IA : InstAt h₂ x (excO C t0) C none := ⟨hx₂, rfl, rfl, trivial⟩
    refine IA.type.andThen (looks_mroIn X₂ ?_)
    unfold mroIn
    rw [hcl, Option.bind_some]
    have : (Value.ref C :: bm).isEmpty = false := rfl
    rw [if_neg (by rw [this]; decide)]
    have hc := refsVE_contains "ValueError" bm hbm
    have : (Value.ref C :: bm).contains (.type "ValueError") = true := by
      rw [List.contains_cons, hc, show veTail.contains (.type "ValueError") = true by decide +kernel, Bool.or_true]
    rw [this]
  refine kxs_getMethod kxs_ValueError e₂ (looks_opaque X₂ T.opq) (l₀ := .ref C :: bm) (fun A Q E s k q => wpAny_bind ((looks_clsIn X₂ hcl) A _ E s k (wpAny_pure q))) (l := bm) (by simp [List.dropWhile_cons]) X₂ hal hI hxC (by decide) ?_
  -- the bound __init__ is called
  have k₃ : ∀ b o, h₂.get? b = some o → (h₂.push (kxs_mw "ValueError.__init__" x)).get? b = some o := fun b o e => Heap.get?_push_of_some _ e
  have hu : (h₂.push (kxs_mw "ValueError.__init__" x)).get? h₂.objs.size = some (kxs_mw "ValueError.__init__" x) := Heap.get?_push_at rfl rfl
  have kk : ∀ b o, h₁.get? b = some o → (h₂.push (kxs_mw "ValueError.__init__" x)).get? b = some o := fun b o e => k₃ _ _ (k₂ _ _ e)
  refine kxs_callWith (i := "ValueError.__init__") (x := x) rfl ?_
  refine evalArgs_plain (Calls.spliced_cons (ldC (m := fun y => ([("self", Value.ref x), ("at", v)] : List (Str × Value)).reverse.lookup y) ?_ hat (Calls.spliced_nil ⟨hu, ?_⟩) rfl rfl))
  · obtain ⟨oL, es, ep, hL, rr⟩ := hns
    exact ⟨oL, es, ep, kk _ _ hL, rr⟩
  refine call_bw (rest := [v]) (kk _ _ (X₁ _ _ hC)) (kk _ _ hx₁) hu (by rw [sizeLine_eq]; exact (by decide : 1 ≤ 16777216)) (fun h₄ t1 k₄ hx₄ => ?_)
  -- self.at = at
  have hxL : s.heap.objs.size ≠ x := Nat.ne_of_gt (Heap.lt_size hx)
  have k14 : ∀ b o, b ≠ x → h₁.get? b = some o → h₄.get? b = some o := fun b o hb e => k₄ b o hb (kk b o e)
  have ns4 : h₄.Ns s.heap.objs.size (fun y => ([("self", Value.ref x), ("at", v)] : List (Str × Value)).reverse.lookup y) := by
    obtain ⟨oL, es, ep, hL, rr⟩ := hns
    exact ⟨oL, es, ep, k14 _ _ hxL hL, rr⟩
  have X₄ : K.In h₄ := fun a o e => k14 a o (fun z => by rw [z, hnx] at e; cases e) (X₁ a o e)
  refine PySem.wpAt_of_wpAny (wpAny_execs_cons (plainObj_wpAny_Assign_Attribute ?_))
  refine ldC ns4 hat (ldC ns4 hself ?_ rfl rfl) rfl rfl
  refine set_plain X₄ (ox := excO C t1) (od := none) ⟨hx₄, rfl, rfl, trivial⟩ T.sa ?_
  refine exc_osa X₄ hx₄ hcl (show refsVE (.ref C :: bm) = true from hbm) rfl T.noN (fun h₅ tk₅ dx k₅ dn dne hx₅ hn₅ => ?_)
  refine wpAny_execs_nil (hq h₅ tk₅ dx t1 ⟨fun b o hb e => k₅ b o hb (k14 b o hb (k₁ b o e)), hx₅, ?_, dne, hn₅⟩)
  refine Nat.le_trans ?_ dn
  obtain ⟨oL, es, ep, hL, rr⟩ := ns4
  exact Nat.le_of_lt (Heap.lt_size hL)

/-- a made error -/
structure ErrMade (h h' : Heap) (e C d : Addr) (v : Value) : Prop where
  keep : ∀ b o, h.get? b = some o → h'.get? b = some o
  new : h.objs.size ≤ e
  obj : ∃ oe vs, h'.get? e = some oe ∧ oe.cls = .ref C ∧ oe.dict = some d ∧ oe.data = .fields vs ∧ vs[1]? = some .none
  dbig : h.objs.size ≤ d
  dne : d ≠ e
  ns : h'.Ns1 d (fun y => if y = "at" then some v else none)
theorem err_made (T : ErrTxt prog K mg nm0 C) {v : Value} (X : K.In s.heap) (hg : s.heap.Ns mainGlobals mg) (hb : ∃ mb, s.heap.Ns builtinsNs mb ∧ ∀ y : Str, y ≠ "__name__" → mb y = bootBuiltins y) (hlim : s.heap.NoLimit) (hroom : A.depth + 1 < recursionLimit)
    (hq : ∀ h' tk e d, ErrMade s.heap h' e C d v → R (.ok (.ret (.ref e))) { s with heap := h', toks := tk }) :
    codeAny (model prog w) A (.call (.ref C) ⟨[v], []⟩) R s := by
  obtain ⟨fI, cc, cda, qual, oc, dV, kV, doc, pm, ct, od, an, osl, p1, p2, q1, q2, q3, q4, q5, q6, r1, r2, r3, r4, cl, ccl, cld, cdd, csl, ccs, vs, file, tf, iC, tI, _⟩ := T.fn
  obtain ⟨nm, q, N, bs, bm, sn, sub, ab, col, dd, k0, k1, k2, k3, k5, hC, hbm, hal⟩ := T.cls
  obtain ⟨hp, g, dr, tk, os⟩ := s
  have k : ∀ b o, hp.get? b = some o → ((hp.push (kdv_tup [v])).push (excO C hp.objs.size)).get? b = some o := fun b o e => Heap.get?_push_of_some _ (Heap.get?_push_of_some _ e)
  have hget : ((hp.push (kdv_tup [v])).push (excO C hp.objs.size)).get? (hp.objs.size + 1) = some (excO C hp.objs.size) := by heap_get
  have hnx : K.lookup (hp.objs.size + 1) = none := by
    cases e : K.lookup (hp.objs.size + 1) with
    | none => rfl
    | some o =>
      have z : hp.get? (hp.objs.size + 1) = some o := X _ _ e
      exact absurd (Nat.lt_of_succ_lt (Heap.lt_size z)) (Nat.lt_irrefl _)
  refine call_own F.excBase_ValueError (fun X => refsVE_contains X bm hbm) (X _ _ hC) (looks_findIn X iC) (fun self => bind_fn X self tI) (by rw [sizeLine_eq]; exact (by decide : 1 ≤ 16777216)) ?_
  obtain ⟨mb, hb1, hb2⟩ := hb
  refine err_init (s := ⟨(hp.push (kdv_tup [v])).push (excO C hp.objs.size), g, dr, tk, os⟩) T iC (X.keeps k) (hg.keeps k) ⟨mb, hb1.keeps k, hb2⟩ (hlim.keeps k) hget hnx ?_ fun h' tk' dx t1 ⟨k', hx, dn, dne, hns⟩ => ?_
  · show A.depth + 1 < recursionLimit
    exact hroom
  · have old : ∀ b o, hp.get? b = some o → h'.get? b = some o := fun b o e => k' b o (Nat.ne_of_lt (Nat.lt_succ_of_lt (Heap.lt_size e))) (k b o e)
    have z : hp.objs.size + 1 + 1 ≤ dx := by
      first
        | (simpa only [Heap.size_push] using dn)
        | exact dn
        | (have q := dn; rw [Heap.size_push, Heap.size_push] at q; exact q)
    exact ⟨rfl, hq h' tk' (hp.objs.size + 1) dx ⟨old, Nat.le_succ _, ⟨_, _, hx, rfl, rfl, rfl, rfl⟩, Nat.le_trans (Nat.le_trans (Nat.le_succ _) (Nat.le_succ _)) z, dne, hns⟩⟩
end
end ErrX
namespace DL
open PySem PySem.Spec PyProof.Rows L2
theorem relO_at {v : V} {v' : Value} (r : RelV v v') (f : Str) : RelO (List.lookup f [(("at" : Str), v)]) (if f = "at" then some v' else none) := by
  by_cases hw : f = "at"
  · subst hw
    rw [if_pos rfl]
    have q : List.lookup ("at" : Str) [(("at" : Str), v)] = some v := by simp [List.lookup]
    rw [q]
    exact r
  · rw [if_neg hw]
    have qw : (f == ("at" : Str)) = false := by simpa using hw
    have q2 : List.lookup f [(("at" : Str), v)] = none := by simp [List.lookup, qw]
    rw [q2]
    trivial
section
variable {X : Cx} {C : Addr}
theorem pmk_err {a : Expr} {ta : TA} {cn : Str} {p pos : Pos} {k : Nat} (T : ErrX.ErrTxt X.prog X.K X.mg cn C) (hr : Room k X.A) (ha : PA X [a] ta) (hg : Gl X cn) (hdb : (cn == ("__debug__" : Str)) = false := by decide)
    (he : starEach (a :: []) X.env = (false, eval a X.env) :: starEach [] X.env := by rfl) (hpl : (backTo pos (starEach [] X.env)).any (·.1) = false := by rfl) :
    PMk X (.Call (.Name cn p) [a] [] pos) (tMkErr C ta) := by
  intro pins s σ H Q I h
  refine wpAny_Call_Name_kw (ld_glob I hg T.gC ?_ hdb)
  refine PySem.W.callWith_K (h₀ := X.base) I.ok.mod.kin T.kC (thn (ha.run pos pins s σ H _ I h) fun us s1 hh => ?_) he hpl
  obtain ⟨vs, H1, I1, r1, v, ev, q1⟩ := hh
  subst ev
  refine ⟨I1.kIn, ?_⟩
  cases r1 with
  | cons rv rn =>
    rename_i v' us'
    cases rn
    show wpAny _ _ (call (.ref C) [v']) _ _ _
    have hlim := I1.nolimit
    have hgl := I1.mod.glob.keeps I1.bk
    obtain ⟨mb, hb1, hb2⟩ := I1.mod.blt
    have hbl := hb1.keeps I1.bk
    obtain ⟨hp, g, dr, tk, os⟩ := s1
    refine wpAny_call (ErrX.err_made T I1.kIn hgl ⟨mb, hbl, hb2⟩ hlim (by have := hr.dp; omega) fun h' tk' e d M => ?_)
    show MkP X pins σ Q (.ref e) ⟨h', g, dr, tk', os⟩
    obtain ⟨oe, fv, hoe, hc, hd, hdat, h1⟩ := M.obj
    have hns := M.ns
    obtain ⟨G', g1, g2⟩ := restrict h' fun b => decide (b ≠ e)
    have gk : ∀ b, b ≠ e → G'.get? b = h'.get? b := fun b hb => g1 b (decide_eq_true hb)
    have ge : G'.get? e = none := g2 e (by simp)
    have old : ∀ b o, hp.get? b = some o → G'.get? b = some o := fun b o q => (gk b (Nat.ne_of_lt (Nat.lt_of_lt_of_le (Heap.lt_size q) M.new))).trans (M.keep b o q)
    have ob : ObjOk X.prog X.w (upd H1 d (.xd [(("at" : Str), v)])) G' d (.xd [(("at" : Str), v)]) :=
      ⟨_, hns.at (fun o q => (gk d M.dne).trans q), fun f => relO_at rv f⟩
    have J : Inv X pins σ (upd H1 d (.xd [(("at" : Str), v)])) ⟨G', g, dr, tk', os⟩ := I1.laid (t' := tk') old M.dbig ob
    refine ⟨e, oe, fv, ⟨G', g, dr, tk', os⟩, _, .ref C, some d, rfl, J, fun b o q => ?_, ge, hoe, ⟨hc, hd⟩, hdat, h1, ?_, rfl, I1.bare, raises_own T.exC T.tyC, q1 d (I1.hok.fresh M.dbig)⟩
    · by_cases hb : b = e
      · have q' : G'.get? b = some o := q
        rw [hb, ge] at q'; cases q'
      · exact (gk b hb).symm.trans q
    · rw [upd_ne (Ne.symm M.dne)]
      exact I1.hok.fresh M.new
end
end DL
end
section
set_option maxRecDepth 100000
set_option maxHeartbeats 4000000
/-! # Several clauses «except C as n», one name -/
namespace DL
open PySem PySem.Spec PyProof.Rows L2
abbrev Clause := Value × (Addr → Value → Option Addr → TS)
def offD (i : Nat) (D : Ends) : Ends := { nx := fun σ' H' => D.nx (σ'.set i none) H', rt := D.rt, bk := fun σ' H' => D.bk (σ'.set i none) H', ct := fun σ' H' => D.ct (σ'.set i none) H' }
/-- what the clauses wish of an error of the body -/
def wManyA (K : PySem.W.Frag) (i : Nat) (Wout : WX) (D : Ends) : List Clause → WX
  | [] => Wout
  | (c, ts) :: r => fun cls d σ H => ∃ b, PySem.W.exmOne K cls c = some b ∧ (b = true → ∀ a, H a = none → ts a cls d (offD i D) (σ.set i (some (.ref a))) H) ∧ (b = false → wManyA K i Wout D r cls d σ H)
inductive HdsA (X : Cx) (n : Str) : List ExceptHandler → List Clause → Prop
  | nil : HdsA X n [] []
  | cons {x : Str} {c : Value} {ts : Addr → Value → Option Addr → TS} {b₀ : Stmt} {suite : List Stmt} {np pos' : Pos} {hds : List ExceptHandler} {l : List Clause} (hc : Names X x c)
      (hsu : ∀ (a : Addr) (oe : Obj) (cls : Value) (d : Option Addr) (pn : List (Addr × Obj)), Zc cls d oe → (∃ vs, oe.data = .fields vs) → PSs (X.suite a ((a, oe) :: pn)) (b₀ :: suite) (ts a cls d)) (r : HdsA X n hds l) :
      HdsA X n (.ExceptHandler (some (.Name x np)) (some n) (b₀ :: suite) pos' :: hds) ((c, ts) :: l)
theorem ps_try_manyA {X : Cx} {n : Str} {i : Nat} {body : List Stmt} {h₀ : ExceptHandler} {hds : List ExceptHandler} {l : List Clause} {pos : Pos} {tb : WX → TS} {Wout : WX} (hs : X.stack = X.env :: X.outer) (hf : X.env.frame = some X.env.locals)
    (hN : X.N.Nodup) (hi : X.N[i]? = some n) (hln : X.env.kindOf n = some .local) (tk : Takes X Wout)
    (hb : ∀ (W : WX) (pn : List (Addr × Obj)) (xe : Value → Shared → Prop), Takes (X.tr pn xe) W → PassesOwn (model X.prog X.w) X.A X.env xe → PSs (X.tr pn xe) body (tb W))
    (hh : HdsA X n (h₀ :: hds) l) : PS X (.Try body (h₀ :: hds) [] [] pos) (fun D σ H => tb (wManyA X.K i Wout D l) D σ H) := by
  refine ⟨fun pins s σ H D I h => ?_⟩
  have ok := I.ok
  have hfr : X.A.frames = some (X.env :: X.outer) := by rw [ok.frames, hs]
  have hloc : Loc X.env.scope n := .inl hln
  refine wpAny_Try_except ?_
  refine wpAny_mono ((hb (wManyA X.K i Wout D l) (X.pn ++ pins) (fun e s₁ => wpAny (model X.prog X.w) X.A (noteFrame e X.env) (fun _ s₂ => wpAny (model X.prog X.w) X.A (setFlight e none) (fun _ s₃ =>
    wpAny (model X.prog X.w) X.A (handleBy e X.env (h₀ :: hds)) (SP X pins D) X.xe s₃) X.xe s₂) X.xe s₁) (fun u s' xx => ?_) PassesOwn.looking).run [] s σ H D (I.toTry _) h) (fun f s1 hsp => ?_) (fun e s1 he => he)
  · obtain ⟨a, B, sI, pins', σ', H', cls, d, rfl, J', nb, up, sky, na, os, ag, w⟩ := xx
    have J : Inv X pins σ' H' sI := J'.ofTry ok
    have sky' : Sky B (X.env :: X.outer) a (Zc cls d) X.env.locals s'.heap := by rw [← hs]; exact sky
    show wpAny (model X.prog X.w) X.A (noteFrame (.ref a) X.env) _ _ _
    refine Sky.land Zc.steady hfr hf sky' fun h3 fl3 up3 => ?_
    have J3 : Inv X pins σ' H' { s' with heap := h3 } := J.landed nb fl3.1 (up.trans up3) os ag
    obtain ⟨oe3, vs3, he3, hz3, hd3⟩ := fl3.there
    have notFr : ∀ {h : Heap} {o : Obj} {vs : Array Value}, h.FunFrames B (X.env :: X.outer) → h.get? a = some o → o.data = .fields vs → a ∉ frs (X.env :: X.outer) := fun {h o vs} ff e dd hm => by
      obtain ⟨_, o', e', hnf⟩ := ff.mem hm
      rw [e] at e'; cases e'
      exact hnf _ dd
    have nfr := notFr fl3.2.2.1 he3 hd3
    have nL : a ≠ X.env.locals := fun z => nfr (List.mem_filterMap.mpr ⟨X.env, List.mem_cons_self, by rw [hf, z]⟩)
    have nF : a ∉ X.fs := fun hm => by
      obtain ⟨e, he, q⟩ := List.mem_filterMap.mp hm
      exact nfr (List.mem_filterMap.mpr ⟨e, List.mem_cons_of_mem _ he, q⟩)
    have S3 := J3.suite he3 hd3 na nL nF
    have go : ∀ {hds' : List ExceptHandler} {l' : List Clause}, HdsA X n hds' l' → wManyA X.K i Wout D l' cls d σ' H' →
        wpAny (model X.prog X.w) X.A (handleBy (.ref a) X.env hds') (SP X pins D) X.xe { s' with heap := h3 } := by
      intro hds' l' hk
      induction hk with
      | nil =>
        intro w
        refine wpAny_handleBy_nil ?_
        obtain ⟨k1, k2, k3, oe, vs, T, oT, ts', he, hz, hd, h1, hr⟩ := id fl3
        unfold PySem.passOn
        refine wpAny_bind (wpAny_field he hd h1 ?_)
        rw [if_neg (show ¬ ((Value.ref T == Value.none) = true) from by simp)]
        have fin : wpAny (model X.prog X.w) X.A (setFlight (.ref a) X.env.frame) (fun _ s4 => wpAny (model X.prog X.w) X.A (throw (.ref a) : Sem Flow) (SP X pins D) X.xe s4) X.xe { s' with heap := h3 } := by
          rw [hf]
          refine HandSPX.setFlight_upZ fl3 fun h4 hh4 up4 => wpAny_throw (tk _ _ ?_)
          exact ⟨a, B, sI, pins, σ', H', cls, d, rfl, J, nb, (up.trans up3).trans up4, .inr (.inr (by rw [hs]; exact hh4)), na, os, ag, w⟩
        first
          | exact wpAny_bind (wpAny_pure (wpAny_bind fin))
          | exact wpAny_bind fin
      | @cons x c ts b₀ suite np pos' hds2 l2 hc hsu r ih =>
        intro w
        obtain ⟨b, hb1, hyes, hno⟩ := w
        refine wpAny_handleBy_cons (codeAny_handlers_test ?_) (by intro q; cases q)
        have LT : PySem.W.Looks (model X.prog X.w) h3 (typeOf (.ref a)) cls := fun A Q E s k q => wpAny_typeOf_ref (k _ _ he3) (by rw [hz3.1]; exact q)
        have LM := PySem.W.exm_one (M := model X.prog X.w) (J3.kIn) LT hb1
        have test : ∀ {Q : Value → Shared → Prop} {E : Value → Shared → Prop}, Q c { s' with heap := h3 } → wpAny (model X.prog X.w) (X.A.mark (some (.ref a))) (eval (.Name x np) X.env) Q E { s' with heap := h3 } := fun {Q E} q => by
          obtain ⟨hg, hdbg, hm | ⟨hm, hv, hnn⟩⟩ := hc
          · exact ld_glob (X := X.suite a ((a, oe3) :: (X.pn ++ pins))) S3 hg hm q hdbg
          · exact ld_blt (X := X.suite a ((a, oe3) :: (X.pn ++ pins))) S3 hg hm hv q hnn hdbg
        refine test (LM.here ?_)
        cases b with
        | true =>
          refine codeAny_handlers_suite_as ?_
          refine HandSPX.lands_againZ fl3 fun h4 fl4 up4 => ?_
          have J4 : Inv X pins σ' H' { s' with heap := h4 } := J.landed nb fl4.1 ((up.trans up3).trans up4) os ag
          obtain ⟨oe4, vs4, he4, hz4, hd4⟩ := fl4.there
          have S4 := J4.suite he4 hd4 na nL nF
          refine store_ok (X := X.suite a ((a, oe4) :: (X.pn ++ pins))) (v := .ref a) S4 hN hi hloc rfl (fun s5 S5 => ?_) (.inr hln)
          refine wpAny_mono ((hsu a oe4 cls d (X.pn ++ pins) hz4 ⟨_, hd4⟩).run [] s5 _ H' _ S5 (hyes rfl a na)) (fun f s6 hsp => ?_) (fun _ _ z => False.elim z)
          have end_ : ∀ {σ6 : L2.St} {H6 : Hp} {Q : Shared → Prop}, Inv (X.suite a ((a, oe4) :: (X.pn ++ pins))) [] σ6 H6 s6 → (∀ s7, Inv X pins (σ6.set i none) H6 s7 → Q s7) →
              wpAny (model X.prog X.w) X.A (do bindName X.env n .none; unbindBehindTheSuite X.env n pos') (fun _ s7 => Q s7) X.xe s6 := fun {σ6 H6 Q} S6 hq => gone_ok (S6.unsuite ok) hN hi hln hq
          cases f with
          | next =>
            obtain ⟨σ6, H6, S6, q6⟩ := hsp
            exact end_ S6 fun s7 J7 => ⟨_, _, J7, q6⟩
          | brk =>
            obtain ⟨σ6, H6, S6, q6⟩ := hsp
            exact end_ S6 fun s7 J7 => ⟨_, _, J7, q6⟩
          | cont =>
            obtain ⟨σ6, H6, S6, q6⟩ := hsp
            exact end_ S6 fun s7 J7 => ⟨_, _, J7, q6⟩
          | ret u =>
            obtain ⟨v6, σ6, H6, S6, r6, q6⟩ := hsp
            exact end_ S6 fun s7 J7 => ⟨_, _, _, J7, r6, q6⟩
        | false =>
          show wpAny _ X.A (handleBy (.ref a) X.env hds2) _ _ _
          exact ih (hno rfl)
    exact go hh w
  · cases f with
    | next =>
      obtain ⟨σ', H', J', q⟩ := hsp
      exact wpAny_execs_nil ⟨σ', H', J'.ofTry ok, q⟩
    | brk =>
      obtain ⟨σ', H', J', q⟩ := hsp
      exact ⟨σ', H', J'.ofTry ok, q⟩
    | cont =>
      obtain ⟨σ', H', J', q⟩ := hsp
      exact ⟨σ', H', J'.ofTry ok, q⟩
    | ret u =>
      obtain ⟨v, σ', H', J', r, q⟩ := hsp
      exact ⟨v, σ', H', J'.ofTry ok, r, q⟩
end DL
end
section
set_option maxRecDepth 100000
set_option maxHeartbeats 4000000
/-! # What a lambda tells: ('told', it()), or the word of its error with what that one keeps -/
namespace DL
open PySem PySem.Spec PyProof.Rows L2 LamX
def EHeard (hs : List (Addr × Str)) (Q : VK) : XK := fun cls d H' => ∃ (C : Addr) (wd : Str) (dd : Addr) (u : V), cls = .ref C ∧ (C, wd) ∈ hs ∧ d = some dd ∧ H' dd = some (.xd [(("at" : Str), u)]) ∧ ∀ p, H' p = none → Q (.ref p) (upd H' p (.tup [.str wd, u]))
def THeard (hs : List (Addr × Str)) : (XK → Hp → VK → Prop) → Hp → VK → Prop := fun tl H Q => tl (EHeard hs Q) H fun v H' => [V.str "told", v].length ≤ sizeLine ∧ ∀ p, H' p = none → Q (.ref p) (upd H' p (.tup [.str "told", v]))
def tLen (n : Nat) (t : TS) : TS := fun D σ H => σ.length = n → t D σ H
theorem pss_len {X : Cx} {ss : List Stmt} {t : TS} (h : PSs X ss t) : PSs X ss (tLen X.N.length t) := ⟨fun pins s σ H D I q => h.run pins s σ H D I (q I.len)⟩
def clauseOf (q : Addr × Str) : Clause := (.ref q.1, fun a cls d => tLen 2 (tRet (tTup (tCons (tC (.str q.2)) (tCons (tXf a cls d q.1 "at" (tVar 1)) tNil)))))
theorem two_ok : 2 ≤ sizeLine := by rw [sizeLine_eq]; omega
theorem many_of {K : PySem.W.Frag} {Wout : WX} {D : Ends} {σ : L2.St} {H' : Hp} {C : Addr} {wd : Str} {dd : Addr} {u : V} (h1 : H' dd = some (.xd [(("at" : Str), u)])) (hq : ∀ p, H' p = none → D.rt (.ref p) (upd H' p (.tup [.str wd, u]))) :
    ∀ (hs : List (Addr × Str)), (hs.map (·.1)).Nodup → (∀ q ∈ hs, PySem.W.exmOne K (.ref C) (.ref q.1) = some (decide (C = q.1))) → (C, wd) ∈ hs → wManyA K 1 Wout D (hs.map clauseOf) (.ref C) (some dd) σ H'
  | [], _, _, h => by cases h
  | q :: r, nd, ex, h => by
    refine ⟨decide (C = q.1), ex q List.mem_cons_self, fun hb a na => ?_, fun hb => ?_⟩
    · have e := of_decide_eq_true hb
      have ew : wd = q.2 := by
        rcases List.mem_cons.mp h with z | z
        · rw [← z]
        · have nd' := (List.nodup_cons.mp (by simpa using nd : (q.1 :: r.map (·.1)).Nodup)).1
          exact absurd (List.mem_map_of_mem (f := (·.1)) z) (by rw [← e] at nd'; exact nd')
      intro hl
      have hl : σ.length = 2 := by rw [List.length_set] at hl; exact hl
      refine ⟨.ref a, List.getElem?_set_self (by omega), rfl, by rw [e], dd, _, u, rfl, h1, by simp [List.lookup], two_ok, fun p np => ?_⟩
      rw [← ew]
      exact hq p np
    · refine many_of h1 hq r (List.nodup_cons.mp (by simpa using nd : (q.1 :: r.map (·.1)).Nodup)).2 (fun q' hq' => ex q' (List.mem_cons_of_mem _ hq')) ?_
      rcases List.mem_cons.mp h with z | z
      · rw [← z] at hb
        simp at hb
      · exact z
theorem heard_gives {X : Cx} {Ng : List Str} {x a n q : Str} {sg : Scope} {g : Addr} {cdg : Value} {hs : List (Addr × Str)} {h₀ : ExceptHandler} {hds : List ExceptHandler} {j j2 : Nat} {p1 p2 p3 p5 p8 p9 : Pos}
    (hN : Ng.Nodup) (hi : Ng[1]? = some n) (h0 : ∀ f : Addr, (L2.start Ng [V.ref f])[0]? = some (some (V.ref f))) (hln : sg.names.lookup n = some .local)
    (nd : (hs.map (·.1)).Nodup) (hex : ∀ p ∈ hs, ∀ q ∈ hs, PySem.W.exmOne X.K (.ref p.1) (.ref q.1) = some (decide (p.1 = q.1)))
    (hh : ∀ s H, HdsA (cxOf C8.CX0 X.prog X.w X.K X.mg X.base Ng x sg g cdg X.A X.stack s H C8.E0).nox n (h₀ :: hds) (hs.map clauseOf)) :
    GivesTo X Ng x sg g cdg [.Try [.Return (some (.Tuple [.Constant (.str "told") j p5, .Call (.Name a p1) [] [] p2] j2 p9)) p3] (h₀ :: hds) [] [] p8] a q (THeard hs) := by
  intro f c' s H Q tl act hc h
  refine ⟨_, pss_one (ps_try_manyA (X := (cxOf C8.CX0 X.prog X.w X.K X.mg X.base Ng x sg g cdg X.A X.stack s H C8.E0).nox) (i := 1) (n := n)
      (tb := fun W D σ H => ∃ Ech : XK, (∀ cls d σ' H', Ech cls d H' → W cls d σ' H') ∧ σ[0]? = some (some (.ref f)) ∧ H c' = some (CodeO c' q) ∧ tl Ech H fun v H' => [V.str "told", v].length ≤ sizeLine ∧ ∀ p, H' p = none → D.rt (.ref p) (upd H' p (.tup [.str "told", v])))
      rfl rfl hN hi hln L2.takes0 (fun W pn xe tk _ => ?_) (hh s H)), ?_⟩
  · refine ⟨fun pins s' σ H' D I h' => ?_⟩
    obtain ⟨Ech, hW, h1, h2, h3⟩ := h'
    have hp := act W pn xe Ech p1 p2 tk hW
    have hq := pss_one (ps_ret (pos := p3) (pe_tup (x1 := j2) (pos := p9) (pa_cons (pe_str (x := "told") (j := j) (pos := p5)) (pa_cons hp pa_nil))))
    exact hq.run pins s' σ H' D I ⟨h1, h2, h3⟩
  · exact ⟨EHeard hs Q, fun cls d σ' H' ⟨C, wd, dd, u, e1, e2, e3, e4, e5⟩ => by
      subst e1; subst e3
      exact many_of e4 e5 hs nd (fun q hq => hex (C, wd) e2 q hq) e2, h0 f, hc, h⟩
end DL
end
section
set_option maxRecDepth 100000
set_option maxHeartbeats 4000000
/-! # _law_heard(lambda: ..) over plain data -/
namespace DL
open PySem PySem.Spec PyProof.Rows L2 LamX
theorem DealAt.ext {G : Hp} {B : Bs} {H H1 : Hp} (e : ∀ b o, H b = some o → (∀ ps, o ≠ .tbl ps) → H1 b = some o) : ∀ {dl : Option (Addr × Addr)} {t : Option Deal}, DealAt G B H dl t → DealAt G B H1 dl t
  | some (da, l), some t, ⟨h1, h2, h3⟩ => ⟨e _ _ h1 (by intro _ z; cases z), e _ _ h2 (by intro _ z; cases z), h3⟩
  | none, none, _ => True.intro
  | none, some _, h => h.elim
  | some _, none, h => h.elim
theorem Wd.extN {G : Hp} {B : Bs} {H H1 : Hp} {t : Option Deal} (w : Wd G B H t) (e : ExtN H H1) (T1 : Tabs B.tb H1) : Wd G B H1 t :=
  ⟨fun a o q => e a o (w.sub a o q) fun ps z => w.tb.nB a ps (by rw [q, z]), fun a o q => ⟨e a o (w.fgn a o q).1 fun ps z => w.tb.nG a ps (by rw [q, z]), (w.fgn a o q).2⟩, DealAt.ext e w.deal, ⟨T1, w.tb.nB, w.tb.nG⟩⟩
def heardK (k : Tk) : Option PyData := match k with
  | .v (.d x) => some x
  | _ => none
def mHeard (ws : List (Str × Str)) (ow : List Nat) (m : M Tk) : M Tk := fun r t => match m (wipeR r ow) t with
  | .ok k _ t' => (match heardK k with
    | some x => .ok (.v (.d (.tuple [.str "told", x]))) r t'
    | none => .st)
  | .ex cn x t' => (match ws.lookup cn with
    | some wd => .ok (.v (.d (.tuple [.str wd, x]))) r t'
    | none => .st)
  | .st => .st
theorem Sls.hide {K : PySem.W.Frag} {ow : List Nat} {G : Hp} {B : Bs} {H : Hp} {σ : L2.St} {r : Rho} (s : Sls K ow G B H σ r) (G' : Hp) : Sls K [] G' B H σ (wipeR r ow) := by
  refine ⟨by rw [wipeR_len]; exact s.len, fun i x hx _ => ?_, fun i x hx hi => absurd hi (by simp), fun i j p hi => absurd hi (by simp)⟩
  by_cases q : i ∈ ow
  · exact absurd hx (wipeR_in q)
  · rw [wipeR_out q] at hx
    exact s.var i x hx q
theorem rf_heard {K : PySem.W.Frag} {c : Cd} {hs : List (Addr × Str)} {ws : List (Str × Str)} {t : XK → TE} {m : M Tk} (hws : ∀ cn wd C, ws.lookup cn = some wd → c.ec.f cn = some C → (C, wd) ∈ hs)
    (hb : ∀ E, RfE K { c with E := E, ow := [] } (t E) m) : RfE K c (tLam c.ec.tb (THeard hs) t) (mHeard ws c.ow m) := by
  intro G B H σ r dl Q XP w s hx p
  obtain ⟨G', w', gg, _, back⟩ := Sls.push w s
  have eT : B.tb = c.ec.tb := hx.1
  refine ⟨by rw [← eT]; exact w.tb.tabs, fun H1 e T1 => ?_⟩
  have w1 : Wd G' B H1 dl := w'.extN e (by rw [eT]; exact T1)
  obtain ⟨_, s1⟩ := back B H1 dl (Bs.le.refl B) w1
  have fin : ∀ {B2 : Bs} {H2 : Hp} {t' : Option Deal} {wd : Str} {u : V} {x : PyData}, B.le B2 → Wd G' B2 H2 t' → Dq K B2.H u x → (Out.ok (Tk.v (.d (.tuple [.str wd, x]))) r t').post (fun x r' t' => ∀ (v : V) (B' : Bs) (H' : Hp), B.le B' → Wd G B' H' t' → Sls K c.ow G B' H' σ r' → Tv K B' c.ow σ v x → Q v H') XP →
      ∀ p, H2 p = none → Q (.ref p) (upd H2 p (.tup [.str wd, u])) := fun {B2 H2 t' wd u x} l2 w2 du q p np => by
    refine new_tup w2 np (.cons (.str wd) (.cons du .nil)) fun v B3 H3 l3 w3 sv => ?_
    obtain ⟨w4, s4⟩ := back B3 H3 t' (l2.trans l3) w3
    exact q v B3 H3 (l2.trans l3) w4 s4 sv
  show t (EHeard hs Q) σ H1 (fun v H' => [V.str "told", v].length ≤ sizeLine ∧ ∀ p, H' p = none → Q (.ref p) (upd H' p (.tup [.str "told", v])))
  refine hb (EHeard hs Q) G' B H1 σ (wipeR r c.ow) dl _ (fun cn x t' => m (wipeR r c.ow) dl = .ex cn x t') w1 (s1.hide G') ⟨eT, fun cn x t' B' H' C dd v hm l w2 he hd hq => ?_⟩ ?_
  · unfold mHeard at p
    rw [hm] at p
    cases hl : ws.lookup cn with
    | none =>
      simp only [hl] at p
      exact p.elim
    | some wd =>
      simp only [hl] at p
      exact ⟨C, wd, dd, v, rfl, hws cn wd C hl he, rfl, w2.sub _ _ hd, fin l w2 hq p⟩
  · unfold mHeard at p
    cases e : m (wipeR r c.ow) dl with
    | ok k r1 t' =>
      rw [e] at p
      intro v B' H' l w2 s2 tv
      refine ⟨two_ok, ?_⟩
      cases k with
      | o i => exact p.elim
      | v x =>
        cases x with
        | d x => exact fin l w2 tv p
        | deal => exact p.elim
        | raw _ => exact p.elim
        | exc _ _ => exact p.elim
        | scr _ => exact p.elim
    | ex cn x t' => exact rfl
    | st => rw [e] at p; exact p.elim
/-- _law_heard(lambda: body) -/
theorem pd_heard {X : Cx} {c : Cd} {hs : List (Addr × Str)} {ws : List (Str × Str)} {x a : Str} {g cc P : Addr} {k : Nat} {pg : Arguments} {bg : List Stmt} {sg : Scope} {dV kV doc pm cdv ct oc : Value} {an od : Option Addr} {osl : Array (Option Value)} {Ng : List Str}
    {params : Arguments} {body : Expr} {scope : Scope} {t : XK → TE} {m : M Tk} {p lpos pos : Pos} (hws : ∀ cn wd C, ws.lookup cn = some wd → c.ec.f cn = some C → (C, wd) ∈ hs) (hg : Gl X x) (hm : X.mg x = some (.ref g)) (hk : PySem.W.keepIn X.K (.ref g) = true)
    (lk : X.K.lookup g = some ⟨oc, od, .func (PySem.W.fnOf x x pg bg sg dV kV doc pm an cdv ct), osl⟩) (hcg : PySem.W.codeIn X.K cdv x = true) (hb : L2.Binds X.K (PySem.W.fnOf x x pg bg sg dV kV doc pm an cdv ct) [a] []) (Sg : FnScope Ng [a] sg) (hNg : Ng[0]? = some a) (hva : Vis sg a)
    (hG : GivesTo X Ng x sg g cdv bg a (X.env.qual ++ "<lambda>") (THeard hs))
    (TB : TabB X.base X.mg cc P) (hcode : X.env.code = .ref cc) (hmT : (P, X.env.qual ++ "<lambda>") ∈ c.ec.tb) (hu : ∀ p ∈ c.ec.tb, p.1 = P → p.2 = X.env.qual ++ "<lambda>") (hr : Room (k + 2) X.A) (L : LamS X.env.scope scope) (hdef : defaultsOf params X.env = ([], []))
    (hbind : ∀ (q : Str) (cl : List (Str × Addr)) (pm cv ctv : Value), bindArgs (PySem.W.kla_fn "<lambda>" q params body scope cl pm cv ctv) ⟨[], []⟩ = pure [])
    (hbody : ∀ (A : Around) (outer : List Env) (s : Shared) (H : Hp) (E : XK) (f c' : Addr), Room k (A.deeper (lamEnv X scope s.heap.objs.size f c')) → PED (lamCx X A outer s H E scope f c') { c with E := E, ow := [] } body (t E) m)
    (hdb : (x == ("__debug__" : Str)) = false := by decide) (hd : (a == ("__debug__" : Str)) = false := by decide) (hcd : (a == ("__classdict__" : Str)) = false := by decide) :
    PED X c (.Call (.Name x p) [.Lambda params body scope lpos] [] pos) (tLam c.ec.tb (THeard hs) t) (mHeard ws c.ow m) :=
  ⟨pe_lamcall hg hm hk lk hcg hb Sg hNg hva hG TB hcode hmT hu hr L hdef hbind (fun A outer s H E f c' hr2 => (hbody A outer s H E f c' hr2).p) hdb hd hcd, rf_heard hws fun E => (hbody X.A [] X.s_0 X.H_0 E 0 0 ((hr.mono (by omega : k + 1 ≤ k + 2)).deeper _)).k⟩
end DL
end
section
set_option maxRecDepth 100000
set_option maxHeartbeats 4000000
/-! # Defs by name -/
namespace DL
open PySem PySem.Spec PyProof.Rows L2
theorem spD_weak {K : PySem.W.Frag} {ec : Ec} {n : Nat} {F F' : FM} (h : ∀ xs t, F' xs t ≠ .st → F xs t = F' xs t) {vs : List V} {H : Hp} {Q : VK} {E : XK} (q : spD K ec n F' vs H Q E) : spD K ec n F vs H Q E := by
  obtain ⟨G, B, xs, t, w, tb, sv, hn, p⟩ := q
  refine ⟨G, B, xs, t, w, tb, sv, hn, ?_⟩
  by_cases e : F' xs t = .st
  · rw [e] at p; exact p.elim
  · rw [h xs t e]; exact p
/-- the def named x at f: what it promises, where it stands, how it binds -/
structure Cal (P : Program) (w : World) (K : PySem.W.Frag) (mg : Str → Option Value) (base : Heap) (ec : Ec) (x : Str) (k : Nat) (ps : List Str) (F : FM) (f : Addr) (fd : FuncData) : Prop where
  ok : FnOk P w K mg base (L2.CX P w) k f fd ps (spD K ec ps.length F)
  m : mg x = some (.ref f)
  kp : PySem.W.keepIn K (.ref f) = true
  b : Binds K fd ps []
theorem Cal.weak {P : Program} {w : World} {K : PySem.W.Frag} {mg : Str → Option Value} {base : Heap} {ec : Ec} {x : Str} {k : Nat} {ps : List Str} {F F' : FM} {f : Addr} {fd : FuncData} (C : Cal P w K mg base ec x k ps F f fd) (h : ∀ xs t, F' xs t ≠ .st → F xs t = F' xs t) : Cal P w K mg base ec x k ps F' f fd :=
  ⟨C.ok.imp fun _ _ _ _ q => spD_weak h q, C.m, C.kp, C.b⟩
theorem Cal.mono {P : Program} {w : World} {K : PySem.W.Frag} {mg : Str → Option Value} {base : Heap} {ec : Ec} {x : Str} {j k : Nat} {ps : List Str} {F : FM} {f : Addr} {fd : FuncData} (C : Cal P w K mg base ec x j ps F f fd) (h : j ≤ k) : Cal P w K mg base ec x k ps F f fd := ⟨C.ok.mono h, C.m, C.kp, C.b⟩
section
variable {X : Cx} {c : Cd} {e : Expr} {pos : Pos}
theorem pd_callC {x : Str} {p : Pos} {f : Addr} {fd : FuncData} {ps : List Str} {j k n : Nat} {F : FM} {es : List Expr} {t : TA} {m : M (List Tk)} (C : Cal X.prog X.w X.K X.mg X.base c.ec x j ps F f fd) (hr : Room k X.A) (hjk : j ≤ k) (hg : Gl X x) (hx : Passes (L2.CX X.prog X.w) X c.E) (ha : PAD X c (e :: es) t m)
    (hn : n = ps.length := by rfl) (hdb : (x == ("__debug__" : Str)) = false := by decide) (he : starEach (e :: es) X.env = (false, eval e X.env) :: starEach es X.env := by rfl) (hpl : (backTo pos (starEach es X.env)).any (·.1) = false := by rfl) :
    PED X c (.Call (.Name x p) (e :: es) [] pos) (tCall (spD X.K c.ec n F) [] c.E t) (mCall n F m) := by
  subst hn
  exact pd_call (C.mono hjk).ok hr hg C.m C.kp C.b hx ha hdb he hpl
theorem pd_callBC {x : Str} {p : Pos} {f : Addr} {fd : FuncData} {ps : List Str} {j k n : Nat} {F : FM} {es : List Expr} {t : TA} {m : M (List Tk)} (C : Cal X.prog X.w X.K X.mg X.base c.ec x j ps F f fd) (hr : Room k X.A) (hjk : j ≤ k) (hg : Gl X x) (hx : Passes (L2.CX X.prog X.w) X c.E) (ha : PAD X c (e :: es) t m)
    (hn : n = ps.length := by rfl) (hdb : (x == ("__debug__" : Str)) = false := by decide) (he : starEach (e :: es) X.env = (false, eval e X.env) :: starEach es X.env := by rfl) (hpl : (backTo pos (starEach es X.env)).any (·.1) = false := by rfl) :
    PED X c (.Call (.Name x p) (e :: es) [] pos) (tCall (spD X.K c.ec n F) [] c.E t) (mCallB n F m) := by
  subst hn
  exact pd_callB (C.mono hjk).ok hr hg C.m C.kp C.b hx ha hdb he hpl
theorem pd_callKC {x : Str} {p : Pos} {f : Addr} {fd : FuncData} {ps : List Str} {j k n : Nat} {F : FM} {kws : List Keyword} {t : TA} {m : M (List Tk)} (C : Cal X.prog X.w X.K X.mg X.base c.ec x j ps F f fd) (hbk : ∀ (s : Shared) (ws : List Value), ws.length = ps.length → BindsTo s fd ⟨[], ps.zip ws⟩ (ps.zip ws)) (hr : Room k X.A) (hjk : j ≤ k) (hg : Gl X x) (hx : Passes (L2.CX X.prog X.w) X c.E) (ha : PKD X c kws t m)
    (hall : (backToKw pos (keywordEach kws X.env)).all (·.1.isSome) = true := by rfl) (hks : (backToKw pos (keywordEach kws X.env)).filterMap (·.1) = ps := by rfl) (hn : n = ps.length := by rfl) (hdb : (x == ("__debug__" : Str)) = false := by decide)
    (hpl : ((backTo pos (starEach [] X.env)).any (·.1) || (backToKw pos (keywordEach kws X.env)).any (·.1.isNone)) = false := by rfl) :
    PED X c (.Call (.Name x p) [] kws pos) (tCallK0 (spD X.K c.ec n F) (fun z => z) c.E t) (mCall n F m) := by
  subst hn
  exact pd_callK (C.mono hjk).ok hr hg C.m C.kp hx hbk ha hall hks hdb hpl
/-- in a def's body: what a callee may let out is taken -/
theorem takesD {P : Program} {w : World} {K : PySem.W.Frag} {mg : Str → Option Value} {base : Heap} {N : List Str} {x : Str} {scope : Scope} {f : Addr} {cdv : Value} {A : Around} {outer : List Env} {s : Shared} {H : Hp} {E : XK} :
    Takes (cxOf (L2.CX P w) P w K mg base N x scope f cdv A outer s H E) (fun cls d _ H => E cls d H) := L2.takes_of rfl rfl rfl rfl
theorem passD {P : Program} {w : World} {K : PySem.W.Frag} {mg : Str → Option Value} {base : Heap} {N : List Str} {x : Str} {scope : Scope} {f : Addr} {cdv : Value} {A : Around} {outer : List Env} {s : Shared} {H : Hp} {E : XK} :
    Passes (L2.CX P w) (cxOf (L2.CX P w) P w K mg base N x scope f cdv A outer s H E) E := L2.passes_call takesD fun _ _ _ _ h => h
theorem ownD {P : Program} {w : World} {K : PySem.W.Frag} {mg : Str → Option Value} {base : Heap} {N : List Str} {x : Str} {scope : Scope} {f : Addr} {cdv : Value} {A : Around} {outer : List Env} {s : Shared} {H : Hp} {E : XK} :
    PassesOwn (model P w) (cxOf (L2.CX P w) P w K mg base N x scope f cdv A outer s H E).A (cxOf (L2.CX P w) P w K mg base N x scope f cdv A outer s H E).env (cxOf (L2.CX P w) P w K mg base N x scope f cdv A outer s H E).xe := L2.passes_of rfl
theorem takesL {Y : Cx} {A : Around} {outer : List Env} {s : Shared} {H : Hp} {E : XK} {scope : Scope} {f c' : Addr} : Takes (LamX.lamCx Y A outer s H E scope f c') (fun cls d _ H => E cls d H) := L2.takes_of rfl rfl rfl rfl
theorem passL' {Y : Cx} {A : Around} {outer : List Env} {s : Shared} {H : Hp} {E : XK} {scope : Scope} {f c' : Addr} : Passes (L2.CX Y.prog Y.w) (LamX.lamCx Y A outer s H E scope f c') E := L2.passes_call takesL fun _ _ _ _ h => h
end
abbrev FnP (K : PySem.W.Frag) (x : Str) (st : Stmt) (f : Addr) (fd : FuncData) : Prop := FunD K x x (defArgs st) (defBody st) (defScope st) [] [] f fd
theorem bk1 {K : PySem.W.Frag} {x : Str} {st : Stmt} {f : Addr} {fd : FuncData} {ps : List Str} (F : FnP K x st f fd) (h : ∀ (dV kV doc pm : Value) (an : Option Addr) (cdv ct : Value) (ws : List Value), dV = .none → ws.length = ps.length → ∀ s, BindsTo s (PySem.W.fnOf x x (defArgs st) (defBody st) (defScope st) dV kV doc pm an cdv ct) ⟨[], ps.zip ws⟩ (ps.zip ws)) :
    ∀ (s : Shared) (ws : List Value), ws.length = ps.length → BindsTo s fd ⟨[], ps.zip ws⟩ (ps.zip ws) := by
  obtain ⟨oc, od, dV, kV, doc, pm, an, cdv, ct, osl, rfl, lk, hcd, hd, _⟩ := F.ex
  intro s ws hw
  refine h dV kV doc pm an cdv ct ws ?_ hw s
  rcases hd with ⟨_, e⟩ | ⟨n, _⟩
  · exact e
  · exact absurd rfl n
/-- the owners' slots forgotten ahead of a statement and behind it -/
def mHide (ow : List Nat) (m : M Fl) : M Fl := fun r t => match m (wipeR r ow) t with
  | .ok f r' t' => .ok f (wipeR r' ow) t'
  | .ex c x t' => .ex c x t'
  | .st => .st
theorem Sls.unhide {K : PySem.W.Frag} {ow : List Nat} {G : Hp} {B : Bs} {H : Hp} {σ : L2.St} {r : Rho} (s : Sls K [] G B H σ r) : Sls K ow G B H σ (wipeR r ow) := by
  refine ⟨by rw [wipeR_len]; exact s.len, fun i x hx hi => ?_, fun i x hx hi => absurd hx (wipeR_in hi), fun i j p hi hj ij li lj => ?_⟩
  · rw [wipeR_out hi] at hx
    exact s.var i x hx (by simp)
  · obtain ⟨x, hx⟩ := li
    exact absurd hx (wipeR_in hi)
theorem rf_hide {K : PySem.W.Frag} {c : Cd} {ts : TS} {m : M Fl} (h : RfS K { c with ow := [] } ts m) : RfS K c ts (mHide c.ow m) := by
  intro G B H σ r t D XP w s hx p
  refine h G B H σ (wipeR r c.ow) t D XP w (s.hide G) hx ?_
  unfold mHide at p
  cases e : m (wipeR r c.ow) t with
  | ok f r' t' =>
    rw [e] at p
    cases f with
    | nx => exact fun σ' B' H' l w' s' => p σ' B' H' l w' s'.unhide
    | bk => exact fun σ' B' H' l w' s' => p σ' B' H' l w' s'.unhide
    | ct => exact fun σ' B' H' l w' s' => p σ' B' H' l w' s'.unhide
    | rt x => exact p
  | ex c x t' => rw [e] at p; exact p
  | st => rw [e] at p; exact p.elim
theorem psd_hide {X : Cx} {c : Cd} {st : Stmt} {ts : TS} {m : M Fl} (h : PSD X { c with ow := [] } st ts m) : PSD X c st ts (mHide c.ow m) := ⟨h.p, rf_hide h.k⟩
end DL
end
section
set_option maxRecDepth 100000
set_option maxHeartbeats 4000000
namespace DL
open PySem PySem.Spec PyProof.Rows L2
section
variable {X : Cx} {c : Cd} {pos : Pos}
theorem pd_negc {i : Int} {j : Nat} {p : Pos} : PED X c (.UnaryOp .USub (.Constant (.int i) j p) pos) (tUn (rU fun i => .int (-i)) (tC (.int i))) (mK (.d (.int (-i)))) :=
  ⟨pe_un un_neg pe_int, fun G B H σ r t Q XP w s _ p => ⟨i, rfl, p (.int (-i)) B H (Bs.le.refl B) w s (.int (-i))⟩⟩
theorem pd_globI {x : Str} {i : Int} (hg : Gl X x) (h : ∃ t, X.mg x = some (.int i t)) (hdb : (x == ("__debug__" : Str)) = false := by decide) : PED X c (.Name x pos) (tC (.int i)) (mK (.d (.int i))) := by
  obtain ⟨t, h⟩ := h
  exact pd_glob hg h ⟨t, rfl⟩ (fun _ => .int i) hdb
def blkB (N : List Str) (sc scope : Scope) (own : List (Str × Nat)) : Bool :=
  decide (scope.kind = .function) && ((scope.names.all fun y => decide (scope.names.lookup y.1 = some y.2)) && ((own.all fun p => decide (N[p.2]? = some p.1)) && ((scope.names.all fun y => !decide (y.2 = .free) || (decide (sc.names.lookup y.1 = some .cell) || decide (sc.names.lookup y.1 = some .free))) &&
    (scope.names.all fun y => !(decide (y.2 = .local) || decide (y.2 = .cell)) || (decide (y.1 ∈ own.map (·.1)) || decide (y.1 ∉ N))))))
theorem blk_of {N : List Str} {sc scope : Scope} {own : List (Str × Nat)} (h : blkB N sc scope own = true) : BlkOk N sc scope own := by
  unfold blkB at h
  simp only [Bool.and_eq_true, Bool.or_eq_true, Bool.not_eq_true', decide_eq_true_eq, decide_eq_false_iff_not, List.all_eq_true] at h
  obtain ⟨h1, h2, h3, h4, h5⟩ := h
  refine ⟨h1, h2, h3, fun y hy e => ?_, fun y hy e => ?_⟩
  · rcases h4 y hy with z | z
    · exact absurd e z
    · exact z
  · rcases h5 y hy with z | z
    · rw [Bool.or_eq_false_iff, decide_eq_false_iff_not, decide_eq_false_iff_not] at z
      rcases e with e | e
      · exact absurd e z.1
      · exact absurd e z.2
    · exact z
theorem hu_of {k : Nat} {A : Around} (r : Room k A) : A.units + 64 < cLine := by have := r.un; omega
end
end DL
namespace K05
open PySem PySem.Spec PyProof.Rows L2 DL ErrX
def top (i : Nat) : Stmt := PySem.Challenge.pw_heldshares_k05_whole_shares.main.body.getD i (.Pass ⟨0, 0, 0, 0⟩)
/-- what the text has written -/
structure Txt (P : Program) (K : PySem.W.Frag) (mg : Str → Option Value) (ec : Ec) : Prop where
  b_len : mg "len" = none
  b_all : mg "all" = none
  b_abs : mg "abs" = none
  b_int : mg "int" = none
  b_bool : mg "bool" = none
  b_str : mg "str" = none
  b_tuple : mg "tuple" = none
  b_list : mg "list" = none
  b_range : mg "range" = none
  b_zip : mg "zip" = none
  b_isinstance : mg "isinstance" = none
  c_MOST_PARTS : ∃ t, mg "MOST_PARTS" = some (.int 1000 t)
  e_InvalidKind : ∃ C, ec.f "InvalidKind" = some C ∧ ErrTxt P K mg "InvalidKind" C
  e_InvalidValue : ∃ C, ec.f "InvalidValue" = some C ∧ ErrTxt P K mg "InvalidValue" C
  e_InvalidQuestion : ∃ C, ec.f "InvalidQuestion" = some C ∧ ErrTxt P K mg "InvalidQuestion" C
  e_Refused : ∃ C, ec.f "Refused" = some C ∧ ErrTxt P K mg "Refused" C
section
variable {P : Program} {w : World} {K : PySem.W.Frag} {mg : Str → Option Value} {base : Heap} {ec : Ec}

abbrev s_great_divisor : Stmt := top 11
abbrev N_great_divisor : List Str := ["one", "other"]
theorem sc_great_divisor : FnScope N_great_divisor ["one", "other"] (defScope s_great_divisor) := ⟨rfl, rfl, rfl, by decide +kernel, rfl, by decide +kernel, by decide +kernel⟩
noncomputable def m_great_divisor : M Fl := (mSeq (mWhile (mT (mOp gtF (mVar [] 1) (mK (.d (.int 0))))) (mPar 0 1 (mCons (mVar [] 1) (mCons (mOp modF (mVar [] 0) (mVar [] 1)) mNil)))) (mRet (mVar [] 0)))
theorem ok_great_divisor {f : Addr} {fd : FuncData} (T : Txt P K mg ec) (F : FnP K "great_divisor" s_great_divisor f fd) : FnOk P w K mg base (L2.CX P w) 1 f fd ["one", "other"] (spD K ec 2 (fnM 2 (m_great_divisor))) :=
  okD (ow := []) F sc_great_divisor (by decide) fun cdv A outer s H E hr => ⟨_, (psd_cons (psd_while ownD (ptd_gt (pd_var 1) pd_int) (psd_one (psd_par (i := 0) (j := 1) (show 0 ∉ ([] : List Nat) by decide) (show 1 ∉ ([] : List Nat) by decide) (pad_cons (pd_var 1) (pad_cons (pd_mod (pd_var 0) (pd_var 1)) pad_nil)) (fun h => ps_par rfl sc_great_divisor.nd rfl rfl (by decide) rfl rfl h rfl)))) (psd_one (psd_ret (pd_var 0))))⟩
abbrev s_is_integer : Stmt := top 7
abbrev N_is_integer : List Str := ["value"]
theorem sc_is_integer : FnScope N_is_integer ["value"] (defScope s_is_integer) := ⟨rfl, rfl, rfl, by decide +kernel, rfl, by decide +kernel, by decide +kernel⟩
noncomputable def m_is_integer : M Fl := (mRet (mAndV (mCB isiF (mCons (mVar [] 0) (mCons (mK (.raw (.ty "int"))) mNil))) (mNotV (mCB isiF (mCons (mVar [] 0) (mCons (mK (.raw (.ty "bool"))) mNil))))))
theorem ok_is_integer {f : Addr} {fd : FuncData} (T : Txt P K mg ec) (F : FnP K "is_integer" s_is_integer f fd) : FnOk P w K mg base (L2.CX P w) 1 f fd ["value"] (spD K ec 1 (fnM 1 (m_is_integer))) :=
  okD (ow := []) F sc_is_integer (by decide) fun cdv A outer s H E hr => ⟨_, (psd_one (psd_ret (pd_and (pd_isi (by exact rfl) T.b_isinstance (pad_cons (pd_var 0) (pad_cons (pd_blt (v := .ty "int") (by exact rfl) T.b_int (by decide +kernel) rfl) pad_nil))) (pd_one (pd_not (pd_isi (by exact rfl) T.b_isinstance (pad_cons (pd_var 0) (pad_cons (pd_blt (v := .ty "bool") (by exact rfl) T.b_bool (by decide +kernel) rfl) pad_nil))))))))⟩
abbrev s_is_sequence : Stmt := top 8
abbrev N_is_sequence : List Str := ["value"]
theorem sc_is_sequence : FnScope N_is_sequence ["value"] (defScope s_is_sequence) := ⟨rfl, rfl, rfl, by decide +kernel, rfl, by decide +kernel, by decide +kernel⟩
noncomputable def m_is_sequence : M Fl := (mRet (mIsi2 "list" "tuple" (mVar [] 0)))
theorem ok_is_sequence {f : Addr} {fd : FuncData} (T : Txt P K mg ec) (F : FnP K "is_sequence" s_is_sequence f fd) : FnOk P w K mg base (L2.CX P w) 1 f fd ["value"] (spD K ec 1 (fnM 1 (m_is_sequence))) :=
  okD (ow := []) F sc_is_sequence (by decide) fun cdv A outer s H E hr => ⟨_, (psd_one (psd_ret (pd_isi2 (by exact rfl) T.b_isinstance (pd_var 0) (by exact rfl) T.b_list (by decide +kernel) (by decide) (by decide) (by exact rfl) T.b_tuple (by decide +kernel) (by decide) (by decide))))⟩
abbrev s_is_share : Stmt := top 12
abbrev N_is_share : List Str := ["value", "one"]
theorem sc_is_share : FnScope N_is_share ["value"] (defScope s_is_share) := ⟨rfl, rfl, rfl, by decide +kernel, rfl, by decide +kernel, by decide +kernel⟩
noncomputable def m_is_share (F_is_integer : FM) (F_great_divisor : FM) : M Fl := (mSeq (mIfS (mOr (mNot (mTru (mCB isiF (mCons (mVar [] 0) (mCons (mK (.raw (.ty "tuple"))) mNil))))) (mOr (mT (mOp neF (mCB lenF (mCons (mVar [] 0) mNil)) (mK (.d (.int 2))))) (mNot (mTru (mCB allF (mCons (mFz (mLc (mIter (mVar [] 0)) [1] (aName 1) (M.ret true) (mCall 1 F_is_integer (mCons (mVar [] 1) mNil)))) mNil)))))) (mRet (mK (.d (.bool false)))) mNx) (mRet (mAndV (mChain ltF leF (mK (.d (.int 0))) (mOp atF (mVar [] 0) (mK (.d (.int 0)))) (mOp atF (mVar [] 0) (mK (.d (.int 1))))) (mOp eqF (mCall 2 F_great_divisor (mCons (mOp atF (mVar [] 0) (mK (.d (.int 0)))) (mCons (mOp atF (mVar [] 0) (mK (.d (.int 1)))) mNil))) (mK (.d (.int 1)))))))
theorem ok_is_share {f : Addr} {fd : FuncData} (T : Txt P K mg ec) {F_is_integer : FM} {f_is_integer : Addr} {d_is_integer : FuncData} (C_is_integer : Cal P w K mg base ec "is_integer" 1 ["value"] F_is_integer f_is_integer d_is_integer) {F_great_divisor : FM} {f_great_divisor : Addr} {d_great_divisor : FuncData} (C_great_divisor : Cal P w K mg base ec "great_divisor" 1 ["one", "other"] F_great_divisor f_great_divisor d_great_divisor) (F : FnP K "is_share" s_is_share f fd) : FnOk P w K mg base (L2.CX P w) 2 f fd ["value"] (spD K ec 1 (fnM 2 (m_is_share F_is_integer F_great_divisor))) :=
  okD (ow := []) F sc_is_share (by decide) fun cdv A outer s H E hr => ⟨_, (psd_cons (psd_if (ptd_w (pwd_or (ptd_not (ptd_tru (pd_isi (by exact rfl) T.b_isinstance (pad_cons (pd_var 0) (pad_cons (pd_blt (v := .ty "tuple") (by exact rfl) T.b_tuple (by decide +kernel) rfl) pad_nil))))) (pwd_or (ptd_ne (hu_of hr) (pd_len (by exact rfl) T.b_len (pad_cons (pd_var 0) pad_nil)) pd_int) (pwd_or1 (ptd_not (ptd_tru (pd_all (by exact rfl) (by exact rfl) T.b_all (pad_cons (pd_fz (pfd_lc rfl sc_is_share.nd (g := (gName 1)) (tt := tYes) (te := (tCall (spD K ec 1 F_is_integer) [] L2.E0 (tCons (tVar 1) tNil))) (pid_any (pd_var 0)) (own := [("one", 1)]) (blk_of (by kernel_rfl)) (fun _ _ _ _ _ => (pgd_name (i := 1) (show 1 ∉ ([] : List Nat) by decide) sc_is_share.nd rfl (Or.inl rfl))) (fun _ _ _ _ _ => ptsd_nil) (fun _ _ _ _ _ => (pd_callC C_is_integer hr (by decide) (by exact rfl) L2.passL (pad_cons (pd_var 1) pad_nil))) (show ∀ i ∈ ([1] : List Nat), i ∉ ([] : List Nat) by decide) (show ∀ i ∈ ([1] : List Nat), i ∈ ([1] : List Nat) by decide))) pad_nil)))))))) (psd_one (psd_ret pd_bl)) psd_nil) (psd_one (psd_ret (pd_and (pd_chain op_ltA op_le opd_lt opd_cmp pd_int (pd_at (pd_var 0) pd_int) (pd_at (pd_var 0) pd_int) (fun h1 h2 h3 => pe_chain op_ltA op_le h1 h2 h3)) (pd_one (pd_eq (hu_of hr) (pd_callC C_great_divisor hr (by decide) (by exact rfl) passD (pad_cons (pd_at (pd_var 0) pd_int) (pad_cons (pd_at (pd_var 0) pd_int) pad_nil))) pd_int))))))⟩
abbrev s_checked_share : Stmt := top 13
abbrev N_checked_share : List Str := ["value", "at"]
theorem sc_checked_share : FnScope N_checked_share ["value", "at"] (defScope s_checked_share) := ⟨rfl, rfl, rfl, by decide +kernel, rfl, by decide +kernel, by decide +kernel⟩
noncomputable def m_checked_share (F_is_share : FM) : M Fl := (mIfS (mNot (mTru (mCall 1 F_is_share (mCons (mVar [] 0) mNil)))) (mRaise "InvalidQuestion" (mCons (mVar [] 1) mNil)) mNx)
theorem ok_checked_share {f : Addr} {fd : FuncData} (T : Txt P K mg ec) {F_is_share : FM} {f_is_share : Addr} {d_is_share : FuncData} (C_is_share : Cal P w K mg base ec "is_share" 2 ["value"] F_is_share f_is_share d_is_share) (F : FnP K "checked_share" s_checked_share f fd) : FnOk P w K mg base (L2.CX P w) 3 f fd ["value", "at"] (spD K ec 2 (fnM 2 (m_checked_share F_is_share))) :=
  okD (ow := []) F sc_checked_share (by decide) fun cdv A outer s H E hr => ⟨_, (psd_one (psd_if (ptd_not (ptd_tru (pd_callC C_is_share hr (by decide) (by exact rfl) passD (pad_cons (pd_var 0) pad_nil)))) (psd_one (psd_raise rfl takesD T.e_InvalidQuestion.choose_spec.1 (pad_cons (pd_var 1) pad_nil) (fun h => pmk_err T.e_InvalidQuestion.choose_spec.2 hr h rfl))) psd_nil))⟩
abbrev s_lowest : Stmt := top 14
abbrev N_lowest : List Str := ["top", "bottom", "by"]
theorem sc_lowest : FnScope N_lowest ["top", "bottom"] (defScope s_lowest) := ⟨rfl, rfl, rfl, by decide +kernel, rfl, by decide +kernel, by decide +kernel⟩
noncomputable def m_lowest (F_great_divisor : FM) : M Fl := (mSeq (mAsg (aName 2) (mCall 2 F_great_divisor (mCons (mVar [] 0) (mCons (mVar [] 1) mNil)))) (mRet (mTup (mCons (mOp fdivF (mVar [] 0) (mVar [] 2)) (mCons (mOp fdivF (mVar [] 1) (mVar [] 2)) mNil)))))
theorem ok_lowest {f : Addr} {fd : FuncData} (T : Txt P K mg ec) {F_great_divisor : FM} {f_great_divisor : Addr} {d_great_divisor : FuncData} (C_great_divisor : Cal P w K mg base ec "great_divisor" 1 ["one", "other"] F_great_divisor f_great_divisor d_great_divisor) (F : FnP K "lowest" s_lowest f fd) : FnOk P w K mg base (L2.CX P w) 2 f fd ["top", "bottom"] (spD K ec 2 (fnM 3 (m_lowest F_great_divisor))) :=
  okD (ow := []) F sc_lowest (by decide) fun cdv A outer s H E hr => ⟨_, (psd_cons (psd_set (i := 2) (show 2 ∉ ([] : List Nat) by decide) (pd_callC C_great_divisor hr (by decide) (by exact rfl) passD (pad_cons (pd_var 0) (pad_cons (pd_var 1) pad_nil))) (fun h => ps_set sc_lowest.nd rfl (Or.inl rfl) h)) (psd_one (psd_ret (pd_tup (pad_cons (pd_fdiv (pd_var 0) (pd_var 2)) (pad_cons (pd_fdiv (pd_var 1) (pd_var 2)) pad_nil))))))⟩
abbrev s_parts_of : Stmt := top 15
abbrev N_parts_of : List Str := ["share", "many"]
theorem sc_parts_of : FnScope N_parts_of ["share", "many"] (defScope s_parts_of) := ⟨rfl, rfl, rfl, by decide +kernel, rfl, by decide +kernel, by decide +kernel⟩
noncomputable def m_parts_of (F_checked_share : FM) (F_is_integer : FM) (F_lowest : FM) : M Fl := (mSeq (mDrop (mCall 2 F_checked_share (mCons (mVar [] 0) (mCons (mK (.d (.int 0))) mNil)))) (mSeq (mIfS (mOr (mNot (mTru (mCall 1 F_is_integer (mCons (mVar [] 1) mNil)))) (mNot (mT (mChain leF leF (mK (.d (.int 1))) (mVar [] 1) (mK (.d (.int 1000))))))) (mRaise "InvalidQuestion" (mCons (mK (.d (.int 1))) mNil)) mNx) (mRet (mOp mulF (mTup (mCons (mCall 2 F_lowest (mCons (mOp atF (mVar [] 0) (mK (.d (.int 0)))) (mCons (mOp mulF (mOp atF (mVar [] 0) (mK (.d (.int 1)))) (mVar [] 1)) mNil))) mNil)) (mVar [] 1)))))
theorem ok_parts_of {f : Addr} {fd : FuncData} (T : Txt P K mg ec) {F_checked_share : FM} {f_checked_share : Addr} {d_checked_share : FuncData} (C_checked_share : Cal P w K mg base ec "checked_share" 3 ["value", "at"] F_checked_share f_checked_share d_checked_share) {F_is_integer : FM} {f_is_integer : Addr} {d_is_integer : FuncData} (C_is_integer : Cal P w K mg base ec "is_integer" 1 ["value"] F_is_integer f_is_integer d_is_integer) {F_lowest : FM} {f_lowest : Addr} {d_lowest : FuncData} (C_lowest : Cal P w K mg base ec "lowest" 2 ["top", "bottom"] F_lowest f_lowest d_lowest) (F : FnP K "parts_of" s_parts_of f fd) : FnOk P w K mg base (L2.CX P w) 4 f fd ["share", "many"] (spD K ec 2 (fnM 2 (m_parts_of F_checked_share F_is_integer F_lowest))) :=
  okD (ow := []) F sc_parts_of (by decide) fun cdv A outer s H E hr => ⟨_, (psd_cons (psd_expr (pd_callC C_checked_share hr (by decide) (by exact rfl) passD (pad_cons (pd_var 0) (pad_cons pd_int pad_nil)))) (psd_cons (psd_if (ptd_w (pwd_or (ptd_not (ptd_tru (pd_callC C_is_integer hr (by decide) (by exact rfl) passD (pad_cons (pd_var 1) pad_nil)))) (pwd_or1 (ptd_not (ptd_chain opd_cmp opd_cmp pd_int (pd_var 1) (pd_globI rfl T.c_MOST_PARTS) (fun h1 h2 h3 => pt_chain op_le op_le h1 h2 h3)))))) (psd_one (psd_raise rfl takesD T.e_InvalidQuestion.choose_spec.1 (pad_cons pd_int pad_nil) (fun h => pmk_err T.e_InvalidQuestion.choose_spec.2 hr h rfl))) psd_nil) (psd_one (psd_ret (pd_mul (pd_tup (pad_cons (pd_callC C_lowest hr (by decide) (by exact rfl) passD (pad_cons (pd_at (pd_var 0) pd_int) (pad_cons (pd_mul (pd_at (pd_var 0) pd_int) (pd_var 1)) pad_nil))) pad_nil)) (pd_var 1))))))⟩
abbrev s_sum_of : Stmt := top 16
abbrev N_sum_of : List Str := ["shares", "top", "bottom", "one"]
theorem sc_sum_of : FnScope N_sum_of ["shares"] (defScope s_sum_of) := ⟨rfl, rfl, rfl, by decide +kernel, rfl, by decide +kernel, by decide +kernel⟩
noncomputable def m_sum_of (F_lowest : FM) : M Fl := (mSeq (mAsg (aTup 2 (aCons (aName 1) (aCons (aName 2) aNil))) (mTup (mCons (mK (.d (.int 0))) (mCons (mK (.d (.int 1))) mNil)))) (mSeq (mFor (mIter (mVar [] 0)) (aName 3) (mAsg (aTup 2 (aCons (aName 1) (aCons (aName 2) aNil))) (mCall 2 F_lowest (mCons (mOp addF (mOp mulF (mVar [] 1) (mOp atF (mVar [] 3) (mK (.d (.int 1))))) (mOp mulF (mOp atF (mVar [] 3) (mK (.d (.int 0)))) (mVar [] 2))) (mCons (mOp mulF (mVar [] 2) (mOp atF (mVar [] 3) (mK (.d (.int 1))))) mNil))))) (mRet (mTup (mCons (mVar [] 1) (mCons (mVar [] 2) mNil))))))
theorem ok_sum_of {f : Addr} {fd : FuncData} (T : Txt P K mg ec) {F_lowest : FM} {f_lowest : Addr} {d_lowest : FuncData} (C_lowest : Cal P w K mg base ec "lowest" 2 ["top", "bottom"] F_lowest f_lowest d_lowest) (F : FnP K "sum_of" s_sum_of f fd) : FnOk P w K mg base (L2.CX P w) 3 f fd ["shares"] (spD K ec 1 (fnM 4 (m_sum_of F_lowest))) :=
  okD (ow := []) F sc_sum_of (by decide) fun cdv A outer s H E hr => ⟨_, (psd_cons (psd_asg (pd_tup (pad_cons pd_int (pad_cons pd_int pad_nil))) (pgd_tup (pgsd_cons (pgd_name (i := 1) (show 1 ∉ ([] : List Nat) by decide) sc_sum_of.nd rfl (Or.inl rfl)) (pgsd_cons (pgd_name (i := 2) (show 2 ∉ ([] : List Nat) by decide) sc_sum_of.nd rfl (Or.inl rfl)) pgsd_nil (fun h1 h2 => pgs_cons h1 h2)) (fun h1 h2 => pgs_cons h1 h2)) (fun h => pg_tup rfl h)) (fun h1 h2 => ps_asg h1 h2)) (psd_cons (psd_for ownD rfl (pid_any (pd_var 0)) (pgd_name (i := 3) (show 3 ∉ ([] : List Nat) by decide) sc_sum_of.nd rfl (Or.inl rfl)) (psd_one (psd_asg (pd_callC C_lowest hr (by decide) (by exact rfl) passD (pad_cons (pd_add (pd_mul (pd_var 1) (pd_at (pd_var 3) pd_int)) (pd_mul (pd_at (pd_var 3) pd_int) (pd_var 2))) (pad_cons (pd_mul (pd_var 2) (pd_at (pd_var 3) pd_int)) pad_nil))) (pgd_tup (pgsd_cons (pgd_name (i := 1) (show 1 ∉ ([] : List Nat) by decide) sc_sum_of.nd rfl (Or.inl rfl)) (pgsd_cons (pgd_name (i := 2) (show 2 ∉ ([] : List Nat) by decide) sc_sum_of.nd rfl (Or.inl rfl)) pgsd_nil (fun h1 h2 => pgs_cons h1 h2)) (fun h1 h2 => pgs_cons h1 h2)) (fun h => pg_tup rfl h)) (fun h1 h2 => ps_asg h1 h2)))) (psd_one (psd_ret (pd_tup (pad_cons (pd_var 1) (pad_cons (pd_var 2) pad_nil)))))))⟩
abbrev s_checked_shares : Stmt := top 17
abbrev N_checked_shares : List Str := ["shares", "top", "bottom", "one"]
theorem sc_checked_shares : FnScope N_checked_shares ["shares"] (defScope s_checked_shares) := ⟨rfl, rfl, rfl, by decide +kernel, rfl, by decide +kernel, by decide +kernel⟩
noncomputable def m_checked_shares (F_is_sequence : FM) (F_is_share : FM) (F_sum_of : FM) : M Fl := (mSeq (mIfS (mOr (mNot (mTru (mCall 1 F_is_sequence (mCons (mVar [] 0) mNil)))) (mOr (mNot (mT (mChain leF leF (mK (.d (.int 1))) (mCB lenF (mCons (mVar [] 0) mNil)) (mK (.d (.int 1000)))))) (mNot (mTru (mCB allF (mCons (mFz (mLc (mIter (mVar [] 0)) [3] (aName 3) (M.ret true) (mCall 1 F_is_share (mCons (mVar [] 3) mNil)))) mNil)))))) (mRaise "InvalidQuestion" (mCons (mK (.d (.int 0))) mNil)) mNx) (mSeq (mAsg (aTup 2 (aCons (aName 1) (aCons (aName 2) aNil))) (mCall 1 F_sum_of (mCons (mVar [] 0) mNil))) (mIfS (mT (mOp gtF (mVar [] 1) (mVar [] 2))) (mRaise "Refused" (mCons (mK (.d (.int 0))) mNil)) mNx)))
theorem ok_checked_shares {f : Addr} {fd : FuncData} (T : Txt P K mg ec) {F_is_sequence : FM} {f_is_sequence : Addr} {d_is_sequence : FuncData} (C_is_sequence : Cal P w K mg base ec "is_sequence" 1 ["value"] F_is_sequence f_is_sequence d_is_sequence) {F_is_share : FM} {f_is_share : Addr} {d_is_share : FuncData} (C_is_share : Cal P w K mg base ec "is_share" 2 ["value"] F_is_share f_is_share d_is_share) {F_sum_of : FM} {f_sum_of : Addr} {d_sum_of : FuncData} (C_sum_of : Cal P w K mg base ec "sum_of" 3 ["shares"] F_sum_of f_sum_of d_sum_of) (F : FnP K "checked_shares" s_checked_shares f fd) : FnOk P w K mg base (L2.CX P w) 4 f fd ["shares"] (spD K ec 1 (fnM 4 (m_checked_shares F_is_sequence F_is_share F_sum_of))) :=
  okD (ow := []) F sc_checked_shares (by decide) fun cdv A outer s H E hr => ⟨_, (psd_cons (psd_if (ptd_w (pwd_or (ptd_not (ptd_tru (pd_callC C_is_sequence hr (by decide) (by exact rfl) passD (pad_cons (pd_var 0) pad_nil)))) (pwd_or (ptd_not (ptd_chain opd_cmp opd_cmp pd_int (pd_len (by exact rfl) T.b_len (pad_cons (pd_var 0) pad_nil)) (pd_globI rfl T.c_MOST_PARTS) (fun h1 h2 h3 => pt_chain op_le op_le h1 h2 h3))) (pwd_or1 (ptd_not (ptd_tru (pd_all (by exact rfl) (by exact rfl) T.b_all (pad_cons (pd_fz (pfd_lc rfl sc_checked_shares.nd (g := (gName 3)) (tt := tYes) (te := (tCall (spD K ec 1 F_is_share) [] L2.E0 (tCons (tVar 3) tNil))) (pid_any (pd_var 0)) (own := [("one", 3)]) (blk_of (by kernel_rfl)) (fun _ _ _ _ _ => (pgd_name (i := 3) (show 3 ∉ ([] : List Nat) by decide) sc_checked_shares.nd rfl (Or.inl rfl))) (fun _ _ _ _ _ => ptsd_nil) (fun _ _ _ _ _ => (pd_callC C_is_share hr (by decide) (by exact rfl) L2.passL (pad_cons (pd_var 3) pad_nil))) (show ∀ i ∈ ([3] : List Nat), i ∉ ([] : List Nat) by decide) (show ∀ i ∈ ([3] : List Nat), i ∈ ([3] : List Nat) by decide))) pad_nil)))))))) (psd_one (psd_raise rfl takesD T.e_InvalidQuestion.choose_spec.1 (pad_cons pd_int pad_nil) (fun h => pmk_err T.e_InvalidQuestion.choose_spec.2 hr h rfl))) psd_nil) (psd_cons (psd_asg (pd_callC C_sum_of hr (by decide) (by exact rfl) passD (pad_cons (pd_var 0) pad_nil)) (pgd_tup (pgsd_cons (pgd_name (i := 1) (show 1 ∉ ([] : List Nat) by decide) sc_checked_shares.nd rfl (Or.inl rfl)) (pgsd_cons (pgd_name (i := 2) (show 2 ∉ ([] : List Nat) by decide) sc_checked_shares.nd rfl (Or.inl rfl)) pgsd_nil (fun h1 h2 => pgs_cons h1 h2)) (fun h1 h2 => pgs_cons h1 h2)) (fun h => pg_tup rfl h)) (fun h1 h2 => ps_asg h1 h2)) (psd_one (psd_if (ptd_gt (pd_var 1) (pd_var 2)) (psd_one (psd_raise rfl takesD T.e_Refused.choose_spec.1 (pad_cons pd_int pad_nil) (fun h => pmk_err T.e_Refused.choose_spec.2 hr h rfl))) psd_nil))))⟩
abbrev s_joined_shares : Stmt := top 18
abbrev N_joined_shares : List Str := ["shares"]
theorem sc_joined_shares : FnScope N_joined_shares ["shares"] (defScope s_joined_shares) := ⟨rfl, rfl, rfl, by decide +kernel, rfl, by decide +kernel, by decide +kernel⟩
noncomputable def m_joined_shares (F_checked_shares : FM) (F_sum_of : FM) : M Fl := (mSeq (mDrop (mCall 1 F_checked_shares (mCons (mVar [] 0) mNil))) (mRet (mCall 1 F_sum_of (mCons (mVar [] 0) mNil))))
theorem ok_joined_shares {f : Addr} {fd : FuncData} (T : Txt P K mg ec) {F_checked_shares : FM} {f_checked_shares : Addr} {d_checked_shares : FuncData} (C_checked_shares : Cal P w K mg base ec "checked_shares" 4 ["shares"] F_checked_shares f_checked_shares d_checked_shares) {F_sum_of : FM} {f_sum_of : Addr} {d_sum_of : FuncData} (C_sum_of : Cal P w K mg base ec "sum_of" 3 ["shares"] F_sum_of f_sum_of d_sum_of) (F : FnP K "joined_shares" s_joined_shares f fd) : FnOk P w K mg base (L2.CX P w) 5 f fd ["shares"] (spD K ec 1 (fnM 1 (m_joined_shares F_checked_shares F_sum_of))) :=
  okD (ow := []) F sc_joined_shares (by decide) fun cdv A outer s H E hr => ⟨_, (psd_cons (psd_expr (pd_callC C_checked_shares hr (by decide) (by exact rfl) passD (pad_cons (pd_var 0) pad_nil))) (psd_one (psd_ret (pd_callC C_sum_of hr (by decide) (by exact rfl) passD (pad_cons (pd_var 0) pad_nil)))))⟩
abbrev s_is_whole : Stmt := top 19
abbrev N_is_whole : List Str := ["value"]
theorem sc_is_whole : FnScope N_is_whole ["value"] (defScope s_is_whole) := ⟨rfl, rfl, rfl, by decide +kernel, rfl, by decide +kernel, by decide +kernel⟩
noncomputable def m_is_whole (F_is_share : FM) : M Fl := (mRet (mAndV (mCall 1 F_is_share (mCons (mVar [] 0) mNil)) (mOp eqF (mOp atF (mVar [] 0) (mK (.d (.int 0)))) (mOp atF (mVar [] 0) (mK (.d (.int 1)))))))
theorem ok_is_whole {f : Addr} {fd : FuncData} (T : Txt P K mg ec) {F_is_share : FM} {f_is_share : Addr} {d_is_share : FuncData} (C_is_share : Cal P w K mg base ec "is_share" 2 ["value"] F_is_share f_is_share d_is_share) (F : FnP K "is_whole" s_is_whole f fd) : FnOk P w K mg base (L2.CX P w) 3 f fd ["value"] (spD K ec 1 (fnM 1 (m_is_whole F_is_share))) :=
  okD (ow := []) F sc_is_whole (by decide) fun cdv A outer s H E hr => ⟨_, (psd_one (psd_ret (pd_and (pd_callC C_is_share hr (by decide) (by exact rfl) passD (pad_cons (pd_var 0) pad_nil)) (pd_one (pd_eq (hu_of hr) (pd_at (pd_var 0) pd_int) (pd_at (pd_var 0) pd_int))))))⟩
abbrev s_what_is_left : Stmt := top 20
abbrev N_what_is_left : List Str := ["share", "shares", "top", "bottom", "left", "one"]
theorem sc_what_is_left : FnScope N_what_is_left ["share", "shares"] (defScope s_what_is_left) := ⟨rfl, rfl, rfl, by decide +kernel, rfl, by decide +kernel, by decide +kernel⟩
noncomputable def m_what_is_left (F_checked_share : FM) (F_is_sequence : FM) (F_is_share : FM) (F_sum_of : FM) (F_lowest : FM) : M Fl := (mSeq (mDrop (mCall 2 F_checked_share (mCons (mVar [] 0) (mCons (mK (.d (.int 0))) mNil)))) (mSeq (mIfS (mOr (mNot (mTru (mCall 1 F_is_sequence (mCons (mVar [] 1) mNil)))) (mNot (mTru (mCB allF (mCons (mFz (mLc (mIter (mVar [] 1)) [5] (aName 5) (M.ret true) (mCall 1 F_is_share (mCons (mVar [] 5) mNil)))) mNil))))) (mRaise "InvalidQuestion" (mCons (mK (.d (.int 1))) mNil)) mNx) (mSeq (mAsg (aTup 2 (aCons (aName 2) (aCons (aName 3) aNil))) (mCall 1 F_sum_of (mCons (mVar [] 1) mNil))) (mSeq (mAsg (aName 4) (mOp subF (mOp mulF (mOp atF (mVar [] 0) (mK (.d (.int 0)))) (mVar [] 3)) (mOp mulF (mVar [] 2) (mOp atF (mVar [] 0) (mK (.d (.int 1))))))) (mSeq (mIfS (mT (mOp ltF (mVar [] 4) (mK (.d (.int 0))))) (mRaise "Refused" (mCons (mK (.d (.int 0))) mNil)) mNx) (mRet (mIfE (mT (mOp eqF (mVar [] 4) (mK (.d (.int 0))))) (mK (.d .none)) (mCall 2 F_lowest (mCons (mVar [] 4) (mCons (mOp mulF (mOp atF (mVar [] 0) (mK (.d (.int 1)))) (mVar [] 3)) mNil))))))))))
theorem ok_what_is_left {f : Addr} {fd : FuncData} (T : Txt P K mg ec) {F_checked_share : FM} {f_checked_share : Addr} {d_checked_share : FuncData} (C_checked_share : Cal P w K mg base ec "checked_share" 3 ["value", "at"] F_checked_share f_checked_share d_checked_share) {F_is_sequence : FM} {f_is_sequence : Addr} {d_is_sequence : FuncData} (C_is_sequence : Cal P w K mg base ec "is_sequence" 1 ["value"] F_is_sequence f_is_sequence d_is_sequence) {F_is_share : FM} {f_is_share : Addr} {d_is_share : FuncData} (C_is_share : Cal P w K mg base ec "is_share" 2 ["value"] F_is_share f_is_share d_is_share) {F_sum_of : FM} {f_sum_of : Addr} {d_sum_of : FuncData} (C_sum_of : Cal P w K mg base ec "sum_of" 3 ["shares"] F_sum_of f_sum_of d_sum_of) {F_lowest : FM} {f_lowest : Addr} {d_lowest : FuncData} (C_lowest : Cal P w K mg base ec "lowest" 2 ["top", "bottom"] F_lowest f_lowest d_lowest) (F : FnP K "what_is_left" s_what_is_left f fd) : FnOk P w K mg base (L2.CX P w) 4 f fd ["share", "shares"] (spD K ec 2 (fnM 6 (m_what_is_left F_checked_share F_is_sequence F_is_share F_sum_of F_lowest))) :=
  okD (ow := []) F sc_what_is_left (by decide) fun cdv A outer s H E hr => ⟨_, (psd_cons (psd_expr (pd_callC C_checked_share hr (by decide) (by exact rfl) passD (pad_cons (pd_var 0) (pad_cons pd_int pad_nil)))) (psd_cons (psd_if (ptd_w (pwd_or (ptd_not (ptd_tru (pd_callC C_is_sequence hr (by decide) (by exact rfl) passD (pad_cons (pd_var 1) pad_nil)))) (pwd_or1 (ptd_not (ptd_tru (pd_all (by exact rfl) (by exact rfl) T.b_all (pad_cons (pd_fz (pfd_lc rfl sc_what_is_left.nd (g := (gName 5)) (tt := tYes) (te := (tCall (spD K ec 1 F_is_share) [] L2.E0 (tCons (tVar 5) tNil))) (pid_any (pd_var 1)) (own := [("one", 5)]) (blk_of (by kernel_rfl)) (fun _ _ _ _ _ => (pgd_name (i := 5) (show 5 ∉ ([] : List Nat) by decide) sc_what_is_left.nd rfl (Or.inl rfl))) (fun _ _ _ _ _ => ptsd_nil) (fun _ _ _ _ _ => (pd_callC C_is_share hr (by decide) (by exact rfl) L2.passL (pad_cons (pd_var 5) pad_nil))) (show ∀ i ∈ ([5] : List Nat), i ∉ ([] : List Nat) by decide) (show ∀ i ∈ ([5] : List Nat), i ∈ ([5] : List Nat) by decide))) pad_nil))))))) (psd_one (psd_raise rfl takesD T.e_InvalidQuestion.choose_spec.1 (pad_cons pd_int pad_nil) (fun h => pmk_err T.e_InvalidQuestion.choose_spec.2 hr h rfl))) psd_nil) (psd_cons (psd_asg (pd_callC C_sum_of hr (by decide) (by exact rfl) passD (pad_cons (pd_var 1) pad_nil)) (pgd_tup (pgsd_cons (pgd_name (i := 2) (show 2 ∉ ([] : List Nat) by decide) sc_what_is_left.nd rfl (Or.inl rfl)) (pgsd_cons (pgd_name (i := 3) (show 3 ∉ ([] : List Nat) by decide) sc_what_is_left.nd rfl (Or.inl rfl)) pgsd_nil (fun h1 h2 => pgs_cons h1 h2)) (fun h1 h2 => pgs_cons h1 h2)) (fun h => pg_tup rfl h)) (fun h1 h2 => ps_asg h1 h2)) (psd_cons (psd_set (i := 4) (show 4 ∉ ([] : List Nat) by decide) (pd_sub (pd_mul (pd_at (pd_var 0) pd_int) (pd_var 3)) (pd_mul (pd_var 2) (pd_at (pd_var 0) pd_int))) (fun h => ps_set sc_what_is_left.nd rfl (Or.inl rfl) h)) (psd_cons (psd_if (ptd_lt (pd_var 4) pd_int) (psd_one (psd_raise rfl takesD T.e_Refused.choose_spec.1 (pad_cons pd_int pad_nil) (fun h => pmk_err T.e_Refused.choose_spec.2 hr h rfl))) psd_nil) (psd_one (psd_ret (pd_ifE (ptd_eq (hu_of hr) (pd_var 4) pd_int) pd_non (pd_callC C_lowest hr (by decide) (by exact rfl) passD (pad_cons (pd_var 4) (pad_cons (pd_mul (pd_at (pd_var 0) pd_int) (pd_var 3)) pad_nil)))))))))))⟩
abbrev s_may_meet : Stmt := top 21
abbrev N_may_meet : List Str := ["rights", "one"]
theorem sc_may_meet : FnScope N_may_meet ["rights"] (defScope s_may_meet) := ⟨rfl, rfl, rfl, by decide +kernel, rfl, by decide +kernel, by decide +kernel⟩
noncomputable def m_may_meet (F_is_sequence : FM) : M Fl := (mSeq (mIfS (mOr (mNot (mTru (mCall 1 F_is_sequence (mCons (mVar [] 0) mNil)))) (mNot (mTru (mCB allF (mCons (mFz (mLc (mIter (mVar [] 0)) [1] (aName 1) (M.ret true) (mAndV (mCB isiF (mCons (mVar [] 1) (mCons (mK (.raw (.ty "str"))) mNil))) (mOp (inF false) (mVar [] 1) (mTup (mCons (mK (.d (.str "read"))) (mCons (mK (.d (.str "edit"))) mNil))))))) mNil))))) (mRaise "InvalidQuestion" (mCons (mK (.d (.int 0))) mNil)) mNx) (mRet (mOrV (mOp ltF (mCB lenF (mCons (mVar [] 0) mNil)) (mK (.d (.int 2)))) (mOp (inF true) (mK (.d (.str "edit"))) (mVar [] 0)))))
theorem ok_may_meet {f : Addr} {fd : FuncData} (T : Txt P K mg ec) {F_is_sequence : FM} {f_is_sequence : Addr} {d_is_sequence : FuncData} (C_is_sequence : Cal P w K mg base ec "is_sequence" 1 ["value"] F_is_sequence f_is_sequence d_is_sequence) (F : FnP K "may_meet" s_may_meet f fd) : FnOk P w K mg base (L2.CX P w) 2 f fd ["rights"] (spD K ec 1 (fnM 2 (m_may_meet F_is_sequence))) :=
  okD (ow := []) F sc_may_meet (by decide) fun cdv A outer s H E hr => ⟨_, (psd_cons (psd_if (ptd_w (pwd_or (ptd_not (ptd_tru (pd_callC C_is_sequence hr (by decide) (by exact rfl) passD (pad_cons (pd_var 0) pad_nil)))) (pwd_or1 (ptd_not (ptd_tru (pd_all (by exact rfl) (by exact rfl) T.b_all (pad_cons (pd_fz (pfd_lc rfl sc_may_meet.nd (g := (gName 1)) (tt := tYes) (te := (tAndV (tCB (rIsi K) (tCons (tVar 1) (tCons (tC (.ty "str")) tNil))) (tOp (rInA K false) (tVar 1) (tTup (tCons (tC (.str "read")) (tCons (tC (.str "edit")) tNil)))))) (pid_any (pd_var 0)) (own := [("one", 1)]) (blk_of (by kernel_rfl)) (fun _ _ _ _ _ => (pgd_name (i := 1) (show 1 ∉ ([] : List Nat) by decide) sc_may_meet.nd rfl (Or.inl rfl))) (fun _ _ _ _ _ => ptsd_nil) (fun _ _ _ _ _ => (pd_and (pd_isi (by exact rfl) T.b_isinstance (pad_cons (pd_var 1) (pad_cons (pd_blt (v := .ty "str") (by exact rfl) T.b_str (by decide +kernel) rfl) pad_nil))) (pd_one (pd_in (pd_var 1) (pd_tup (pad_cons pd_str (pad_cons pd_str pad_nil))))))) (show ∀ i ∈ ([1] : List Nat), i ∉ ([] : List Nat) by decide) (show ∀ i ∈ ([1] : List Nat), i ∈ ([1] : List Nat) by decide))) pad_nil))))))) (psd_one (psd_raise rfl takesD T.e_InvalidQuestion.choose_spec.1 (pad_cons pd_int pad_nil) (fun h => pmk_err T.e_InvalidQuestion.choose_spec.2 hr h rfl))) psd_nil) (psd_one (psd_ret (pd_or (pd_lt (pd_len (by exact rfl) T.b_len (pad_cons (pd_var 0) pad_nil)) pd_int) (pd_one (pd_notin pd_str (pd_var 0)))))))⟩
abbrev s__law_of : Stmt := top 25
abbrev N__law_of : List Str := ["deal", "some"]
theorem sc__law_of : FnScope N__law_of ["deal", "some"] (defScope s__law_of) := ⟨rfl, rfl, rfl, by decide +kernel, rfl, by decide +kernel, by decide +kernel⟩
noncomputable def m__law_of (F__law_any : FM) : M Fl := (mRet (mOp atF (mVar [] 1) (mCall 2 F__law_any (mCons (mVar [] 0) (mCons (mCB lenF (mCons (mVar [] 1) mNil)) mNil)))))
theorem ok__law_of {f : Addr} {fd : FuncData} (T : Txt P K mg ec) {F__law_any : FM} {f__law_any : Addr} {d__law_any : FuncData} (C__law_any : Cal P w K mg base ec "_law_any" 1 ["deal", "bound"] F__law_any f__law_any d__law_any) (F : FnP K "_law_of" s__law_of f fd) : FnOk P w K mg base (L2.CX P w) 2 f fd ["deal", "some"] (spD K ec 2 (fnM 2 (m__law_of F__law_any))) :=
  okD (ow := []) F sc__law_of (by decide) fun cdv A outer s H E hr => ⟨_, (psd_one (psd_ret (pd_at (pd_var 1) (pd_callC C__law_any hr (by decide) (by exact rfl) passD (pad_cons (pd_var 0) (pad_cons (pd_len (by exact rfl) T.b_len (pad_cons (pd_var 1) pad_nil)) pad_nil))))))⟩
abbrev s__law_mixed : Stmt := top 26
abbrev N__law_mixed : List Str := ["deal", "some", "left", "found"]
theorem sc__law_mixed : FnScope N__law_mixed ["deal", "some"] (defScope s__law_mixed) := ⟨rfl, rfl, rfl, by decide +kernel, rfl, by decide +kernel, by decide +kernel⟩
noncomputable def m__law_mixed (F__law_any : FM) : M Fl := (mSeq (mParOO 2 3 (mCBF listF (mCons (mVar [2, 3] 1) mNil)) (mLst mNil)) (mSeq (mWhile (mT (mOp neF (mVar [2, 3] 2) (mFz (mLst mNil)))) (mDrop (has 3 (mAppend 3 (mCons (has 2 (mPopAt 2 (mCons (mCall 2 F__law_any (mCons (mVar [2, 3] 0) (mCons (mCB lenF (mCons (mVar [2, 3] 2) mNil)) mNil))) mNil))) mNil))))) (mRet (mVar [2, 3] 3))))
theorem ok__law_mixed {f : Addr} {fd : FuncData} (T : Txt P K mg ec) {F__law_any : FM} {f__law_any : Addr} {d__law_any : FuncData} (C__law_any : Cal P w K mg base ec "_law_any" 1 ["deal", "bound"] F__law_any f__law_any d__law_any) (F : FnP K "_law_mixed" s__law_mixed f fd) : FnOk P w K mg base (L2.CX P w) 2 f fd ["deal", "some"] (spD K ec 2 (fnM 4 (m__law_mixed F__law_any))) :=
  okD (ow := [2, 3]) F sc__law_mixed (by decide) fun cdv A outer s H E hr => ⟨_, (psd_cons (psd_parOO (i := 2) (j := 3) (show 2 ∈ ([2, 3] : List Nat) by decide) (show 3 ∈ ([2, 3] : List Nat) by decide) (by decide) (pf_list (by exact rfl) T.b_list (pad_cons (pd_var 1) pad_nil)) (pf_lst pad_nil) (fun h1 h2 => ps_par rfl sc__law_mixed.nd rfl rfl (by decide) rfl rfl (pa_cons h1 (pa_cons h2 pa_nil)) rfl)) (psd_cons (psd_while ownD (ptd_ne (hu_of hr) (pd_var 2) (pd_fz (pf_lst pad_nil))) (psd_one (psd_expr (pd_append (i := 3) (show 3 ∈ ([2, 3] : List Nat) by decide) rfl (Or.inl rfl) (pad_cons (pd_popAt (i := 2) (show 2 ∈ ([2, 3] : List Nat) by decide) rfl (Or.inl rfl) (pad_cons (pd_callC C__law_any hr (by decide) (by exact rfl) passD (pad_cons (pd_var 0) (pad_cons (pd_len (by exact rfl) T.b_len (pad_cons (pd_var 2) pad_nil)) pad_nil))) pad_nil) (fun h1 h2 => pe_bm PySem.F.plainAttrs_list PySem.F.slot_list_pop PySem.F.type_list_pop mt_popAt h1 h2)) pad_nil) (fun h1 h2 => pe_bm PySem.F.plainAttrs_list PySem.F.slot_list_append PySem.F.type_list_append mt_append h1 h2))))) (psd_one (psd_ret (pd_var 3)))))⟩
abbrev s__law_same : Stmt := top 27
abbrev N__law_same : List Str := ["value", "due", "one", "other"]
theorem sc__law_same : FnScope N__law_same ["value", "due"] (defScope s__law_same) := ⟨rfl, rfl, rfl, by decide +kernel, rfl, by decide +kernel, by decide +kernel⟩
noncomputable def m__law_same (F__law_same : FM) : M Fl := (mSeq (mIfS (mTru (mIsi2 "tuple" "list" (mVar [] 1))) (mSeq (mIfS (mOr (mT (mOp neF (mCB isiF (mCons (mVar [] 1) (mCons (mK (.raw (.ty "tuple"))) mNil))) (mCB isiF (mCons (mVar [] 0) (mCons (mK (.raw (.ty "tuple"))) mNil))))) (mOr (mNot (mTru (mIsi2 "tuple" "list" (mVar [] 0)))) (mT (mOp neF (mCB lenF (mCons (mVar [] 0) mNil)) (mCB lenF (mCons (mVar [] 1) mNil)))))) (mRet (mK (.d (.bool false)))) mNx) (mRet (mOp eqF (mFz (mLc (mZip (mCons (mVar [] 0) (mCons (mVar [] 1) mNil))) [2, 3] (aTup 2 (aCons (aName 2) (aCons (aName 3) aNil))) (mNot (mTru (mCall 2 F__law_same (mCons (mVar [] 2) (mCons (mVar [] 3) mNil))))) (mK (.d (.int 0))))) (mFz (mLst mNil))))) mNx) (mSeq (mIfS (mT (mOp (isF false) (mVar [] 1) (mK (.d .none)))) (mRet (mOp (isF false) (mVar [] 0) (mK (.d .none)))) mNx) (mSeq (mIfS (mT (mOp (isF false) (mVar [] 1) (mK (.d (.bool true))))) (mRet (mOp (isF false) (mVar [] 0) (mK (.d (.bool true))))) mNx) (mSeq (mIfS (mT (mOp (isF false) (mVar [] 1) (mK (.d (.bool false))))) (mRet (mOp (isF false) (mVar [] 0) (mK (.d (.bool false))))) mNx) (mSeq (mIfS (mTru (mCB isiF (mCons (mVar [] 1) (mCons (mK (.raw (.ty "int"))) mNil)))) (mRet (mAndV (mCB isiF (mCons (mVar [] 0) (mCons (mK (.raw (.ty "int"))) mNil))) (mAndV (mNotV (mCB isiF (mCons (mVar [] 0) (mCons (mK (.raw (.ty "bool"))) mNil)))) (mOp eqF (mVar [] 0) (mVar [] 1))))) mNx) (mRet (mAndV (mCB isiF (mCons (mVar [] 0) (mCons (mK (.raw (.ty "str"))) mNil))) (mOp eqF (mVar [] 0) (mVar [] 1)))))))))
theorem ok__law_same {f : Addr} {fd : FuncData} (T : Txt P K mg ec) {F__law_same : FM} {f__law_same : Addr} {d__law_same : FuncData} {j : Nat} (C__law_same : Cal P w K mg base ec "_law_same" j ["value", "due"] F__law_same f__law_same d__law_same) (F : FnP K "_law_same" s__law_same f fd) : FnOk P w K mg base (L2.CX P w) (j + 1) f fd ["value", "due"] (spD K ec 2 (fnM 4 (m__law_same F__law_same))) :=
  okD (ow := []) F sc__law_same (by decide) fun cdv A outer s H E hr => ⟨_, (psd_cons (psd_if (ptd_tru (pd_isi2 (by exact rfl) T.b_isinstance (pd_var 1) (by exact rfl) T.b_tuple (by decide +kernel) (by decide) (by decide) (by exact rfl) T.b_list (by decide +kernel) (by decide) (by decide))) (psd_cons (psd_if (ptd_w (pwd_or (ptd_ne (hu_of hr) (pd_isi (by exact rfl) T.b_isinstance (pad_cons (pd_var 1) (pad_cons (pd_blt (v := .ty "tuple") (by exact rfl) T.b_tuple (by decide +kernel) rfl) pad_nil))) (pd_isi (by exact rfl) T.b_isinstance (pad_cons (pd_var 0) (pad_cons (pd_blt (v := .ty "tuple") (by exact rfl) T.b_tuple (by decide +kernel) rfl) pad_nil)))) (pwd_or (ptd_not (ptd_tru (pd_isi2 (by exact rfl) T.b_isinstance (pd_var 0) (by exact rfl) T.b_tuple (by decide +kernel) (by decide) (by decide) (by exact rfl) T.b_list (by decide +kernel) (by decide) (by decide)))) (pwd_or1 (ptd_ne (hu_of hr) (pd_len (by exact rfl) T.b_len (pad_cons (pd_var 0) pad_nil)) (pd_len (by exact rfl) T.b_len (pad_cons (pd_var 1) pad_nil))))))) (psd_one (psd_ret pd_bl)) psd_nil) (psd_one (psd_ret (pd_eq (hu_of hr) (pd_fz (pfd_lc rfl sc__law_same.nd (g := (gTup K 2 (gCons (gName 2) (gCons (gName 3) gNil)))) (tt := (tNot (fun σ H Q => (tCall (spD K ec 2 F__law_same) [] L2.E0 (tCons (tVar 2) (tCons (tVar 3) tNil))) σ H fun x H' => ∃ k, TruV K x H' k ∧ Q k H'))) (te := (tC (.int 0))) (pid_zip (by exact rfl) T.b_zip (pad_cons (pd_var 0) (pad_cons (pd_var 1) pad_nil))) (own := [("one", 2), ("other", 3)]) (blk_of (by kernel_rfl)) (fun _ _ _ _ _ => (pgd_tup (pgsd_cons (pgd_name (i := 2) (show 2 ∉ ([] : List Nat) by decide) sc__law_same.nd rfl (Or.inl rfl)) (pgsd_cons (pgd_name (i := 3) (show 3 ∉ ([] : List Nat) by decide) sc__law_same.nd rfl (Or.inl rfl)) pgsd_nil (fun h1 h2 => pgs_cons h1 h2)) (fun h1 h2 => pgs_cons h1 h2)) (fun h => pg_tup rfl h))) (fun _ _ _ _ _ => (ptsd_one (ptd_not (ptd_tru (pd_callC C__law_same hr (Nat.le_refl _) (by exact rfl) L2.passL (pad_cons (pd_var 2) (pad_cons (pd_var 3) pad_nil))))))) (fun _ _ _ _ _ => pd_int) (show ∀ i ∈ ([2, 3] : List Nat), i ∉ ([] : List Nat) by decide) (show ∀ i ∈ ([2, 3] : List Nat), i ∈ ([2, 3] : List Nat) by decide))) (pd_fz (pf_lst pad_nil)))))) psd_nil) (psd_cons (psd_if (ptd_is (pd_var 1) pd_non) (psd_one (psd_ret (pd_is (pd_var 0) pd_non))) psd_nil) (psd_cons (psd_if (ptd_is (pd_var 1) pd_bl) (psd_one (psd_ret (pd_is (pd_var 0) pd_bl))) psd_nil) (psd_cons (psd_if (ptd_is (pd_var 1) pd_bl) (psd_one (psd_ret (pd_is (pd_var 0) pd_bl))) psd_nil) (psd_cons (psd_if (ptd_tru (pd_isi (by exact rfl) T.b_isinstance (pad_cons (pd_var 1) (pad_cons (pd_blt (v := .ty "int") (by exact rfl) T.b_int (by decide +kernel) rfl) pad_nil)))) (psd_one (psd_ret (pd_and (pd_isi (by exact rfl) T.b_isinstance (pad_cons (pd_var 0) (pad_cons (pd_blt (v := .ty "int") (by exact rfl) T.b_int (by decide +kernel) rfl) pad_nil))) (pd_and (pd_not (pd_isi (by exact rfl) T.b_isinstance (pad_cons (pd_var 0) (pad_cons (pd_blt (v := .ty "bool") (by exact rfl) T.b_bool (by decide +kernel) rfl) pad_nil)))) (pd_one (pd_eq (hu_of hr) (pd_var 0) (pd_var 1))))))) psd_nil) (psd_one (psd_ret (pd_and (pd_isi (by exact rfl) T.b_isinstance (pad_cons (pd_var 0) (pad_cons (pd_blt (v := .ty "str") (by exact rfl) T.b_str (by decide +kernel) rfl) pad_nil))) (pd_one (pd_eq (hu_of hr) (pd_var 0) (pd_var 1)))))))))))⟩
abbrev s__law_is_int : Stmt := top 28
abbrev N__law_is_int : List Str := ["value"]
theorem sc__law_is_int : FnScope N__law_is_int ["value"] (defScope s__law_is_int) := ⟨rfl, rfl, rfl, by decide +kernel, rfl, by decide +kernel, by decide +kernel⟩
noncomputable def m__law_is_int : M Fl := (mRet (mAndV (mCB isiF (mCons (mVar [] 0) (mCons (mK (.raw (.ty "int"))) mNil))) (mNotV (mCB isiF (mCons (mVar [] 0) (mCons (mK (.raw (.ty "bool"))) mNil))))))
theorem ok__law_is_int {f : Addr} {fd : FuncData} (T : Txt P K mg ec) (F : FnP K "_law_is_int" s__law_is_int f fd) : FnOk P w K mg base (L2.CX P w) 1 f fd ["value"] (spD K ec 1 (fnM 1 (m__law_is_int))) :=
  okD (ow := []) F sc__law_is_int (by decide) fun cdv A outer s H E hr => ⟨_, (psd_one (psd_ret (pd_and (pd_isi (by exact rfl) T.b_isinstance (pad_cons (pd_var 0) (pad_cons (pd_blt (v := .ty "int") (by exact rfl) T.b_int (by decide +kernel) rfl) pad_nil))) (pd_one (pd_not (pd_isi (by exact rfl) T.b_isinstance (pad_cons (pd_var 0) (pad_cons (pd_blt (v := .ty "bool") (by exact rfl) T.b_bool (by decide +kernel) rfl) pad_nil))))))))⟩
abbrev s__law_lowest : Stmt := top 30
abbrev N__law_lowest : List Str := ["top", "bottom", "one", "other", "turn"]
theorem sc__law_lowest : FnScope N__law_lowest ["top", "bottom"] (defScope s__law_lowest) := ⟨rfl, rfl, rfl, by decide +kernel, rfl, by decide +kernel, by decide +kernel⟩
noncomputable def m__law_lowest : M Fl := (mSeq (mPar 2 3 (mCons (mVar [] 0) (mCons (mVar [] 1) mNil))) (mSeq (mFor (mRange rng1 (mCons (mK (.d (.int 4000))) mNil)) (aName 4) (mSeq (mIfS (mT (mOp eqF (mVar [] 3) (mK (.d (.int 0))))) (M.ret .bk) mNx) (mPar 2 3 (mCons (mVar [] 3) (mCons (mOp modF (mCB intF (mCons (mVar [] 2) mNil)) (mVar [] 3)) mNil))))) (mRet (mTup (mCons (mOp fdivF (mVar [] 0) (mVar [] 2)) (mCons (mOp fdivF (mVar [] 1) (mVar [] 2)) mNil))))))
theorem ok__law_lowest {f : Addr} {fd : FuncData} (T : Txt P K mg ec) (F : FnP K "_law_lowest" s__law_lowest f fd) : FnOk P w K mg base (L2.CX P w) 1 f fd ["top", "bottom"] (spD K ec 2 (fnM 5 (m__law_lowest))) :=
  okD (ow := []) F sc__law_lowest (by decide) fun cdv A outer s H E hr => ⟨_, (psd_cons (psd_par (i := 2) (j := 3) (show 2 ∉ ([] : List Nat) by decide) (show 3 ∉ ([] : List Nat) by decide) (pad_cons (pd_var 0) (pad_cons (pd_var 1) pad_nil)) (fun h => ps_par rfl sc__law_lowest.nd rfl rfl (by decide) rfl rfl h rfl)) (psd_cons (psd_for ownD rfl (pid_range1 (by exact rfl) T.b_range (pad_cons pd_int pad_nil)) (pgd_name (i := 4) (show 4 ∉ ([] : List Nat) by decide) sc__law_lowest.nd rfl (Or.inl rfl)) (psd_cons (psd_if (ptd_eq (hu_of hr) (pd_var 3) pd_int) (psd_one psd_break) psd_nil) (psd_one (psd_par (i := 2) (j := 3) (show 2 ∉ ([] : List Nat) by decide) (show 3 ∉ ([] : List Nat) by decide) (pad_cons (pd_var 3) (pad_cons (pd_mod (pd_intc (by exact rfl) T.b_int (pad_cons (pd_var 2) pad_nil)) (pd_var 3)) pad_nil)) (fun h => ps_par rfl sc__law_lowest.nd rfl rfl (by decide) rfl rfl h rfl))))) (psd_one (psd_ret (pd_tup (pad_cons (pd_fdiv (pd_var 0) (pd_var 2)) (pad_cons (pd_fdiv (pd_var 1) (pd_var 2)) pad_nil)))))))⟩
abbrev s__law_sum : Stmt := top 31
abbrev N__law_sum : List Str := ["shares", "top", "bottom", "one", "other"]
theorem sc__law_sum : FnScope N__law_sum ["shares"] (defScope s__law_sum) := ⟨rfl, rfl, rfl, by decide +kernel, rfl, by decide +kernel, by decide +kernel⟩
noncomputable def m__law_sum (F__law_lowest : FM) : M Fl := (mSeq (mAsg (aTup 2 (aCons (aName 1) (aCons (aName 2) aNil))) (mTup (mCons (mK (.d (.int 0))) (mCons (mK (.d (.int 1))) mNil)))) (mSeq (mFor (mIter (mVar [] 0)) (aTup 2 (aCons (aName 3) (aCons (aName 4) aNil))) (mPar 1 2 (mCons (mOp addF (mOp mulF (mVar [] 1) (mVar [] 4)) (mOp mulF (mVar [] 3) (mVar [] 2))) (mCons (mOp mulF (mVar [] 2) (mVar [] 4)) mNil)))) (mRet (mIfE (mT (mOp gtF (mVar [] 1) (mK (.d (.int 0))))) (mCall 2 F__law_lowest (mCons (mVar [] 1) (mCons (mVar [] 2) mNil))) (mTup (mCons (mK (.d (.int 0))) (mCons (mK (.d (.int 1))) mNil)))))))
theorem ok__law_sum {f : Addr} {fd : FuncData} (T : Txt P K mg ec) {F__law_lowest : FM} {f__law_lowest : Addr} {d__law_lowest : FuncData} (C__law_lowest : Cal P w K mg base ec "_law_lowest" 1 ["top", "bottom"] F__law_lowest f__law_lowest d__law_lowest) (F : FnP K "_law_sum" s__law_sum f fd) : FnOk P w K mg base (L2.CX P w) 2 f fd ["shares"] (spD K ec 1 (fnM 5 (m__law_sum F__law_lowest))) :=
  okD (ow := []) F sc__law_sum (by decide) fun cdv A outer s H E hr => ⟨_, (psd_cons (psd_asg (pd_tup (pad_cons pd_int (pad_cons pd_int pad_nil))) (pgd_tup (pgsd_cons (pgd_name (i := 1) (show 1 ∉ ([] : List Nat) by decide) sc__law_sum.nd rfl (Or.inl rfl)) (pgsd_cons (pgd_name (i := 2) (show 2 ∉ ([] : List Nat) by decide) sc__law_sum.nd rfl (Or.inl rfl)) pgsd_nil (fun h1 h2 => pgs_cons h1 h2)) (fun h1 h2 => pgs_cons h1 h2)) (fun h => pg_tup rfl h)) (fun h1 h2 => ps_asg h1 h2)) (psd_cons (psd_for ownD rfl (pid_any (pd_var 0)) (pgd_tup (pgsd_cons (pgd_name (i := 3) (show 3 ∉ ([] : List Nat) by decide) sc__law_sum.nd rfl (Or.inl rfl)) (pgsd_cons (pgd_name (i := 4) (show 4 ∉ ([] : List Nat) by decide) sc__law_sum.nd rfl (Or.inl rfl)) pgsd_nil (fun h1 h2 => pgs_cons h1 h2)) (fun h1 h2 => pgs_cons h1 h2)) (fun h => pg_tup rfl h)) (psd_one (psd_par (i := 1) (j := 2) (show 1 ∉ ([] : List Nat) by decide) (show 2 ∉ ([] : List Nat) by decide) (pad_cons (pd_add (pd_mul (pd_var 1) (pd_var 4)) (pd_mul (pd_var 3) (pd_var 2))) (pad_cons (pd_mul (pd_var 2) (pd_var 4)) pad_nil)) (fun h => ps_par rfl sc__law_sum.nd rfl rfl (by decide) rfl rfl h rfl)))) (psd_one (psd_ret (pd_ifE (ptd_gt (pd_var 1) pd_int) (pd_callC C__law_lowest hr (by decide) (by exact rfl) passD (pad_cons (pd_var 1) (pad_cons (pd_var 2) pad_nil))) (pd_tup (pad_cons pd_int (pad_cons pd_int pad_nil))))))))⟩
abbrev s__law_is_share : Stmt := top 32
abbrev N__law_is_share : List Str := ["value", "one"]
theorem sc__law_is_share : FnScope N__law_is_share ["value"] (defScope s__law_is_share) := ⟨rfl, rfl, rfl, by decide +kernel, rfl, by decide +kernel, by decide +kernel⟩
noncomputable def m__law_is_share (F__law_is_int : FM) (F__law_lowest : FM) : M Fl := (mSeq (mIfS (mOr (mNot (mTru (mCB isiF (mCons (mVar [] 0) (mCons (mK (.raw (.ty "tuple"))) mNil))))) (mOr (mT (mOp neF (mCB lenF (mCons (mVar [] 0) mNil)) (mK (.d (.int 2))))) (mT (mOp neF (mFz (mLc (mIter (mVar [] 0)) [1] (aName 1) (mNot (mTru (mCall 1 F__law_is_int (mCons (mVar [] 1) mNil)))) (mVar [] 1))) (mFz (mLst mNil)))))) (mRet (mK (.d (.bool false)))) mNx) (mRet (mAndV (mChain ltF leF (mK (.d (.int 0))) (mOp atF (mVar [] 0) (mK (.d (.int 0)))) (mOp atF (mVar [] 0) (mK (.d (.int 1))))) (mOp eqF (mCall 2 F__law_lowest (mCons (mOp atF (mVar [] 0) (mK (.d (.int 0)))) (mCons (mOp atF (mVar [] 0) (mK (.d (.int 1)))) mNil))) (mVar [] 0)))))
theorem ok__law_is_share {f : Addr} {fd : FuncData} (T : Txt P K mg ec) {F__law_is_int : FM} {f__law_is_int : Addr} {d__law_is_int : FuncData} (C__law_is_int : Cal P w K mg base ec "_law_is_int" 1 ["value"] F__law_is_int f__law_is_int d__law_is_int) {F__law_lowest : FM} {f__law_lowest : Addr} {d__law_lowest : FuncData} (C__law_lowest : Cal P w K mg base ec "_law_lowest" 1 ["top", "bottom"] F__law_lowest f__law_lowest d__law_lowest) (F : FnP K "_law_is_share" s__law_is_share f fd) : FnOk P w K mg base (L2.CX P w) 2 f fd ["value"] (spD K ec 1 (fnM 2 (m__law_is_share F__law_is_int F__law_lowest))) :=
  okD (ow := []) F sc__law_is_share (by decide) fun cdv A outer s H E hr => ⟨_, (psd_cons (psd_if (ptd_w (pwd_or (ptd_not (ptd_tru (pd_isi (by exact rfl) T.b_isinstance (pad_cons (pd_var 0) (pad_cons (pd_blt (v := .ty "tuple") (by exact rfl) T.b_tuple (by decide +kernel) rfl) pad_nil))))) (pwd_or (ptd_ne (hu_of hr) (pd_len (by exact rfl) T.b_len (pad_cons (pd_var 0) pad_nil)) pd_int) (pwd_or1 (ptd_ne (hu_of hr) (pd_fz (pfd_lc rfl sc__law_is_share.nd (g := (gName 1)) (tt := (tNot (fun σ H Q => (tCall (spD K ec 1 F__law_is_int) [] L2.E0 (tCons (tVar 1) tNil)) σ H fun x H' => ∃ k, TruV K x H' k ∧ Q k H'))) (te := (tVar 1)) (pid_any (pd_var 0)) (own := [("one", 1)]) (blk_of (by kernel_rfl)) (fun _ _ _ _ _ => (pgd_name (i := 1) (show 1 ∉ ([] : List Nat) by decide) sc__law_is_share.nd rfl (Or.inl rfl))) (fun _ _ _ _ _ => (ptsd_one (ptd_not (ptd_tru (pd_callC C__law_is_int hr (by decide) (by exact rfl) L2.passL (pad_cons (pd_var 1) pad_nil)))))) (fun _ _ _ _ _ => (pd_var 1)) (show ∀ i ∈ ([1] : List Nat), i ∉ ([] : List Nat) by decide) (show ∀ i ∈ ([1] : List Nat), i ∈ ([1] : List Nat) by decide))) (pd_fz (pf_lst pad_nil))))))) (psd_one (psd_ret pd_bl)) psd_nil) (psd_one (psd_ret (pd_and (pd_chain op_ltA op_le opd_lt opd_cmp pd_int (pd_at (pd_var 0) pd_int) (pd_at (pd_var 0) pd_int) (fun h1 h2 h3 => pe_chain op_ltA op_le h1 h2 h3)) (pd_one (pd_eq (hu_of hr) (pd_callC C__law_lowest hr (by decide) (by exact rfl) passD (pad_cons (pd_at (pd_var 0) pd_int) (pad_cons (pd_at (pd_var 0) pd_int) pad_nil))) (pd_var 0)))))))⟩
end
end K05
end
section
set_option maxRecDepth 100000
set_option maxHeartbeats 4000000
/-! # _law_any: a number of the deal -/
namespace DL
open PySem PySem.Spec PyProof.Rows L2
/-! the reckoning -/
def popZ : List Int → Nat → List Int
  | cs, 0 => cs
  | cs, n + 1 => if cs.getLast? = some 0 then popZ cs.dropLast n else cs
def anyD (dl : Deal) (b : Int) : Int × Deal :=
  let cs := popZ dl.cells dl.cells.length
  match cs.getLast? with
  | some rest => (rest % b, ⟨cs.dropLast ++ [rest / b], dl.blend⟩)
  | none => ((dl.blend * 40693 + 71) % 2147483647 / 64 % b, ⟨cs, (dl.blend * 40693 + 71) % 2147483647⟩)
def fineD (dl : Deal) : Prop := 0 ≤ dl.blend ∧ dl.blend < 2147483647
instance (dl : Deal) : Decidable (fineD dl) := by unfold fineD; exact inferInstance
def anyFM : FM := fun xs t => match xs, t with
  | [.deal, .d (.int b)], some dl => if 0 < b ∧ b.natAbs.log2 < 9000 ∧ fineD dl then .ok (.d (.int (anyD dl b).1)) (some (anyD dl b).2) else .st
  | _, _ => .st
theorem anyD_range (dl : Deal) {b : Int} (hb : 0 < b) : 0 ≤ (anyD dl b).1 ∧ (anyD dl b).1 < b := by
  unfold anyD
  dsimp only
  split
  · exact ⟨Int.emod_nonneg _ (by omega), Int.emod_lt_of_pos _ hb⟩
  · exact ⟨Int.emod_nonneg _ (by omega), Int.emod_lt_of_pos _ hb⟩
theorem anyD_fine {dl : Deal} {b : Int} (h : fineD dl) : fineD (anyD dl b).2 := by
  unfold anyD
  dsimp only
  split
  · exact h
  · exact ⟨Int.emod_nonneg _ (by omega), Int.emod_lt_of_pos _ (by omega)⟩
/-! the deal in the heap -/
section
variable {G : Hp} {B : Bs} {H : Hp} {da l : Addr} {dl : Deal}
theorem Wd.dealL (w : Wd G B H (some dl)) (hd : B.dl = some (da, l)) {cs : List Int} (hz : cs.length ≤ 1000) : Wd G B (upd H l (.lst (cs.map V.int))) (some ⟨cs, dl.blend⟩) := by
  have d := w.deal
  rw [hd] at d
  obtain ⟨h1, h2, h3, h4, h5, h6, h7, h8⟩ := d
  refine ⟨fun a o e => ?_, fun a o e => ?_, ?_, ⟨tabs_chg w.tb.tabs h2, w.tb.nB, w.tb.nG⟩⟩
  · rw [upd_ne (ne_of_none e h4)]; exact w.sub _ _ e
  · rw [upd_ne (ne_of_none e h6)]; exact w.fgn _ _ e
  · rw [hd]
    exact ⟨by rw [upd_ne h7]; exact h1, upd_same, h3, h4, h5, h6, h7, hz⟩
theorem Wd.dealB (w : Wd G B H (some dl)) (hd : B.dl = some (da, l)) (bl : Int) : Wd G B (upd H da (.lst [.ref l, .int bl])) (some ⟨dl.cells, bl⟩) := by
  have d := w.deal
  rw [hd] at d
  obtain ⟨h1, h2, h3, h4, h5, h6, h7, h8⟩ := d
  refine ⟨fun a o e => ?_, fun a o e => ?_, ?_, ⟨tabs_chg w.tb.tabs h1, w.tb.nB, w.tb.nG⟩⟩
  · rw [upd_ne (ne_of_none e h3)]; exact w.sub _ _ e
  · rw [upd_ne (ne_of_none e h5)]; exact w.fgn _ _ e
  · rw [hd]
    exact ⟨upd_same, by rw [upd_ne (Ne.symm h7)]; exact h2, h3, h4, h5, h6, h7, h8⟩
theorem dealAt (w : Wd G B H (some dl)) (hd : B.dl = some (da, l)) : H da = some (.lst [.ref l, .int dl.blend]) ∧ H l = some (.lst (dl.cells.map V.int)) ∧ da ≠ l ∧ dl.cells.length ≤ 1000 := by
  have d := w.deal
  rw [hd] at d
  obtain ⟨h1, h2, h3, h4, h5, h6, h7, h8⟩ := d
  exact ⟨h1, h2, h7, h8⟩
end
theorem canLay_ints : ∀ cs : List Int, PyData.canLayAll0 (cs.map PyData.int) = true
  | [] => rfl
  | c :: cs => by
    show (PyData.canLay0 (.int c) && PyData.canLayAll0 (cs.map PyData.int)) = true
    rw [canLay_ints cs] <;> rfl
theorem depth_ints : ∀ cs : List Int, PyData.depthAll (cs.map PyData.int) = 0
  | [] => rfl
  | c :: cs => by
    show max (PyData.depth (.int c)) (PyData.depthAll (cs.map PyData.int)) = 0
    rw [depth_ints cs] <;> rfl
theorem shaped_ints (cs : List Int) : SeqAt.shaped (.list (cs.map PyData.int)) = true := by
  unfold SeqAt.shaped
  rw [Bool.and_eq_true]
  refine ⟨canLay_ints cs, decide_eq_true ?_⟩
  show PyData.depthAll (cs.map PyData.int) + 1 ≤ 64
  rw [depth_ints]
  omega
theorem eqv_nil (cs : List Int) : PyData.eqv (.list (cs.map PyData.int)) (.list []) = cs.isEmpty := by
  cases cs <;> rfl
/-! the readings -/
section
variable (K : PySem.W.Frag)
abbrev tD (i : Int) : TE := tOp (rAtA K) (tVar 0) (tC (.int i))
abbrev tNe : TT := tTest (tOp (rNeA K) (tD K 0) (tLst tNil))
abbrev tLast0 : TT := tTest (tOp (rEqA K) (tOp (rAtA K) (tD K 0) (tUn (rU fun i => .int (-i)) (tC (.int 1)))) (tC (.int 0)))
abbrev tPop0 : TE := tBM0 K "list" rPop (tD K 0)
def t_any : TS := tSeq (tWhile (tAnd (tNe K) (tLast0 K)) (tDrop (tPop0 K)))
  (tSeq (tIfS (tNe K) (tSeq (tAsg (tCB rInt (tCons (tPop0 K) tNil)) (gName 2))
      (tSeq (tDrop (tBM K "list" rAppend (tD K 0) (tCons (tOp (rI CDivW fun i j => .int (i / j)) (tVar 2) (tVar 1)) tNil)))
        (tRet (tOp (rI (fun _ j => 0 < j) fun i j => .int (i % j)) (tVar 2) (tVar 1))))) tNext)
    (tSeq (tAsg (tOp (rI (fun _ j => 0 < j) fun i j => .int (i % j)) (tCB rInt (tCons (tOp (rAddA K) (tOp (rMulA K) (tD K 1) (tC (.int 40693))) (tC (.int 71))) tNil)) (tC (.int 2147483647))) (gSub (tVar 0) (tC (.int 1)) rSetL))
      (tRet (tOp (rI (fun _ j => 0 < j) fun i j => .int (i % j)) (tCB rInt (tCons (tOp (rI CDivW fun i j => .int (i / j)) (tD K 1) (tC (.int 64))) tNil)) (tVar 1)))))
end
section
variable {K : PySem.W.Frag} {G : Hp} {B : Bs} {H : Hp} {da l : Addr} {dl : Deal} {σ : L2.St}
theorem rd_d0 {Q : VK} (w : Wd G B H (some dl)) (hd : B.dl = some (da, l)) (hs : σ[0]? = some (some (.ref da))) (q : Q (.ref l) H) : tD K 0 σ H Q := by
  obtain ⟨h1, _⟩ := dealAt w hd
  exact ⟨.ref da, hs, .inl ⟨da, [.ref l, .int dl.blend], 0, .ref l, rfl, rfl, SqL.of h1, rfl, q⟩⟩
theorem rd_d1 {Q : VK} (w : Wd G B H (some dl)) (hd : B.dl = some (da, l)) (hs : σ[0]? = some (some (.ref da))) (q : Q (.int dl.blend) H) : tD K 1 σ H Q := by
  obtain ⟨h1, _⟩ := dealAt w hd
  exact ⟨.ref da, hs, .inl ⟨da, [.ref l, .int dl.blend], 1, .int dl.blend, rfl, rfl, SqL.of h1, rfl, q⟩⟩
theorem rd_ne {Q : Bool → Hp → Prop} (w : Wd G B H (some dl)) (hd : B.dl = some (da, l)) (hs : σ[0]? = some (some (.ref da))) (q : ∀ H', Wd G B H' (some dl) → Q (!dl.cells.isEmpty) H') : tNe K σ H Q := by
  refine rd_d0 w hd hs ⟨Nat.zero_le _, fun p np => ?_⟩
  have w' := w.lay (o := .lst []) np
  obtain ⟨h1, h2, _⟩ := dealAt w' hd
  refine .inr ⟨.list (dl.cells.map PyData.int), .list [], .lst (SqL.of h2) ((dpa_of_ints (H := upd H p (.lst [])) dl.cells).dp), .lst (SqL.of upd_same) .nil, shaped_ints _, by decide, _, rfl, ?_⟩
  rw [eqv_nil]
  exact q _ w'
theorem rd_last {Q : Bool → Hp → Prop} {c : Int} (w : Wd G B H (some dl)) (hd : B.dl = some (da, l)) (hs : σ[0]? = some (some (.ref da))) (hc : dl.cells.getLast? = some c) (q : Q (decide (c = 0)) H) : tLast0 K σ H Q := by
  refine rd_d0 w hd hs ?_
  obtain ⟨h1, h2, _⟩ := dealAt w hd
  have e : dl.cells.map V.int = (dl.cells.map V.int).dropLast ++ [.int c] := by
    have hne : dl.cells ≠ [] := fun z => by rw [z] at hc; cases hc
    have e1 : dl.cells = dl.cells.dropLast ++ [c] := by
      have := List.dropLast_concat_getLast hne
      rw [List.getLast?_eq_some_getLast hne] at hc
      rw [← Option.some.inj hc]
      exact this.symm
    rw [e1]
    simp
  refine ⟨1, rfl, .inl ⟨l, dl.cells.map V.int, -1, .int c, rfl, rfl, SqL.of h2, by rw [e]; exact atI_last _ _, ?_⟩⟩
  refine .inl ⟨rfl, _, rfl, ?_⟩
  have e2 : decide (V.int c = V.int 0) = decide (c = 0) := by
    by_cases z : c = 0
    · subst z; rfl
    · rw [decide_eq_false z, decide_eq_false (fun y => z (V.int.inj y))]
  rw [e2]
  exact q
theorem rd_pop {Q : VK} {c : Int} (w : Wd G B H (some dl)) (hd : B.dl = some (da, l)) (hs : σ[0]? = some (some (.ref da))) (hc : dl.cells.getLast? = some c) (q : ∀ H', Wd G B H' (some ⟨dl.cells.dropLast, dl.blend⟩) → Q (.int c) H') : tPop0 K σ H Q := by
  refine rd_d0 w hd hs ?_
  obtain ⟨h1, h2, h3, h4⟩ := dealAt w hd
  refine ⟨.inl ⟨rfl, _, SqL.of h2⟩, l, dl.cells.map V.int, .int c, rfl, rfl, h2, ?_, ?_⟩
  · rw [← List.getLast?_eq_getElem?, List.getLast?_map, hc]
    rfl
  · rw [← List.map_dropLast]
    exact q _ (w.dealL hd (by rw [List.length_dropLast]; omega))
end
end DL
end
section
set_option maxRecDepth 100000
set_option maxHeartbeats 4000000
namespace DL
open PySem PySem.Spec PyProof.Rows L2
theorem popZ_stay {cs : List Int} (h : cs.getLast? ≠ some 0) : ∀ n, popZ cs n = cs
  | 0 => rfl
  | n + 1 => by unfold popZ; rw [if_neg h]
theorem popZ_step {cs : List Int} (h : cs.getLast? = some 0) : popZ cs cs.length = popZ cs.dropLast cs.dropLast.length := by
  have hn : cs ≠ [] := fun z => by rw [z] at h; cases h
  have hl : cs.length = cs.dropLast.length + 1 := by
    rw [List.length_dropLast]
    have := List.length_pos_iff.mpr hn
    omega
  rw [hl]
  conv => lhs; unfold popZ
  rw [if_pos h]
theorem popZ_len : ∀ (n : Nat) (cs : List Int), (popZ cs n).length ≤ cs.length
  | 0, cs => Nat.le_refl _
  | n + 1, cs => by
    unfold popZ
    split
    · have h := popZ_len n cs.dropLast
      rw [List.length_dropLast] at h
      omega
    · exact Nat.le_refl _
section
variable {K : PySem.W.Frag} {ec : Ec}
theorem iteT {c : Prop} [Decidable c] {a b : Prop} (hc : c) (h : a) : if c then a else b := by rw [if_pos hc]; exact h
theorem iteF {c : Prop} [Decidable c] {a b : Prop} (hc : ¬ c) (h : b) : if c then a else b := by rw [if_neg hc]; exact h
theorem log2_64 : ((64 : Int).natAbs.log2 < 9000) := by decide
theorem fine_log {b : Int} (h0 : 0 ≤ b) (h1 : b < 2147483647) : b.natAbs.log2 < 32 := by
  have : b.natAbs < 2 ^ 32 := by omega
  by_cases z : b.natAbs = 0
  · rw [z]; decide
  · exact (Nat.log2_lt z).mpr this
theorem anyFM_of {xs : List Sl} {t : Option Deal} (h : anyFM xs t ≠ .st) : ∃ (b : Int) (dl : Deal), xs = [.deal, .d (.int b)] ∧ t = some dl ∧ 0 < b ∧ b.natAbs.log2 < 9000 ∧ fineD dl := by
  unfold anyFM at h
  split at h
  · split at h
    · rename_i hc
      exact ⟨_, _, rfl, rfl, hc⟩
    · exact absurd rfl h
  · exact absurd rfl h
theorem pure_any {vs : List V} {H : Hp} {Q : VK} {E : XK} (h : spD K ec 2 anyFM vs H Q E) : t_any K { nx := fun _ H' => Q .non H', rt := Q } (L2.start ["deal", "bound", "rest"] vs) H := by
  obtain ⟨G, B, xs, t, w, tb, sv, hn, p⟩ := h
  by_cases hst : anyFM xs t = .st
  · rw [hst] at p; exact p.elim
  obtain ⟨b, dl, rfl, rfl, hb, hb2, hf⟩ := anyFM_of hst
  rw [show anyFM [.deal, .d (.int b)] (some dl) = .ok (.d (.int (anyD dl b).1)) (some (anyD dl b).2) from if_pos ⟨hb, hb2, hf⟩] at p
  match vs, sv with
  | [v1, v2], ⟨s1, s2, _⟩ =>
  obtain ⟨da, l, hd, rfl⟩ := s1
  have e2 : v2 = .int b := by cases s2; rfl
  subst e2
  let σ0 : L2.St := [some (.ref da), some (.int b), none]
  show t_any K _ σ0 H
  have p : ∀ (v : V) (B' : Bs) (H' : Hp), B.le B' → Wd G B' H' (some (anyD dl b).2) → Sv K B' v (.d (.int (anyD dl b).1)) → Q v H' := p
  refine ⟨fun m σ' H' => σ' = σ0 ∧ ∃ cs, m = cs.length ∧ Wd G B H' (some ⟨cs, dl.blend⟩) ∧ popZ cs cs.length = popZ dl.cells dl.cells.length, ⟨_, rfl, dl.cells, rfl, w, rfl⟩, ?_⟩
  rintro m σ' H' ⟨rfl, cs, rfl, w1, hz⟩
  -- behind the loop
  have fin : ∀ H2, Wd G B H2 (some ⟨cs, dl.blend⟩) → cs.getLast? ≠ some 0 → (tSeq (tIfS (tNe K) (tSeq (tAsg (tCB rInt (tCons (tPop0 K) tNil)) (gName 2))
      (tSeq (tDrop (tBM K "list" rAppend (tD K 0) (tCons (tOp (rI CDivW fun i j => .int (i / j)) (tVar 2) (tVar 1)) tNil)))
        (tRet (tOp (rI (fun _ j => 0 < j) fun i j => .int (i % j)) (tVar 2) (tVar 1))))) tNext)
    (tSeq (tAsg (tOp (rI (fun _ j => 0 < j) fun i j => .int (i % j)) (tCB rInt (tCons (tOp (rAddA K) (tOp (rMulA K) (tD K 1) (tC (.int 40693))) (tC (.int 71))) tNil)) (tC (.int 2147483647))) (gSub (tVar 0) (tC (.int 1)) rSetL))
      (tRet (tOp (rI (fun _ j => 0 < j) fun i j => .int (i % j)) (tCB rInt (tCons (tOp (rI CDivW fun i j => .int (i / j)) (tD K 1) (tC (.int 64))) tNil)) (tVar 1))))) { nx := fun _ H' => Q .non H', rt := Q } σ0 H2 := by
    intro H2 w2 hl
    have ez : popZ dl.cells dl.cells.length = cs := by rw [← hz, popZ_stay hl]
    have hlen : cs.length ≤ 1000 := by
      obtain ⟨da', l', _⟩ : ∃ da' l', B.dl = some (da', l') := ⟨da, l, hd⟩
      exact (dealAt w2 hd).2.2.2
    refine rd_ne w2 hd rfl fun H3 w3 => ?_
    cases cs with
    | nil =>
      refine iteF (by simp) ?_
      -- a new blend
      refine rd_d1 w3 hd rfl ?_
      have hlog : dl.blend.natAbs.log2 + (40693 : Int).natAbs.log2 < 1000000 := by
        have h1 := fine_log hf.1 hf.2
        have h2 : (40693 : Int).natAbs.log2 < 32 := by decide
        omega
      refine .inl ⟨dl.blend, 40693, rfl, rfl, hlog, .inl (.inl ⟨_, 71, rfl, rfl, .inl ⟨_, rfl, _, 2147483647, rfl, rfl, (by decide : (0 : Int) < 2147483647), ?_⟩⟩)⟩
      obtain ⟨h1, _⟩ := dealAt w3 hd
      refine ⟨.ref da, rfl, da, [.ref l, .int dl.blend], 1, 1, rfl, rfl, h1, rfl, ?_⟩
      have w4 := w3.dealB hd ((dl.blend * 40693 + 71) % 2147483647)
      refine rd_d1 w4 hd rfl ⟨_, 64, rfl, rfl, ⟨by decide, log2_64⟩, .inl ⟨_, rfl, .int b, rfl, _, b, rfl, rfl, hb, ?_⟩⟩
      have ea : anyD dl b = ((dl.blend * 40693 + 71) % 2147483647 / 64 % b, ⟨[], (dl.blend * 40693 + 71) % 2147483647⟩) := by
        unfold anyD
        dsimp only
        rw [ez]
        rfl
      rw [ea] at p
      exact p _ B _ (Bs.le.refl B) w4 (.int _)
    | cons c0 cr =>
      refine iteT (by simp) ?_
      obtain ⟨c, hcl⟩ : ∃ c, (c0 :: cr).getLast? = some c := ⟨_, List.getLast?_eq_some_getLast (List.cons_ne_nil _ _)⟩
      refine rd_pop (c := c) w3 hd rfl hcl fun H4 w4 => .inl ⟨c, rfl, ?_⟩
      have hs : (σ0.set 2 (some (.int c)))[0]? = some (some (.ref da)) := rfl
      refine rd_d0 w4 hd hs ?_
      obtain ⟨h1, h2, _, h4⟩ := dealAt w4 hd
      refine ⟨.inl ⟨rfl, _, SqL.of h2⟩, .int c, rfl, .int b, rfl, c, b, rfl, rfl, ⟨hb, hb2⟩, l, _, .int (c / b), rfl, rfl, h2, ?_, ?_⟩
      · rw [List.length_map]
        exact small1000 h4
      · have em : ((c0 :: cr).dropLast.map V.int) ++ [V.int (c / b)] = ((c0 :: cr).dropLast ++ [c / b]).map V.int := by simp
        rw [em]
        have w5 := w4.dealL hd (cs := (c0 :: cr).dropLast ++ [c / b]) (by
          rw [List.length_append, List.length_dropLast]
          have := hlen
          simp at this ⊢
          omega)
        refine ⟨.int c, rfl, .int b, rfl, c, b, rfl, rfl, hb, ?_⟩
        have ea : anyD dl b = (c % b, ⟨(c0 :: cr).dropLast ++ [c / b], dl.blend⟩) := by
          unfold anyD
          dsimp only
          rw [ez, hcl]
        rw [ea] at p
        exact p _ B _ (Bs.le.refl B) w5 (.int _)
  refine rd_ne w1 hd rfl fun H2 w2 => ?_
  cases hcs : cs.getLast? with
  | none =>
    have e : cs = [] := List.getLast?_eq_none_iff.mp hcs
    rw [show (!cs.isEmpty) = false by rw [e]; rfl]
    refine iteF Bool.false_ne_true (iteF Bool.false_ne_true ?_)
    exact fin H2 w2 (by rw [hcs]; intro z; cases z)
  | some c =>
    have e : cs ≠ [] := fun z => by rw [z] at hcs; cases hcs
    rw [show (!cs.isEmpty) = true by cases cs with
      | nil => exact absurd rfl e
      | cons _ _ => rfl]
    refine iteT rfl ?_
    refine rd_last w2 hd rfl hcs ?_
    by_cases hc0 : c = 0
    · subst hc0
      refine iteT (by decide) ?_
      refine ⟨fun σ' H' => σ' = σ0 ∧ Wd G B H' (some ⟨cs.dropLast, dl.blend⟩), ?_, ?_⟩
      · rintro σ' H' ⟨rfl, w3⟩
        refine ⟨cs.dropLast.length, ?_, rfl, cs.dropLast, rfl, w3, by rw [← popZ_step hcs]; exact hz⟩
        rw [List.length_dropLast]
        have := List.length_pos_iff.mpr e
        omega
      · exact rd_pop w2 hd rfl hcs fun H3 w3 => ⟨rfl, w3⟩
    · rw [if_neg (by rw [decide_eq_false hc0]; exact Bool.false_ne_true)]
      exact fin H2 w2 (by rw [hcs]; intro z; exact hc0 (Option.some.inj z))
end
end DL
end
section
set_option maxRecDepth 100000
set_option maxHeartbeats 4000000
namespace K05
open PySem PySem.Spec PyProof.Rows L2 DL ErrX
section
variable {P : Program} {w : World} {K : PySem.W.Frag} {mg : Str → Option Value} {base : Heap} {ec : Ec}

abbrev s__law_draw : Stmt := top 23
abbrev N__law_draw : List Str := ["script", "salt", "cells", "blend", "cell"]
theorem sc__law_draw : FnScope N__law_draw ["script", "salt"] (defScope s__law_draw) := ⟨rfl, rfl, rfl, by decide +kernel, rfl, by decide +kernel, by decide +kernel⟩
noncomputable def m__law_draw : M Fl := (mSeq (mAsg (aName 2) (mFz (mLc (mIter (mSl (mVar [] 0) mNoP (mPart (mK (.d (.int 48)))))) [4] (aName 4) (M.ret true) (mCB absF (mCons (mCB intF (mCons (mVar [] 4) mNil)) mNil))))) (mSeq (mAsg (aName 3) (mOp addF (mK (.d (.int 7919))) (mOp mulF (mK (.d (.int 104729))) (mVar [] 1)))) (mSeq (mFor (mIter (mVar [] 2)) (aName 4) (mAsg (aName 3) (mOp modF (mCB intF (mCons (mOp addF (mOp addF (mOp mulF (mVar [] 3) (mK (.d (.int 48271)))) (mOp modF (mVar [] 4) (mK (.d (.int 2147483549))))) (mK (.d (.int 11)))) mNil)) (mK (.d (.int 2147483647)))))) (mRet (mFz (mLst (mCons (mFz (mRev (mFz (mLc (mIter (mVar [] 2)) [4] (aName 4) (mT (mOp geF (mVar [] 4) (mOp powF (mK (.d (.int 10))) (mK (.d (.int 18)))))) (mVar [] 4))))) (mCons (mVar [] 3) mNil))))))))
theorem ok__law_draw {f : Addr} {fd : FuncData} (T : Txt P K mg ec) (F : FnP K "_law_draw" s__law_draw f fd) : FnOk P w K mg base (L2.CX P w) 1 f fd ["script", "salt"] (spD K ec 2 (fnM 5 (m__law_draw))) :=
  okD (ow := []) F sc__law_draw (by decide) fun cdv A outer s H E hr => ⟨_, (psd_cons (psd_setLc (i := 2) (show 2 ∉ ([] : List Nat) by decide) rfl sc__law_draw.nd rfl rfl rfl (g := (gName 4)) (tt := tYes) (te := (tCB rAbs (tCons (tCB rInt (tCons (tVar 4) tNil)) tNil))) (pid_any (pd_sl (pd_var 0) pod_none (pod_some pd_int))) (own := [("cell", 4)]) (blk_of (by kernel_rfl)) (fun _ _ _ _ _ => (pgd_name (i := 4) (show 4 ∉ ([] : List Nat) by decide) sc__law_draw.nd rfl (Or.inl rfl))) (fun _ _ _ _ _ => ptsd_nil) (fun _ _ _ _ _ => (pd_abs (by exact rfl) T.b_abs (pad_cons (pd_intc (by exact rfl) T.b_int (pad_cons (pd_var 4) pad_nil)) pad_nil))) (show ∀ i ∈ ([4] : List Nat), i ∉ ([] : List Nat) by decide) (show ∀ i ∈ ([4] : List Nat), i ∈ ([4] : List Nat) by decide)) (psd_cons (psd_set (i := 3) (show 3 ∉ ([] : List Nat) by decide) (pd_add pd_int (pd_mul pd_int (pd_var 1))) (fun h => ps_set sc__law_draw.nd rfl (Or.inl rfl) h)) (psd_cons (psd_for ownD rfl (pid_any (pd_var 2)) (pgd_name (i := 4) (show 4 ∉ ([] : List Nat) by decide) sc__law_draw.nd rfl (Or.inl rfl)) (psd_one (psd_set (i := 3) (show 3 ∉ ([] : List Nat) by decide) (pd_mod (pd_intc (by exact rfl) T.b_int (pad_cons (pd_add (pd_add (pd_mul (pd_var 3) pd_int) (pd_mod (pd_var 4) pd_int)) pd_int) pad_nil)) pd_int) (fun h => ps_set sc__law_draw.nd rfl (Or.inl rfl) h)))) (psd_one (psd_ret (pd_fz (pf_lst (pad_cons (pd_fz (pf_rev (pd_fz (pfd_lc rfl sc__law_draw.nd (g := (gName 4)) (tt := (tTest (tOp (rI0 fun i j => .bl (decide (j ≤ i))) (tVar 4) (tOp (rI CPow fun i j => .int (i ^ j.toNat)) (tC (.int 10)) (tC (.int 18)))))) (te := (tVar 4)) (pid_any (pd_var 2)) (own := [("cell", 4)]) (blk_of (by kernel_rfl)) (fun _ _ _ _ _ => (pgd_name (i := 4) (show 4 ∉ ([] : List Nat) by decide) sc__law_draw.nd rfl (Or.inl rfl))) (fun _ _ _ _ _ => (ptsd_one (ptd_ge (pd_var 4) (pd_pow pd_int pd_int)))) (fun _ _ _ _ _ => (pd_var 4)) (show ∀ i ∈ ([4] : List Nat), i ∉ ([] : List Nat) by decide) (show ∀ i ∈ ([4] : List Nat), i ∈ ([4] : List Nat) by decide))))) (pad_cons (pd_var 3) pad_nil)))))))))⟩
abbrev s__law_any : Stmt := top 24
abbrev N__law_any : List Str := ["deal", "bound", "rest"]
theorem sc__law_any : FnScope N__law_any ["deal", "bound"] (defScope s__law_any) := ⟨rfl, rfl, rfl, by decide +kernel, rfl, by decide +kernel, by decide +kernel⟩
theorem ok__law_any {f : Addr} {fd : FuncData} (T : Txt P K mg ec) (F : FnP K "_law_any" s__law_any f fd) : FnOk P w K mg base (L2.CX P w) 1 f fd ["deal", "bound"] (spD K ec 2 anyFM) := by
  refine F.ok sc__law_any (fun vs H Q E h => spD_len h) fun cdv A outer s H vs Q E hr h => ⟨t_any K, ?_, pure_any h⟩
  exact pss_cons (ps_while ownD (ptd_w (c := ⟨ec, [], E⟩) (pwd_and (ptd_ne (hu_of hr) (pd_at (pd_var 0) pd_int) (pd_fz (pf_lst pad_nil))) (pwd_and1 (ptd_eq (hu_of hr) (pd_at (pd_at (pd_var 0) pd_int) pd_negc) pd_int)))).p
      (pss_one (ps_expr (pe_bm0 PySem.F.plainAttrs_list PySem.F.slot_list_pop PySem.F.type_list_pop mt_pop (pd_at (c := ⟨ec, [], E⟩) (pd_var 0) pd_int).p))))
    (pss_cons (ps_if (ptd_ne (c := ⟨ec, [], E⟩) (hu_of hr) (pd_at (pd_var 0) pd_int) (pd_fz (pf_lst pad_nil))).p
        (pss_cons (ps_set (i := 2) sc__law_any.nd rfl (Or.inl rfl) (pe_callTy call_int1 (by exact rfl) T.b_int (by decide +kernel) (pa_cons (pe_bm0 PySem.F.plainAttrs_list PySem.F.slot_list_pop PySem.F.type_list_pop mt_pop (pd_at (c := ⟨ec, [], E⟩) (pd_var 0) pd_int).p) pa_nil) (by decide) (by decide)))
          (pss_cons (ps_expr (pe_bm PySem.F.plainAttrs_list PySem.F.slot_list_append PySem.F.type_list_append mt_append (pd_at (c := ⟨ec, [], E⟩) (pd_var 0) pd_int).p (pa_cons (pd_fdiv (c := ⟨ec, [], E⟩) (pd_var 2) (pd_var 1)).p pa_nil)))
            (pss_one (ps_ret (pd_mod (c := ⟨ec, [], E⟩) (pd_var 2) (pd_var 1)).p)))) pss_nil)
      (pss_cons (ps_asg (pd_mod (c := ⟨ec, [], E⟩) (pd_intc (by exact rfl) T.b_int (pad_cons (pd_add (pd_mul (pd_at (pd_var 0) pd_int) pd_int) pd_int) pad_nil)) pd_int).p (pg_sub (pd_var (c := ⟨ec, [], E⟩) 0).p (pd_int (c := ⟨ec, [], E⟩)).p set_list))
        (pss_one (ps_ret (pd_mod (c := ⟨ec, [], E⟩) (pd_intc (by exact rfl) T.b_int (pad_cons (pd_fdiv (pd_at (pd_var 0) pd_int) pd_int) pad_nil)) (pd_var 1)).p))))
end
end K05
end
section
set_option maxRecDepth 100000
set_option maxHeartbeats 4000000
/-! # Shares: what each def computes, in plain Lean -/
namespace K05
open PySem PySem.Spec DL
abbrev Pr := Int × Int
def low (a b : Int) : Pr := (a / (Int.gcd a b : Int), b / (Int.gcd a b : Int))
def dP (p : Pr) : PyData := .tuple [.int p.1, .int p.2]
def isIntD : PyData → Bool
  | .int _ => true
  | _ => false
def isSeqD : PyData → Bool
  | .list _ => true
  | .tuple _ => true
  | _ => false
def okP (p : Pr) : Prop := 0 < p.1 ∧ p.1 ≤ p.2 ∧ Int.gcd p.1 p.2 = 1
instance (p : Pr) : Decidable (okP p) := by unfold okP; exact inferInstance
/-- the share that a value is -/
def unS : PyData → Option Pr
  | .tuple [.int a, .int b] => if okP (a, b) then some (a, b) else none
  | _ => none
def shareD (v : PyData) : Bool := (unS v).isSome
def unL : List PyData → Option (List Pr)
  | [] => some []
  | v :: vs => match unS v, unL vs with
    | some p, some ps => some (p :: ps)
    | _, _ => none
def seqD : PyData → Option (List PyData)
  | .list xs => some xs
  | .tuple xs => some xs
  | _ => none
def add1 (s p : Pr) : Pr := low (s.1 * p.2 + p.1 * s.2) (s.2 * p.2)
def sumL (ps : List Pr) : Pr := ps.foldl add1 (0, 1)
def prodB : List Pr → Int
  | [] => 1
  | p :: ps => p.2 * prodB ps
def fits (b : Int) : Prop := b.natAbs < 2 ^ 1500
instance (b : Int) : Decidable (fits b) := by unfold fits; exact inferInstance
abbrev exQ (n : Int) (t : Option Deal) : Res := .ex "InvalidQuestion" (.int n) t
def F_is_integer : FM := fun xs t => match xs with
  | [.d v] => .ok (.d (.bool (isIntD v))) t
  | _ => .st
def F_is_sequence : FM := fun xs t => match xs with
  | [.d v] => .ok (.d (.bool (isSeqD v))) t
  | _ => .st
def F_great_divisor : FM := fun xs t => match xs with
  | [.d (.int a), .d (.int b)] => if 0 ≤ a ∧ 0 ≤ b then .ok (.d (.int (Int.gcd a b))) t else .st
  | _ => .st
def F_is_share : FM := fun xs t => match xs with
  | [.d v] => .ok (.d (.bool (shareD v))) t
  | _ => .st
def F_checked_share : FM := fun xs t => match xs with
  | [.d v, .d (.int n)] => if shareD v then .ok (.d .none) t else exQ n t
  | _ => .st
def F_lowest : FM := fun xs t => match xs with
  | [.d (.int a), .d (.int b)] => if 0 ≤ a ∧ 0 < b ∧ b.natAbs.log2 < 9000 then .ok (.d (dP (low a b))) t else .st
  | _ => .st
def F_parts_of : FM := fun xs t => match xs with
  | [.d v, .d m] => (match unS v with
    | none => exQ 0 t
    | some p => (match m with
      | .int m => if 1 ≤ m ∧ m ≤ 1000 then (if fits p.2 then .ok (.d (.tuple (List.replicate m.toNat (dP (low p.1 (p.2 * m)))))) t else .st) else exQ 1 t
      | _ => exQ 1 t))
  | _ => .st
def F_sum_of : FM := fun xs t => match xs with
  | [.d v] => (match seqD v with
    | some vs => (match unL vs with
      | some ps => if fits (prodB ps) ∧ ps.length ≤ 1000 then .ok (.d (dP (sumL ps))) t else .st
      | none => .st)
    | none => .st)
  | _ => .st
def chkD (v : PyData) : Option (Option (List Pr)) := match seqD v with
  | some vs => if 1 ≤ vs.length ∧ vs.length ≤ 1000 then some (unL vs) else some none
  | none => some none
def F_joined_shares : FM := fun xs t => match xs with
  | [.d v] => (match seqD v with
    | some vs => if 1 ≤ vs.length ∧ vs.length ≤ 1000 then (match unL vs with
        | some ps => if fits (prodB ps) then (if (sumL ps).2 < (sumL ps).1 then .ex "Refused" (.int 0) t else .ok (.d (dP (sumL ps))) t) else .st
        | none => exQ 0 t) else (if vs.length < 100000 then exQ 0 t else .st)
    | none => exQ 0 t)
  | _ => .st
def F_checked_shares : FM := fun xs t => match xs with
  | [.d v] => (match seqD v with
    | some vs => if 1 ≤ vs.length ∧ vs.length ≤ 1000 then (match unL vs with
        | some ps => if fits (prodB ps) then (if (sumL ps).2 < (sumL ps).1 then .ex "Refused" (.int 0) t else .ok (.d .none) t) else .st
        | none => exQ 0 t) else (if vs.length < 100000 then exQ 0 t else .st)
    | none => exQ 0 t)
  | _ => .st
def wholeD : PyData → Bool
  | .tuple [.int a, .int b] => decide (a = 1 ∧ b = 1)
  | _ => false
def F_is_whole : FM := fun xs t => match xs with
  | [.d v] => .ok (.d (.bool (wholeD v))) t
  | _ => .st
def F_what_is_left : FM := fun xs t => match xs with
  | [.d s, .d v] => (match unS s with
    | none => exQ 0 t
    | some p => (match seqD v with
      | none => exQ 1 t
      | some vs => if vs.length ≤ 1000 then (match unL vs with
        | none => exQ 1 t
        | some ps => if fits (prodB ps) ∧ fits p.2 then
            (if p.1 * (sumL ps).2 - (sumL ps).1 * p.2 < 0 then .ex "Refused" (.int 0) t
             else if p.1 * (sumL ps).2 - (sumL ps).1 * p.2 = 0 then .ok (.d .none) t
             else .ok (.d (dP (low (p.1 * (sumL ps).2 - (sumL ps).1 * p.2) (p.2 * (sumL ps).2)))) t) else .st) else .st))
  | _ => .st
def rightD : PyData → Bool
  | .str z => decide (z = "read") || decide (z = "edit")
  | _ => false
def editD : PyData → Bool
  | .str z => decide (z = "edit")
  | _ => false
def F_may_meet : FM := fun xs t => match xs with
  | [.d v] => (match seqD v with
    | some vs => if vs.length < 100000 then (if vs.all rightD then .ok (.d (.bool (decide (vs.length < 2) || !(vs.any editD)))) t else exQ 0 t) else .st
    | none => exQ 0 t)
  | _ => .st
abbrev F__law_any : FM := anyFM
def F__law_of : FM := fun xs t => match xs, t with
  | [.deal, .d (.list vs)], some dl => if vs ≠ [] ∧ vs.length ≤ 1000 ∧ fineD dl then (match vs[(anyD dl vs.length).1.toNat]? with
    | some v => .ok (.d v) (some (anyD dl vs.length).2)
    | none => .st) else .st
  | _, _ => .st
/-- the list in the order of the deal -/
def mixD : Nat → List PyData → Deal → List PyData × Deal
  | 0, _, dl => ([], dl)
  | n + 1, vs, dl => if vs = [] then ([], dl) else
    match vs[(anyD dl vs.length).1.toNat]? with
    | some v => let r := mixD n (vs.eraseIdx (anyD dl vs.length).1.toNat) (anyD dl vs.length).2
      (v :: r.1, r.2)
    | none => ([], dl)
def F__law_mixed : FM := fun xs t => match xs, t with
  | [.deal, .d (.list vs)], some dl => if vs.length ≤ 1000 ∧ vs.all shareD = true ∧ fineD dl then .ok (.d (.list (mixD vs.length vs dl).1)) (some (mixD vs.length vs dl).2) else .st
  | _, _ => .st
def F__law_is_int : FM := F_is_integer
def F__law_lowest : FM := fun xs t => match xs with
  | [.d (.int a), .d (.int b)] => if 0 ≤ a ∧ 0 < b ∧ fits b then .ok (.d (dP (low a b))) t else .st
  | _ => .st
def F__law_sum : FM := fun xs t => match xs with
  | [.d v] => (match seqD v with
    | some vs => (match unL vs with
      | some ps => if fits (prodB ps) ∧ ps.length ≤ 1000 then .ok (.d (dP (sumL ps))) t else .st
      | none => .st)
    | none => .st)
  | _ => .st
def flatV : PyData → Bool
  | .none => true
  | .bool _ => true
  | .int b => decide (fits b)
  | .str _ => false
  | _ => false
def fineV : PyData → Bool
  | .tuple [x, y] => flatV x && flatV y
  | _ => true
def F__law_is_share : FM := fun xs t => match xs with
  | [.d v] => if fineV v then .ok (.d (.bool (shareD v))) t else .st
  | _ => .st
def allO : List (Option Bool) → Option Bool
  | [] => some true
  | some a :: r => (match allO r with
    | some b => some (a && b)
    | none => none)
  | none :: _ => none
/-- data without dicts, so many deep -/
def eqN : Nat → PyData → PyData → Option Bool
  | 0, _, _ => none
  | _ + 1, v, .none => some (match v with | .none => true | _ => false)
  | _ + 1, v, .bool b => some (match v with | .bool c => c == b | _ => false)
  | _ + 1, v, .int i => some (match v with | .int j => decide (j = i) | _ => false)
  | _ + 1, v, .str z => some (match v with | .str y => decide (y = z) | _ => false)
  | n + 1, v, .list ds => (match v with
    | .list vs => if vs.length = ds.length then (if vs.length < 100000 then allO ((vs.zip ds).map fun p => eqN n p.1 p.2) else none) else some false
    | _ => some false)
  | n + 1, v, .tuple ds => (match v with
    | .tuple vs => if vs.length = ds.length then (if vs.length < 100000 then allO ((vs.zip ds).map fun p => eqN n p.1 p.2) else none) else some false
    | _ => some false)
  | _ + 1, _, .dict _ => none
def F_sameN (n : Nat) : FM := fun xs t => match xs with
  | [.d v, .d d] => (match eqN n v d with
    | some b => .ok (.d (.bool b)) t
    | none => .st)
  | _ => .st
def F__law_same : FM := F_sameN 8
def drawC (ns : List Int) : List Int := ((ns.take 48).map (fun i => ((i.natAbs : Nat) : Int)))
def drawB (ns : List Int) (salt : Int) : Int := (drawC ns).foldl (fun b c => (b * 48271 + c % 2147483549 + 11) % 2147483647) (7919 + 104729 * salt)
def F__law_draw : FM := fun xs t => match xs with
  | [.scr ns, .d (.int salt)] => if 0 ≤ salt ∧ salt ≤ 1000 then .ok (.d (.list [.list (((drawC ns).filter (fun c => decide (10 ^ 18 ≤ c))).reverse.map PyData.int), .int (drawB ns salt)])) t else .st
  | _ => .st
end K05
end
section
set_option maxRecDepth 100000
set_option maxHeartbeats 4000000
/-! # The printed mirrors compute what S05 says -/
namespace DL
open PySem PySem.Spec
theorem whileN_stop {cc : M Bool} {body : M Fl} {n : Nat} {r r1 : Rho} {t t1 : Option Deal} (h : cc r t = .ok false r1 t1) : whileN cc body (n + 1) r t = .ok .nx r1 t1 := by
  unfold whileN; simp only [M.bind, h, whileT, M.ret]
theorem whileN_go {cc : M Bool} {body : M Fl} {n : Nat} {r r1 r2 : Rho} {t t1 t2 : Option Deal} (h : cc r t = .ok true r1 t1) (h2 : body r1 t1 = .ok .nx r2 t2) : whileN cc body (n + 1) r t = whileN cc body n r2 t2 := by
  conv => lhs; unfold whileN
  simp only [M.bind, h, whileT, h2, afterF]
theorem forL_cons {f : Sl → M Unit} {body : M Fl} {d : Sl} {ds : List Sl} {r r1 r2 : Rho} {t t1 t2 : Option Deal} (h : f d r t = .ok () r1 t1) (h2 : body r1 t1 = .ok .nx r2 t2) : forL f body (d :: ds) r t = forL f body ds r2 t2 := by
  conv => lhs; unfold forL
  simp only [M.bind, h, h2, afterF]
theorem forL_brk {f : Sl → M Unit} {body : M Fl} {d : Sl} {ds : List Sl} {r r1 r2 : Rho} {t t1 t2 : Option Deal} (h : f d r t = .ok () r1 t1) (h2 : body r1 t1 = .ok .bk r2 t2) : forL f body (d :: ds) r t = .ok .nx r2 t2 := by
  conv => lhs; unfold forL
  simp only [M.bind, h, h2, afterF, M.ret]
theorem wipeR_twice (r : Rho) (vs : List Nat) : wipeR (wipeR r vs) vs = wipeR r vs := by
  apply List.ext_getElem?
  intro i
  by_cases q : i ∈ vs
  · have h1 := @wipeR_in (wipeR r vs) i
    have h2 := @wipeR_in r i
    have hl : (wipeR (wipeR r vs) vs).length = (wipeR r vs).length := wipeR_len _ _
    cases e1 : (wipeR (wipeR r vs) vs)[i]? with
    | none =>
      have l1 := List.getElem?_eq_none_iff.mp e1
      exact (List.getElem?_eq_none_iff.mpr (by omega)).symm
    | some o1 =>
      have l1 := (List.getElem?_eq_some_iff.mp e1).1
      cases e2 : (wipeR r vs)[i]? with
      | none =>
        have l2 := List.getElem?_eq_none_iff.mp e2
        omega
      | some o2 =>
        cases o1 with
        | some x => exact absurd e1 (h1 (x := x) q)
        | none =>
          cases o2 with
          | some x => exact absurd e2 (h2 (x := x) q)
          | none => rfl
  · rw [wipeR_out q]
/-- a comprehension that leaves the deal as it is -/
theorem lcL_map {vs : List Nat} {f : Sl → M Unit} {test : M Bool} {elt : M Tk} {r0 : Rho} {t : Option Deal} {p : Sl → Bool} {g : Sl → PyData} : ∀ (ds : List Sl) (acc : List PyData) (r : Rho), wipeR r vs = r0 → acc.length + ds.length < 1000000 →
    (∀ d ∈ ds, ∃ r1, lcOne vs f test elt d r0 t = .ok (if p d then some (g d) else none) r1 t ∧ wipeR r1 vs = r0) → ∃ r1, lcL vs f test elt ds acc r t = .ok (acc ++ ((ds.filter p).map g)) r1 t ∧ wipeR r1 vs = r0
  | [], acc, r, hr, _, _ => ⟨r, by simp [lcL, M.ret], hr⟩
  | d :: ds, acc, r, hr, hl, h => by
    obtain ⟨r1, e, w⟩ := h d List.mem_cons_self
    have e' : lcOne vs f test elt d r t = .ok (if p d then some (g d) else none) r1 t := by
      rw [← e]
      unfold lcOne M.bind wipeM
      simp only
      have : wipeR r0 vs = r0 := by
        rw [← w]
        exact wipeR_twice r1 vs
      rw [hr, this]
    have hl' : acc.length < 16777216 := by
      simp at hl
      omega
    unfold lcL
    unfold M.bind
    rw [e']
    cases hp : p d with
    | true =>
      rw [if_pos rfl]
      simp only [lcPut, if_pos hl']
      obtain ⟨r2, e2, w2⟩ := lcL_map ds (acc ++ [g d]) r1 w (by simp at hl ⊢; omega) (fun d' hd' => h d' (List.mem_cons_of_mem _ hd'))
      refine ⟨r2, ?_, w2⟩
      rw [e2]
      simp [List.filter_cons, hp]
    | false =>
      rw [if_neg Bool.false_ne_true]
      simp only [lcPut]
      obtain ⟨r2, e2, w2⟩ := lcL_map ds acc r1 w (by simp at hl ⊢; omega) (fun d' hd' => h d' (List.mem_cons_of_mem _ hd'))
      refine ⟨r2, ?_, w2⟩
      rw [e2]
      simp [List.filter_cons, hp]
theorem mLc_map {mi : M (List Sl)} {vs : List Nat} {f : Sl → M Unit} {test : M Bool} {elt : M Tk} {r : Rho} {t : Option Deal} {p : Sl → Bool} {g : Sl → PyData} {ds : List Sl} (hi : mi r t = .ok ds r t) (hl : ds.length < 1000000) (hr : restR r (wipeR r vs) vs = r)
    (h : ∀ d ∈ ds, ∃ r1, lcOne vs f test elt d (wipeR r vs) t = .ok (if p d then some (g d) else none) r1 t ∧ wipeR r1 vs = wipeR r vs) : mLc mi vs f test elt r t = .ok ((ds.filter p).map g) r t := by
  obtain ⟨r1, e, w⟩ := lcL_map ds [] (wipeR r vs) (wipeR_twice r vs) (by simpa using hl) h
  unfold mLc M.bind
  rw [hi]
  simp only [inComp, noX, e, w, hr, List.nil_append]
end DL
namespace K05
open PySem PySem.Spec DL
theorem e_isint : ∀ xs t, F_is_integer xs t ≠ .st → fnM 1 m_is_integer xs t = F_is_integer xs t := by
  intro xs t h
  unfold F_is_integer at h
  split at h
  · rename_i v
    cases v <;> rfl
  · exact absurd rfl h
theorem e_isseq : ∀ xs t, F_is_sequence xs t ≠ .st → fnM 1 m_is_sequence xs t = F_is_sequence xs t := by
  intro xs t h
  unfold F_is_sequence at h
  split at h
  · rename_i v
    cases v <;> rfl
  · exact absurd rfl h
noncomputable def gC : M Bool := mT (mOp gtF (mVar [] 1) (mK (.d (.int 0))))
noncomputable def gB : M Fl := mPar 0 1 (mCons (mVar [] 1) (mCons (mOp modF (mVar [] 0) (mVar [] 1)) mNil))
theorem gC_e (a b : Int) (t : Option Deal) : gC [some (.d (.int a)), some (.d (.int b))] t = .ok (decide (0 < b)) [some (.d (.int a)), some (.d (.int b))] t := by
  unfold gC; simp [M.bind, M.ret, M.st, mT, mOp, mVar, mK, use, keep, lft, boolOf, optM, mCB, useAll, mCons, mNil, mTup, mLst, mFz, keepD, mSeq, mRet, mIfS, mAnd, mOr, mNot, mAndV, mOrV, mNotV, mIfE, mCall, keepAll, runF, mAsg, aName, mNx, mChain, fnM, startR, isiF, isT, isTN, askT, tyN, lenF, gtF, ltF, leF, geF, cmpF, eqF, neF, eqOk, scalD, atF, addF, subF, mulF, fdivF, modF, mTru, truS, mIter, itemsOf, isF, asks, truD, isNoneD, isBoolD, mRaise, raiseM, oneD, List.replicate]
theorem gB_e (a b : Int) (hb : 0 < b) (t : Option Deal) : gB [some (.d (.int a)), some (.d (.int b))] t = .ok .nx [some (.d (.int b)), some (.d (.int (a % b)))] t := by
  unfold gB; simp [mPar, twoK, M.bind, M.ret, M.st, mT, mOp, mVar, mK, use, keep, lft, boolOf, optM, mCB, useAll, mCons, mNil, mTup, mLst, mFz, keepD, mSeq, mRet, mIfS, mAnd, mOr, mNot, mAndV, mOrV, mNotV, mIfE, mCall, keepAll, runF, mAsg, aName, mNx, mChain, fnM, startR, isiF, isT, isTN, askT, tyN, lenF, gtF, ltF, leF, geF, cmpF, eqF, neF, eqOk, scalD, atF, addF, subF, mulF, fdivF, modF, mTru, truS, mIter, itemsOf, isF, asks, truD, isNoneD, isBoolD, mRaise, raiseM, oneD, List.replicate, hb]
theorem gcd_step (a b : Int) (ha : 0 ≤ a) (hb : 0 ≤ b) : Int.gcd b (a % b) = Int.gcd a b := by
  obtain ⟨m, rfl⟩ := Int.eq_ofNat_of_zero_le ha
  obtain ⟨n, rfl⟩ := Int.eq_ofNat_of_zero_le hb
  show Nat.gcd n (m % n) = Nat.gcd m n
  rw [Nat.gcd_comm m n, Nat.gcd_rec n m, Nat.gcd_comm]
theorem gW (n : Nat) : ∀ (a b : Int), 0 ≤ a → 0 ≤ b → b.toNat ≤ n → ∀ t, whileN gC gB (n + 1) [some (.d (.int a)), some (.d (.int b))] t = .ok .nx [some (.d (.int (Int.gcd a b))), some (.d (.int 0))] t := by
  induction n with
  | zero =>
    intro a b ha hb h t
    have hb0 : b = 0 := by omega
    subst hb0
    rw [whileN_stop (gC_e a 0 t)]
    simp
    omega
  | succ n ih =>
    intro a b ha hb h t
    by_cases hb0 : b = 0
    · subst hb0
      rw [whileN_stop (gC_e a 0 t)]
      simp
      omega
    · have hb1 : 0 < b := by omega
      rw [whileN_go (by rw [gC_e, decide_eq_true hb1]) (gB_e a b hb1 t), ih b (a % b) hb (Int.emod_nonneg _ hb0) (by have := Int.emod_lt_of_pos a hb1; omega) t, gcd_step a b ha hb]
theorem e_gcd : ∀ xs t, F_great_divisor xs t ≠ .st → fnM 2 m_great_divisor xs t = F_great_divisor xs t := by
  intro xs t h
  unfold F_great_divisor at h
  split at h
  · rename_i a b
    by_cases hc : 0 ≤ a ∧ 0 ≤ b
    · have e := gW b.toNat a b hc.1 hc.2 (Nat.le_refl _) t
      have e2 : mWhile gC gB [some (.d (.int a)), some (.d (.int b))] t = .ok .nx [some (.d (.int (Int.gcd a b))), some (.d (.int 0))] t := by
        rw [mWhile_of (n := b.toNat + 1) (by rw [e]; intro z; cases z), e]
      have e3 : m_great_divisor = mSeq (mWhile gC gB) (mRet (mVar [] 0)) := rfl
      simp only [F_great_divisor, if_pos hc]
      unfold fnM
      rw [e3]
      simp [startR, mSeq, M.bind, e2, mRet, mVar, use, M.ret]
    · rw [if_neg hc] at h
      exact absurd rfl h
  · exact absurd rfl h
end K05
end
section
set_option maxRecDepth 100000
set_option maxHeartbeats 4000000
namespace K05
open PySem PySem.Spec DL
theorem beq_cast (n : Nat) : (((n : Nat) : Int) == 1) = decide (n = 1) := by
  by_cases h : n = 1
  · subst h; rfl
  · rw [decide_eq_false h, beq_eq_false_iff_ne]; omega
theorem share_int (a b : Int) (t : Option Deal) : fnM 2 (m_is_share F_is_integer F_great_divisor) [.d (.tuple [.int a, .int b])] t = .ok (.d (.bool (decide (okP (a, b))))) t := by
  by_cases h1 : 0 < a
  · by_cases h2 : a ≤ b
    · have h3 : 0 ≤ a := by omega
      have h4 : 0 ≤ b := by omega
      simp [m_is_share, M.bind, M.ret, M.st, mT, mOp, mVar, mK, use, keep, lft, boolOf, optM, mCB, useAll, mCons, mNil, mTup, mLst, mFz, keepD, mSeq, mRet, mIfS, mAnd, mOr, mNot, mAndV, mOrV, mNotV, mIfE, mCall, keepAll, runF, mAsg, aName, mNx, mChain, fnM, startR, isiF, isT, isTN, askT, tyN, lenF, gtF, ltF, leF, geF, cmpF, eqF, neF, eqOk, scalD, atF, addF, subF, mulF, fdivF, modF, mTru, truS, mIter, itemsOf, isF, asks, truD, isNoneD, isBoolD, mRaise, raiseM, oneD, List.replicate, mLc, inComp, noX, lcL, lcOne, lcPut, wipeM, wipeR, dataOf, restR, allF, boolsOf, F_is_integer, F_great_divisor, F_is_share, F_is_sequence, isIntD, isSeqD, mDrop, aTup, aCons, aNil, twoK, mPar, h1, h2, h3, h4, okP, L2.atI, L2.ixN, PyData.eqv, beq_cast]
    · simp [m_is_share, M.bind, M.ret, M.st, mT, mOp, mVar, mK, use, keep, lft, boolOf, optM, mCB, useAll, mCons, mNil, mTup, mLst, mFz, keepD, mSeq, mRet, mIfS, mAnd, mOr, mNot, mAndV, mOrV, mNotV, mIfE, mCall, keepAll, runF, mAsg, aName, mNx, mChain, fnM, startR, isiF, isT, isTN, askT, tyN, lenF, gtF, ltF, leF, geF, cmpF, eqF, neF, eqOk, scalD, atF, addF, subF, mulF, fdivF, modF, mTru, truS, mIter, itemsOf, isF, asks, truD, isNoneD, isBoolD, mRaise, raiseM, oneD, List.replicate, mLc, inComp, noX, lcL, lcOne, lcPut, wipeM, wipeR, dataOf, restR, allF, boolsOf, F_is_integer, F_great_divisor, F_is_share, F_is_sequence, isIntD, isSeqD, mDrop, aTup, aCons, aNil, twoK, mPar, h1, h2, okP, L2.atI, L2.ixN, PyData.eqv]
  · simp [m_is_share, M.bind, M.ret, M.st, mT, mOp, mVar, mK, use, keep, lft, boolOf, optM, mCB, useAll, mCons, mNil, mTup, mLst, mFz, keepD, mSeq, mRet, mIfS, mAnd, mOr, mNot, mAndV, mOrV, mNotV, mIfE, mCall, keepAll, runF, mAsg, aName, mNx, mChain, fnM, startR, isiF, isT, isTN, askT, tyN, lenF, gtF, ltF, leF, geF, cmpF, eqF, neF, eqOk, scalD, atF, addF, subF, mulF, fdivF, modF, mTru, truS, mIter, itemsOf, isF, asks, truD, isNoneD, isBoolD, mRaise, raiseM, oneD, List.replicate, mLc, inComp, noX, lcL, lcOne, lcPut, wipeM, wipeR, dataOf, restR, allF, boolsOf, F_is_integer, F_great_divisor, F_is_share, F_is_sequence, isIntD, isSeqD, mDrop, aTup, aCons, aNil, twoK, mPar, h1, okP, L2.atI, L2.ixN, PyData.eqv]
theorem e_share : ∀ xs t, F_is_share xs t ≠ .st → fnM 2 (m_is_share F_is_integer F_great_divisor) xs t = F_is_share xs t := by
  intro xs t h
  unfold F_is_share at h
  split at h
  · rename_i v
    show fnM 2 (m_is_share F_is_integer F_great_divisor) [.d v] t = .ok (.d (.bool (shareD v))) t
    cases v with
    | tuple xs =>
      match xs with
      | [] => rfl
      | [x] => simp [m_is_share, M.bind, M.ret, M.st, mT, mOp, mVar, mK, use, keep, lft, boolOf, optM, mCB, useAll, mCons, mNil, mTup, mLst, mFz, keepD, mSeq, mRet, mIfS, mAnd, mOr, mNot, mAndV, mOrV, mNotV, mIfE, mCall, keepAll, runF, mAsg, aName, mNx, mChain, fnM, startR, isiF, isT, isTN, askT, tyN, lenF, gtF, ltF, leF, geF, cmpF, eqF, neF, eqOk, scalD, atF, addF, subF, mulF, fdivF, modF, mTru, truS, mIter, itemsOf, isF, asks, truD, isNoneD, isBoolD, mRaise, raiseM, oneD, List.replicate, mLc, inComp, noX, lcL, lcOne, lcPut, wipeM, wipeR, dataOf, restR, allF, boolsOf, F_is_integer, F_great_divisor, F_is_share, F_is_sequence, isIntD, isSeqD, mDrop, aTup, aCons, aNil, twoK, mPar, PyData.eqv, shareD, unS]
      | x :: y :: z :: r =>
        have e : ((r.length : Int) + 1 + 1 + 1 == 2) = false := by
          rw [beq_eq_false_iff_ne]; omega
        simp [m_is_share, M.bind, M.ret, M.st, mT, mOp, mVar, mK, use, keep, lft, boolOf, optM, mCB, useAll, mCons, mNil, mTup, mLst, mFz, keepD, mSeq, mRet, mIfS, mAnd, mOr, mNot, mAndV, mOrV, mNotV, mIfE, mCall, keepAll, runF, mAsg, aName, mNx, mChain, fnM, startR, isiF, isT, isTN, askT, tyN, lenF, gtF, ltF, leF, geF, cmpF, eqF, neF, eqOk, scalD, atF, addF, subF, mulF, fdivF, modF, mTru, truS, mIter, itemsOf, isF, asks, truD, isNoneD, isBoolD, mRaise, raiseM, oneD, List.replicate, mLc, inComp, noX, lcL, lcOne, lcPut, wipeM, wipeR, dataOf, restR, allF, boolsOf, F_is_integer, F_great_divisor, F_is_share, F_is_sequence, isIntD, isSeqD, mDrop, aTup, aCons, aNil, twoK, mPar, PyData.eqv, shareD, unS, e]
      | [x, y] =>
        cases x with
        | int a =>
          cases y with
          | int b =>
            rw [share_int]
            by_cases h : okP (a, b)
            · simp [shareD, unS, h]
            · simp [shareD, unS, h]
          | _ => rfl
        | _ => cases y <;> rfl
    | _ => rfl
  · exact absurd rfl h
theorem e_checked : ∀ xs t, F_checked_share xs t ≠ .st → fnM 2 (m_checked_share F_is_share) xs t = F_checked_share xs t := by
  intro xs t h
  unfold F_checked_share at h
  split at h
  · rename_i v n
    cases hs : shareD v with
    | true => simp [m_checked_share, M.bind, M.ret, M.st, mT, mOp, mVar, mK, use, keep, lft, boolOf, optM, mCB, useAll, mCons, mNil, mTup, mLst, mFz, keepD, mSeq, mRet, mIfS, mAnd, mOr, mNot, mAndV, mOrV, mNotV, mIfE, mCall, keepAll, runF, mAsg, aName, mNx, mChain, fnM, startR, isiF, isT, isTN, askT, tyN, lenF, gtF, ltF, leF, geF, cmpF, eqF, neF, eqOk, scalD, atF, addF, subF, mulF, fdivF, modF, mTru, truS, mIter, itemsOf, isF, asks, truD, isNoneD, isBoolD, mRaise, raiseM, oneD, List.replicate, mLc, inComp, noX, lcL, lcOne, lcPut, wipeM, wipeR, dataOf, restR, allF, boolsOf, F_is_integer, F_great_divisor, F_is_share, F_is_sequence, isIntD, isSeqD, mDrop, aTup, aCons, aNil, twoK, mPar, F_checked_share, hs]
    | false => simp [m_checked_share, M.bind, M.ret, M.st, mT, mOp, mVar, mK, use, keep, lft, boolOf, optM, mCB, useAll, mCons, mNil, mTup, mLst, mFz, keepD, mSeq, mRet, mIfS, mAnd, mOr, mNot, mAndV, mOrV, mNotV, mIfE, mCall, keepAll, runF, mAsg, aName, mNx, mChain, fnM, startR, isiF, isT, isTN, askT, tyN, lenF, gtF, ltF, leF, geF, cmpF, eqF, neF, eqOk, scalD, atF, addF, subF, mulF, fdivF, modF, mTru, truS, mIter, itemsOf, isF, asks, truD, isNoneD, isBoolD, mRaise, raiseM, oneD, List.replicate, mLc, inComp, noX, lcL, lcOne, lcPut, wipeM, wipeR, dataOf, restR, allF, boolsOf, F_is_integer, F_great_divisor, F_is_share, F_is_sequence, isIntD, isSeqD, mDrop, aTup, aCons, aNil, twoK, mPar, F_checked_share, hs]
  · exact absurd rfl h
theorem gcd_pos {a b : Int} (hb : 0 < b) : 0 < (Int.gcd a b : Int) := by
  have : Int.gcd a b ≠ 0 := by
    intro z
    rw [Int.gcd_eq_zero_iff] at z
    omega
  omega
theorem gcd_le {a b : Int} (hb : 0 < b) : (Int.gcd a b : Int) ≤ b := Int.le_of_dvd hb (Int.gcd_dvd_right a b)
theorem log2_mono {m n : Nat} (h : m ≤ n) : m.log2 ≤ n.log2 := by
  by_cases z : m = 0
  · rw [z]; exact Nat.zero_le _
  · exact (Nat.le_log2 (by omega)).mpr (Nat.le_trans (Nat.log2_self_le z) h)
theorem e_lowest : ∀ xs t, F_lowest xs t ≠ .st → fnM 3 (m_lowest F_great_divisor) xs t = F_lowest xs t := by
  intro xs t h
  unfold F_lowest at h
  split at h
  · rename_i a b
    by_cases hc : 0 ≤ a ∧ 0 < b ∧ b.natAbs.log2 < 9000
    · obtain ⟨h1, h2, h3⟩ := hc
      have h4 : 0 ≤ b := by omega
      have g0 := gcd_pos (a := a) h2
      have gl : (Int.gcd a b : Nat).log2 < 9000 := Nat.lt_of_le_of_lt (log2_mono (by have := gcd_le (a := a) h2; omega)) h3
      have g1 : 0 < Int.gcd a b := by omega
      simp [m_lowest, M.bind, M.ret, M.st, mT, mOp, mVar, mK, use, keep, lft, boolOf, optM, mCB, useAll, mCons, mNil, mTup, mLst, mFz, keepD, mSeq, mRet, mIfS, mAnd, mOr, mNot, mAndV, mOrV, mNotV, mIfE, mCall, keepAll, runF, mAsg, aName, mNx, mChain, fnM, startR, isiF, isT, isTN, askT, tyN, lenF, gtF, ltF, leF, geF, cmpF, eqF, neF, eqOk, scalD, atF, addF, subF, mulF, fdivF, modF, mTru, truS, mIter, itemsOf, isF, asks, truD, isNoneD, isBoolD, mRaise, raiseM, oneD, List.replicate, mLc, inComp, noX, lcL, lcOne, lcPut, wipeM, wipeR, dataOf, restR, allF, boolsOf, F_is_integer, F_great_divisor, F_is_share, F_is_sequence, isIntD, isSeqD, mDrop, aTup, aCons, aNil, twoK, mPar, F_lowest, h1, h2, h3, h4, dP, low, g0, gl, g1]
    · rw [if_neg hc] at h
      exact absurd rfl h
  · exact absurd rfl h
end K05
end
section
set_option maxRecDepth 100000
set_option maxHeartbeats 4000000
namespace K05
open PySem PySem.Spec DL
theorem unS_some {v : PyData} {p : Pr} (h : unS v = some p) : v = dP p ∧ okP p := by
  unfold unS at h
  split at h
  · rename_i a b
    split at h
    · rename_i hk
      cases h
      exact ⟨rfl, hk⟩
    · cases h
  · cases h
theorem fits_log {b : Int} (h : fits b) : b.natAbs.log2 < 1500 := by
  by_cases z : b.natAbs = 0
  · rw [z]; decide
  · exact (Nat.log2_lt z).mpr h
theorem pos_fits {b : Int} {n : Nat} (h : b.natAbs < 2 ^ n) (hb : 0 < b) : b < ((2 ^ n : Nat) : Int) := by omega
theorem log2_lt' {m n : Nat} (h : m < 2 ^ n) (hn : 0 < n) : m.log2 < n := by
  by_cases z : m = 0
  · rw [z]; exact hn
  · exact (Nat.log2_lt z).mpr h
theorem mul_small {a b : Nat} {m n : Nat} (ha : a < 2 ^ m) (hb : b < 2 ^ n) : a * b < 2 ^ (m + n) := by
  rw [Nat.pow_add]
  exact Nat.mul_lt_mul'' ha hb
theorem e_parts : ∀ xs t, F_parts_of xs t ≠ .st → fnM 2 (m_parts_of F_checked_share F_is_integer F_lowest) xs t = F_parts_of xs t := by
  intro xs t h
  unfold F_parts_of at h
  split at h
  · rename_i v m
    cases hu : unS v with
    | none =>
      have hs : shareD v = false := by unfold shareD; rw [hu]; rfl
      simp [m_parts_of, M.bind, M.ret, M.st, mT, mOp, mVar, mK, use, keep, lft, boolOf, optM, mCB, useAll, mCons, mNil, mTup, mLst, mFz, keepD, mSeq, mRet, mIfS, mAnd, mOr, mNot, mAndV, mOrV, mNotV, mIfE, mCall, keepAll, runF, mAsg, aName, mNx, mChain, fnM, startR, isiF, isT, isTN, askT, tyN, lenF, gtF, ltF, leF, geF, cmpF, eqF, neF, eqOk, scalD, atF, addF, subF, mulF, fdivF, modF, mTru, truS, mIter, itemsOf, isF, asks, truD, isNoneD, isBoolD, mRaise, raiseM, oneD, List.replicate, mLc, inComp, noX, lcL, lcOne, lcPut, wipeM, wipeR, dataOf, restR, allF, boolsOf, F_is_integer, F_great_divisor, F_is_share, F_is_sequence, isIntD, isSeqD, mDrop, aTup, aCons, aNil, twoK, mPar, F_checked_share, F_parts_of, hs, hu]
    | some p =>
      obtain ⟨rfl, hk⟩ := unS_some hu
      have hs : shareD (dP p) = true := by unfold shareD; rw [hu]; rfl
      rw [hu] at h
      simp only at h
      have hs1 : shareD (.tuple [.int p.1, .int p.2]) = true := hs
      have hu1 : unS (.tuple [.int p.1, .int p.2]) = some p := hu
      have flat : ∀ (n : Nat) (x : PyData), (List.replicate n [x]).flatten = List.replicate n x := fun n x => by
        induction n with
        | zero => rfl
        | succ n ih => rw [List.replicate_succ, List.flatten_cons, ih, List.replicate_succ]; rfl
      cases m with
      | int m =>
        by_cases hm : 1 ≤ m ∧ m ≤ 1000
        · by_cases hf : fits p.2
          · obtain ⟨h1, h2⟩ := hm
            obtain ⟨k1, k2, k3⟩ := hk
            have a1 : 0 ≤ p.1 := by omega
            have a2 : 0 < p.2 := by omega
            have a3 : 0 < p.2 * m := Int.mul_pos a2 (by omega)
            have hm10 : m.natAbs < 2 ^ 10 := by omega
            have a4 : p.2.natAbs.log2 + m.natAbs.log2 < 1000000 := by
              have := fits_log hf
              have := log2_lt' hm10 (by decide)
              omega
            have a5 : (p.2 * m).natAbs.log2 < 9000 := by
              rw [Int.natAbs_mul]
              have := log2_lt' (mul_small hf hm10) (by decide)
              omega
            have a6 : m ≤ 100000 := by omega
            have a7 : m.toNat ≤ 1000000 := by omega
            simp [m_parts_of, M.bind, M.ret, M.st, mT, mOp, mVar, mK, use, keep, lft, boolOf, optM, mCB, useAll, mCons, mNil, mTup, mLst, mFz, keepD, mSeq, mRet, mIfS, mAnd, mOr, mNot, mAndV, mOrV, mNotV, mIfE, mCall, keepAll, runF, mAsg, aName, mNx, mChain, fnM, startR, isiF, isT, isTN, askT, tyN, lenF, gtF, ltF, leF, geF, cmpF, eqF, neF, eqOk, scalD, atF, addF, subF, mulF, fdivF, modF, mTru, truS, mIter, itemsOf, isF, asks, truD, isNoneD, isBoolD, mRaise, raiseM, oneD, List.replicate, mLc, inComp, noX, lcL, lcOne, lcPut, wipeM, wipeR, dataOf, restR, allF, boolsOf, F_is_integer, F_great_divisor, F_is_share, F_is_sequence, isIntD, isSeqD, mDrop, aTup, aCons, aNil, twoK, mPar, F_checked_share, F_parts_of, F_lowest, hs1, hu1, dP, L2.atI, L2.ixN, h1, h2, a1, a3, a4, a5, a6, a7, hf, flat]
          · simp [hm, hf] at h
        · have hm' : 1 ≤ m → 1000 < m := by omega
          by_cases h1 : 1 ≤ m
          · have h2 : ¬ m ≤ 1000 := by omega
            simp [m_parts_of, M.bind, M.ret, M.st, mT, mOp, mVar, mK, use, keep, lft, boolOf, optM, mCB, useAll, mCons, mNil, mTup, mLst, mFz, keepD, mSeq, mRet, mIfS, mAnd, mOr, mNot, mAndV, mOrV, mNotV, mIfE, mCall, keepAll, runF, mAsg, aName, mNx, mChain, fnM, startR, isiF, isT, isTN, askT, tyN, lenF, gtF, ltF, leF, geF, cmpF, eqF, neF, eqOk, scalD, atF, addF, subF, mulF, fdivF, modF, mTru, truS, mIter, itemsOf, isF, asks, truD, isNoneD, isBoolD, mRaise, raiseM, oneD, List.replicate, mLc, inComp, noX, lcL, lcOne, lcPut, wipeM, wipeR, dataOf, restR, allF, boolsOf, F_is_integer, F_great_divisor, F_is_share, F_is_sequence, isIntD, isSeqD, mDrop, aTup, aCons, aNil, twoK, mPar, F_checked_share, F_parts_of, hs, hu, h1, h2]
          · simp [m_parts_of, M.bind, M.ret, M.st, mT, mOp, mVar, mK, use, keep, lft, boolOf, optM, mCB, useAll, mCons, mNil, mTup, mLst, mFz, keepD, mSeq, mRet, mIfS, mAnd, mOr, mNot, mAndV, mOrV, mNotV, mIfE, mCall, keepAll, runF, mAsg, aName, mNx, mChain, fnM, startR, isiF, isT, isTN, askT, tyN, lenF, gtF, ltF, leF, geF, cmpF, eqF, neF, eqOk, scalD, atF, addF, subF, mulF, fdivF, modF, mTru, truS, mIter, itemsOf, isF, asks, truD, isNoneD, isBoolD, mRaise, raiseM, oneD, List.replicate, mLc, inComp, noX, lcL, lcOne, lcPut, wipeM, wipeR, dataOf, restR, allF, boolsOf, F_is_integer, F_great_divisor, F_is_share, F_is_sequence, isIntD, isSeqD, mDrop, aTup, aCons, aNil, twoK, mPar, F_checked_share, F_parts_of, hs, hu, h1]
      | _ => simp [m_parts_of, M.bind, M.ret, M.st, mT, mOp, mVar, mK, use, keep, lft, boolOf, optM, mCB, useAll, mCons, mNil, mTup, mLst, mFz, keepD, mSeq, mRet, mIfS, mAnd, mOr, mNot, mAndV, mOrV, mNotV, mIfE, mCall, keepAll, runF, mAsg, aName, mNx, mChain, fnM, startR, isiF, isT, isTN, askT, tyN, lenF, gtF, ltF, leF, geF, cmpF, eqF, neF, eqOk, scalD, atF, addF, subF, mulF, fdivF, modF, mTru, truS, mIter, itemsOf, isF, asks, truD, isNoneD, isBoolD, mRaise, raiseM, oneD, List.replicate, mLc, inComp, noX, lcL, lcOne, lcPut, wipeM, wipeR, dataOf, restR, allF, boolsOf, F_is_integer, F_great_divisor, F_is_share, F_is_sequence, isIntD, isSeqD, mDrop, aTup, aCons, aNil, twoK, mPar, F_checked_share, F_parts_of, hs, hu]
  · exact absurd rfl h
/-! sums -/
theorem unL_all : ∀ {vs : List PyData} {ps : List Pr}, unL vs = some ps → vs = ps.map dP ∧ (∀ p ∈ ps, okP p) ∧ ps.length = vs.length
  | [], ps, h => by
    cases h
    exact ⟨rfl, by simp, rfl⟩
  | v :: vs, ps, h => by
    unfold unL at h
    split at h
    · rename_i p qs h1 h2
      cases h
      obtain ⟨e1, k⟩ := unS_some h1
      obtain ⟨e2, ks, l⟩ := unL_all h2
      refine ⟨by rw [e1, e2]; rfl, fun q hq => ?_, by simp [l]⟩
      rcases List.mem_cons.mp hq with z | z
      · rw [z]; exact k
      · exact ks q z
    · cases h
theorem unL_some : ∀ (vs : List PyData), (unL vs).isSome = vs.all shareD
  | [] => rfl
  | v :: vs => by
    have ih := unL_some vs
    unfold unL
    rw [List.all_cons, ← ih]
    unfold shareD
    cases unS v <;> cases unL vs <;> rfl
theorem prodB_pos : ∀ {ps : List Pr}, (∀ p ∈ ps, okP p) → 0 < prodB ps
  | [], _ => by decide
  | p :: ps, h => by
    have h1 := h p List.mem_cons_self
    have h2 := prodB_pos (ps := ps) fun q hq => h q (List.mem_cons_of_mem _ hq)
    exact Int.mul_pos (by have := h1.1; have := h1.2.1; omega) h2
/-- what is known of a sum that is under way: s is bounded by n and the product so far -/
structure Sm (s : Pr) (n : Nat) (b : Int) : Prop where
  a0 : 0 ≤ s.1
  b0 : 0 < s.2
  bl : s.2 ≤ b
  al : s.1 ≤ n * s.2
theorem low_le {a b : Int} (ha : 0 ≤ a) (hb : 0 < b) : (low a b).2 ≤ b ∧ 0 < (low a b).2 ∧ 0 ≤ (low a b).1 ∧ (low a b).1 * (Int.gcd a b : Int) = a ∧ (low a b).2 * (Int.gcd a b : Int) = b := by
  have g0 := gcd_pos (a := a) hb
  obtain ⟨x, hx⟩ := Int.gcd_dvd_left a b
  obtain ⟨y, hy⟩ := Int.gcd_dvd_right a b
  have e1 : (low a b).1 * (Int.gcd a b : Int) = a := Int.ediv_mul_cancel (Int.gcd_dvd_left a b)
  have e2 : (low a b).2 * (Int.gcd a b : Int) = b := Int.ediv_mul_cancel (Int.gcd_dvd_right a b)
  have p2 : 0 < (low a b).2 := Int.ediv_pos_of_pos_of_dvd hb (by omega) (Int.gcd_dvd_right a b)
  refine ⟨?_, p2, Int.ediv_nonneg ha (by omega), e1, e2⟩
  have : (low a b).2 * 1 ≤ (low a b).2 * (Int.gcd a b : Int) := Int.mul_le_mul_of_nonneg_left (by omega) (by omega)
  rw [e2] at this
  omega
end K05
end
section
set_option maxRecDepth 100000
set_option maxHeartbeats 4000000
namespace K05
open PySem PySem.Spec DL
noncomputable def sumB : M Fl := (mAsg (aTup 2 (aCons (aName 1) (aCons (aName 2) aNil))) (mCall 2 F_lowest (mCons (mOp addF (mOp mulF (mVar [] 1) (mOp atF (mVar [] 3) (mK (.d (.int 1))))) (mOp mulF (mOp atF (mVar [] 3) (mK (.d (.int 0)))) (mVar [] 2))) (mCons (mOp mulF (mVar [] 2) (mOp atF (mVar [] 3) (mK (.d (.int 1))))) mNil))))
theorem sum_step (v : Sl) (s p : Pr) (t : Option Deal) (h1 : 0 ≤ s.1) (h2 : 0 < s.2) (hk : okP p) (h3 : s.1.natAbs < 2 ^ 1600) (h4 : (s.2 * p.2).natAbs < 2 ^ 1500) :
    sumB [some v, some (.d (.int s.1)), some (.d (.int s.2)), some (.d (dP p))] t = .ok .nx [some v, some (.d (.int (add1 s p).1)), some (.d (.int (add1 s p).2)), some (.d (dP p))] t := by
  obtain ⟨k1, k2, k3⟩ := hk
  have a1 : 0 < p.2 := by omega
  have b1 : p.2 ≤ s.2 * p.2 := by
    have := Int.mul_le_mul_of_nonneg_right (show 1 ≤ s.2 by omega) (show 0 ≤ p.2 by omega)
    omega
  have b2 : s.2 ≤ s.2 * p.2 := by
    have := Int.mul_le_mul_of_nonneg_left (show 1 ≤ p.2 by omega) (show 0 ≤ s.2 by omega)
    omega
  have c0 : 0 < s.2 * p.2 := by omega
  have c1 : p.2.natAbs < 2 ^ 1500 := by omega
  have c2 : s.2.natAbs < 2 ^ 1500 := by omega
  have c3 : p.1.natAbs < 2 ^ 1500 := by omega
  have l1 := log2_lt' c1 (by decide)
  have l2 := log2_lt' c2 (by decide)
  have l3 := log2_lt' c3 (by decide)
  have l4 := log2_lt' h3 (by decide)
  have l5 := log2_lt' h4 (by decide)
  have d1 : s.1.natAbs.log2 + p.2.natAbs.log2 < 1000000 := by omega
  have d2 : p.1.natAbs.log2 + s.2.natAbs.log2 < 1000000 := by omega
  have d3 : s.2.natAbs.log2 + p.2.natAbs.log2 < 1000000 := by omega
  have d4 : (s.2 * p.2).natAbs.log2 < 9000 := by omega
  have e1 : 0 ≤ s.1 * p.2 + p.1 * s.2 := Int.add_nonneg (Int.mul_nonneg h1 (by omega)) (Int.mul_nonneg (by omega) (by omega))
  simp [sumB, M.bind, M.ret, M.st, mT, mOp, mVar, mK, use, keep, lft, boolOf, optM, mCB, useAll, mCons, mNil, mTup, mLst, mFz, keepD, mSeq, mRet, mIfS, mAnd, mOr, mNot, mAndV, mOrV, mNotV, mIfE, mCall, keepAll, runF, mAsg, aName, mNx, mChain, fnM, startR, isiF, isT, isTN, askT, tyN, lenF, gtF, ltF, leF, geF, cmpF, eqF, neF, eqOk, scalD, atF, addF, subF, mulF, fdivF, modF, mTru, truS, mIter, itemsOf, isF, asks, truD, isNoneD, isBoolD, mRaise, raiseM, oneD, List.replicate, mLc, inComp, noX, lcL, lcOne, lcPut, wipeM, wipeR, dataOf, restR, allF, boolsOf, F_is_integer, F_great_divisor, F_is_share, F_is_sequence, isIntD, isSeqD, mDrop, aTup, aCons, aNil, twoK, mPar, dP, L2.atI, L2.ixN, d1, d2, d3, d4, e1, c0, F_lowest, add1]
theorem add1_sm {s p : Pr} {n : Nat} {b : Int} (h : Sm s n b) (hk : okP p) : Sm (add1 s p) (n + 1) (b * p.2) := by
  obtain ⟨a0, b0, bl, al⟩ := h
  obtain ⟨k1, k2, k3⟩ := hk
  have p0 : 0 < p.2 := by omega
  have x0 : 0 ≤ s.1 * p.2 + p.1 * s.2 := Int.add_nonneg (Int.mul_nonneg a0 (by omega)) (Int.mul_nonneg (by omega) (by omega))
  have y0 : 0 < s.2 * p.2 := Int.mul_pos b0 p0
  obtain ⟨l1, l2, l3, l4, l5⟩ := low_le x0 y0
  refine ⟨l3, l2, Int.le_trans l1 (Int.mul_le_mul_of_nonneg_right bl (by omega)), ?_⟩
  have g0 := gcd_pos (a := s.1 * p.2 + p.1 * s.2) y0
  have h1 : s.1 * p.2 ≤ n * s.2 * p.2 := Int.mul_le_mul_of_nonneg_right al (by omega)
  have h2 : p.1 * s.2 ≤ p.2 * s.2 := Int.mul_le_mul_of_nonneg_right k2 (by omega)
  have h3 : s.1 * p.2 + p.1 * s.2 ≤ ((n : Int) + 1) * (s.2 * p.2) := by
    have e : ((n : Int) + 1) * (s.2 * p.2) = n * s.2 * p.2 + p.2 * s.2 := by
      rw [Int.add_mul, Int.one_mul, Int.mul_assoc, Int.mul_comm p.2 s.2]
    rw [e]
    omega
  have h4 : (add1 s p).1 * (Int.gcd (s.1 * p.2 + p.1 * s.2) (s.2 * p.2) : Int) ≤ ((n : Int) + 1) * (add1 s p).2 * (Int.gcd (s.1 * p.2 + p.1 * s.2) (s.2 * p.2) : Int) := by
    have e1 : (add1 s p).1 * (Int.gcd (s.1 * p.2 + p.1 * s.2) (s.2 * p.2) : Int) = s.1 * p.2 + p.1 * s.2 := l4
    have e2 : (add1 s p).2 * (Int.gcd (s.1 * p.2 + p.1 * s.2) (s.2 * p.2) : Int) = s.2 * p.2 := l5
    rw [Int.mul_assoc, e1, e2]
    exact h3
  have := Int.le_of_mul_le_mul_right h4 g0
  push_cast
  exact this
theorem prodB_ge {ps : List Pr} (h : ∀ p ∈ ps, okP p) {b : Int} (hb : 0 < b) : b ≤ b * prodB ps := by
  have := prodB_pos h
  have := Int.mul_le_mul_of_nonneg_left (show 1 ≤ prodB ps by omega) (show 0 ≤ b by omega)
  omega
theorem sum_loop (v : Sl) (t : Option Deal) : ∀ (ps : List Pr) (s : Pr) (n : Nat) (b : Int) (o : Option Sl), Sm s n b → 0 < b → (∀ p ∈ ps, okP p) → fits (b * prodB ps) → n + ps.length ≤ 1000 →
    ∃ o', forL (aName 3) sumB (ps.map fun p => .d (dP p)) [some v, some (.d (.int s.1)), some (.d (.int s.2)), o] t = .ok .nx [some v, some (.d (.int (ps.foldl add1 s).1)), some (.d (.int (ps.foldl add1 s).2)), o'] t
  | [], s, n, b, o, _, _, _, _, _ => ⟨o, rfl⟩
  | p :: ps, s, n, b, o, hs, hb, hk, hf, hl => by
    have kp := hk p List.mem_cons_self
    have kr : ∀ q ∈ ps, okP q := fun q hq => hk q (List.mem_cons_of_mem _ hq)
    have hs' := add1_sm hs kp
    have p0 : 0 < p.2 := by have := kp.1; have := kp.2.1; omega
    have hb' : 0 < b * p.2 := Int.mul_pos hb p0
    have hf' : fits (b * p.2 * prodB ps) := by
      have e : b * prodB (p :: ps) = b * p.2 * prodB ps := by
        show b * (p.2 * prodB ps) = _
        rw [Int.mul_assoc]
      rw [← e]; exact hf
    have g1 := prodB_ge kr hb'
    have f2 : (b * p.2).natAbs < 2 ^ 1500 := by
      unfold fits at hf'
      have := hf'
      omega
    have sp : s.2 * p.2 ≤ b * p.2 := Int.mul_le_mul_of_nonneg_right hs.bl (by omega)
    have sp0 : 0 < s.2 * p.2 := Int.mul_pos hs.b0 p0
    have s2 : s.2 ≤ s.2 * p.2 := by
      have := Int.mul_le_mul_of_nonneg_left (show 1 ≤ p.2 by omega) (show 0 ≤ s.2 by have := hs.b0; omega)
      omega
    have s1 : s.1.natAbs < 2 ^ 1600 := by
      have h1 := hs.al
      have h2 := hs.a0
      have h3 : (n : Int) * s.2 ≤ 1000 * s.2 := Int.mul_le_mul_of_nonneg_right (by simp at hl; omega) (by have := hs.b0; omega)
      have h4 : (1000 : Int) * 2 ^ 1500 ≤ 2 ^ 1600 := by decide +kernel
      have h5 : s.2 < 2 ^ 1500 := by omega
      omega
    have st := sum_step v s p t hs.a0 hs.b0 kp s1 (by omega)
    obtain ⟨o', ih⟩ := sum_loop v t ps (add1 s p) (n + 1) (b * p.2) (some (.d (dP p))) hs' hb' kr hf' (by simp at hl; omega)
    refine ⟨o', ?_⟩
    rw [List.map_cons, forL_cons (r1 := [some v, some (.d (.int s.1)), some (.d (.int s.2)), some (.d (dP p))]) (t1 := t) rfl st]
    exact ih
theorem e_sum : ∀ xs t, F_sum_of xs t ≠ .st → fnM 4 (m_sum_of F_lowest) xs t = F_sum_of xs t := by
  intro xs t h
  unfold F_sum_of at h
  split at h
  · rename_i v
    cases hv : seqD v with
    | none => rw [hv] at h; exact absurd rfl h
    | some vs =>
      cases hu : unL vs with
      | none => rw [hv] at h; simp only [hu] at h; exact absurd rfl h
      | some ps =>
        by_cases hc : fits (prodB ps) ∧ ps.length ≤ 1000
        · obtain ⟨e1, k1, l1⟩ := unL_all hu
          obtain ⟨o', e⟩ := sum_loop (.d v) t ps (0, 1) 0 1 none ⟨by decide, by decide, by decide, by decide⟩ (by decide) k1 (by rw [Int.one_mul]; exact hc.1) (by omega)
          have e2 : m_sum_of F_lowest = mSeq (mAsg (aTup 2 (aCons (aName 1) (aCons (aName 2) aNil))) (mTup (mCons (mK (.d (.int 0))) (mCons (mK (.d (.int 1))) mNil)))) (mSeq (mFor (mIter (mVar [] 0)) (aName 3) sumB) (mRet (mTup (mCons (mVar [] 1) (mCons (mVar [] 2) mNil))))) := rfl
          have e3 : itemsOf (.d v) = some (ps.map fun p => .d (dP p)) := by
            cases v with
            | list ws => cases hv; subst e1; simp [itemsOf]
            | tuple ws => cases hv; subst e1; simp [itemsOf]
            | _ => cases hv
          have e4 : F_sum_of [.d v] t = .ok (.d (dP (sumL ps))) t := by
            unfold F_sum_of
            simp only [hv, hu, if_pos hc]
          rw [e4]
          unfold fnM
          rw [e2]
          have e5 : mFor (mIter (mVar [] 0)) (aName 3) sumB [some (.d v), some (.d (.int 0)), some (.d (.int 1)), none] t = .ok .nx [some (.d v), some (.d (.int (sumL ps).1)), some (.d (.int (sumL ps).2)), o'] t := by
            unfold mFor mIter
            simp only [M.bind, mVar, List.getElem?_cons_zero, List.not_mem_nil, if_false, keep, optM, e3]
            exact e
          simp [M.bind, M.ret, M.st, mT, mOp, mVar, mK, use, keep, lft, boolOf, optM, mCB, useAll, mCons, mNil, mTup, mLst, mFz, keepD, mSeq, mRet, mIfS, mAnd, mOr, mNot, mAndV, mOrV, mNotV, mIfE, mCall, keepAll, runF, mAsg, aName, mNx, mChain, fnM, startR, isiF, isT, isTN, askT, tyN, lenF, gtF, ltF, leF, geF, cmpF, eqF, neF, eqOk, scalD, atF, addF, subF, mulF, fdivF, modF, mTru, truS, isF, asks, truD, isNoneD, isBoolD, mRaise, raiseM, oneD, List.replicate, mLc, inComp, noX, lcL, lcOne, lcPut, wipeM, wipeR, dataOf, restR, allF, boolsOf, F_is_integer, F_great_divisor, F_is_share, F_is_sequence, isIntD, isSeqD, mDrop, aTup, aCons, aNil, twoK, mPar, e5, dP]
        · rw [hv] at h; simp only [hu] at h; rw [if_neg hc] at h; exact absurd rfl h
  · exact absurd rfl h
end K05
end
section
set_option maxRecDepth 100000
set_option maxHeartbeats 4000000
namespace K05
open PySem PySem.Spec DL
theorem boolsOf_map {α : Type} (p : α → Bool) : ∀ vs : List α, boolsOf (vs.map fun x => PyData.bool (p x)) = some (vs.map p)
  | [] => rfl
  | x :: vs => by
    show boolsOf (PyData.bool (p x) :: vs.map fun x => PyData.bool (p x)) = some (p x :: vs.map p)
    simp [boolsOf, boolsOf_map p vs]
theorem set_self {r : Rho} {i : Nat} (hi : i < r.length) : (r.set i none).set i (r[i]?.getD none) = r := by
  rw [List.set_set]
  apply List.ext_getElem?
  intro j
  by_cases q : i = j
  · subst q
    rw [List.getElem?_set_self hi, List.getElem?_eq_getElem hi]
    rfl
  · rw [List.getElem?_set_ne q]
theorem all_lc {F : FM} {p : PyData → Bool} {v : PyData} {vs : List PyData} {i j : Nat} {r : Rho} {t : Option Deal} (hF : ∀ x, F [.d x] t = .ok (.d (.bool (p x))) t) (hv : seqD v = some vs) (hl : vs.length < 1000000) (h0 : r[j]? = some (some (.d v))) (hi : i < r.length) :
    mLc (mIter (mVar [] j)) [i] (aName i) (M.ret true) (mCall 1 F (mCons (mVar [] i) mNil)) r t = .ok (vs.map fun x => .bool (p x)) r t := by
  have e3 : itemsOf (.d v) = some (vs.map Sl.d) := by
    cases v with
    | list ws => cases hv; rfl
    | tuple ws => cases hv; rfl
    | _ => cases hv
  have := mLc_map (mi := mIter (mVar [] j)) (vs := [i]) (f := aName i) (test := M.ret true) (elt := mCall 1 F (mCons (mVar [] i) mNil)) (r := r) (t := t) (p := fun _ => true) (g := fun d => match d with
    | .d x => .bool (p x)
    | _ => .none) (ds := vs.map Sl.d) ?_ (by simpa using hl) ?_ ?_
  · rw [this, List.filter_eq_self.mpr (fun _ _ => rfl), List.map_map]
    rfl
  · unfold mIter
    simp only [M.bind, mVar, h0, List.not_mem_nil, if_false, keep, optM, e3]
  · show ((wipeR r []).set i none |>.set i (r[i]?.getD none)) = r
    exact set_self hi
  · intro d hd
    obtain ⟨x, _, rfl⟩ := List.mem_map.mp hd
    have hl2 : (r.set i none).length = r.length := List.length_set
    refine ⟨(r.set i none).set i (some (.d x)), ?_, ?_⟩
    · have g1 : ((r.set i none).set i (some (Sl.d x)))[i]? = some (some (.d x)) := List.getElem?_set_self (by rw [List.length_set]; exact hi)
      have w1 : wipeR (wipeR r [i]) [i] = r.set i none := by
        show ((r.set i none).set i none) = _
        rw [List.set_set]
      unfold lcOne
      simp only [M.bind, wipeM, w1, aName, M.ret, if_true, mCall, mCons, mNil, mVar, g1, List.not_mem_nil, if_false, optM, keepAll, List.length_cons, List.length_nil, runF, hF, dataOf]
    · show (((r.set i none).set i (some (Sl.d x))).set i none) = r.set i none
      rw [List.set_set, List.set_set]
theorem all_e {F : FM} {p : PyData → Bool} {v : PyData} {vs : List PyData} {i j : Nat} {r : Rho} {t : Option Deal} (hF : ∀ x, F [.d x] t = .ok (.d (.bool (p x))) t) (hv : seqD v = some vs) (hl : vs.length < 1000000) (h0 : r[j]? = some (some (.d v))) (hi : i < r.length) :
    mTru (mCB allF (mCons (mFz (mLc (mIter (mVar [] j)) [i] (aName i) (M.ret true) (mCall 1 F (mCons (mVar [] i) mNil)))) mNil)) r t = .ok (vs.all p) r t := by
  have h := all_lc hF hv hl h0 hi
  generalize mLc (mIter (mVar [] j)) [i] (aName i) (M.ret true) (mCall 1 F (mCons (mVar [] i) mNil)) = mm at h ⊢
  simp only [mTru, mCB, mCons, mNil, mFz, M.bind, h, M.ret, useAll, use, allF, boolsOf_map, Option.map_some, lft, optM, truS, truD, List.all_map]
  rfl
theorem F_share_e (x : PyData) (t : Option Deal) : F_is_share [.d x] t = .ok (.d (.bool (shareD x))) t := rfl
theorem seq_isSeq {v : PyData} : isSeqD v = (seqD v).isSome := by cases v <;> rfl
theorem len_seq {v : PyData} {vs : List PyData} (hv : seqD v = some vs) : lenF [.d v] = some (.d (.int vs.length)) := by
  cases v with
  | list ws => cases hv; rfl
  | tuple ws => cases hv; rfl
  | _ => cases hv
noncomputable def chkT : M Bool := (mOr (mNot (mTru (mCall 1 F_is_sequence (mCons (mVar [] 0) mNil)))) (mOr (mNot (mT (mChain leF leF (mK (.d (.int 1))) (mCB lenF (mCons (mVar [] 0) mNil)) (mK (.d (.int 1000)))))) (mNot (mTru (mCB allF (mCons (mFz (mLc (mIter (mVar [] 0)) [3] (aName 3) (M.ret true) (mCall 1 F_is_share (mCons (mVar [] 3) mNil)))) mNil))))))
theorem chkT_e (v : PyData) (t : Option Deal) (hz : ∀ vs, seqD v = some vs → vs.length < 100000) : chkT [some (.d v), none, none, none] t = .ok (match seqD v with
    | some vs => if 1 ≤ vs.length ∧ vs.length ≤ 1000 then !(vs.all shareD) else true
    | none => true) [some (.d v), none, none, none] t := by
  cases hv : seqD v with
  | none =>
    have hs : isSeqD v = false := by rw [seq_isSeq, hv]; rfl
    simp [chkT, M.bind, M.ret, M.st, mT, mOp, mVar, mK, use, keep, lft, boolOf, optM, mCB, useAll, mCons, mNil, mTup, mLst, mFz, keepD, mSeq, mRet, mIfS, mAnd, mOr, mNot, mAndV, mOrV, mNotV, mIfE, mCall, keepAll, runF, mAsg, aName, mNx, mChain, fnM, startR, isiF, isT, isTN, askT, tyN, gtF, ltF, leF, geF, cmpF, eqF, neF, eqOk, scalD, atF, addF, subF, mulF, fdivF, modF, mTru, truS, isF, asks, truD, isNoneD, isBoolD, mRaise, raiseM, oneD, List.replicate, mLc, inComp, noX, lcL, lcOne, lcPut, wipeM, wipeR, dataOf, restR, allF, boolsOf, F_is_integer, F_great_divisor, F_is_share, F_is_sequence, mDrop, aTup, aCons, aNil, twoK, mPar, hs]
  | some vs =>
    have hs : isSeqD v = true := by rw [seq_isSeq, hv]; rfl
    have ha := all_e (F := F_is_share) (i := 3) (j := 0) (r := [some (.d v), none, none, none]) (t := t) (fun x => F_share_e x t) hv (by have := hz vs hv; omega) rfl (by show 3 < 4; decide)
    have hlen := len_seq hv
    unfold chkT
    generalize hg : mTru (mCB allF (mCons (mFz (mLc (mIter (mVar [] 0)) [3] (aName 3) (M.ret true) (mCall 1 F_is_share (mCons (mVar [] 3) mNil)))) mNil)) = mm at ha ⊢
    by_cases h1 : 1 ≤ vs.length
    · by_cases h2 : vs.length ≤ 1000
      · have h1' : (1 : Int) ≤ vs.length := by omega
        have h2' : (vs.length : Int) ≤ 1000 := by omega
        simp [M.bind, M.ret, M.st, mT, mOp, mVar, mK, use, keep, lft, boolOf, optM, mCB, useAll, mCons, mNil, mTup, mLst, mFz, keepD, mSeq, mRet, mIfS, mAnd, mOr, mNot, mAndV, mOrV, mNotV, mIfE, mCall, keepAll, runF, mAsg, aName, mNx, mChain, fnM, startR, isiF, isT, isTN, askT, tyN, gtF, ltF, leF, geF, cmpF, eqF, neF, eqOk, scalD, atF, addF, subF, mulF, fdivF, modF, mTru, truS, isF, asks, truD, isNoneD, isBoolD, mRaise, raiseM, oneD, List.replicate, mLc, inComp, noX, lcL, lcOne, lcPut, wipeM, wipeR, dataOf, restR, allF, boolsOf, F_is_integer, F_great_divisor, F_is_share, F_is_sequence, mDrop, aTup, aCons, aNil, twoK, mPar, hs, hlen, h1, h2, h1', h2', ha]
      · have h1' : (1 : Int) ≤ vs.length := by omega
        have h2' : ¬ (vs.length : Int) ≤ 1000 := by omega
        simp [M.bind, M.ret, M.st, mT, mOp, mVar, mK, use, keep, lft, boolOf, optM, mCB, useAll, mCons, mNil, mTup, mLst, mFz, keepD, mSeq, mRet, mIfS, mAnd, mOr, mNot, mAndV, mOrV, mNotV, mIfE, mCall, keepAll, runF, mAsg, aName, mNx, mChain, fnM, startR, isiF, isT, isTN, askT, tyN, gtF, ltF, leF, geF, cmpF, eqF, neF, eqOk, scalD, atF, addF, subF, mulF, fdivF, modF, mTru, truS, isF, asks, truD, isNoneD, isBoolD, mRaise, raiseM, oneD, List.replicate, mLc, inComp, noX, lcL, lcOne, lcPut, wipeM, wipeR, dataOf, restR, allF, boolsOf, F_is_integer, F_great_divisor, F_is_share, F_is_sequence, mDrop, aTup, aCons, aNil, twoK, mPar, hs, hlen, h1, h2, h1', h2']
    · have h1' : ¬ (1 : Int) ≤ vs.length := by omega
      simp [M.bind, M.ret, M.st, mT, mOp, mVar, mK, use, keep, lft, boolOf, optM, mCB, useAll, mCons, mNil, mTup, mLst, mFz, keepD, mSeq, mRet, mIfS, mAnd, mOr, mNot, mAndV, mOrV, mNotV, mIfE, mCall, keepAll, runF, mAsg, aName, mNx, mChain, fnM, startR, isiF, isT, isTN, askT, tyN, gtF, ltF, leF, geF, cmpF, eqF, neF, eqOk, scalD, atF, addF, subF, mulF, fdivF, modF, mTru, truS, isF, asks, truD, isNoneD, isBoolD, mRaise, raiseM, oneD, List.replicate, mLc, inComp, noX, lcL, lcOne, lcPut, wipeM, wipeR, dataOf, restR, allF, boolsOf, F_is_integer, F_great_divisor, F_is_share, F_is_sequence, mDrop, aTup, aCons, aNil, twoK, mPar, hs, hlen, h1, h1']
theorem sumOf_e {v : PyData} {vs : List PyData} {ps : List Pr} (hv : seqD v = some vs) (hu : unL vs = some ps) (hf : fits (prodB ps)) (hl : ps.length ≤ 1000) (t : Option Deal) : F_sum_of [.d v] t = .ok (.d (dP (sumL ps))) t := by
  unfold F_sum_of
  simp only [hv, hu, if_pos (And.intro hf hl)]
theorem e_chk : ∀ xs t, F_checked_shares xs t ≠ .st → fnM 4 (m_checked_shares F_is_sequence F_is_share F_sum_of) xs t = F_checked_shares xs t := by
  intro xs t h
  have e2 : m_checked_shares F_is_sequence F_is_share F_sum_of = mSeq (mIfS chkT (mRaise "InvalidQuestion" (mCons (mK (.d (.int 0))) mNil)) mNx) (mSeq (mAsg (aTup 2 (aCons (aName 1) (aCons (aName 2) aNil))) (mCall 1 F_sum_of (mCons (mVar [] 0) mNil))) (mIfS (mT (mOp gtF (mVar [] 1) (mVar [] 2))) (mRaise "Refused" (mCons (mK (.d (.int 0))) mNil)) mNx)) := rfl
  unfold F_checked_shares at h
  split at h
  · rename_i v
    cases hv : seqD v with
    | none =>
      have hc := chkT_e v t (fun vs h => by rw [hv] at h; cases h)
      rw [hv] at hc
      rw [e2]
      simp [M.bind, M.ret, M.st, mT, mOp, mVar, mK, use, keep, lft, boolOf, optM, mCB, useAll, mCons, mNil, mTup, mLst, mFz, keepD, mSeq, mRet, mIfS, mAnd, mOr, mNot, mAndV, mOrV, mNotV, mIfE, mCall, keepAll, runF, mAsg, aName, mNx, mChain, fnM, startR, isiF, isT, isTN, askT, tyN, gtF, ltF, leF, geF, cmpF, eqF, neF, eqOk, scalD, atF, addF, subF, mulF, fdivF, modF, mTru, truS, isF, asks, truD, isNoneD, isBoolD, mRaise, raiseM, oneD, List.replicate, mLc, inComp, noX, lcL, lcOne, lcPut, wipeM, wipeR, dataOf, restR, allF, boolsOf, F_is_integer, F_great_divisor, F_is_share, F_is_sequence, mDrop, aTup, aCons, aNil, twoK, mPar, hc, F_checked_shares, hv]
    | some vs =>
      rw [hv] at h
      simp only at h
      by_cases hl : 1 ≤ vs.length ∧ vs.length ≤ 1000
      · have hc := chkT_e v t (fun vs h => by rw [hv] at h; cases h; omega)
        rw [hv] at hc
        simp only [if_pos hl] at hc h
        cases hu : unL vs with
        | none =>
          have ha : vs.all shareD = false := by rw [← unL_some, hu]; rfl
          rw [ha] at hc
          rw [e2]
          simp [M.bind, M.ret, M.st, mT, mOp, mVar, mK, use, keep, lft, boolOf, optM, mCB, useAll, mCons, mNil, mTup, mLst, mFz, keepD, mSeq, mRet, mIfS, mAnd, mOr, mNot, mAndV, mOrV, mNotV, mIfE, mCall, keepAll, runF, mAsg, aName, mNx, mChain, fnM, startR, isiF, isT, isTN, askT, tyN, gtF, ltF, leF, geF, cmpF, eqF, neF, eqOk, scalD, atF, addF, subF, mulF, fdivF, modF, mTru, truS, isF, asks, truD, isNoneD, isBoolD, mRaise, raiseM, oneD, List.replicate, mLc, inComp, noX, lcL, lcOne, lcPut, wipeM, wipeR, dataOf, restR, allF, boolsOf, F_is_integer, F_great_divisor, F_is_share, F_is_sequence, mDrop, aTup, aCons, aNil, twoK, mPar, hc, F_checked_shares, hv, hl, hu]
        | some ps =>
          have ha : vs.all shareD = true := by rw [← unL_some, hu]; rfl
          rw [ha] at hc
          rw [hu] at h
          simp only at h
          by_cases hf : fits (prodB ps)
          · obtain ⟨_, _, l1⟩ := unL_all hu
            have hs := sumOf_e hv hu hf (by omega) t
            rw [e2]
            by_cases hg : (sumL ps).2 < (sumL ps).1
            · simp [M.bind, M.ret, M.st, mT, mOp, mVar, mK, use, keep, lft, boolOf, optM, mCB, useAll, mCons, mNil, mTup, mLst, mFz, keepD, mSeq, mRet, mIfS, mAnd, mOr, mNot, mAndV, mOrV, mNotV, mIfE, mCall, keepAll, runF, mAsg, aName, mNx, mChain, fnM, startR, isiF, isT, isTN, askT, tyN, gtF, ltF, leF, geF, cmpF, eqF, neF, eqOk, scalD, atF, addF, subF, mulF, fdivF, modF, mTru, truS, isF, asks, truD, isNoneD, isBoolD, mRaise, raiseM, oneD, List.replicate, mLc, inComp, noX, lcL, lcOne, lcPut, wipeM, wipeR, dataOf, restR, allF, boolsOf, F_is_integer, F_great_divisor, F_is_share, F_is_sequence, mDrop, aTup, aCons, aNil, twoK, mPar, hc, F_checked_shares, hv, hl, hu, hf, hs, hg, dP]
            · simp [M.bind, M.ret, M.st, mT, mOp, mVar, mK, use, keep, lft, boolOf, optM, mCB, useAll, mCons, mNil, mTup, mLst, mFz, keepD, mSeq, mRet, mIfS, mAnd, mOr, mNot, mAndV, mOrV, mNotV, mIfE, mCall, keepAll, runF, mAsg, aName, mNx, mChain, fnM, startR, isiF, isT, isTN, askT, tyN, gtF, ltF, leF, geF, cmpF, eqF, neF, eqOk, scalD, atF, addF, subF, mulF, fdivF, modF, mTru, truS, isF, asks, truD, isNoneD, isBoolD, mRaise, raiseM, oneD, List.replicate, mLc, inComp, noX, lcL, lcOne, lcPut, wipeM, wipeR, dataOf, restR, allF, boolsOf, F_is_integer, F_great_divisor, F_is_share, F_is_sequence, mDrop, aTup, aCons, aNil, twoK, mPar, hc, F_checked_shares, hv, hl, hu, hf, hs, hg, dP]
          · rw [if_neg hf] at h
            exact absurd rfl h
      · rw [if_neg hl] at h
        by_cases hz : vs.length < 100000
        · have hc := chkT_e v t (fun vs h => by rw [hv] at h; cases h; omega)
          rw [hv] at hc
          simp only [if_neg hl] at hc
          rw [e2]
          simp [M.bind, M.ret, M.st, mT, mOp, mVar, mK, use, keep, lft, boolOf, optM, mCB, useAll, mCons, mNil, mTup, mLst, mFz, keepD, mSeq, mRet, mIfS, mAnd, mOr, mNot, mAndV, mOrV, mNotV, mIfE, mCall, keepAll, runF, mAsg, aName, mNx, mChain, fnM, startR, isiF, isT, isTN, askT, tyN, gtF, ltF, leF, geF, cmpF, eqF, neF, eqOk, scalD, atF, addF, subF, mulF, fdivF, modF, mTru, truS, isF, asks, truD, isNoneD, isBoolD, mRaise, raiseM, oneD, List.replicate, mLc, inComp, noX, lcL, lcOne, lcPut, wipeM, wipeR, dataOf, restR, allF, boolsOf, F_is_integer, F_great_divisor, F_is_share, F_is_sequence, mDrop, aTup, aCons, aNil, twoK, mPar, hc, F_checked_shares, hv, hl, hz]
        · rw [if_neg hz] at h
          exact absurd rfl h
  · exact absurd rfl h
theorem e_joined : ∀ xs t, F_joined_shares xs t ≠ .st → fnM 1 (m_joined_shares F_checked_shares F_sum_of) xs t = F_joined_shares xs t := by
  intro xs t h
  unfold F_joined_shares at h
  split at h
  · rename_i v
    cases hv : seqD v with
    | none => simp [m_joined_shares, M.bind, M.ret, M.st, mT, mOp, mVar, mK, use, keep, lft, boolOf, optM, mCB, useAll, mCons, mNil, mTup, mLst, mFz, keepD, mSeq, mRet, mIfS, mAnd, mOr, mNot, mAndV, mOrV, mNotV, mIfE, mCall, keepAll, runF, mAsg, aName, mNx, mChain, fnM, startR, isiF, isT, isTN, askT, tyN, gtF, ltF, leF, geF, cmpF, eqF, neF, eqOk, scalD, atF, addF, subF, mulF, fdivF, modF, mTru, truS, isF, asks, truD, isNoneD, isBoolD, mRaise, raiseM, oneD, List.replicate, mLc, inComp, noX, lcL, lcOne, lcPut, wipeM, wipeR, dataOf, restR, allF, boolsOf, F_is_integer, F_great_divisor, F_is_share, F_is_sequence, mDrop, aTup, aCons, aNil, twoK, mPar, F_joined_shares, F_checked_shares, hv]
    | some vs =>
      rw [hv] at h
      simp only at h
      by_cases hl : 1 ≤ vs.length ∧ vs.length ≤ 1000
      · simp only [if_pos hl] at h
        cases hu : unL vs with
        | none => simp [m_joined_shares, M.bind, M.ret, M.st, mT, mOp, mVar, mK, use, keep, lft, boolOf, optM, mCB, useAll, mCons, mNil, mTup, mLst, mFz, keepD, mSeq, mRet, mIfS, mAnd, mOr, mNot, mAndV, mOrV, mNotV, mIfE, mCall, keepAll, runF, mAsg, aName, mNx, mChain, fnM, startR, isiF, isT, isTN, askT, tyN, gtF, ltF, leF, geF, cmpF, eqF, neF, eqOk, scalD, atF, addF, subF, mulF, fdivF, modF, mTru, truS, isF, asks, truD, isNoneD, isBoolD, mRaise, raiseM, oneD, List.replicate, mLc, inComp, noX, lcL, lcOne, lcPut, wipeM, wipeR, dataOf, restR, allF, boolsOf, F_is_integer, F_great_divisor, F_is_share, F_is_sequence, mDrop, aTup, aCons, aNil, twoK, mPar, F_joined_shares, F_checked_shares, hv, hl, hu]
        | some ps =>
          rw [hu] at h
          simp only at h
          by_cases hf : fits (prodB ps)
          · obtain ⟨_, _, l1⟩ := unL_all hu
            have hs := sumOf_e hv hu hf (by omega) t
            by_cases hg : (sumL ps).2 < (sumL ps).1
            · simp [m_joined_shares, M.bind, M.ret, M.st, mT, mOp, mVar, mK, use, keep, lft, boolOf, optM, mCB, useAll, mCons, mNil, mTup, mLst, mFz, keepD, mSeq, mRet, mIfS, mAnd, mOr, mNot, mAndV, mOrV, mNotV, mIfE, mCall, keepAll, runF, mAsg, aName, mNx, mChain, fnM, startR, isiF, isT, isTN, askT, tyN, gtF, ltF, leF, geF, cmpF, eqF, neF, eqOk, scalD, atF, addF, subF, mulF, fdivF, modF, mTru, truS, isF, asks, truD, isNoneD, isBoolD, mRaise, raiseM, oneD, List.replicate, mLc, inComp, noX, lcL, lcOne, lcPut, wipeM, wipeR, dataOf, restR, allF, boolsOf, F_is_integer, F_great_divisor, F_is_share, F_is_sequence, mDrop, aTup, aCons, aNil, twoK, mPar, F_joined_shares, F_checked_shares, hv, hl, hu, hf, hg]
            · simp [m_joined_shares, M.bind, M.ret, M.st, mT, mOp, mVar, mK, use, keep, lft, boolOf, optM, mCB, useAll, mCons, mNil, mTup, mLst, mFz, keepD, mSeq, mRet, mIfS, mAnd, mOr, mNot, mAndV, mOrV, mNotV, mIfE, mCall, keepAll, runF, mAsg, aName, mNx, mChain, fnM, startR, isiF, isT, isTN, askT, tyN, gtF, ltF, leF, geF, cmpF, eqF, neF, eqOk, scalD, atF, addF, subF, mulF, fdivF, modF, mTru, truS, isF, asks, truD, isNoneD, isBoolD, mRaise, raiseM, oneD, List.replicate, mLc, inComp, noX, lcL, lcOne, lcPut, wipeM, wipeR, dataOf, restR, allF, boolsOf, F_is_integer, F_great_divisor, F_is_share, F_is_sequence, mDrop, aTup, aCons, aNil, twoK, mPar, F_joined_shares, F_checked_shares, hv, hl, hu, hf, hs, hg]
          · rw [if_neg hf] at h
            exact absurd rfl h
      · rw [if_neg hl] at h
        by_cases hz : vs.length < 100000
        · simp [m_joined_shares, M.bind, M.ret, M.st, mT, mOp, mVar, mK, use, keep, lft, boolOf, optM, mCB, useAll, mCons, mNil, mTup, mLst, mFz, keepD, mSeq, mRet, mIfS, mAnd, mOr, mNot, mAndV, mOrV, mNotV, mIfE, mCall, keepAll, runF, mAsg, aName, mNx, mChain, fnM, startR, isiF, isT, isTN, askT, tyN, gtF, ltF, leF, geF, cmpF, eqF, neF, eqOk, scalD, atF, addF, subF, mulF, fdivF, modF, mTru, truS, isF, asks, truD, isNoneD, isBoolD, mRaise, raiseM, oneD, List.replicate, mLc, inComp, noX, lcL, lcOne, lcPut, wipeM, wipeR, dataOf, restR, allF, boolsOf, F_is_integer, F_great_divisor, F_is_share, F_is_sequence, mDrop, aTup, aCons, aNil, twoK, mPar, F_joined_shares, F_checked_shares, hv, hl, hz]
        · rw [if_neg hz] at h
          exact absurd rfl h
  · exact absurd rfl h
theorem e_whole : ∀ xs t, F_is_whole xs t ≠ .st → fnM 1 (m_is_whole F_is_share) xs t = F_is_whole xs t := by
  intro xs t h
  unfold F_is_whole at h
  split at h
  · rename_i v
    cases hu : unS v with
    | none =>
      have hs : shareD v = false := by unfold shareD; rw [hu]; rfl
      have hw : wholeD v = false := by
        cases hw : wholeD v with
        | false => rfl
        | true =>
          unfold wholeD at hw
          split at hw
          · rename_i a b
            have e := of_decide_eq_true hw
            obtain ⟨rfl, rfl⟩ := e
            revert hu
            decide
          · cases hw
      simp [m_is_whole, M.bind, M.ret, M.st, mT, mOp, mVar, mK, use, keep, lft, boolOf, optM, mCB, useAll, mCons, mNil, mTup, mLst, mFz, keepD, mSeq, mRet, mIfS, mAnd, mOr, mNot, mAndV, mOrV, mNotV, mIfE, mCall, keepAll, runF, mAsg, aName, mNx, mChain, fnM, startR, isiF, isT, isTN, askT, tyN, gtF, ltF, leF, geF, cmpF, eqF, neF, eqOk, scalD, atF, addF, subF, mulF, fdivF, modF, mTru, truS, isF, asks, truD, isNoneD, isBoolD, mRaise, raiseM, oneD, List.replicate, mLc, inComp, noX, lcL, lcOne, lcPut, wipeM, wipeR, dataOf, restR, allF, boolsOf, F_is_integer, F_great_divisor, F_is_share, F_is_sequence, mDrop, aTup, aCons, aNil, twoK, mPar, F_is_whole, hs, hw]
    | some p =>
      obtain ⟨rfl, hk⟩ := unS_some hu
      have hs : shareD (dP p) = true := by unfold shareD; rw [hu]; rfl
      have hs1 : shareD (.tuple [.int p.1, .int p.2]) = true := hs
      have hw : (p.1 == p.2) = wholeD (.tuple [.int p.1, .int p.2]) := by
        unfold wholeD
        obtain ⟨k1, k2, k3⟩ := hk
        by_cases e : p.1 = p.2
        · rw [e] at k3
          have e1 : p.2.natAbs = 1 := by rw [← k3, Int.gcd_self]
          have : p.2 = 1 := by omega
          rw [e, this] <;> rfl
        · rw [beq_eq_false_iff_ne.mpr e]
          exact (decide_eq_false (by omega)).symm
      simp [m_is_whole, M.bind, M.ret, M.st, mT, mOp, mVar, mK, use, keep, lft, boolOf, optM, mCB, useAll, mCons, mNil, mTup, mLst, mFz, keepD, mSeq, mRet, mIfS, mAnd, mOr, mNot, mAndV, mOrV, mNotV, mIfE, mCall, keepAll, runF, mAsg, aName, mNx, mChain, fnM, startR, isiF, isT, isTN, askT, tyN, gtF, ltF, leF, geF, cmpF, eqF, neF, eqOk, scalD, atF, addF, subF, mulF, fdivF, modF, mTru, truS, isF, asks, truD, isNoneD, isBoolD, mRaise, raiseM, oneD, List.replicate, mLc, inComp, noX, lcL, lcOne, lcPut, wipeM, wipeR, dataOf, restR, allF, boolsOf, F_is_integer, F_great_divisor, F_is_share, F_is_sequence, mDrop, aTup, aCons, aNil, twoK, mPar, F_is_whole, hs1, dP, L2.atI, L2.ixN, PyData.eqv, hw]
  · exact absurd rfl h
end K05
end
section
set_option maxRecDepth 100000
set_option maxHeartbeats 4000000
namespace K05
open PySem PySem.Spec DL
noncomputable def leftT : M Bool := (mOr (mNot (mTru (mCall 1 F_is_sequence (mCons (mVar [] 1) mNil)))) (mNot (mTru (mCB allF (mCons (mFz (mLc (mIter (mVar [] 1)) [5] (aName 5) (M.ret true) (mCall 1 F_is_share (mCons (mVar [] 5) mNil)))) mNil)))))
theorem leftT_e (s v : PyData) (t : Option Deal) (hz : ∀ vs, seqD v = some vs → vs.length < 100000) : leftT [some (.d s), some (.d v), none, none, none, none] t = .ok (match seqD v with
    | some vs => !(vs.all shareD)
    | none => true) [some (.d s), some (.d v), none, none, none, none] t := by
  cases hv : seqD v with
  | none =>
    have hs : isSeqD v = false := by rw [seq_isSeq, hv]; rfl
    simp [leftT, M.bind, M.ret, M.st, mT, mOp, mVar, mK, use, keep, lft, boolOf, optM, mCB, useAll, mCons, mNil, mTup, mLst, mFz, keepD, mSeq, mRet, mIfS, mAnd, mOr, mNot, mAndV, mOrV, mNotV, mIfE, mCall, keepAll, runF, mAsg, aName, mNx, mChain, fnM, startR, isiF, isT, isTN, askT, tyN, gtF, ltF, leF, geF, cmpF, eqF, neF, eqOk, scalD, atF, addF, subF, mulF, fdivF, modF, mTru, truS, isF, asks, truD, isNoneD, isBoolD, mRaise, raiseM, oneD, List.replicate, mLc, inComp, noX, lcL, lcOne, lcPut, wipeM, wipeR, dataOf, restR, allF, boolsOf, F_is_integer, F_great_divisor, F_is_share, F_is_sequence, mDrop, aTup, aCons, aNil, twoK, mPar, hs]
  | some vs =>
    have hs : isSeqD v = true := by rw [seq_isSeq, hv]; rfl
    have ha := all_e (F := F_is_share) (i := 5) (j := 1) (r := [some (.d s), some (.d v), none, none, none, none]) (t := t) (fun x => F_share_e x t) hv (by have := hz vs hv; omega) rfl (by show 5 < 6; decide)
    unfold leftT
    generalize hg : mTru (mCB allF (mCons (mFz (mLc (mIter (mVar [] 1)) [5] (aName 5) (M.ret true) (mCall 1 F_is_share (mCons (mVar [] 5) mNil)))) mNil)) = mm at ha ⊢
    simp [M.bind, M.ret, M.st, mT, mOp, mVar, mK, use, keep, lft, boolOf, optM, mCB, useAll, mCons, mNil, mTup, mLst, mFz, keepD, mSeq, mRet, mIfS, mAnd, mOr, mNot, mAndV, mOrV, mNotV, mIfE, mCall, keepAll, runF, mAsg, aName, mNx, mChain, fnM, startR, isiF, isT, isTN, askT, tyN, gtF, ltF, leF, geF, cmpF, eqF, neF, eqOk, scalD, atF, addF, subF, mulF, fdivF, modF, mTru, truS, isF, asks, truD, isNoneD, isBoolD, mRaise, raiseM, oneD, List.replicate, mLc, inComp, noX, lcL, lcOne, lcPut, wipeM, wipeR, dataOf, restR, allF, boolsOf, F_is_integer, F_great_divisor, F_is_share, F_is_sequence, mDrop, aTup, aCons, aNil, twoK, mPar, hs, ha]
theorem sum_sm {ps : List Pr} : ∀ {s : Pr} {n : Nat} {b : Int}, Sm s n b → 0 < b → (∀ p ∈ ps, okP p) → Sm (ps.foldl add1 s) (n + ps.length) (b * prodB ps) := by
  induction ps with
  | nil => intro s n b h hb hk; simpa [prodB] using h
  | cons p ps ih =>
    intro s n b h hb hk
    have kp := hk p List.mem_cons_self
    have p0 : 0 < p.2 := by have := kp.1; have := kp.2.1; omega
    have := ih (add1_sm h kp) (Int.mul_pos hb p0) fun q hq => hk q (List.mem_cons_of_mem _ hq)
    have e : b * prodB (p :: ps) = b * p.2 * prodB ps := by
      show b * (p.2 * prodB ps) = _
      rw [Int.mul_assoc]
    rw [e]
    have e2 : n + (p :: ps).length = n + 1 + ps.length := by simp; omega
    rw [e2]
    exact this
theorem sumL_sm {ps : List Pr} (hk : ∀ p ∈ ps, okP p) : Sm (sumL ps) ps.length (prodB ps) := by
  have := sum_sm (ps := ps) (s := (0, 1)) (n := 0) (b := 1) ⟨by decide, by decide, by decide, by decide⟩ (by decide) hk
  simpa [sumL] using this
theorem e_left : ∀ xs t, F_what_is_left xs t ≠ .st → fnM 6 (m_what_is_left F_checked_share F_is_sequence F_is_share F_sum_of F_lowest) xs t = F_what_is_left xs t := by
  intro xs t h
  have e2 : m_what_is_left F_checked_share F_is_sequence F_is_share F_sum_of F_lowest = (mSeq (mDrop (mCall 2 F_checked_share (mCons (mVar [] 0) (mCons (mK (.d (.int 0))) mNil)))) (mSeq (mIfS leftT (mRaise "InvalidQuestion" (mCons (mK (.d (.int 1))) mNil)) mNx) (mSeq (mAsg (aTup 2 (aCons (aName 2) (aCons (aName 3) aNil))) (mCall 1 F_sum_of (mCons (mVar [] 1) mNil))) (mSeq (mAsg (aName 4) (mOp subF (mOp mulF (mOp atF (mVar [] 0) (mK (.d (.int 0)))) (mVar [] 3)) (mOp mulF (mVar [] 2) (mOp atF (mVar [] 0) (mK (.d (.int 1))))))) (mSeq (mIfS (mT (mOp ltF (mVar [] 4) (mK (.d (.int 0))))) (mRaise "Refused" (mCons (mK (.d (.int 0))) mNil)) mNx) (mRet (mIfE (mT (mOp eqF (mVar [] 4) (mK (.d (.int 0))))) (mK (.d .none)) (mCall 2 F_lowest (mCons (mVar [] 4) (mCons (mOp mulF (mOp atF (mVar [] 0) (mK (.d (.int 1)))) (mVar [] 3)) mNil)))))))))) := rfl
  unfold F_what_is_left at h
  split at h
  · rename_i s v
    cases hu : unS s with
    | none =>
      have hs : shareD s = false := by unfold shareD; rw [hu]; rfl
      rw [e2]
      simp [M.bind, M.ret, M.st, mT, mOp, mVar, mK, use, keep, lft, boolOf, optM, mCB, useAll, mCons, mNil, mTup, mLst, mFz, keepD, mSeq, mRet, mIfS, mAnd, mOr, mNot, mAndV, mOrV, mNotV, mIfE, mCall, keepAll, runF, mAsg, aName, mNx, mChain, fnM, startR, isiF, isT, isTN, askT, tyN, gtF, ltF, leF, geF, cmpF, eqF, neF, eqOk, scalD, atF, addF, subF, mulF, fdivF, modF, mTru, truS, isF, asks, truD, isNoneD, isBoolD, mRaise, raiseM, oneD, List.replicate, mLc, inComp, noX, lcL, lcOne, lcPut, wipeM, wipeR, dataOf, restR, allF, boolsOf, F_is_integer, F_great_divisor, F_is_share, F_is_sequence, mDrop, aTup, aCons, aNil, twoK, mPar, F_checked_share, F_what_is_left, hs, hu]
    | some p =>
      obtain ⟨rfl, hk⟩ := unS_some hu
      have hs : shareD (dP p) = true := by unfold shareD; rw [hu]; rfl
      have hs1 : shareD (.tuple [.int p.1, .int p.2]) = true := hs
      have hu1 : unS (.tuple [.int p.1, .int p.2]) = some p := hu
      rw [hu] at h
      simp only at h
      cases hv : seqD v with
      | none =>
        have hc := leftT_e (dP p) v t (fun vs h => by rw [hv] at h; cases h)
        rw [hv] at hc
        rw [e2]
        simp [M.bind, M.ret, M.st, mT, mOp, mVar, mK, use, keep, lft, boolOf, optM, mCB, useAll, mCons, mNil, mTup, mLst, mFz, keepD, mSeq, mRet, mIfS, mAnd, mOr, mNot, mAndV, mOrV, mNotV, mIfE, mCall, keepAll, runF, mAsg, aName, mNx, mChain, fnM, startR, isiF, isT, isTN, askT, tyN, gtF, ltF, leF, geF, cmpF, eqF, neF, eqOk, scalD, atF, addF, subF, mulF, fdivF, modF, mTru, truS, isF, asks, truD, isNoneD, isBoolD, mRaise, raiseM, oneD, List.replicate, mLc, inComp, noX, lcL, lcOne, lcPut, wipeM, wipeR, dataOf, restR, allF, boolsOf, F_is_integer, F_great_divisor, F_is_share, F_is_sequence, mDrop, aTup, aCons, aNil, twoK, mPar, F_checked_share, F_what_is_left, hs, hu, hc, hv]
      | some vs =>
        rw [hv] at h
        simp only at h
        by_cases hl : vs.length ≤ 1000
        · rw [if_pos hl] at h
          have hc := leftT_e (dP p) v t (fun vs h => by rw [hv] at h; cases h; omega)
          rw [hv] at hc
          cases hw : unL vs with
          | none =>
            have ha : vs.all shareD = false := by rw [← unL_some, hw]; rfl
            simp only [ha] at hc
            rw [e2]
            simp [M.bind, M.ret, M.st, mT, mOp, mVar, mK, use, keep, lft, boolOf, optM, mCB, useAll, mCons, mNil, mTup, mLst, mFz, keepD, mSeq, mRet, mIfS, mAnd, mOr, mNot, mAndV, mOrV, mNotV, mIfE, mCall, keepAll, runF, mAsg, aName, mNx, mChain, fnM, startR, isiF, isT, isTN, askT, tyN, gtF, ltF, leF, geF, cmpF, eqF, neF, eqOk, scalD, atF, addF, subF, mulF, fdivF, modF, mTru, truS, isF, asks, truD, isNoneD, isBoolD, mRaise, raiseM, oneD, List.replicate, mLc, inComp, noX, lcL, lcOne, lcPut, wipeM, wipeR, dataOf, restR, allF, boolsOf, F_is_integer, F_great_divisor, F_is_share, F_is_sequence, mDrop, aTup, aCons, aNil, twoK, mPar, F_checked_share, F_what_is_left, hs, hu, hc, hv, hl, hw]
          | some ps =>
            have ha : vs.all shareD = true := by rw [← unL_some, hw]; rfl
            simp only [ha] at hc
            have hc1 : leftT [some (.d (.tuple [.int p.1, .int p.2])), some (.d v), none, none, none, none] t = .ok (!true) [some (.d (.tuple [.int p.1, .int p.2])), some (.d v), none, none, none, none] t := hc
            rw [hw] at h
            simp only at h
            by_cases hf : fits (prodB ps) ∧ fits p.2
            · obtain ⟨hf1, hf2⟩ := hf
              obtain ⟨_, kps, l1⟩ := unL_all hw
              have hsum := sumOf_e hv hw hf1 (by omega) t
              have sm := sumL_sm kps
              obtain ⟨a0, b0, bl, al⟩ := sm
              obtain ⟨k1, k2, k3⟩ := hk
              have c1 : (sumL ps).2.natAbs < 2 ^ 1500 := by unfold fits at hf1; omega
              have c2 : p.1.natAbs < 2 ^ 1500 := by unfold fits at hf2; omega
              have c3 : (sumL ps).1.natAbs < 2 ^ 1600 := by
                have h3 : (ps.length : Int) * (sumL ps).2 ≤ 1000 * (sumL ps).2 := Int.mul_le_mul_of_nonneg_right (by omega) (by omega)
                have h4 : (1000 : Int) * 2 ^ 1500 ≤ 2 ^ 1600 := by decide +kernel
                have h5 : (sumL ps).2 < 2 ^ 1500 := by omega
                omega
              have l1' := log2_lt' c1 (by decide)
              have l2' := log2_lt' c2 (by decide)
              have l3' := log2_lt' c3 (by decide)
              have l4' := fits_log hf2
              have d1 : p.1.natAbs.log2 + (sumL ps).2.natAbs.log2 < 1000000 := by omega
              have d2 : (sumL ps).1.natAbs.log2 + p.2.natAbs.log2 < 1000000 := by omega
              have d3 : p.2.natAbs.log2 + (sumL ps).2.natAbs.log2 < 1000000 := by omega
              have d4 : 0 < p.2 * (sumL ps).2 := Int.mul_pos (by omega) b0
              have d5 : (p.2 * (sumL ps).2).natAbs.log2 < 9000 := by
                rw [Int.natAbs_mul]
                have := log2_lt' (mul_small hf2 c1) (by decide)
                omega
              rw [e2]
              by_cases g1 : p.1 * (sumL ps).2 - (sumL ps).1 * p.2 < 0
              · simp [M.bind, M.ret, M.st, mT, mOp, mVar, mK, use, keep, lft, boolOf, optM, mCB, useAll, mCons, mNil, mTup, mLst, mFz, keepD, mSeq, mRet, mIfS, mAnd, mOr, mNot, mAndV, mOrV, mNotV, mIfE, mCall, keepAll, runF, mAsg, aName, mNx, mChain, fnM, startR, isiF, isT, isTN, askT, tyN, gtF, ltF, leF, geF, cmpF, eqF, neF, eqOk, scalD, atF, addF, subF, mulF, fdivF, modF, mTru, truS, isF, asks, truD, isNoneD, isBoolD, mRaise, raiseM, oneD, List.replicate, mLc, inComp, noX, lcL, lcOne, lcPut, wipeM, wipeR, dataOf, restR, allF, boolsOf, F_is_integer, F_great_divisor, F_is_share, F_is_sequence, mDrop, aTup, aCons, aNil, twoK, mPar, F_checked_share, F_what_is_left, hs1, hu1, hc1, hv, hl, hw, hf1, hf2, hsum, dP, L2.atI, L2.ixN, d1, d2, d3, g1]
                skip
              · by_cases g2 : p.1 * (sumL ps).2 - (sumL ps).1 * p.2 = 0
                · simp [M.bind, M.ret, M.st, mT, mOp, mVar, mK, use, keep, lft, boolOf, optM, mCB, useAll, mCons, mNil, mTup, mLst, mFz, keepD, mSeq, mRet, mIfS, mAnd, mOr, mNot, mAndV, mOrV, mNotV, mIfE, mCall, keepAll, runF, mAsg, aName, mNx, mChain, fnM, startR, isiF, isT, isTN, askT, tyN, gtF, ltF, leF, geF, cmpF, eqF, neF, eqOk, scalD, atF, addF, subF, mulF, fdivF, modF, mTru, truS, isF, asks, truD, isNoneD, isBoolD, mRaise, raiseM, oneD, List.replicate, mLc, inComp, noX, lcL, lcOne, lcPut, wipeM, wipeR, dataOf, restR, allF, boolsOf, F_is_integer, F_great_divisor, F_is_share, F_is_sequence, mDrop, aTup, aCons, aNil, twoK, mPar, F_checked_share, F_what_is_left, hs1, hu1, hc1, hv, hl, hw, hf1, hf2, hsum, dP, L2.atI, L2.ixN, d1, d2, d3, g1, g2, PyData.eqv]
                  skip
                · have g3 : (sumL ps).1 * p.2 ≤ p.1 * (sumL ps).2 := by omega
                  simp [M.bind, M.ret, M.st, mT, mOp, mVar, mK, use, keep, lft, boolOf, optM, mCB, useAll, mCons, mNil, mTup, mLst, mFz, keepD, mSeq, mRet, mIfS, mAnd, mOr, mNot, mAndV, mOrV, mNotV, mIfE, mCall, keepAll, runF, mAsg, aName, mNx, mChain, fnM, startR, isiF, isT, isTN, askT, tyN, gtF, ltF, leF, geF, cmpF, eqF, neF, eqOk, scalD, atF, addF, subF, mulF, fdivF, modF, mTru, truS, isF, asks, truD, isNoneD, isBoolD, mRaise, raiseM, oneD, List.replicate, mLc, inComp, noX, lcL, lcOne, lcPut, wipeM, wipeR, dataOf, restR, allF, boolsOf, F_is_integer, F_great_divisor, F_is_share, F_is_sequence, mDrop, aTup, aCons, aNil, twoK, mPar, F_checked_share, F_what_is_left, hs1, hu1, hc1, hv, hl, hw, hf1, hf2, hsum, dP, L2.atI, L2.ixN, d1, d2, d3, d4, d5, g1, g2, g3, PyData.eqv, F_lowest]
                  skip
            · rw [if_neg hf] at h
              exact absurd rfl h
        · rw [if_neg hl] at h
          exact absurd rfl h
  · exact absurd rfl h
end K05
end
section
set_option maxRecDepth 100000
set_option maxHeartbeats 4000000
namespace K05
open PySem PySem.Spec DL
theorem lc_gen {elt : M Tk} {test : M Bool} {p : PyData → Bool} {g : PyData → PyData} {v : PyData} {vs : List PyData} {i j : Nat} {r : Rho} {t : Option Deal}
    (hT : ∀ (x : PyData) (r' : Rho), x ∈ vs → r'[i]? = some (some (.d x)) → test r' t = .ok (p x) r' t) (hE : ∀ (x : PyData) (r' : Rho), x ∈ vs → p x = true → r'[i]? = some (some (.d x)) → elt r' t = .ok (.v (.d (g x))) r' t)
    (hv : seqD v = some vs) (hl : vs.length < 1000000) (h0 : r[j]? = some (some (.d v))) (hi : i < r.length) :
    mLc (mIter (mVar [] j)) [i] (aName i) test elt r t = .ok ((vs.filter p).map g) r t := by
  have e3 : itemsOf (.d v) = some (vs.map Sl.d) := by
    cases v with
    | list ws => cases hv; rfl
    | tuple ws => cases hv; rfl
    | _ => cases hv
  have := mLc_map (mi := mIter (mVar [] j)) (vs := [i]) (f := aName i) (test := test) (elt := elt) (r := r) (t := t) (p := fun d => match d with
    | .d x => p x
    | _ => false) (g := fun d => match d with
    | .d x => g x
    | _ => .none) (ds := vs.map Sl.d) ?_ (by simpa using hl) ?_ ?_
  · rw [this, List.filter_map, List.map_map]
    rfl
  · unfold mIter
    simp only [M.bind, mVar, h0, List.not_mem_nil, if_false, keep, optM, e3]
  · show ((wipeR r []).set i none |>.set i (r[i]?.getD none)) = r
    exact set_self hi
  · intro d hd
    obtain ⟨x, hx, rfl⟩ := List.mem_map.mp hd
    have hl2 : (r.set i none).length = r.length := List.length_set
    refine ⟨(r.set i none).set i (some (.d x)), ?_, ?_⟩
    · have g1 : ((r.set i none).set i (some (Sl.d x)))[i]? = some (some (.d x)) := List.getElem?_set_self (by rw [List.length_set]; exact hi)
      have w1 : wipeR (wipeR r [i]) [i] = r.set i none := by
        show ((r.set i none).set i none) = _
        rw [List.set_set]
      unfold lcOne
      simp only [M.bind, wipeM, w1, aName, hT x _ hx g1]
      cases hp : p x with
      | true => simp only [if_true, M.bind, hE x _ hx hp g1, dataOf, optM, M.ret]
      | false => simp [M.ret]
    · show (((r.set i none).set i (some (Sl.d x))).set i none) = r.set i none
      rw [List.set_set, List.set_set]
theorem str_beq (a z : Str) : (a == z) = decide (z = a) := by
  by_cases h : z = a
  · subst h; simp
  · rw [decide_eq_false h, beq_eq_false_iff_ne]; exact fun e => h e.symm
noncomputable def meetE : M Tk := (mAndV (mCB isiF (mCons (mVar [] 1) (mCons (mK (.raw (.ty "str"))) mNil))) (mOp (inF false) (mVar [] 1) (mTup (mCons (mK (.d (.str "read"))) (mCons (mK (.d (.str "edit"))) mNil)))))
theorem meetE_e (x : PyData) (r : Rho) (t : Option Deal) (h : r[1]? = some (some (.d x))) : meetE r t = .ok (.v (.d (.bool (rightD x)))) r t := by
  cases x with
  | str z =>
    simp [meetE, M.bind, M.ret, M.st, mT, mOp, mVar, mK, use, keep, lft, boolOf, optM, mCB, useAll, mCons, mNil, mTup, mLst, mFz, keepD, mSeq, mRet, mIfS, mAnd, mOr, mNot, mAndV, mOrV, mNotV, mIfE, mCall, keepAll, runF, mAsg, aName, mNx, mChain, fnM, startR, isiF, isT, isTN, askT, tyN, gtF, ltF, leF, geF, cmpF, eqF, neF, eqOk, scalD, atF, addF, subF, mulF, fdivF, modF, mTru, truS, isF, asks, truD, isNoneD, isBoolD, mRaise, raiseM, oneD, List.replicate, mLc, inComp, noX, lcL, lcOne, lcPut, wipeM, wipeR, dataOf, restR, allF, boolsOf, F_is_integer, F_great_divisor, F_is_share, F_is_sequence, mDrop, aTup, aCons, aNil, twoK, mPar, h, inF, flatD, inD, rightD, PyData.eqv, str_beq]
  | _ => simp [meetE, M.bind, M.ret, M.st, mT, mOp, mVar, mK, use, keep, lft, boolOf, optM, mCB, useAll, mCons, mNil, mTup, mLst, mFz, keepD, mSeq, mRet, mIfS, mAnd, mOr, mNot, mAndV, mOrV, mNotV, mIfE, mCall, keepAll, runF, mAsg, aName, mNx, mChain, fnM, startR, isiF, isT, isTN, askT, tyN, gtF, ltF, leF, geF, cmpF, eqF, neF, eqOk, scalD, atF, addF, subF, mulF, fdivF, modF, mTru, truS, isF, asks, truD, isNoneD, isBoolD, mRaise, raiseM, oneD, List.replicate, mLc, inComp, noX, lcL, lcOne, lcPut, wipeM, wipeR, dataOf, restR, allF, boolsOf, F_is_integer, F_great_divisor, F_is_share, F_is_sequence, mDrop, aTup, aCons, aNil, twoK, mPar, h, rightD]
noncomputable def meetT : M Bool := (mOr (mNot (mTru (mCall 1 F_is_sequence (mCons (mVar [] 0) mNil)))) (mNot (mTru (mCB allF (mCons (mFz (mLc (mIter (mVar [] 0)) [1] (aName 1) (M.ret true) meetE)) mNil)))))
theorem meetT_e (v : PyData) (t : Option Deal) (hz : ∀ vs, seqD v = some vs → vs.length < 100000) : meetT [some (.d v), none] t = .ok (match seqD v with
    | some vs => !(vs.all rightD)
    | none => true) [some (.d v), none] t := by
  cases hv : seqD v with
  | none =>
    have hs : isSeqD v = false := by rw [seq_isSeq, hv]; rfl
    simp [meetT, M.bind, M.ret, M.st, mT, mOp, mVar, mK, use, keep, lft, boolOf, optM, mCB, useAll, mCons, mNil, mTup, mLst, mFz, keepD, mSeq, mRet, mIfS, mAnd, mOr, mNot, mAndV, mOrV, mNotV, mIfE, mCall, keepAll, runF, mAsg, aName, mNx, mChain, fnM, startR, isiF, isT, isTN, askT, tyN, gtF, ltF, leF, geF, cmpF, eqF, neF, eqOk, scalD, atF, addF, subF, mulF, fdivF, modF, mTru, truS, isF, asks, truD, isNoneD, isBoolD, mRaise, raiseM, oneD, List.replicate, mLc, inComp, noX, lcL, lcOne, lcPut, wipeM, wipeR, dataOf, restR, allF, boolsOf, F_is_integer, F_great_divisor, F_is_share, F_is_sequence, mDrop, aTup, aCons, aNil, twoK, mPar, hs]
  | some vs =>
    have hs : isSeqD v = true := by rw [seq_isSeq, hv]; rfl
    have ha := lc_gen (elt := meetE) (test := M.ret true) (p := fun _ => true) (g := fun x => .bool (rightD x)) (i := 1) (j := 0) (r := [some (.d v), none]) (t := t) (fun _ _ _ _ => rfl) (fun x r' _ _ h => meetE_e x r' t h) hv (by have := hz vs hv; omega) rfl (by show 1 < 2; decide)
    rw [List.filter_eq_self.mpr (fun _ _ => rfl)] at ha
    unfold meetT
    generalize mLc (mIter (mVar [] 0)) [1] (aName 1) (M.ret true) meetE = mm at ha ⊢
    have hb : ∀ bs : List PyData, (bs.map rightD).all id = bs.all rightD := fun bs => by rw [List.all_map]; rfl
    simp [M.bind, M.ret, M.st, mT, mOp, mVar, mK, use, keep, lft, boolOf, optM, mCB, useAll, mCons, mNil, mTup, mLst, mFz, keepD, mSeq, mRet, mIfS, mAnd, mOr, mNot, mAndV, mOrV, mNotV, mIfE, mCall, keepAll, runF, mAsg, aName, mNx, mChain, fnM, startR, isiF, isT, isTN, askT, tyN, gtF, ltF, leF, geF, cmpF, eqF, neF, eqOk, scalD, atF, addF, subF, mulF, fdivF, modF, mTru, truS, isF, asks, truD, isNoneD, isBoolD, mRaise, raiseM, oneD, List.replicate, mLc, inComp, noX, lcL, lcOne, lcPut, wipeM, wipeR, dataOf, restR, allF, boolsOf, F_is_integer, F_great_divisor, F_is_share, F_is_sequence, mDrop, aTup, aCons, aNil, twoK, mPar, hs, ha, boolsOf_map, hb]
theorem flat_right : ∀ {vs : List PyData}, vs.all rightD = true → vs.all flatD = true
  | [], _ => rfl
  | x :: vs, h => by
    rw [List.all_cons, Bool.and_eq_true] at h
    rw [List.all_cons, flat_right h.2, Bool.and_true]
    cases x with
    | str z => rfl
    | _ => cases h.1
theorem in_edit : ∀ {vs : List PyData}, vs.all rightD = true → inD (.str "edit") vs = vs.any editD
  | [], _ => rfl
  | x :: vs, h => by
    rw [List.all_cons, Bool.and_eq_true] at h
    have ih := in_edit h.2
    cases x with
    | str z =>
      unfold inD at ih ⊢
      rw [List.any_cons, List.any_cons, ← ih]
      congr 1
    | _ => cases h.1
theorem e_meet : ∀ xs t, F_may_meet xs t ≠ .st → fnM 2 (m_may_meet F_is_sequence) xs t = F_may_meet xs t := by
  intro xs t h
  have e2 : m_may_meet F_is_sequence = (mSeq (mIfS meetT (mRaise "InvalidQuestion" (mCons (mK (.d (.int 0))) mNil)) mNx) (mRet (mOrV (mOp ltF (mCB lenF (mCons (mVar [] 0) mNil)) (mK (.d (.int 2)))) (mOp (inF true) (mK (.d (.str "edit"))) (mVar [] 0))))) := rfl
  unfold F_may_meet at h
  split at h
  · rename_i v
    cases hv : seqD v with
    | none =>
      have hc := meetT_e v t (fun vs h => by rw [hv] at h; cases h)
      rw [hv] at hc
      rw [e2]
      simp [M.bind, M.ret, M.st, mT, mOp, mVar, mK, use, keep, lft, boolOf, optM, mCB, useAll, mCons, mNil, mTup, mLst, mFz, keepD, mSeq, mRet, mIfS, mAnd, mOr, mNot, mAndV, mOrV, mNotV, mIfE, mCall, keepAll, runF, mAsg, aName, mNx, mChain, fnM, startR, isiF, isT, isTN, askT, tyN, gtF, ltF, leF, geF, cmpF, eqF, neF, eqOk, scalD, atF, addF, subF, mulF, fdivF, modF, mTru, truS, isF, asks, truD, isNoneD, isBoolD, mRaise, raiseM, oneD, List.replicate, mLc, inComp, noX, lcL, lcOne, lcPut, wipeM, wipeR, dataOf, restR, allF, boolsOf, F_is_integer, F_great_divisor, F_is_share, F_is_sequence, mDrop, aTup, aCons, aNil, twoK, mPar, hc, F_may_meet, hv]
    | some vs =>
      rw [hv] at h
      simp only at h
      by_cases hz : vs.length < 100000
      · have hc := meetT_e v t (fun vs h => by rw [hv] at h; cases h; exact hz)
        rw [hv] at hc
        have hlen := len_seq hv
        rw [e2]
        cases ha : vs.all rightD with
        | false =>
          simp only [ha] at hc
          simp [M.bind, M.ret, M.st, mT, mOp, mVar, mK, use, keep, lft, boolOf, optM, mCB, useAll, mCons, mNil, mTup, mLst, mFz, keepD, mSeq, mRet, mIfS, mAnd, mOr, mNot, mAndV, mOrV, mNotV, mIfE, mCall, keepAll, runF, mAsg, aName, mNx, mChain, fnM, startR, isiF, isT, isTN, askT, tyN, gtF, ltF, leF, geF, cmpF, eqF, neF, eqOk, scalD, atF, addF, subF, mulF, fdivF, modF, mTru, truS, isF, asks, truD, isNoneD, isBoolD, mRaise, raiseM, oneD, List.replicate, mLc, inComp, noX, lcL, lcOne, lcPut, wipeM, wipeR, dataOf, restR, allF, boolsOf, F_is_integer, F_great_divisor, F_is_share, F_is_sequence, mDrop, aTup, aCons, aNil, twoK, mPar, hc, F_may_meet, hv, hz, ha]
        | true =>
          simp only [ha] at hc
          have hfl := flat_right ha
          have hin := in_edit ha
          have hI : ∀ b, inF b (.d (.str "edit")) (.d v) = some (.d (.bool (if b then !(vs.any editD) else vs.any editD))) := fun b => by
            cases v with
            | list ws => cases hv; simp only [inF, hfl, hin]; rfl
            | tuple ws => cases hv; simp only [inF, hfl, hin]; rfl
            | _ => cases hv
          by_cases h2 : vs.length < 2
          · have h2' : (vs.length : Int) < 2 := by omega
            simp [M.bind, M.ret, M.st, mT, mOp, mVar, mK, use, keep, lft, boolOf, optM, mCB, useAll, mCons, mNil, mTup, mLst, mFz, keepD, mSeq, mRet, mIfS, mAnd, mOr, mNot, mAndV, mOrV, mNotV, mIfE, mCall, keepAll, runF, mAsg, aName, mNx, mChain, fnM, startR, isiF, isT, isTN, askT, tyN, gtF, ltF, leF, geF, cmpF, eqF, neF, eqOk, scalD, atF, addF, subF, mulF, fdivF, modF, mTru, truS, isF, asks, truD, isNoneD, isBoolD, mRaise, raiseM, oneD, List.replicate, mLc, inComp, noX, lcL, lcOne, lcPut, wipeM, wipeR, dataOf, restR, allF, boolsOf, F_is_integer, F_great_divisor, F_is_share, F_is_sequence, mDrop, aTup, aCons, aNil, twoK, mPar, hc, F_may_meet, hv, hz, ha, hlen, h2, h2', hI]
          · have h2' : ¬ (vs.length : Int) < 2 := by omega
            simp [M.bind, M.ret, M.st, mT, mOp, mVar, mK, use, keep, lft, boolOf, optM, mCB, useAll, mCons, mNil, mTup, mLst, mFz, keepD, mSeq, mRet, mIfS, mAnd, mOr, mNot, mAndV, mOrV, mNotV, mIfE, mCall, keepAll, runF, mAsg, aName, mNx, mChain, fnM, startR, isiF, isT, isTN, askT, tyN, gtF, ltF, leF, geF, cmpF, eqF, neF, eqOk, scalD, atF, addF, subF, mulF, fdivF, modF, mTru, truS, isF, asks, truD, isNoneD, isBoolD, mRaise, raiseM, oneD, List.replicate, mLc, inComp, noX, lcL, lcOne, lcPut, wipeM, wipeR, dataOf, restR, allF, boolsOf, F_is_integer, F_great_divisor, F_is_share, F_is_sequence, mDrop, aTup, aCons, aNil, twoK, mPar, hc, F_may_meet, hv, hz, ha, hlen, h2, h2', hI]
      · rw [if_neg hz] at h
        exact absurd rfl h
  · exact absurd rfl h
end K05
end
section
set_option maxRecDepth 100000
set_option maxHeartbeats 4000000
namespace K05
open PySem PySem.Spec DL
theorem atI_in {α : Type} {xs : List α} {i : Int} (h0 : 0 ≤ i) (h1 : i < xs.length) : L2.atI xs i = xs[i.toNat]? := by
  unfold L2.atI L2.ixN
  rw [if_pos h0, if_pos h1]
  rfl
theorem any_call {dl : Deal} {n : Nat} (h0 : 0 < n) (h1 : n ≤ 1000) (hf : fineD dl) : anyFM [.deal, .d (.int n)] (some dl) = .ok (.d (.int (anyD dl n).1)) (some (anyD dl n).2) := by
  have a1 : (0 : Int) < n := by omega
  have a2 : (n : Int).natAbs.log2 < 9000 := by
    have : (n : Int).natAbs < 2 ^ 10 := by omega
    have := log2_lt' this (by decide)
    omega
  exact if_pos ⟨a1, a2, hf⟩
theorem e_of : ∀ xs t, F__law_of xs t ≠ .st → fnM 2 (m__law_of F__law_any) xs t = F__law_of xs t := by
  intro xs t h
  unfold F__law_of at h
  split at h
  · rename_i vs dl
    by_cases hc : vs ≠ [] ∧ vs.length ≤ 1000 ∧ fineD dl
    · obtain ⟨h1, h2, h3⟩ := hc
      have hl : 0 < vs.length := List.length_pos_iff.mpr h1
      have e := any_call hl h2 h3
      have hr := anyD_range dl (b := vs.length) (by omega)
      have ha := atI_in (xs := vs) hr.1 hr.2
      have hg : vs[(anyD dl vs.length).1.toNat]? = some (vs[(anyD dl vs.length).1.toNat]'(by omega)) := List.getElem?_eq_getElem _
      simp [m__law_of, M.bind, M.ret, M.st, mT, mOp, mVar, mK, use, keep, lft, boolOf, optM, mCB, useAll, mCons, mNil, mTup, mLst, mFz, keepD, mSeq, mRet, mIfS, mAnd, mOr, mNot, mAndV, mOrV, mNotV, mIfE, mCall, keepAll, runF, mAsg, aName, mNx, mChain, fnM, startR, isiF, isT, isTN, askT, tyN, lenF, gtF, ltF, leF, geF, cmpF, eqF, neF, eqOk, scalD, atF, addF, subF, mulF, fdivF, modF, mTru, truS, isF, asks, truD, isNoneD, isBoolD, mRaise, raiseM, oneD, List.replicate, allF, boolsOf, F_is_integer, F_great_divisor, F_is_share, F_is_sequence, mDrop, aTup, aCons, aNil, twoK, mPar, e, ha, hg, F__law_of, h1, h2, h3, F__law_any]
    · rw [if_neg hc] at h
      exact absurd rfl h
  · exact absurd rfl h
noncomputable def mixC : M Bool := mT (mOp neF (mVar [2, 3] 2) (mFz (mLst mNil)))
noncomputable def mixB : M Fl := mDrop (has 3 (mAppend 3 (mCons (has 2 (mPopAt 2 (mCons (mCall 2 F__law_any (mCons (mVar [2, 3] 0) (mCons (mCB lenF (mCons (mVar [2, 3] 2) mNil)) mNil))) mNil))) mNil)))
theorem share_lay {x : PyData} (h : shareD x = true) : PyData.canLay0 x = true ∧ PyData.depth x = 1 := by
  unfold shareD at h
  obtain ⟨p, hp⟩ := Option.isSome_iff_exists.mp h
  obtain ⟨rfl, _⟩ := unS_some hp
  exact ⟨rfl, rfl⟩
theorem shares_lay : ∀ {vs : List PyData}, vs.all shareD = true → PyData.canLayAll0 vs = true ∧ PyData.depthAll vs ≤ 1
  | [], _ => ⟨rfl, Nat.zero_le _⟩
  | x :: vs, h => by
    rw [List.all_cons, Bool.and_eq_true] at h
    obtain ⟨a, b⟩ := shares_lay h.2
    obtain ⟨c, d⟩ := share_lay h.1
    refine ⟨?_, ?_⟩
    · show (PyData.canLay0 x && PyData.canLayAll0 vs) = true
      rw [a, c] <;> rfl
    · show max (PyData.depth x) (PyData.depthAll vs) ≤ 1
      omega
theorem shaped_shares {vs : List PyData} (h : vs.all shareD = true) : SeqAt.shaped (.list vs) = true := by
  obtain ⟨a, b⟩ := shares_lay h
  unfold SeqAt.shaped
  rw [Bool.and_eq_true]
  refine ⟨a, decide_eq_true ?_⟩
  show PyData.depthAll vs + 1 ≤ 64
  omega
theorem eqv_nil' (vs : List PyData) : PyData.eqv (.list vs) (.list []) = vs.isEmpty := by cases vs <;> rfl
theorem mixC_e (v1 : Sl) (left found : List PyData) (t : Option Deal) (h : left.all shareD = true) : mixC [some .deal, some v1, some (.d (.list left)), some (.d (.list found))] t = .ok (!left.isEmpty) [some .deal, some v1, some (.d (.list left)), some (.d (.list found))] t := by
  have hs := shaped_shares h
  have h0 : SeqAt.shaped (.list []) = true := by decide
  simp [mixC, M.bind, M.ret, M.st, mT, mOp, mVar, mK, use, keep, lft, boolOf, optM, mCB, useAll, mCons, mNil, mTup, mLst, mFz, keepD, mSeq, mRet, mIfS, mAnd, mOr, mNot, mAndV, mOrV, mNotV, mIfE, mCall, keepAll, runF, mAsg, aName, mNx, mChain, fnM, startR, isiF, isT, isTN, askT, tyN, lenF, gtF, ltF, leF, geF, cmpF, eqF, neF, eqOk, scalD, atF, addF, subF, mulF, fdivF, modF, mTru, truS, isF, asks, truD, isNoneD, isBoolD, mRaise, raiseM, oneD, List.replicate, allF, boolsOf, F_is_integer, F_great_divisor, F_is_share, F_is_sequence, mDrop, aTup, aCons, aNil, twoK, mPar, hs, h0, eqv_nil']
theorem mixB_e (v1 : Sl) (left found : List PyData) (dl : Deal) (hl : 0 < left.length) (hz : left.length ≤ 1000) (hf : found.length ≤ 1000) (hd : fineD dl) :
    mixB [some .deal, some v1, some (.d (.list left)), some (.d (.list found))] (some dl) = .ok .nx [some .deal, some v1, some (.d (.list (left.eraseIdx (anyD dl left.length).1.toNat))), some (.d (.list (found ++ [left[(anyD dl left.length).1.toNat]'(by have := anyD_range dl (b := left.length) (by omega); omega)])))] (some (anyD dl left.length).2) := by
  have e := any_call hl hz hd
  have hr := anyD_range dl (b := left.length) (by omega)
  have hg : left[(anyD dl left.length).1.toNat]? = some (left[(anyD dl left.length).1.toNat]'(by omega)) := List.getElem?_eq_getElem _
  have h1 : (anyD dl left.length).1 < 1000000 := by omega
  have h2 : found.length < 16777216 := by omega
  simp [mixB, M.bind, M.ret, M.st, mT, mOp, mVar, mK, use, keep, lft, boolOf, optM, mCB, useAll, mCons, mNil, mTup, mLst, mFz, keepD, mSeq, mRet, mIfS, mAnd, mOr, mNot, mAndV, mOrV, mNotV, mIfE, mCall, keepAll, runF, mAsg, aName, mNx, mChain, fnM, startR, isiF, isT, isTN, askT, tyN, lenF, gtF, ltF, leF, geF, cmpF, eqF, neF, eqOk, scalD, atF, addF, subF, mulF, fdivF, modF, mTru, truS, isF, asks, truD, isNoneD, isBoolD, mRaise, raiseM, oneD, List.replicate, allF, boolsOf, F_is_integer, F_great_divisor, F_is_share, F_is_sequence, mDrop, aTup, aCons, aNil, twoK, mPar, has, mAppend, mPopAt, getO, setO, e, hg, hr.1, h1, h2, F__law_any, intOf]
theorem mix_loop (v1 : Sl) : ∀ (n : Nat) (left found : List PyData) (dl : Deal), left.length = n → left.length + found.length ≤ 1000 → left.all shareD = true → fineD dl →
    whileN mixC mixB (n + 1) [some .deal, some v1, some (.d (.list left)), some (.d (.list found))] (some dl) = .ok .nx [some .deal, some v1, some (.d (.list [])), some (.d (.list (found ++ (mixD n left dl).1)))] (some (mixD n left dl).2) := by
  intro n
  induction n with
  | zero =>
    intro left found dl hn hl hs hd
    have e : left = [] := List.eq_nil_of_length_eq_zero hn
    subst e
    rw [whileN_stop (mixC_e v1 [] found (some dl) rfl)]
    simp [mixD]
  | succ n ih =>
    intro left found dl hn hl hs hd
    have hp : 0 < left.length := by omega
    have hne : left ≠ [] := List.length_pos_iff.mp hp
    have hr := anyD_range dl (b := left.length) (by omega)
    have hi : (anyD dl left.length).1.toNat < left.length := by omega
    have he : left.isEmpty = false := by
      cases left with
      | nil => exact absurd rfl hne
      | cons _ _ => rfl
    rw [whileN_go (by rw [mixC_e v1 left found (some dl) hs, he]; rfl) (mixB_e v1 left found dl hp (by omega) (by omega) hd)]
    have hlen : (left.eraseIdx (anyD dl left.length).1.toNat).length = n := by
      rw [List.length_eraseIdx_of_lt hi]
      omega
    have hs' : (left.eraseIdx (anyD dl left.length).1.toNat).all shareD = true := by
      rw [List.all_eq_true] at hs ⊢
      exact fun x hx => hs x (List.mem_of_mem_eraseIdx hx)
    rw [ih _ _ _ hlen (by rw [hlen]; simp; omega) hs' (anyD_fine hd)]
    have em : mixD (n + 1) left dl = (left[(anyD dl left.length).1.toNat] :: (mixD n (left.eraseIdx (anyD dl left.length).1.toNat) (anyD dl left.length).2).1, (mixD n (left.eraseIdx (anyD dl left.length).1.toNat) (anyD dl left.length).2).2) := by
      conv => lhs; unfold mixD
      rw [if_neg hne, List.getElem?_eq_getElem hi]
    rw [em]
    simp
theorem e_mixed : ∀ xs t, F__law_mixed xs t ≠ .st → fnM 4 (m__law_mixed F__law_any) xs t = F__law_mixed xs t := by
  intro xs t h
  have e2 : m__law_mixed F__law_any = mSeq (mParOO 2 3 (mCBF listF (mCons (mVar [2, 3] 1) mNil)) (mLst mNil)) (mSeq (mWhile mixC mixB) (mRet (mVar [2, 3] 3))) := rfl
  unfold F__law_mixed at h
  split at h
  · rename_i vs dl
    by_cases hc : vs.length ≤ 1000 ∧ vs.all shareD = true ∧ fineD dl
    · obtain ⟨h1, h2, h3⟩ := hc
      have e := mix_loop (.d (.list vs)) vs.length vs [] dl rfl (by simpa using h1) h2 h3
      have e3 : mWhile mixC mixB [some .deal, some (.d (.list vs)), some (.d (.list vs)), some (.d (.list []))] (some dl) = .ok .nx [some .deal, some (.d (.list vs)), some (.d (.list [])), some (.d (.list (mixD vs.length vs dl).1))] (some (mixD vs.length vs dl).2) := by
        rw [mWhile_of (n := vs.length + 1) (by rw [e]; intro z; cases z), e]
        simp
      have e4 : F__law_mixed [.deal, .d (.list vs)] (some dl) = .ok (.d (.list (mixD vs.length vs dl).1)) (some (mixD vs.length vs dl).2) := if_pos ⟨h1, h2, h3⟩
      rw [e4, e2]
      simp [M.bind, M.ret, M.st, mT, mOp, mVar, mK, use, keep, lft, boolOf, optM, mCB, useAll, mCons, mNil, mTup, mLst, mFz, keepD, mSeq, mRet, mIfS, mAnd, mOr, mNot, mAndV, mOrV, mNotV, mIfE, mCall, keepAll, runF, mAsg, aName, mNx, mChain, fnM, startR, isiF, isT, isTN, askT, tyN, lenF, gtF, ltF, leF, geF, cmpF, eqF, neF, eqOk, scalD, atF, addF, subF, mulF, fdivF, modF, mTru, truS, isF, asks, truD, isNoneD, isBoolD, mRaise, raiseM, oneD, List.replicate, allF, boolsOf, F_is_integer, F_great_divisor, F_is_share, F_is_sequence, mDrop, aTup, aCons, aNil, twoK, mPar, mParOO, mCBF, listF, setO, e3]
    · rw [if_neg hc] at h
      exact absurd rfl h
  · exact absurd rfl h
end K05
end
section
set_option maxRecDepth 100000
set_option maxHeartbeats 4000000
namespace K05
open PySem PySem.Spec DL
noncomputable def samZ (F : FM) : M Tk := (mOp eqF (mFz (mLc (mZip (mCons (mVar [] 0) (mCons (mVar [] 1) mNil))) [2, 3] (aTup 2 (aCons (aName 2) (aCons (aName 3) aNil))) (mNot (mTru (mCall 2 F (mCons (mVar [] 2) (mCons (mVar [] 3) mNil))))) (mK (.d (.int 0))))) (mFz (mLst mNil)))
theorem allO_some : ∀ {l : List (Option Bool)} {b : Bool}, allO l = some b → (∀ o ∈ l, ∃ c, o = some c) ∧ b = l.all (fun o => o == some true)
  | [], b, h => by
    cases h
    exact ⟨by simp, rfl⟩
  | some a :: r, b, h => by
    unfold allO at h
    cases e : allO r with
    | none => rw [e] at h; cases h
    | some c =>
      rw [e] at h
      cases h
      obtain ⟨h1, h2⟩ := allO_some e
      refine ⟨fun o ho => ?_, ?_⟩
      · rcases List.mem_cons.mp ho with z | z
        · exact ⟨a, z⟩
        · exact h1 o z
      · rw [List.all_cons, ← h2]
        cases a <;> rfl
  | none :: r, b, h => by cases h
theorem zeros_lay {α : Type} : ∀ (l : List α), PyData.canLayAll0 (l.map fun _ => PyData.int 0) = true ∧ PyData.depthAll (l.map fun _ => PyData.int 0) = 0
  | [] => ⟨rfl, rfl⟩
  | x :: l => by
    obtain ⟨a, b⟩ := zeros_lay l
    refine ⟨?_, ?_⟩
    · show (PyData.canLay0 (.int 0) && PyData.canLayAll0 (l.map fun _ => PyData.int 0)) = true
      rw [a] <;> rfl
    · show max (PyData.depth (.int 0)) (PyData.depthAll (l.map fun _ => PyData.int 0)) = 0
      rw [b] <;> rfl
theorem samZ_e {n : Nat} {v d : PyData} {vs ds : List PyData} {b : Bool} (t : Option Deal) (hz : zipF [.d v, .d d] = some ((vs.zip ds).map fun p => Sl.d (.tuple [p.1, p.2]))) (hl : vs.length < 100000) (ha : allO ((vs.zip ds).map fun p => eqN n p.1 p.2) = some b) :
    samZ (F_sameN n) [some (.d v), some (.d d), none, none] t = .ok (.v (.d (.bool b))) [some (.d v), some (.d d), none, none] t := by
  obtain ⟨h1, h2⟩ := allO_some ha
  have hlz : (vs.zip ds).length < 100000 := by rw [List.length_zip]; omega
  have hm := mLc_map (mi := mZip (mCons (mVar [] 0) (mCons (mVar [] 1) mNil))) (vs := [2, 3]) (f := aTup 2 (aCons (aName 2) (aCons (aName 3) aNil))) (test := mNot (mTru (mCall 2 (F_sameN n) (mCons (mVar [] 2) (mCons (mVar [] 3) mNil))))) (elt := mK (.d (.int 0)))
    (r := [some (.d v), some (.d d), none, none]) (t := t) (p := fun s => match s with
      | .d (.tuple [x, y]) => !(eqN n x y == some true)
      | _ => false) (g := fun _ => .int 0) (ds := (vs.zip ds).map fun p => Sl.d (.tuple [p.1, p.2])) ?_ (by rw [List.length_map]; omega) rfl ?_
  · have e0 : SeqAt.shaped (.list []) = true := by decide
    have hS : SeqAt.shaped (.list (List.map (fun _ => PyData.int 0) (List.filter (fun s => match s with
      | Sl.d (.tuple [x, y]) => !(eqN n x y == some true)
      | _ => false) ((vs.zip ds).map fun p => Sl.d (.tuple [p.1, p.2]))))) = true := by
      have hz2 := zeros_lay (List.filter (fun s => match s with
        | Sl.d (.tuple [x, y]) => !(eqN n x y == some true)
        | _ => false) ((vs.zip ds).map fun p => Sl.d (.tuple [p.1, p.2])))
      unfold SeqAt.shaped
      rw [Bool.and_eq_true]
      refine ⟨hz2.1, decide_eq_true ?_⟩
      show PyData.depthAll _ + 1 ≤ 64
      rw [hz2.2]
      decide
    have hE : List.isEmpty (List.map (fun _ => PyData.int 0) (List.filter (fun s => match s with
      | Sl.d (.tuple [x, y]) => !(eqN n x y == some true)
      | _ => false) ((vs.zip ds).map fun p => Sl.d (.tuple [p.1, p.2])))) = b := by
      rw [h2, List.isEmpty_map]
      rw [List.filter_map, List.isEmpty_map]
      rw [Bool.eq_iff_iff, List.isEmpty_iff, List.filter_eq_nil_iff, List.all_eq_true]
      constructor
      · intro q o ho
        obtain ⟨p, hp, rfl⟩ := List.mem_map.mp ho
        have := q p hp
        simpa using this
      · intro q p hp
        have := q _ (List.mem_map_of_mem hp)
        simpa using this
    unfold samZ
    generalize mLc (mZip (mCons (mVar [] 0) (mCons (mVar [] 1) mNil))) [2, 3] (aTup 2 (aCons (aName 2) (aCons (aName 3) aNil))) (mNot (mTru (mCall 2 (F_sameN n) (mCons (mVar [] 2) (mCons (mVar [] 3) mNil))))) (mK (.d (.int 0))) = mm at hm ⊢
    simp only [mOp, mFz, mLst, mNil, keepD, M.bind, M.ret, hm, use, optM, eqF, eqOk, hS, e0, eqv_nil', hE, List.length_nil, Nat.zero_le, if_true, Bool.and_self, Bool.or_true, lft]
  · unfold mZip
    simp [mCons, mNil, M.bind, mVar, M.ret, keepAll, optM, hz]
  · intro s hs
    obtain ⟨p, hp, rfl⟩ := List.mem_map.mp hs
    obtain ⟨c, hc⟩ := h1 _ (List.mem_map_of_mem (f := fun p : PyData × PyData => eqN n p.1 p.2) hp)
    have hF : F_sameN n [.d p.1, .d p.2] t = .ok (.d (.bool c)) t := by
      unfold F_sameN
      simp only [hc]
    have hc2 : (!(eqN n p.1 p.2 == some true)) = !c := by rw [hc]; cases c <;> rfl
    refine ⟨[some (.d v), some (.d d), some (.d p.1), some (.d p.2)], ?_, rfl⟩
    simp only [hc2]
    cases c with
    | true => simp [lcOne, wipeM, wipeR, aTup, aCons, aNil, M.bind, M.ret, M.st, mT, mOp, mVar, mK, use, keep, lft, boolOf, optM, mCB, useAll, mCons, mNil, mTup, mLst, mFz, keepD, mSeq, mRet, mIfS, mAnd, mOr, mNot, mAndV, mOrV, mNotV, mIfE, mCall, keepAll, runF, mAsg, aName, mNx, mChain, fnM, startR, isiF, isT, isTN, askT, tyN, lenF, gtF, ltF, leF, geF, cmpF, eqF, neF, eqOk, scalD, atF, addF, subF, mulF, fdivF, modF, mTru, truS, isF, asks, truD, isNoneD, isBoolD, mRaise, raiseM, oneD, List.replicate, allF, boolsOf, F_is_integer, F_great_divisor, F_is_share, F_is_sequence, mDrop, aTup, aCons, aNil, twoK, mPar, hF]
    | false => simp [lcOne, wipeM, wipeR, aTup, aCons, aNil, M.bind, M.ret, M.st, mT, mOp, mVar, mK, use, keep, lft, boolOf, optM, mCB, useAll, mCons, mNil, mTup, mLst, mFz, keepD, mSeq, mRet, mIfS, mAnd, mOr, mNot, mAndV, mOrV, mNotV, mIfE, mCall, keepAll, runF, mAsg, aName, mNx, mChain, fnM, startR, isiF, isT, isTN, askT, tyN, lenF, gtF, ltF, leF, geF, cmpF, eqF, neF, eqOk, scalD, atF, addF, subF, mulF, fdivF, modF, mTru, truS, isF, asks, truD, isNoneD, isBoolD, mRaise, raiseM, oneD, List.replicate, allF, boolsOf, F_is_integer, F_great_divisor, F_is_share, F_is_sequence, mDrop, aTup, aCons, aNil, twoK, mPar, hF, dataOf]
theorem int_beq (j i : Int) : (j == i) = decide (j = i) := by
  by_cases h : j = i
  · subst h; simp
  · rw [decide_eq_false h, beq_eq_false_iff_ne]; exact h
theorem str_beq' (y z : Str) : (y == z) = decide (y = z) := by
  by_cases h : y = z
  · subst h; simp
  · rw [decide_eq_false h, beq_eq_false_iff_ne]; exact h
theorem e_same (n : Nat) : ∀ xs t, F_sameN (n + 1) xs t ≠ .st → fnM 4 (m__law_same (F_sameN n)) xs t = F_sameN (n + 1) xs t := by
  intro xs t h
  unfold F_sameN at h
  split at h
  · rename_i v d
    cases he : eqN (n + 1) v d with
    | none => rw [he] at h; exact absurd rfl h
    | some b =>
      have e4 : F_sameN (n + 1) [.d v, .d d] t = .ok (.d (.bool b)) t := by
        unfold F_sameN
        simp only [he]
      rw [e4]
      have e2 : m__law_same (F_sameN n) = (mSeq (mIfS (mTru (mIsi2 "tuple" "list" (mVar [] 1))) (mSeq (mIfS (mOr (mT (mOp neF (mCB isiF (mCons (mVar [] 1) (mCons (mK (.raw (.ty "tuple"))) mNil))) (mCB isiF (mCons (mVar [] 0) (mCons (mK (.raw (.ty "tuple"))) mNil))))) (mOr (mNot (mTru (mIsi2 "tuple" "list" (mVar [] 0)))) (mT (mOp neF (mCB lenF (mCons (mVar [] 0) mNil)) (mCB lenF (mCons (mVar [] 1) mNil)))))) (mRet (mK (.d (.bool false)))) mNx) (mRet (samZ (F_sameN n)))) mNx) (mSeq (mIfS (mT (mOp (isF false) (mVar [] 1) (mK (.d .none)))) (mRet (mOp (isF false) (mVar [] 0) (mK (.d .none)))) mNx) (mSeq (mIfS (mT (mOp (isF false) (mVar [] 1) (mK (.d (.bool true))))) (mRet (mOp (isF false) (mVar [] 0) (mK (.d (.bool true))))) mNx) (mSeq (mIfS (mT (mOp (isF false) (mVar [] 1) (mK (.d (.bool false))))) (mRet (mOp (isF false) (mVar [] 0) (mK (.d (.bool false))))) mNx) (mSeq (mIfS (mTru (mCB isiF (mCons (mVar [] 1) (mCons (mK (.raw (.ty "int"))) mNil)))) (mRet (mAndV (mCB isiF (mCons (mVar [] 0) (mCons (mK (.raw (.ty "int"))) mNil))) (mAndV (mNotV (mCB isiF (mCons (mVar [] 0) (mCons (mK (.raw (.ty "bool"))) mNil)))) (mOp eqF (mVar [] 0) (mVar [] 1))))) mNx) (mRet (mAndV (mCB isiF (mCons (mVar [] 0) (mCons (mK (.raw (.ty "str"))) mNil))) (mOp eqF (mVar [] 0) (mVar [] 1))))))))) := rfl
      rw [e2]
      cases d with
      | none =>
        cases v <;> (simp [eqN] at he; subst he; simp [M.bind, M.ret, M.st, mT, mOp, mVar, mK, use, keep, lft, boolOf, optM, mCB, useAll, mCons, mNil, mTup, mLst, mFz, keepD, mSeq, mRet, mIfS, mAnd, mOr, mNot, mAndV, mOrV, mNotV, mIfE, mCall, keepAll, runF, mAsg, aName, mNx, mChain, fnM, startR, isiF, isT, isTN, askT, tyN, lenF, gtF, ltF, leF, geF, cmpF, eqF, neF, eqOk, scalD, atF, addF, subF, mulF, fdivF, modF, mTru, truS, isF, asks, truD, isNoneD, isBoolD, mRaise, raiseM, oneD, List.replicate, allF, boolsOf, F_is_integer, F_great_divisor, F_is_share, F_is_sequence, mDrop, aTup, aCons, aNil, twoK, mPar, mIsi2])
      | bool c =>
        cases c <;> cases v <;> (simp [eqN] at he; subst he; simp [M.bind, M.ret, M.st, mT, mOp, mVar, mK, use, keep, lft, boolOf, optM, mCB, useAll, mCons, mNil, mTup, mLst, mFz, keepD, mSeq, mRet, mIfS, mAnd, mOr, mNot, mAndV, mOrV, mNotV, mIfE, mCall, keepAll, runF, mAsg, aName, mNx, mChain, fnM, startR, isiF, isT, isTN, askT, tyN, lenF, gtF, ltF, leF, geF, cmpF, eqF, neF, eqOk, scalD, atF, addF, subF, mulF, fdivF, modF, mTru, truS, isF, asks, truD, isNoneD, isBoolD, mRaise, raiseM, oneD, List.replicate, allF, boolsOf, F_is_integer, F_great_divisor, F_is_share, F_is_sequence, mDrop, aTup, aCons, aNil, twoK, mPar, mIsi2])
      | int i =>
        cases v <;> (simp [eqN] at he; subst he; simp [M.bind, M.ret, M.st, mT, mOp, mVar, mK, use, keep, lft, boolOf, optM, mCB, useAll, mCons, mNil, mTup, mLst, mFz, keepD, mSeq, mRet, mIfS, mAnd, mOr, mNot, mAndV, mOrV, mNotV, mIfE, mCall, keepAll, runF, mAsg, aName, mNx, mChain, fnM, startR, isiF, isT, isTN, askT, tyN, lenF, gtF, ltF, leF, geF, cmpF, eqF, neF, eqOk, scalD, atF, addF, subF, mulF, fdivF, modF, mTru, truS, isF, asks, truD, isNoneD, isBoolD, mRaise, raiseM, oneD, List.replicate, allF, boolsOf, F_is_integer, F_great_divisor, F_is_share, F_is_sequence, mDrop, aTup, aCons, aNil, twoK, mPar, mIsi2, PyData.eqv, int_beq])
      | str z =>
        cases v <;> (simp [eqN] at he; subst he; simp [M.bind, M.ret, M.st, mT, mOp, mVar, mK, use, keep, lft, boolOf, optM, mCB, useAll, mCons, mNil, mTup, mLst, mFz, keepD, mSeq, mRet, mIfS, mAnd, mOr, mNot, mAndV, mOrV, mNotV, mIfE, mCall, keepAll, runF, mAsg, aName, mNx, mChain, fnM, startR, isiF, isT, isTN, askT, tyN, lenF, gtF, ltF, leF, geF, cmpF, eqF, neF, eqOk, scalD, atF, addF, subF, mulF, fdivF, modF, mTru, truS, isF, asks, truD, isNoneD, isBoolD, mRaise, raiseM, oneD, List.replicate, allF, boolsOf, F_is_integer, F_great_divisor, F_is_share, F_is_sequence, mDrop, aTup, aCons, aNil, twoK, mPar, mIsi2, PyData.eqv, str_beq'])
      | list ds =>
        cases v with
        | list vs =>
          by_cases hl : vs.length = ds.length
          · by_cases hz : vs.length < 100000
            · simp only [eqN, if_pos hl, if_pos hz] at he
              have hs := samZ_e (v := .list vs) (d := .list ds) t rfl hz he
              have hl' : ((vs.length : Int) == (ds.length : Int)) = true := by rw [beq_iff_eq]; omega
              simp [M.bind, M.ret, M.st, mT, mOp, mVar, mK, use, keep, lft, boolOf, optM, mCB, useAll, mCons, mNil, mTup, mLst, mFz, keepD, mSeq, mRet, mIfS, mAnd, mOr, mNot, mAndV, mOrV, mNotV, mIfE, mCall, keepAll, runF, mAsg, aName, mNx, mChain, fnM, startR, isiF, isT, isTN, askT, tyN, lenF, gtF, ltF, leF, geF, cmpF, eqF, neF, eqOk, scalD, atF, addF, subF, mulF, fdivF, modF, mTru, truS, isF, asks, truD, isNoneD, isBoolD, mRaise, raiseM, oneD, List.replicate, allF, boolsOf, F_is_integer, F_great_divisor, F_is_share, F_is_sequence, mDrop, aTup, aCons, aNil, twoK, mPar, mIsi2, hs, PyData.eqv, hl']
            · simp only [eqN, if_pos hl, if_neg hz] at he
              cases he
          · simp only [eqN, if_neg hl] at he
            cases he
            have hl' : ((vs.length : Int) == (ds.length : Int)) = false := by rw [beq_eq_false_iff_ne]; omega
            simp [M.bind, M.ret, M.st, mT, mOp, mVar, mK, use, keep, lft, boolOf, optM, mCB, useAll, mCons, mNil, mTup, mLst, mFz, keepD, mSeq, mRet, mIfS, mAnd, mOr, mNot, mAndV, mOrV, mNotV, mIfE, mCall, keepAll, runF, mAsg, aName, mNx, mChain, fnM, startR, isiF, isT, isTN, askT, tyN, lenF, gtF, ltF, leF, geF, cmpF, eqF, neF, eqOk, scalD, atF, addF, subF, mulF, fdivF, modF, mTru, truS, isF, asks, truD, isNoneD, isBoolD, mRaise, raiseM, oneD, List.replicate, allF, boolsOf, F_is_integer, F_great_divisor, F_is_share, F_is_sequence, mDrop, aTup, aCons, aNil, twoK, mPar, mIsi2, PyData.eqv, hl']
        | _ => simp [eqN] at he; subst he; simp [M.bind, M.ret, M.st, mT, mOp, mVar, mK, use, keep, lft, boolOf, optM, mCB, useAll, mCons, mNil, mTup, mLst, mFz, keepD, mSeq, mRet, mIfS, mAnd, mOr, mNot, mAndV, mOrV, mNotV, mIfE, mCall, keepAll, runF, mAsg, aName, mNx, mChain, fnM, startR, isiF, isT, isTN, askT, tyN, lenF, gtF, ltF, leF, geF, cmpF, eqF, neF, eqOk, scalD, atF, addF, subF, mulF, fdivF, modF, mTru, truS, isF, asks, truD, isNoneD, isBoolD, mRaise, raiseM, oneD, List.replicate, allF, boolsOf, F_is_integer, F_great_divisor, F_is_share, F_is_sequence, mDrop, aTup, aCons, aNil, twoK, mPar, mIsi2, PyData.eqv]
      | tuple ds =>
        cases v with
        | tuple vs =>
          by_cases hl : vs.length = ds.length
          · by_cases hz : vs.length < 100000
            · simp only [eqN, if_pos hl, if_pos hz] at he
              have hs := samZ_e (v := .tuple vs) (d := .tuple ds) t rfl hz he
              have hl' : ((vs.length : Int) == (ds.length : Int)) = true := by rw [beq_iff_eq]; omega
              simp [M.bind, M.ret, M.st, mT, mOp, mVar, mK, use, keep, lft, boolOf, optM, mCB, useAll, mCons, mNil, mTup, mLst, mFz, keepD, mSeq, mRet, mIfS, mAnd, mOr, mNot, mAndV, mOrV, mNotV, mIfE, mCall, keepAll, runF, mAsg, aName, mNx, mChain, fnM, startR, isiF, isT, isTN, askT, tyN, lenF, gtF, ltF, leF, geF, cmpF, eqF, neF, eqOk, scalD, atF, addF, subF, mulF, fdivF, modF, mTru, truS, isF, asks, truD, isNoneD, isBoolD, mRaise, raiseM, oneD, List.replicate, allF, boolsOf, F_is_integer, F_great_divisor, F_is_share, F_is_sequence, mDrop, aTup, aCons, aNil, twoK, mPar, mIsi2, hs, PyData.eqv, hl']
            · simp only [eqN, if_pos hl, if_neg hz] at he
              cases he
          · simp only [eqN, if_neg hl] at he
            cases he
            have hl' : ((vs.length : Int) == (ds.length : Int)) = false := by rw [beq_eq_false_iff_ne]; omega
            simp [M.bind, M.ret, M.st, mT, mOp, mVar, mK, use, keep, lft, boolOf, optM, mCB, useAll, mCons, mNil, mTup, mLst, mFz, keepD, mSeq, mRet, mIfS, mAnd, mOr, mNot, mAndV, mOrV, mNotV, mIfE, mCall, keepAll, runF, mAsg, aName, mNx, mChain, fnM, startR, isiF, isT, isTN, askT, tyN, lenF, gtF, ltF, leF, geF, cmpF, eqF, neF, eqOk, scalD, atF, addF, subF, mulF, fdivF, modF, mTru, truS, isF, asks, truD, isNoneD, isBoolD, mRaise, raiseM, oneD, List.replicate, allF, boolsOf, F_is_integer, F_great_divisor, F_is_share, F_is_sequence, mDrop, aTup, aCons, aNil, twoK, mPar, mIsi2, PyData.eqv, hl']
        | _ => simp [eqN] at he; subst he; simp [M.bind, M.ret, M.st, mT, mOp, mVar, mK, use, keep, lft, boolOf, optM, mCB, useAll, mCons, mNil, mTup, mLst, mFz, keepD, mSeq, mRet, mIfS, mAnd, mOr, mNot, mAndV, mOrV, mNotV, mIfE, mCall, keepAll, runF, mAsg, aName, mNx, mChain, fnM, startR, isiF, isT, isTN, askT, tyN, lenF, gtF, ltF, leF, geF, cmpF, eqF, neF, eqOk, scalD, atF, addF, subF, mulF, fdivF, modF, mTru, truS, isF, asks, truD, isNoneD, isBoolD, mRaise, raiseM, oneD, List.replicate, allF, boolsOf, F_is_integer, F_great_divisor, F_is_share, F_is_sequence, mDrop, aTup, aCons, aNil, twoK, mPar, mIsi2, PyData.eqv]
      | dict kvs => simp [eqN] at he
  · exact absurd rfl h
end K05
end
section
set_option maxRecDepth 100000
set_option maxHeartbeats 4000000
namespace K05
open PySem PySem.Spec DL
theorem e_lint : ∀ xs t, F__law_is_int xs t ≠ .st → fnM 1 m__law_is_int xs t = F__law_is_int xs t := by
  intro xs t h
  unfold F__law_is_int F_is_integer at h
  split at h
  · rename_i v
    cases v <;> rfl
  · exact absurd rfl h
noncomputable def lowB : M Fl := (mSeq (mIfS (mT (mOp eqF (mVar [] 3) (mK (.d (.int 0))))) (M.ret .bk) mNx) (mPar 2 3 (mCons (mVar [] 3) (mCons (mOp modF (mCB intF (mCons (mVar [] 2) mNil)) (mVar [] 3)) mNil))))
theorem lowB_stop (a b x : Int) (o : Option Sl) (t : Option Deal) : lowB [some (.d (.int a)), some (.d (.int b)), some (.d (.int x)), some (.d (.int 0)), o] t = .ok .bk [some (.d (.int a)), some (.d (.int b)), some (.d (.int x)), some (.d (.int 0)), o] t := by
  simp [lowB, M.bind, M.ret, M.st, mT, mOp, mVar, mK, use, keep, lft, boolOf, optM, mCB, useAll, mCons, mNil, mTup, mLst, mFz, keepD, mSeq, mRet, mIfS, mAnd, mOr, mNot, mAndV, mOrV, mNotV, mIfE, mCall, keepAll, runF, mAsg, aName, mNx, mChain, fnM, startR, isiF, isT, isTN, askT, tyN, lenF, gtF, ltF, leF, geF, cmpF, eqF, neF, eqOk, scalD, atF, addF, subF, mulF, fdivF, modF, mTru, truS, isF, asks, truD, isNoneD, isBoolD, mRaise, raiseM, oneD, List.replicate, allF, boolsOf, F_is_integer, F_great_divisor, F_is_share, F_is_sequence, mDrop, aTup, aCons, aNil, twoK, mPar, PyData.eqv]
theorem lowB_go (a b x y : Int) (hy : 0 < y) (o : Option Sl) (t : Option Deal) : lowB [some (.d (.int a)), some (.d (.int b)), some (.d (.int x)), some (.d (.int y)), o] t = .ok .nx [some (.d (.int a)), some (.d (.int b)), some (.d (.int y)), some (.d (.int (x % y))), o] t := by
  have h : (y == 0) = false := by rw [beq_eq_false_iff_ne]; omega
  simp [lowB, M.bind, M.ret, M.st, mT, mOp, mVar, mK, use, keep, lft, boolOf, optM, mCB, useAll, mCons, mNil, mTup, mLst, mFz, keepD, mSeq, mRet, mIfS, mAnd, mOr, mNot, mAndV, mOrV, mNotV, mIfE, mCall, keepAll, runF, mAsg, aName, mNx, mChain, fnM, startR, isiF, isT, isTN, askT, tyN, lenF, gtF, ltF, leF, geF, cmpF, eqF, neF, eqOk, scalD, atF, addF, subF, mulF, fdivF, modF, mTru, truS, isF, asks, truD, isNoneD, isBoolD, mRaise, raiseM, oneD, List.replicate, allF, boolsOf, F_is_integer, F_great_divisor, F_is_share, F_is_sequence, mDrop, aTup, aCons, aNil, twoK, mPar, PyData.eqv, h, intF, hy]
/-- Euclid's turns: two of them halve -/
theorem low_loop (a b : Int) (t : Option Deal) : ∀ (k : Nat) (x y : Int) (ds : List Sl) (o : Option Sl), 0 ≤ x → 0 ≤ y → y.toNat < 2 ^ k → 2 * k + 1 ≤ ds.length →
    ∃ o', forL (aName 4) lowB ds [some (.d (.int a)), some (.d (.int b)), some (.d (.int x)), some (.d (.int y)), o] t = .ok .nx [some (.d (.int a)), some (.d (.int b)), some (.d (.int (Int.gcd x y))), some (.d (.int 0)), o'] t
  | k, x, y, [], o, _, _, _, hl => by simp at hl
  | k, x, y, d :: ds, o, hx, hy, hk, hl => by
    by_cases h0 : y = 0
    · subst h0
      refine ⟨some d, ?_⟩
      rw [forL_brk (r1 := [some (.d (.int a)), some (.d (.int b)), some (.d (.int x)), some (.d (.int 0)), some d]) (t1 := t) rfl (lowB_stop a b x _ t)]
      have : ((Int.gcd x 0 : Nat) : Int) = x := by simp; omega
      rw [this]
    · have hy1 : 0 < y := by omega
      have m0 := Int.emod_nonneg x h0
      have m1 := Int.emod_lt_of_pos x hy1
      have e1 : ∀ ds', forL (aName 4) lowB (d :: ds') [some (.d (.int a)), some (.d (.int b)), some (.d (.int x)), some (.d (.int y)), o] t = forL (aName 4) lowB ds' [some (.d (.int a)), some (.d (.int b)), some (.d (.int y)), some (.d (.int (x % y))), some d] t := fun ds' =>
        forL_cons (r1 := [some (.d (.int a)), some (.d (.int b)), some (.d (.int x)), some (.d (.int y)), some d]) (t1 := t) rfl (lowB_go a b x y hy1 _ t)
      cases k with
      | zero => simp at hk; omega
      | succ k =>
        cases ds with
        | nil => simp at hl
        | cons d2 ds2 =>
          rw [e1]
          by_cases h1 : x % y = 0
          · rw [h1]
            refine ⟨some d2, ?_⟩
            rw [forL_brk (r1 := [some (.d (.int a)), some (.d (.int b)), some (.d (.int y)), some (.d (.int 0)), some d2]) (t1 := t) rfl (lowB_stop a b y _ t)]
            have g := gcd_step x y hx hy
            rw [h1] at g
            have : ((Int.gcd x y : Nat) : Int) = y := by rw [← g]; simp; omega
            rw [this]
          · have hm1 : 0 < x % y := by omega
            have n0 := Int.emod_nonneg y h1
            have n1 := Int.emod_lt_of_pos y hm1
            have e2 : forL (aName 4) lowB (d2 :: ds2) [some (.d (.int a)), some (.d (.int b)), some (.d (.int y)), some (.d (.int (x % y))), some d] t = forL (aName 4) lowB ds2 [some (.d (.int a)), some (.d (.int b)), some (.d (.int (x % y))), some (.d (.int (y % (x % y)))), some d2] t :=
              forL_cons (r1 := [some (.d (.int a)), some (.d (.int b)), some (.d (.int y)), some (.d (.int (x % y))), some d2]) (t1 := t) rfl (lowB_go a b y (x % y) hm1 _ t)
            rw [e2]
            have half : 2 * (y % (x % y)) < y := by
              have hd := Int.emod_add_mul_ediv y (x % y)
              have hq : 1 ≤ y / (x % y) := (Int.le_ediv_iff_mul_le hm1).mpr (by omega)
              have hmul : (x % y) * 1 ≤ (x % y) * (y / (x % y)) := Int.mul_le_mul_of_nonneg_left hq (by omega)
              omega
            obtain ⟨o', ih⟩ := low_loop a b t k (x % y) (y % (x % y)) ds2 (some d2) (by omega) n0 (by rw [Nat.pow_succ] at hk; omega) (by simp at hl; omega)
            refine ⟨o', ?_⟩
            rw [ih, gcd_step y (x % y) hy (by omega), gcd_step x y hx hy]
theorem rangeS_len : ∀ (lo : Int) (n : Nat), (rangeS lo n).length = n := by
  intro lo n
  unfold rangeS
  simp
theorem e_llow : ∀ xs t, F__law_lowest xs t ≠ .st → fnM 5 m__law_lowest xs t = F__law_lowest xs t := by
  intro xs t h
  have e2 : m__law_lowest = (mSeq (mPar 2 3 (mCons (mVar [] 0) (mCons (mVar [] 1) mNil))) (mSeq (mFor (mRange rng1 (mCons (mK (.d (.int 4000))) mNil)) (aName 4) lowB) (mRet (mTup (mCons (mOp fdivF (mVar [] 0) (mVar [] 2)) (mCons (mOp fdivF (mVar [] 1) (mVar [] 2)) mNil)))))) := rfl
  unfold F__law_lowest at h
  split at h
  · rename_i a b
    by_cases hc : 0 ≤ a ∧ 0 < b ∧ fits b
    · obtain ⟨h1, h2, h3⟩ := hc
      have g0 := gcd_pos (a := a) h2
      have gl : (Int.gcd a b : Nat).log2 < 9000 := Nat.lt_of_le_of_lt (log2_mono (by have := gcd_le (a := a) h2; omega)) (Nat.lt_trans (fits_log h3) (by decide))
      have hb : b.toNat < 2 ^ 1500 := by unfold fits at h3; omega
      obtain ⟨o', e⟩ := low_loop a b t 1500 a b (rangeS 0 4000) none h1 (by omega) hb (by rw [rangeS_len]; decide)
      have e3 : mFor (mRange rng1 (mCons (mK (.d (.int 4000))) mNil)) (aName 4) lowB [some (.d (.int a)), some (.d (.int b)), some (.d (.int a)), some (.d (.int b)), none] t = .ok .nx [some (.d (.int a)), some (.d (.int b)), some (.d (.int (Int.gcd a b))), some (.d (.int 0)), o'] t := by
        rw [← e]
        rfl
      have e4 : F__law_lowest [.d (.int a), .d (.int b)] t = .ok (.d (dP (low a b))) t := if_pos ⟨h1, h2, h3⟩
      rw [e4, e2]
      have g1 : 0 < Int.gcd a b := by omega
      generalize mFor (mRange rng1 (mCons (mK (.d (.int 4000))) mNil)) (aName 4) lowB = mm at e3 ⊢
      simp [M.bind, M.ret, M.st, mT, mOp, mVar, mK, use, keep, lft, boolOf, optM, mCB, useAll, mCons, mNil, mTup, mLst, mFz, keepD, mSeq, mRet, mIfS, mAnd, mOr, mNot, mAndV, mOrV, mNotV, mIfE, mCall, keepAll, runF, mAsg, aName, mNx, mChain, fnM, startR, isiF, isT, isTN, askT, tyN, lenF, gtF, ltF, leF, geF, cmpF, eqF, neF, eqOk, scalD, atF, addF, subF, mulF, fdivF, modF, mTru, truS, isF, asks, truD, isNoneD, isBoolD, mRaise, raiseM, oneD, List.replicate, allF, boolsOf, F_is_integer, F_great_divisor, F_is_share, F_is_sequence, mDrop, aTup, aCons, aNil, twoK, mPar, e3, dP, low, g0, gl, g1]
    · rw [if_neg hc] at h
      exact absurd rfl h
  · exact absurd rfl h
/-! the law's own sum: reduced at the end -/
def add0 (s p : Pr) : Pr := (s.1 * p.2 + p.1 * s.2, s.2 * p.2)
noncomputable def lsB : M Fl := (mPar 1 2 (mCons (mOp addF (mOp mulF (mVar [] 1) (mVar [] 4)) (mOp mulF (mVar [] 3) (mVar [] 2))) (mCons (mOp mulF (mVar [] 2) (mVar [] 4)) mNil)))
structure S0 (s : Pr) (n : Nat) (b : Int) : Prop where
  a0 : 0 ≤ s.1
  b0 : s.2 = b
  al : s.1 ≤ n * s.2
theorem add0_s {s p : Pr} {n : Nat} {b : Int} (h : S0 s n b) (hb : 0 < b) (hk : okP p) : S0 (add0 s p) (n + 1) (b * p.2) ∧ 0 < b * p.2 ∧ 0 < (add0 s p).1 := by
  obtain ⟨a0, rfl, al⟩ := h
  obtain ⟨k1, k2, k3⟩ := hk
  have p0 : 0 < p.2 := by omega
  have h1 : s.1 * p.2 ≤ n * s.2 * p.2 := Int.mul_le_mul_of_nonneg_right al (by omega)
  have h2 : p.1 * s.2 ≤ p.2 * s.2 := Int.mul_le_mul_of_nonneg_right k2 (by omega)
  have h3 : 0 ≤ s.1 * p.2 := Int.mul_nonneg a0 (by omega)
  have h4 : 0 < p.1 * s.2 := Int.mul_pos k1 hb
  refine ⟨⟨?_, rfl, ?_⟩, Int.mul_pos hb p0, ?_⟩
  · show 0 ≤ s.1 * p.2 + p.1 * s.2
    omega
  · show s.1 * p.2 + p.1 * s.2 ≤ ((n + 1 : Nat) : Int) * (s.2 * p.2)
    have e : ((n + 1 : Nat) : Int) * (s.2 * p.2) = n * s.2 * p.2 + p.2 * s.2 := by
      push_cast
      rw [Int.add_mul, Int.one_mul, Int.mul_assoc, Int.mul_comm p.2 s.2]
    rw [e]
    omega
  · show 0 < s.1 * p.2 + p.1 * s.2
    omega
theorem ls_loop (v : Sl) (t : Option Deal) : ∀ (ps : List Pr) (s : Pr) (n : Nat) (b : Int) (o o2 : Option Sl), S0 s n b → 0 < b → (∀ p ∈ ps, okP p) → fits (b * prodB ps) → n + ps.length ≤ 1000 →
    ∃ o' o2', forL (aTup 2 (aCons (aName 3) (aCons (aName 4) aNil))) lsB (ps.map fun p => .d (dP p)) [some v, some (.d (.int s.1)), some (.d (.int s.2)), o, o2] t = .ok .nx [some v, some (.d (.int (ps.foldl add0 s).1)), some (.d (.int (ps.foldl add0 s).2)), o', o2'] t
  | [], s, n, b, o, o2, _, _, _, _, _ => ⟨o, o2, rfl⟩
  | p :: ps, s, n, b, o, o2, hs, hb, hk, hf, hl => by
    have kp := hk p List.mem_cons_self
    have kr : ∀ q ∈ ps, okP q := fun q hq => hk q (List.mem_cons_of_mem _ hq)
    obtain ⟨hs', hb', _⟩ := add0_s hs hb kp
    have hf' : fits (b * p.2 * prodB ps) := by
      have e : b * prodB (p :: ps) = b * p.2 * prodB ps := by
        show b * (p.2 * prodB ps) = _
        rw [Int.mul_assoc]
      rw [← e]; exact hf
    obtain ⟨a0, rfl, al⟩ := hs
    have p0 : 0 < p.2 := by have := kp.1; have := kp.2.1; omega
    have g1 := prodB_ge kr hb'
    have f2 : (s.2 * p.2).natAbs < 2 ^ 1500 := by unfold fits at hf'; omega
    have s2 : s.2 ≤ s.2 * p.2 := by
      have := Int.mul_le_mul_of_nonneg_left (show 1 ≤ p.2 by omega) (show 0 ≤ s.2 by omega)
      omega
    have q2 : p.2 ≤ s.2 * p.2 := by
      have := Int.mul_le_mul_of_nonneg_right (show 1 ≤ s.2 by omega) (show 0 ≤ p.2 by omega)
      omega
    have s1 : s.1.natAbs < 2 ^ 1600 := by
      have h3 : (n : Int) * s.2 ≤ 1000 * s.2 := Int.mul_le_mul_of_nonneg_right (by simp at hl; omega) (by omega)
      have h4 : (1000 : Int) * 2 ^ 1500 ≤ 2 ^ 1600 := by decide +kernel
      have h5 : s.2 < 2 ^ 1500 := by omega
      omega
    have c1 : p.2.natAbs < 2 ^ 1500 := by omega
    have c2 : s.2.natAbs < 2 ^ 1500 := by omega
    have c3 : p.1.natAbs < 2 ^ 1500 := by have := kp.1; have := kp.2.1; omega
    have l1 := log2_lt' c1 (by decide)
    have l2 := log2_lt' c2 (by decide)
    have l3 := log2_lt' c3 (by decide)
    have l4 := log2_lt' s1 (by decide)
    have d1 : s.1.natAbs.log2 + p.2.natAbs.log2 < 1000000 := by omega
    have d2 : p.1.natAbs.log2 + s.2.natAbs.log2 < 1000000 := by omega
    have d3 : s.2.natAbs.log2 + p.2.natAbs.log2 < 1000000 := by omega
    have st : lsB [some v, some (.d (.int s.1)), some (.d (.int s.2)), some (.d (.int p.1)), some (.d (.int p.2))] t = .ok .nx [some v, some (.d (.int (add0 s p).1)), some (.d (.int (add0 s p).2)), some (.d (.int p.1)), some (.d (.int p.2))] t := by
      simp [lsB, M.bind, M.ret, M.st, mT, mOp, mVar, mK, use, keep, lft, boolOf, optM, mCB, useAll, mCons, mNil, mTup, mLst, mFz, keepD, mSeq, mRet, mIfS, mAnd, mOr, mNot, mAndV, mOrV, mNotV, mIfE, mCall, keepAll, runF, mAsg, aName, mNx, mChain, fnM, startR, isiF, isT, isTN, askT, tyN, lenF, gtF, ltF, leF, geF, cmpF, eqF, neF, eqOk, scalD, atF, addF, subF, mulF, fdivF, modF, mTru, truS, isF, asks, truD, isNoneD, isBoolD, mRaise, raiseM, oneD, List.replicate, allF, boolsOf, F_is_integer, F_great_divisor, F_is_share, F_is_sequence, mDrop, aTup, aCons, aNil, twoK, mPar, d1, d2, d3, add0]
    obtain ⟨o', o2', ih⟩ := ls_loop v t ps (add0 s p) (n + 1) (s.2 * p.2) (some (.d (.int p.1))) (some (.d (.int p.2))) hs' hb' kr hf' (by simp at hl; omega)
    refine ⟨o', o2', ?_⟩
    rw [List.map_cons, forL_cons (r1 := [some v, some (.d (.int s.1)), some (.d (.int s.2)), some (.d (.int p.1)), some (.d (.int p.2))]) (t1 := t) rfl st]
    exact ih
end K05
end
section
set_option maxRecDepth 100000
set_option maxHeartbeats 4000000
namespace K05
open PySem PySem.Spec DL
theorem low_scale {g x y : Int} (hg : 0 < g) (hy : 0 < y) : low (g * x) (g * y) = low x y := by
  unfold low
  have e : ((Int.gcd (g * x) (g * y) : Nat) : Int) = g * (Int.gcd x y : Int) := by
    rw [Int.gcd_mul_left]
    push_cast
    rw [show ((g.natAbs : Nat) : Int) = g by omega]
  rw [e, Int.mul_ediv_mul_of_pos _ _ hg, Int.mul_ediv_mul_of_pos _ _ hg]
theorem scale_alg {G x y a b p1 p2 : Int} (ha : x * G = a) (hb : y * G = b) : a * p2 + p1 * b = G * (x * p2 + p1 * y) := by
  subst ha hb
  rw [Int.mul_add, Int.mul_comm x G, Int.mul_assoc, Int.mul_comm y G, Int.mul_left_comm p1 G y]
theorem low_add {s p : Pr} (h1 : 0 ≤ s.1) (h2 : 0 < s.2) (hp : 0 < p.2) : low (add0 s p).1 (add0 s p).2 = add1 (low s.1 s.2) p := by
  obtain ⟨_, q2, q1, e1, e2⟩ := low_le h1 h2
  have g0 := gcd_pos (a := s.1) h2
  unfold add1 add0
  have a1 : s.1 * p.2 + p.1 * s.2 = (Int.gcd s.1 s.2 : Int) * ((low s.1 s.2).1 * p.2 + p.1 * (low s.1 s.2).2) := scale_alg e1 e2
  have a2 : s.2 * p.2 = (Int.gcd s.1 s.2 : Int) * ((low s.1 s.2).2 * p.2) := by
    rw [← Int.mul_assoc, Int.mul_comm (Int.gcd s.1 s.2 : Int), e2]
  show low (s.1 * p.2 + p.1 * s.2) (s.2 * p.2) = _
  rw [a1, a2]
  exact low_scale g0 (Int.mul_pos q2 hp)
theorem fold_low {ps : List Pr} : ∀ {s : Pr}, 0 ≤ s.1 → 0 < s.2 → (∀ p ∈ ps, okP p) → ps.foldl add1 (low s.1 s.2) = low (ps.foldl add0 s).1 (ps.foldl add0 s).2 := by
  induction ps with
  | nil => intro s _ _ _; rfl
  | cons p ps ih =>
    intro s h1 h2 hk
    have kp := hk p List.mem_cons_self
    have p0 : 0 < p.2 := by have := kp.1; have := kp.2.1; omega
    have := ih (s := add0 s p) (by
      show 0 ≤ s.1 * p.2 + p.1 * s.2
      exact Int.add_nonneg (Int.mul_nonneg h1 (by omega)) (Int.mul_nonneg (by have := kp.1; omega) (by omega))) (Int.mul_pos h2 p0) fun q hq => hk q (List.mem_cons_of_mem _ hq)
    rw [low_add h1 h2 p0] at this
    exact this
theorem sumL_low {ps : List Pr} (hk : ∀ p ∈ ps, okP p) : sumL ps = low (ps.foldl add0 (0, 1)).1 (ps.foldl add0 (0, 1)).2 := by
  have := fold_low (ps := ps) (s := (0, 1)) (by decide) (by decide) hk
  rw [← this]
  rfl
theorem fold0_s {ps : List Pr} : ∀ {s : Pr} {n : Nat} {b : Int}, S0 s n b → 0 < b → (∀ p ∈ ps, okP p) → S0 (ps.foldl add0 s) (n + ps.length) (b * prodB ps) := by
  induction ps with
  | nil => intro s n b h hb hk; simpa [prodB] using h
  | cons p ps ih =>
    intro s n b h hb hk
    obtain ⟨h1, h2, _⟩ := add0_s h hb (hk p List.mem_cons_self)
    have := ih h1 h2 fun q hq => hk q (List.mem_cons_of_mem _ hq)
    have e : b * prodB (p :: ps) = b * p.2 * prodB ps := by
      show b * (p.2 * prodB ps) = _
      rw [Int.mul_assoc]
    rw [e]
    have e2 : n + (p :: ps).length = n + 1 + ps.length := by simp; omega
    rw [e2]
    exact this
theorem fold0_pos {ps : List Pr} : ∀ {s : Pr} {n : Nat} {b : Int}, S0 s n b → 0 < b → (∀ p ∈ ps, okP p) → 0 < s.1 → 0 < (ps.foldl add0 s).1 := by
  induction ps with
  | nil => intro s n b _ _ _ h; exact h
  | cons p ps ih =>
    intro s n b h hb hk h0
    obtain ⟨h1, h2, h3⟩ := add0_s h hb (hk p List.mem_cons_self)
    exact ih h1 h2 (fun q hq => hk q (List.mem_cons_of_mem _ hq)) h3
theorem S0_0 : S0 (0, 1) 0 1 := ⟨by decide, rfl, by decide⟩
theorem e_lsum : ∀ xs t, F__law_sum xs t ≠ .st → fnM 5 (m__law_sum F__law_lowest) xs t = F__law_sum xs t := by
  intro xs t h
  have e2 : m__law_sum F__law_lowest = mSeq (mAsg (aTup 2 (aCons (aName 1) (aCons (aName 2) aNil))) (mTup (mCons (mK (.d (.int 0))) (mCons (mK (.d (.int 1))) mNil)))) (mSeq (mFor (mIter (mVar [] 0)) (aTup 2 (aCons (aName 3) (aCons (aName 4) aNil))) lsB) (mRet (mIfE (mT (mOp gtF (mVar [] 1) (mK (.d (.int 0))))) (mCall 2 F__law_lowest (mCons (mVar [] 1) (mCons (mVar [] 2) mNil))) (mTup (mCons (mK (.d (.int 0))) (mCons (mK (.d (.int 1))) mNil)))))) := rfl
  unfold F__law_sum at h
  split at h
  · rename_i v
    cases hv : seqD v with
    | none => rw [hv] at h; exact absurd rfl h
    | some vs =>
      cases hu : unL vs with
      | none => rw [hv] at h; simp only [hu] at h; exact absurd rfl h
      | some ps =>
        by_cases hc : fits (prodB ps) ∧ ps.length ≤ 1000
        · obtain ⟨e1, k1, l1⟩ := unL_all hu
          obtain ⟨o', o2', e⟩ := ls_loop (.d v) t ps (0, 1) 0 1 none none S0_0 (by decide) k1 (by rw [Int.one_mul]; exact hc.1) (by omega)
          have e3 : itemsOf (.d v) = some (ps.map fun p => .d (dP p)) := by
            cases v with
            | list ws => cases hv; subst e1; simp [itemsOf]
            | tuple ws => cases hv; subst e1; simp [itemsOf]
            | _ => cases hv
          have e4 : F__law_sum [.d v] t = .ok (.d (dP (sumL ps))) t := by
            unfold F__law_sum
            simp only [hv, hu, if_pos hc]
          have e5 : mFor (mIter (mVar [] 0)) (aTup 2 (aCons (aName 3) (aCons (aName 4) aNil))) lsB [some (.d v), some (.d (.int 0)), some (.d (.int 1)), none, none] t = .ok .nx [some (.d v), some (.d (.int (ps.foldl add0 (0, 1)).1)), some (.d (.int (ps.foldl add0 (0, 1)).2)), o', o2'] t := by
            unfold mFor mIter
            simp only [M.bind, mVar, List.getElem?_cons_zero, List.not_mem_nil, if_false, keep, optM, e3]
            exact e
          have sl := sumL_low k1
          have s0 := fold0_s (ps := ps) S0_0 (by decide) k1
          rw [Int.one_mul] at s0
          rw [e4, e2]
          generalize mFor (mIter (mVar [] 0)) (aTup 2 (aCons (aName 3) (aCons (aName 4) aNil))) lsB = mm at e5 ⊢
          by_cases hz : 0 < (ps.foldl add0 (0, 1)).1
          · have hb : 0 < (ps.foldl add0 (0, 1)).2 := by rw [s0.b0]; exact prodB_pos k1
            have hF : F__law_lowest [.d (.int (ps.foldl add0 (0, 1)).1), .d (.int (ps.foldl add0 (0, 1)).2)] t = .ok (.d (dP (sumL ps))) t := by
              rw [sl]
              exact if_pos ⟨by omega, hb, by rw [s0.b0]; exact hc.1⟩
            simp [M.bind, M.ret, M.st, mT, mOp, mVar, mK, use, keep, lft, boolOf, optM, mCB, useAll, mCons, mNil, mTup, mLst, mFz, keepD, mSeq, mRet, mIfS, mAnd, mOr, mNot, mAndV, mOrV, mNotV, mIfE, mCall, keepAll, runF, mAsg, aName, mNx, mChain, fnM, startR, isiF, isT, isTN, askT, tyN, lenF, gtF, ltF, leF, geF, cmpF, eqF, neF, eqOk, scalD, atF, addF, subF, mulF, fdivF, modF, mTru, truS, isF, asks, truD, isNoneD, isBoolD, mRaise, raiseM, oneD, List.replicate, allF, boolsOf, F_is_integer, F_great_divisor, F_is_share, F_is_sequence, mDrop, aTup, aCons, aNil, twoK, mPar, e5, hz, hF]
          · have hn : ps = [] := by
              cases ps with
              | nil => rfl
              | cons p ps =>
                obtain ⟨h1, h2, h3⟩ := add0_s S0_0 (by decide) (k1 p List.mem_cons_self)
                exact absurd (fold0_pos h1 h2 (fun q hq => k1 q (List.mem_cons_of_mem _ hq)) h3) hz
            subst hn
            simp [M.bind, M.ret, M.st, mT, mOp, mVar, mK, use, keep, lft, boolOf, optM, mCB, useAll, mCons, mNil, mTup, mLst, mFz, keepD, mSeq, mRet, mIfS, mAnd, mOr, mNot, mAndV, mOrV, mNotV, mIfE, mCall, keepAll, runF, mAsg, aName, mNx, mChain, fnM, startR, isiF, isT, isTN, askT, tyN, lenF, gtF, ltF, leF, geF, cmpF, eqF, neF, eqOk, scalD, atF, addF, subF, mulF, fdivF, modF, mTru, truS, isF, asks, truD, isNoneD, isBoolD, mRaise, raiseM, oneD, List.replicate, allF, boolsOf, F_is_integer, F_great_divisor, F_is_share, F_is_sequence, mDrop, aTup, aCons, aNil, twoK, mPar, e5, sumL, dP]
        · rw [hv] at h; simp only [hu] at h; rw [if_neg hc] at h; exact absurd rfl h
  · exact absurd rfl h
end K05
end
section
set_option maxRecDepth 100000
set_option maxHeartbeats 4000000
namespace K05
open PySem PySem.Spec DL
theorem low_eq {a b : Int} (h1 : 0 < a) (h2 : a ≤ b) : ((low a b).1 == a && (low a b).2 == b) = decide (Int.gcd a b = 1) := by
  have hb : 0 < b := by omega
  have g0 := gcd_pos (a := a) hb
  obtain ⟨_, q2, q1, e1, e2⟩ := low_le (a := a) (b := b) (by omega) hb
  by_cases h : Int.gcd a b = 1
  · rw [decide_eq_true h]
    rw [h] at e1 e2
    simp at e1 e2
    simp [e1, e2]
  · rw [decide_eq_false h]
    have : (low a b).2 ≠ b := by
      intro z
      rw [z] at e2
      have : b * (Int.gcd a b : Int) = b * 1 := by rw [e2, Int.mul_one]
      have := Int.eq_of_mul_eq_mul_left (by omega) this
      omega
    simp [this]
theorem shaped_pair (x y : Int) : SeqAt.shaped (.tuple [.int x, .int y]) = true := rfl
theorem sh1 (x y : PyData) (hx : flatV x = true) (hy : flatV y = true) : SeqAt.shaped (.list [x]) = true ∧ SeqAt.shaped (.list [x, y]) = true := by
  cases x <;> cases y <;> first | (cases hx; done) | (cases hy; done) | exact ⟨rfl, rfl⟩
theorem lshare_int (a b : Int) (hb : fits b) (t : Option Deal) : fnM 2 (m__law_is_share F__law_is_int F__law_lowest) [.d (.tuple [.int a, .int b])] t = .ok (.d (.bool (shareD (.tuple [.int a, .int b])))) t := by
  have hs : shareD (.tuple [.int a, .int b]) = decide (okP (a, b)) := by
    by_cases h : okP (a, b)
    · simp [shareD, unS, h]
    · simp [shareD, unS, h]
  rw [hs]
  have e0 : SeqAt.shaped (.list []) = true := rfl
  by_cases h1 : 0 < a
  · by_cases h2 : a ≤ b
    · have hF : F__law_lowest [.d (.int a), .d (.int b)] t = .ok (.d (.tuple [.int (low a b).1, .int (low a b).2])) t := if_pos ⟨by omega, by omega, hb⟩
      have hle := low_eq h1 h2
      have hd : decide (okP (a, b)) = decide (Int.gcd a b = 1) := by
        unfold okP
        simp [h1, h2]
      rw [hd, ← hle]
      have p1 := shaped_pair (low a b).1 (low a b).2
      have p2 := shaped_pair a b
      simp [m__law_is_share, M.bind, M.ret, M.st, mT, mOp, mVar, mK, use, keep, lft, boolOf, optM, mCB, useAll, mCons, mNil, mTup, mLst, mFz, keepD, mSeq, mRet, mIfS, mAnd, mOr, mNot, mAndV, mOrV, mNotV, mIfE, mCall, keepAll, runF, mAsg, aName, mNx, mChain, fnM, startR, isiF, isT, isTN, askT, tyN, lenF, gtF, ltF, leF, geF, cmpF, eqF, neF, eqOk, scalD, atF, addF, subF, mulF, fdivF, modF, mTru, truS, mIter, itemsOf, isF, asks, truD, isNoneD, isBoolD, mRaise, raiseM, oneD, List.replicate, mLc, inComp, noX, lcL, lcOne, lcPut, wipeM, wipeR, dataOf, restR, allF, boolsOf, F_is_integer, F_great_divisor, F_is_share, F_is_sequence, isIntD, isSeqD, mDrop, aTup, aCons, aNil, twoK, mPar, F__law_is_int, h1, h2, L2.atI, L2.ixN, PyData.eqv, PyData.eqvAll, e0, hF, p1, p2]
    · simp [m__law_is_share, M.bind, M.ret, M.st, mT, mOp, mVar, mK, use, keep, lft, boolOf, optM, mCB, useAll, mCons, mNil, mTup, mLst, mFz, keepD, mSeq, mRet, mIfS, mAnd, mOr, mNot, mAndV, mOrV, mNotV, mIfE, mCall, keepAll, runF, mAsg, aName, mNx, mChain, fnM, startR, isiF, isT, isTN, askT, tyN, lenF, gtF, ltF, leF, geF, cmpF, eqF, neF, eqOk, scalD, atF, addF, subF, mulF, fdivF, modF, mTru, truS, mIter, itemsOf, isF, asks, truD, isNoneD, isBoolD, mRaise, raiseM, oneD, List.replicate, mLc, inComp, noX, lcL, lcOne, lcPut, wipeM, wipeR, dataOf, restR, allF, boolsOf, F_is_integer, F_great_divisor, F_is_share, F_is_sequence, isIntD, isSeqD, mDrop, aTup, aCons, aNil, twoK, mPar, F__law_is_int, h1, h2, okP, L2.atI, L2.ixN, PyData.eqv, PyData.eqvAll, e0]
  · simp [m__law_is_share, M.bind, M.ret, M.st, mT, mOp, mVar, mK, use, keep, lft, boolOf, optM, mCB, useAll, mCons, mNil, mTup, mLst, mFz, keepD, mSeq, mRet, mIfS, mAnd, mOr, mNot, mAndV, mOrV, mNotV, mIfE, mCall, keepAll, runF, mAsg, aName, mNx, mChain, fnM, startR, isiF, isT, isTN, askT, tyN, lenF, gtF, ltF, leF, geF, cmpF, eqF, neF, eqOk, scalD, atF, addF, subF, mulF, fdivF, modF, mTru, truS, mIter, itemsOf, isF, asks, truD, isNoneD, isBoolD, mRaise, raiseM, oneD, List.replicate, mLc, inComp, noX, lcL, lcOne, lcPut, wipeM, wipeR, dataOf, restR, allF, boolsOf, F_is_integer, F_great_divisor, F_is_share, F_is_sequence, isIntD, isSeqD, mDrop, aTup, aCons, aNil, twoK, mPar, F__law_is_int, h1, okP, L2.atI, L2.ixN, PyData.eqv, PyData.eqvAll, e0]
theorem e_lshare : ∀ xs t, F__law_is_share xs t ≠ .st → fnM 2 (m__law_is_share F__law_is_int F__law_lowest) xs t = F__law_is_share xs t := by
  intro xs t h
  unfold F__law_is_share at h
  split at h
  · rename_i v
    by_cases hf : fineV v = true
    · have e4 : F__law_is_share [.d v] t = .ok (.d (.bool (shareD v))) t := if_pos hf
      rw [e4]
      cases v with
      | tuple xs =>
        match xs with
        | [] => simp [m__law_is_share, M.bind, M.ret, M.st, mT, mOp, mVar, mK, use, keep, lft, boolOf, optM, mCB, useAll, mCons, mNil, mTup, mLst, mFz, keepD, mSeq, mRet, mIfS, mAnd, mOr, mNot, mAndV, mOrV, mNotV, mIfE, mCall, keepAll, runF, mAsg, aName, mNx, mChain, fnM, startR, isiF, isT, isTN, askT, tyN, lenF, gtF, ltF, leF, geF, cmpF, eqF, neF, eqOk, scalD, atF, addF, subF, mulF, fdivF, modF, mTru, truS, mIter, itemsOf, isF, asks, truD, isNoneD, isBoolD, mRaise, raiseM, oneD, List.replicate, mLc, inComp, noX, lcL, lcOne, lcPut, wipeM, wipeR, dataOf, restR, allF, boolsOf, F_is_integer, F_great_divisor, F_is_share, F_is_sequence, isIntD, isSeqD, mDrop, aTup, aCons, aNil, twoK, mPar, PyData.eqv, shareD, unS]
        | [x] => simp [m__law_is_share, M.bind, M.ret, M.st, mT, mOp, mVar, mK, use, keep, lft, boolOf, optM, mCB, useAll, mCons, mNil, mTup, mLst, mFz, keepD, mSeq, mRet, mIfS, mAnd, mOr, mNot, mAndV, mOrV, mNotV, mIfE, mCall, keepAll, runF, mAsg, aName, mNx, mChain, fnM, startR, isiF, isT, isTN, askT, tyN, lenF, gtF, ltF, leF, geF, cmpF, eqF, neF, eqOk, scalD, atF, addF, subF, mulF, fdivF, modF, mTru, truS, mIter, itemsOf, isF, asks, truD, isNoneD, isBoolD, mRaise, raiseM, oneD, List.replicate, mLc, inComp, noX, lcL, lcOne, lcPut, wipeM, wipeR, dataOf, restR, allF, boolsOf, F_is_integer, F_great_divisor, F_is_share, F_is_sequence, isIntD, isSeqD, mDrop, aTup, aCons, aNil, twoK, mPar, PyData.eqv, shareD, unS]
        | x :: y :: z :: r =>
          have e : ((r.length : Int) + 1 + 1 + 1 == 2) = false := by
            rw [beq_eq_false_iff_ne]; omega
          simp [m__law_is_share, M.bind, M.ret, M.st, mT, mOp, mVar, mK, use, keep, lft, boolOf, optM, mCB, useAll, mCons, mNil, mTup, mLst, mFz, keepD, mSeq, mRet, mIfS, mAnd, mOr, mNot, mAndV, mOrV, mNotV, mIfE, mCall, keepAll, runF, mAsg, aName, mNx, mChain, fnM, startR, isiF, isT, isTN, askT, tyN, lenF, gtF, ltF, leF, geF, cmpF, eqF, neF, eqOk, scalD, atF, addF, subF, mulF, fdivF, modF, mTru, truS, mIter, itemsOf, isF, asks, truD, isNoneD, isBoolD, mRaise, raiseM, oneD, List.replicate, mLc, inComp, noX, lcL, lcOne, lcPut, wipeM, wipeR, dataOf, restR, allF, boolsOf, F_is_integer, F_great_divisor, F_is_share, F_is_sequence, isIntD, isSeqD, mDrop, aTup, aCons, aNil, twoK, mPar, PyData.eqv, shareD, unS, e]
        | [x, y] =>
          have hf' : (flatV x && flatV y) = true := hf
          rw [Bool.and_eq_true] at hf'
          obtain ⟨hx, hy⟩ := hf'
          obtain ⟨s1, s2⟩ := sh1 x y hx hy
          obtain ⟨s3, _⟩ := sh1 y x hy hx
          have e0 : SeqAt.shaped (.list []) = true := rfl
          cases x with
          | int a =>
            cases y with
            | int b => exact lshare_int a b (of_decide_eq_true hy) t
            | str z => cases hy
            | list z => cases hy
            | tuple z => cases hy
            | dict z => cases hy
            | _ => simp [m__law_is_share, M.bind, M.ret, M.st, mT, mOp, mVar, mK, use, keep, lft, boolOf, optM, mCB, useAll, mCons, mNil, mTup, mLst, mFz, keepD, mSeq, mRet, mIfS, mAnd, mOr, mNot, mAndV, mOrV, mNotV, mIfE, mCall, keepAll, runF, mAsg, aName, mNx, mChain, fnM, startR, isiF, isT, isTN, askT, tyN, lenF, gtF, ltF, leF, geF, cmpF, eqF, neF, eqOk, scalD, atF, addF, subF, mulF, fdivF, modF, mTru, truS, mIter, itemsOf, isF, asks, truD, isNoneD, isBoolD, mRaise, raiseM, oneD, List.replicate, mLc, inComp, noX, lcL, lcOne, lcPut, wipeM, wipeR, dataOf, restR, allF, boolsOf, F_is_integer, F_great_divisor, F_is_share, F_is_sequence, isIntD, isSeqD, mDrop, aTup, aCons, aNil, twoK, mPar, F__law_is_int, PyData.eqv, PyData.eqvAll, shareD, unS, s1, s2, s3, e0]
          | str z => cases hx
          | list z => cases hx
          | tuple z => cases hx
          | dict z => cases hx
          | _ =>
            cases y with
            | str z => cases hy
            | list z => cases hy
            | tuple z => cases hy
            | dict z => cases hy
            | _ => simp [m__law_is_share, M.bind, M.ret, M.st, mT, mOp, mVar, mK, use, keep, lft, boolOf, optM, mCB, useAll, mCons, mNil, mTup, mLst, mFz, keepD, mSeq, mRet, mIfS, mAnd, mOr, mNot, mAndV, mOrV, mNotV, mIfE, mCall, keepAll, runF, mAsg, aName, mNx, mChain, fnM, startR, isiF, isT, isTN, askT, tyN, lenF, gtF, ltF, leF, geF, cmpF, eqF, neF, eqOk, scalD, atF, addF, subF, mulF, fdivF, modF, mTru, truS, mIter, itemsOf, isF, asks, truD, isNoneD, isBoolD, mRaise, raiseM, oneD, List.replicate, mLc, inComp, noX, lcL, lcOne, lcPut, wipeM, wipeR, dataOf, restR, allF, boolsOf, F_is_integer, F_great_divisor, F_is_share, F_is_sequence, isIntD, isSeqD, mDrop, aTup, aCons, aNil, twoK, mPar, F__law_is_int, PyData.eqv, PyData.eqvAll, shareD, unS, s1, s2, s3, e0]
      | _ => simp [m__law_is_share, M.bind, M.ret, M.st, mT, mOp, mVar, mK, use, keep, lft, boolOf, optM, mCB, useAll, mCons, mNil, mTup, mLst, mFz, keepD, mSeq, mRet, mIfS, mAnd, mOr, mNot, mAndV, mOrV, mNotV, mIfE, mCall, keepAll, runF, mAsg, aName, mNx, mChain, fnM, startR, isiF, isT, isTN, askT, tyN, lenF, gtF, ltF, leF, geF, cmpF, eqF, neF, eqOk, scalD, atF, addF, subF, mulF, fdivF, modF, mTru, truS, mIter, itemsOf, isF, asks, truD, isNoneD, isBoolD, mRaise, raiseM, oneD, List.replicate, mLc, inComp, noX, lcL, lcOne, lcPut, wipeM, wipeR, dataOf, restR, allF, boolsOf, F_is_integer, F_great_divisor, F_is_share, F_is_sequence, isIntD, isSeqD, mDrop, aTup, aCons, aNil, twoK, mPar, PyData.eqv, shareD, unS]
    · rw [if_neg hf] at h
      exact absurd rfl h
  · exact absurd rfl h
end K05
end
section
set_option maxRecDepth 100000
set_option maxHeartbeats 4000000
namespace K05
open PySem PySem.Spec DL
theorem cut48 (xs : List PyData) : cutL xs none (some 48) = xs.take 48 := by
  unfold cutL
  rw [HT.sIx_none, show HT.sIx xs.length xs.length (some 48) = min 48 xs.length from HT.sIx_nat xs.length _ 48]
  rw [List.drop_zero, Nat.sub_zero]
  by_cases h : xs.length ≤ 48
  · rw [Nat.min_eq_right h, List.take_length, List.take_of_length_le h]
  · rw [Nat.min_eq_left (by omega)]
noncomputable def drE1 : M Tk := (mCB absF (mCons (mCB intF (mCons (mVar [] 4) mNil)) mNil))
noncomputable def drI : M (List Sl) := mIter (mSl (mVar [] 0) mNoP (mPart (mK (.d (.int 48)))))
theorem drI_e (ns : List Int) (r : Rho) (t : Option Deal) (h : r[0]? = some (some (.scr ns))) : drI r t = .ok ((ns.take 48).map fun i => Sl.d (.int i)) r t := by
  have e : cutL (ns.map PyData.int) none (some 48) = (ns.take 48).map PyData.int := by rw [cut48, List.map_take]
  simp [drI, mIter, mSl, mNoP, mPart, M.bind, M.ret, M.st, mT, mOp, mVar, mK, use, keep, lft, boolOf, optM, mCB, useAll, mCons, mNil, mTup, mLst, mFz, keepD, mSeq, mRet, mIfS, mAnd, mOr, mNot, mAndV, mOrV, mNotV, mIfE, mCall, keepAll, runF, mAsg, aName, mNx, mChain, fnM, startR, isiF, isT, isTN, askT, tyN, lenF, gtF, ltF, leF, geF, cmpF, eqF, neF, eqOk, scalD, atF, addF, subF, mulF, fdivF, modF, mTru, truS, isF, asks, truD, isNoneD, isBoolD, mRaise, raiseM, oneD, List.replicate, allF, boolsOf, F_is_integer, F_great_divisor, F_is_share, F_is_sequence, mDrop, aTup, aCons, aNil, twoK, mPar, h, intOf, slF, e, itemsOf]
  rfl
theorem drE1_e (i : Int) (r : Rho) (t : Option Deal) (h : r[4]? = some (some (.d (.int i)))) : drE1 r t = .ok (.v (.d (.int ((i.natAbs : Nat) : Int)))) r t := by
  have e : (if i < 0 then -i else i) = ((i.natAbs : Nat) : Int) := by
    split <;> omega
  simp [drE1, M.bind, M.ret, M.st, mT, mOp, mVar, mK, use, keep, lft, boolOf, optM, mCB, useAll, mCons, mNil, mTup, mLst, mFz, keepD, mSeq, mRet, mIfS, mAnd, mOr, mNot, mAndV, mOrV, mNotV, mIfE, mCall, keepAll, runF, mAsg, aName, mNx, mChain, fnM, startR, isiF, isT, isTN, askT, tyN, lenF, gtF, ltF, leF, geF, cmpF, eqF, neF, eqOk, scalD, atF, addF, subF, mulF, fdivF, modF, mTru, truS, isF, asks, truD, isNoneD, isBoolD, mRaise, raiseM, oneD, List.replicate, allF, boolsOf, F_is_integer, F_great_divisor, F_is_share, F_is_sequence, mDrop, aTup, aCons, aNil, twoK, mPar, h, intF, absF, e]
theorem dr_cells (ns : List Int) (salt : Int) (t : Option Deal) : mLc drI [4] (aName 4) (M.ret true) drE1 [some (.scr ns), some (.d (.int salt)), none, none, none] t = .ok ((drawC ns).map PyData.int) [some (.scr ns), some (.d (.int salt)), none, none, none] t := by
  have := mLc_map (mi := drI) (vs := [4]) (f := aName 4) (test := M.ret true) (elt := drE1) (r := [some (.scr ns), some (.d (.int salt)), none, none, none]) (t := t) (p := fun _ => true) (g := fun d => match d with
    | .d (.int i) => .int ((i.natAbs : Nat) : Int)
    | _ => .none) (ds := (ns.take 48).map fun i => Sl.d (.int i)) (drI_e ns _ t rfl) (by rw [List.length_map, List.length_take]; omega) rfl ?_
  · rw [this, List.filter_eq_self.mpr (fun _ _ => rfl), List.map_map]
    unfold drawC
    rw [List.map_map]
    rfl
  · intro d hd
    obtain ⟨i, _, rfl⟩ := List.mem_map.mp hd
    refine ⟨[some (.scr ns), some (.d (.int salt)), none, none, some (.d (.int i))], ?_, rfl⟩
    have e := drE1_e i [some (.scr ns), some (.d (.int salt)), none, none, some (.d (.int i))] t rfl
    simp [lcOne, wipeM, wipeR, M.bind, aName, M.ret, e, dataOf, optM]
noncomputable def drB : M Fl := (mAsg (aName 3) (mOp modF (mCB intF (mCons (mOp addF (mOp addF (mOp mulF (mVar [] 3) (mK (.d (.int 48271)))) (mOp modF (mVar [] 4) (mK (.d (.int 2147483549))))) (mK (.d (.int 11)))) mNil)) (mK (.d (.int 2147483647)))))
theorem drB_e (s a : Sl) (cs : PyData) (b c : Int) (hb : b.natAbs < 2 ^ 40) (t : Option Deal) : drB [some s, some a, some (.d cs), some (.d (.int b)), some (.d (.int c))] t = .ok .nx [some s, some a, some (.d cs), some (.d (.int ((b * 48271 + c % 2147483549 + 11) % 2147483647))), some (.d (.int c))] t := by
  have l := log2_lt' hb (by decide)
  have d1 : b.natAbs.log2 + (48271 : Int).natAbs.log2 < 1000000 := by
    have : (48271 : Int).natAbs.log2 < 20 := by decide
    omega
  have d2 : b.natAbs.log2 + Nat.log2 48271 < 1000000 := d1
  simp [drB, M.bind, M.ret, M.st, mT, mOp, mVar, mK, use, keep, lft, boolOf, optM, mCB, useAll, mCons, mNil, mTup, mLst, mFz, keepD, mSeq, mRet, mIfS, mAnd, mOr, mNot, mAndV, mOrV, mNotV, mIfE, mCall, keepAll, runF, mAsg, aName, mNx, mChain, fnM, startR, isiF, isT, isTN, askT, tyN, lenF, gtF, ltF, leF, geF, cmpF, eqF, neF, eqOk, scalD, atF, addF, subF, mulF, fdivF, modF, mTru, truS, isF, asks, truD, isNoneD, isBoolD, mRaise, raiseM, oneD, List.replicate, allF, boolsOf, F_is_integer, F_great_divisor, F_is_share, F_is_sequence, mDrop, aTup, aCons, aNil, twoK, mPar, intF, d1, d2]
theorem dr_loop (s a : Sl) (cs : PyData) (t : Option Deal) : ∀ (l : List Int) (b : Int) (o : Option Sl), b.natAbs < 2 ^ 40 →
    ∃ o', forL (aName 4) drB (l.map fun i => Sl.d (.int i)) [some s, some a, some (.d cs), some (.d (.int b)), o] t = .ok .nx [some s, some a, some (.d cs), some (.d (.int (l.foldl (fun b c => (b * 48271 + c % 2147483549 + 11) % 2147483647) b))), o'] t
  | [], b, o, _ => ⟨o, rfl⟩
  | c :: l, b, o, hb => by
    have m0 := Int.emod_nonneg (b * 48271 + c % 2147483549 + 11) (show (2147483647 : Int) ≠ 0 by decide)
    have m1 := Int.emod_lt_of_pos (b * 48271 + c % 2147483549 + 11) (show (0 : Int) < 2147483647 by decide)
    obtain ⟨o', ih⟩ := dr_loop s a cs t l ((b * 48271 + c % 2147483549 + 11) % 2147483647) (some (.d (.int c))) (by omega)
    refine ⟨o', ?_⟩
    rw [List.map_cons, forL_cons (r1 := [some s, some a, some (.d cs), some (.d (.int b)), some (.d (.int c))]) (t1 := t) rfl (drB_e s a cs b c hb t)]
    exact ih
noncomputable def drT : M Bool := (mT (mOp geF (mVar [] 4) (mOp powF (mK (.d (.int 10))) (mK (.d (.int 18))))))
theorem drT_e (i : Int) (r : Rho) (t : Option Deal) (h : r[4]? = some (some (.d (.int i)))) : drT r t = .ok (decide (10 ^ 18 ≤ i)) r t := by
  simp [drT, M.bind, M.ret, M.st, mT, mOp, mVar, mK, use, keep, lft, boolOf, optM, mCB, useAll, mCons, mNil, mTup, mLst, mFz, keepD, mSeq, mRet, mIfS, mAnd, mOr, mNot, mAndV, mOrV, mNotV, mIfE, mCall, keepAll, runF, mAsg, aName, mNx, mChain, fnM, startR, isiF, isT, isTN, askT, tyN, lenF, gtF, ltF, leF, geF, cmpF, eqF, neF, eqOk, scalD, atF, addF, subF, mulF, fdivF, modF, mTru, truS, isF, asks, truD, isNoneD, isBoolD, mRaise, raiseM, oneD, List.replicate, allF, boolsOf, F_is_integer, F_great_divisor, F_is_share, F_is_sequence, mDrop, aTup, aCons, aNil, twoK, mPar, h, powF]
theorem dr_keep (s a : Sl) (l : List Int) (b : Sl) (o : Option Sl) (hl : l.length < 1000) (t : Option Deal) : mLc (mIter (mVar [] 2)) [4] (aName 4) drT (mVar [] 4) [some s, some a, some (.d (.list (l.map PyData.int))), some b, o] t = .ok ((l.filter fun c => decide (10 ^ 18 ≤ c)).map PyData.int) [some s, some a, some (.d (.list (l.map PyData.int))), some b, o] t := by
  have e := lc_gen (elt := mVar [] 4) (test := drT) (p := fun x => match x with
    | .int i => decide (10 ^ 18 ≤ i)
    | _ => false) (g := fun x => x) (v := .list (l.map PyData.int)) (vs := l.map PyData.int) (i := 4) (j := 2) (r := [some s, some a, some (.d (.list (l.map PyData.int))), some b, o]) (t := t) ?_ ?_ rfl (by rw [List.length_map]; omega) rfl (by show 4 < 5; decide)
  · rw [e, List.filter_map, List.map_map]
    rfl
  · intro x r' hx hr
    obtain ⟨i, _, rfl⟩ := List.mem_map.mp hx
    exact drT_e i r' t hr
  · intro x r' hx _ hr
    simp [mVar, hr]
theorem e_draw : ∀ xs t, F__law_draw xs t ≠ .st → fnM 5 m__law_draw xs t = F__law_draw xs t := by
  intro xs t h
  have e2 : m__law_draw = (mSeq (mAsg (aName 2) (mFz (mLc drI [4] (aName 4) (M.ret true) drE1))) (mSeq (mAsg (aName 3) (mOp addF (mK (.d (.int 7919))) (mOp mulF (mK (.d (.int 104729))) (mVar [] 1)))) (mSeq (mFor (mIter (mVar [] 2)) (aName 4) drB) (mRet (mFz (mLst (mCons (mFz (mRev (mFz (mLc (mIter (mVar [] 2)) [4] (aName 4) drT (mVar [] 4))))) (mCons (mVar [] 3) mNil)))))))) := rfl
  unfold F__law_draw at h
  split at h
  · rename_i ns salt
    by_cases hc : 0 ≤ salt ∧ salt ≤ 1000
    · obtain ⟨h1, h2⟩ := hc
      have hC := dr_cells ns salt t
      have hlen : (drawC ns).length < 1000 := by
        unfold drawC
        rw [List.length_map, List.length_take]
        omega
      have hb0 : (7919 + 104729 * salt).natAbs < 2 ^ 40 := by omega
      obtain ⟨o', hL⟩ := dr_loop (.scr ns) (.d (.int salt)) (.list ((drawC ns).map PyData.int)) t (drawC ns) (7919 + 104729 * salt) none hb0
      have hF : mFor (mIter (mVar [] 2)) (aName 4) drB [some (.scr ns), some (.d (.int salt)), some (.d (.list ((drawC ns).map PyData.int))), some (.d (.int (7919 + 104729 * salt))), none] t = .ok .nx [some (.scr ns), some (.d (.int salt)), some (.d (.list ((drawC ns).map PyData.int))), some (.d (.int (drawB ns salt))), o'] t := by
        unfold mFor mIter
        simp only [M.bind, mVar, List.getElem?_cons_succ, List.getElem?_cons_zero, List.not_mem_nil, if_false, keep, optM, itemsOf, List.map_map]
        exact hL
      have hK := dr_keep (.scr ns) (.d (.int salt)) (drawC ns) (.d (.int (drawB ns salt))) o' hlen t
      have hs : (104729 : Int).natAbs.log2 + salt.natAbs.log2 < 1000000 := by
        have : salt.natAbs < 2 ^ 10 := by omega
        have := log2_lt' this (by decide)
        have : (104729 : Int).natAbs.log2 < 20 := by decide
        omega
      have hs2 : Nat.log2 104729 + salt.natAbs.log2 < 1000000 := hs
      have e4 : F__law_draw [.scr ns, .d (.int salt)] t = .ok (.d (.list [.list (((drawC ns).filter (fun c => decide (10 ^ 18 ≤ c))).reverse.map PyData.int), .int (drawB ns salt)])) t := if_pos ⟨h1, h2⟩
      rw [e4, e2]
      generalize mLc drI [4] (aName 4) (M.ret true) drE1 = m1 at hC ⊢
      generalize mFor (mIter (mVar [] 2)) (aName 4) drB = m2 at hF ⊢
      generalize mLc (mIter (mVar [] 2)) [4] (aName 4) drT (mVar [] 4) = m3 at hK ⊢
      simp [M.bind, M.ret, M.st, mT, mOp, mVar, mK, use, keep, lft, boolOf, optM, mCB, useAll, mCons, mNil, mTup, mLst, mFz, keepD, mSeq, mRet, mIfS, mAnd, mOr, mNot, mAndV, mOrV, mNotV, mIfE, mCall, keepAll, runF, mAsg, aName, mNx, mChain, fnM, startR, isiF, isT, isTN, askT, tyN, lenF, gtF, ltF, leF, geF, cmpF, eqF, neF, eqOk, scalD, atF, addF, subF, mulF, fdivF, modF, mTru, truS, isF, asks, truD, isNoneD, isBoolD, mRaise, raiseM, oneD, List.replicate, allF, boolsOf, F_is_integer, F_great_divisor, F_is_share, F_is_sequence, mDrop, aTup, aCons, aNil, twoK, mPar, hC, hF, hK, hs, hs2, mRev, revF, List.map_reverse]
    · rw [if_neg hc] at h
      exact absurd rfl h
  · exact absurd rfl h
end K05
end
section
set_option maxRecDepth 100000
set_option maxHeartbeats 4000000
namespace K05
open PySem PySem.Spec PyProof.Rows L2 DL ErrX
abbrev heardWs : List (Str × Str) := [("InvalidKind", "kind"), ("InvalidQuestion", "question"), ("InvalidValue", "value"), ("Refused", "refused")]
/-- the errors' classes -/
structure Cls4 where
  k : Addr
  q : Addr
  v : Addr
  r : Addr
abbrev Cls4.hs (C : Cls4) : List (Addr × Str) := [(C.k, "kind"), (C.q, "question"), (C.v, "value"), (C.r, "refused")]
def Cls4.f (C : Cls4) : Str → Option Addr := fun x => if x = "InvalidKind" then some C.k else if x = "InvalidQuestion" then some C.q else if x = "InvalidValue" then some C.v else if x = "Refused" then some C.r else none
theorem Cls4.k_ (C : Cls4) : C.f "InvalidKind" = some C.k := rfl
theorem Cls4.q_ (C : Cls4) : C.f "InvalidQuestion" = some C.q := by unfold Cls4.f; rw [if_neg (by decide), if_pos rfl]
theorem Cls4.v_ (C : Cls4) : C.f "InvalidValue" = some C.v := by unfold Cls4.f; rw [if_neg (by decide), if_neg (by decide), if_pos rfl]
theorem Cls4.r_ (C : Cls4) : C.f "Refused" = some C.r := by unfold Cls4.f; rw [if_neg (by decide), if_neg (by decide), if_neg (by decide), if_pos rfl]
theorem Cls4.ws (C : Cls4) : ∀ cn wd A, heardWs.lookup cn = some wd → C.f cn = some A → (A, wd) ∈ C.hs := by
  intro cn wd A h1 h2
  by_cases e1 : cn = "InvalidKind"
  · subst e1
    rw [show heardWs.lookup ("InvalidKind" : Str) = some "kind" by decide +kernel] at h1
    rw [C.k_] at h2
    cases h1; cases h2; simp
  · by_cases e2 : cn = "InvalidQuestion"
    · subst e2
      rw [show heardWs.lookup ("InvalidQuestion" : Str) = some "question" by decide +kernel] at h1
      rw [C.q_] at h2
      cases h1; cases h2; simp
    · by_cases e3 : cn = "InvalidValue"
      · subst e3
        rw [show heardWs.lookup ("InvalidValue" : Str) = some "value" by decide +kernel] at h1
        rw [C.v_] at h2
        cases h1; cases h2; simp
      · by_cases e4 : cn = "Refused"
        · subst e4
          rw [show heardWs.lookup ("Refused" : Str) = some "refused" by decide +kernel] at h1
          rw [C.r_] at h2
          cases h1; cases h2; simp
        · unfold Cls4.f at h2
          rw [if_neg e1, if_neg e2, if_neg e3, if_neg e4] at h2; cases h2
structure Hd (P : Program) (K : PySem.W.Frag) (mg : Str → Option Value) (C : Cls4) : Prop where
  nd : (C.hs.map (·.1)).Nodup
  ex : ∀ p ∈ C.hs, ∀ q ∈ C.hs, PySem.W.exmOne K (.ref p.1) (.ref q.1) = some (decide (p.1 = q.1))
  k : ErrTxt P K mg "InvalidKind" C.k
  q : ErrTxt P K mg "InvalidQuestion" C.q
  v : ErrTxt P K mg "InvalidValue" C.v
  r : ErrTxt P K mg "Refused" C.r
section
variable {P : Program} {w : World} {K : PySem.W.Frag} {mg : Str → Option Value} {base : Heap} {ec : Ec} {C : Cls4}
abbrev s__law_heard : Stmt := top 29
abbrev N__law_heard : List Str := ["work", "wrong"]
theorem sc__law_heard : FnScope N__law_heard ["work"] (defScope s__law_heard) := ⟨rfl, rfl, rfl, by decide +kernel, rfl, by decide +kernel, by decide +kernel⟩
theorem heard_clause {Z : Cx} {b : Addr} {wd : Str} {j j2 : Nat} {p1 p2 p3 p4 p5 : Pos} (hZ : Z.N.length = 2) (hK : Z.K = K) (xf : XfC K b) (no : PySem.W.findIn K (.ref b) "at" = some none) (hN : Z.N[1]? = some ("wrong" : Str)) (hv : Vis Z.env.scope ("wrong" : Str)) :
    ∀ (a : Addr) (oe : Obj) (cls : Value) (d : Option Addr) (pn : List (Addr × Obj)), Zc cls d oe → (∃ vs, oe.data = .fields vs) →
      PSs (Z.suite a ((a, oe) :: pn)) [.Return (some (.Tuple [.Constant (.str wd) j p1, .Attribute (.Name "wrong" p2) "at" p3] j2 p4)) p5] ((clauseOf (b, wd)).2 a cls d) := by
  intro a oe cls d pn hz hf
  subst hK
  have h := pss_len (X := Z.suite a ((a, oe) :: pn)) (pss_one (ps_ret (pos := p5) (pe_tup (x1 := j2) (pos := p4) (pa_cons (pe_str (x := wd) (j := j) (pos := p1)) (pa_cons (pe_xf (a := a) (C := b) (pos := p3) xf no hz hf (pe_var (pos := p2) (i := 1) hN hv (by decide) (by decide))) pa_nil)))))
  have e : (Z.suite a ((a, oe) :: pn)).N.length = 2 := hZ
  rw [e] at h
  exact h
theorem gives_heard {X : Cx} {g : Addr} {cdg : Value} {q : Str} (hK : X.K = K) (hm : X.mg = mg) (T : Hd P K mg C) : LamX.GivesTo X N__law_heard "_law_heard" (defScope s__law_heard) g cdg (defBody s__law_heard) "work" q (THeard C.hs) := by
  subst hK; subst hm
  exact heard_gives (n := "wrong") sc__law_heard.nd rfl (fun _ => rfl) rfl T.nd T.ex fun s H =>
    .cons ⟨rfl, by decide, .inl T.k.gC⟩ (heard_clause rfl rfl T.k.xf T.k.noN rfl (Or.inl rfl))
    (.cons ⟨rfl, by decide, .inl T.q.gC⟩ (heard_clause rfl rfl T.q.xf T.q.noN rfl (Or.inl rfl))
    (.cons ⟨rfl, by decide, .inl T.v.gC⟩ (heard_clause rfl rfl T.v.xf T.v.noN rfl (Or.inl rfl))
    (.cons ⟨rfl, by decide, .inl T.r.gC⟩ (heard_clause rfl rfl T.r.xf T.r.noN rfl (Or.inl rfl)) .nil)))

end
end K05
end
section
set_option maxRecDepth 100000
set_option maxHeartbeats 0
namespace K05
open PySem PySem.Spec PyProof.Rows L2 DL ErrX
abbrev s_law : Stmt := top 33
abbrev N_law : List Str := ["script", "deal", "turn", "held", "more", "at", "many", "told", "due", "some", "rest", "left", "whole", "fine", "values", "value", "rights", "edits", "odd", "bad", "place", "one"]
theorem sc_law : FnScope N_law ["script"] (defScope s_law) := ⟨rfl, rfl, rfl, by decide +kernel, rfl, by decide +kernel, by decide +kernel⟩
def lawS (i : Nat) : Stmt := (defBody s_law).getD i (.Pass ⟨0, 0, 0, 0⟩)
def forB : Stmt → List Stmt
  | .For _ _ b _ _ => b
  | _ => []
def loopS (i : Nat) : Stmt := (forB (lawS 1)).getD i (.Pass ⟨0, 0, 0, 0⟩)

theorem v_script : Vis (defScope s_law) "script" := Or.inl (by kernel_rfl)
theorem v_deal : Vis (defScope s_law) "deal" := Or.inr (Or.inl (by kernel_rfl))
theorem v_turn : Vis (defScope s_law) "turn" := Or.inl (by kernel_rfl)
theorem v_held : Vis (defScope s_law) "held" := Or.inl (by kernel_rfl)
theorem v_more : Vis (defScope s_law) "more" := Or.inr (Or.inl (by kernel_rfl))
theorem v_at : Vis (defScope s_law) "at" := Or.inl (by kernel_rfl)
theorem v_many : Vis (defScope s_law) "many" := Or.inl (by kernel_rfl)
theorem v_told : Vis (defScope s_law) "told" := Or.inl (by kernel_rfl)
theorem v_due : Vis (defScope s_law) "due" := Or.inl (by kernel_rfl)
theorem v_some : Vis (defScope s_law) "some" := Or.inr (Or.inl (by kernel_rfl))
theorem v_rest : Vis (defScope s_law) "rest" := Or.inl (by kernel_rfl)
theorem v_left : Vis (defScope s_law) "left" := Or.inl (by kernel_rfl)
theorem v_whole : Vis (defScope s_law) "whole" := Or.inl (by kernel_rfl)
theorem v_fine : Vis (defScope s_law) "fine" := Or.inl (by kernel_rfl)
theorem v_values : Vis (defScope s_law) "values" := Or.inl (by kernel_rfl)
theorem v_value : Vis (defScope s_law) "value" := Or.inl (by kernel_rfl)
theorem v_rights : Vis (defScope s_law) "rights" := Or.inl (by kernel_rfl)
theorem v_edits : Vis (defScope s_law) "edits" := Or.inl (by kernel_rfl)
theorem v_odd : Vis (defScope s_law) "odd" := Or.inr (Or.inl (by kernel_rfl))
theorem v_bad : Vis (defScope s_law) "bad" := Or.inr (Or.inl (by kernel_rfl))
/-- the defs that the law calls -/
structure LC (P : Program) (w : World) (K : PySem.W.Frag) (mg : Str → Option Value) (base : Heap) (ec : Ec) where
  f__law_draw : Addr
  d__law_draw : FuncData
  C__law_draw : Cal P w K mg base ec "_law_draw" 1 [("script" : Str), ("salt" : Str)] F__law_draw f__law_draw d__law_draw
  f__law_any : Addr
  d__law_any : FuncData
  C__law_any : Cal P w K mg base ec "_law_any" 1 [("deal" : Str), ("bound" : Str)] F__law_any f__law_any d__law_any
  f__law_lowest : Addr
  d__law_lowest : FuncData
  C__law_lowest : Cal P w K mg base ec "_law_lowest" 1 [("top" : Str), ("bottom" : Str)] F__law_lowest f__law_lowest d__law_lowest
  f__law_same : Addr
  d__law_same : FuncData
  C__law_same : Cal P w K mg base ec "_law_same" 8 [("value" : Str), ("due" : Str)] F__law_same f__law_same d__law_same
  f__law_sum : Addr
  d__law_sum : FuncData
  C__law_sum : Cal P w K mg base ec "_law_sum" 2 [("shares" : Str)] F__law_sum f__law_sum d__law_sum
  f_joined_shares : Addr
  d_joined_shares : FuncData
  C_joined_shares : Cal P w K mg base ec "joined_shares" 5 [("shares" : Str)] F_joined_shares f_joined_shares d_joined_shares
  bk_joined_shares : ∀ (s : Shared) (ws : List Value), ws.length = 1 → BindsTo s d_joined_shares ⟨[], [("shares" : Str)].zip ws⟩ ([("shares" : Str)].zip ws)
  f__law_mixed : Addr
  d__law_mixed : FuncData
  C__law_mixed : Cal P w K mg base ec "_law_mixed" 2 [("deal" : Str), ("some" : Str)] F__law_mixed f__law_mixed d__law_mixed
  f_is_whole : Addr
  d_is_whole : FuncData
  C_is_whole : Cal P w K mg base ec "is_whole" 3 [("value" : Str)] F_is_whole f_is_whole d_is_whole
  bk_is_whole : ∀ (s : Shared) (ws : List Value), ws.length = 1 → BindsTo s d_is_whole ⟨[], [("value" : Str)].zip ws⟩ ([("value" : Str)].zip ws)
  f_what_is_left : Addr
  d_what_is_left : FuncData
  C_what_is_left : Cal P w K mg base ec "what_is_left" 4 [("share" : Str), ("shares" : Str)] F_what_is_left f_what_is_left d_what_is_left
  bk_what_is_left : ∀ (s : Shared) (ws : List Value), ws.length = 2 → BindsTo s d_what_is_left ⟨[], [("share" : Str), ("shares" : Str)].zip ws⟩ ([("share" : Str), ("shares" : Str)].zip ws)
  f_is_share : Addr
  d_is_share : FuncData
  C_is_share : Cal P w K mg base ec "is_share" 2 [("value" : Str)] F_is_share f_is_share d_is_share
  bk_is_share : ∀ (s : Shared) (ws : List Value), ws.length = 1 → BindsTo s d_is_share ⟨[], [("value" : Str)].zip ws⟩ ([("value" : Str)].zip ws)
  f__law_is_share : Addr
  d__law_is_share : FuncData
  C__law_is_share : Cal P w K mg base ec "_law_is_share" 2 [("value" : Str)] F__law_is_share f__law_is_share d__law_is_share
  f__law_of : Addr
  d__law_of : FuncData
  C__law_of : Cal P w K mg base ec "_law_of" 2 [("deal" : Str), ("some" : Str)] F__law_of f__law_of d__law_of
  f_may_meet : Addr
  d_may_meet : FuncData
  C_may_meet : Cal P w K mg base ec "may_meet" 2 [("rights" : Str)] F_may_meet f_may_meet d_may_meet
  bk_may_meet : ∀ (s : Shared) (ws : List Value), ws.length = 1 → BindsTo s d_may_meet ⟨[], [("rights" : Str)].zip ws⟩ ([("rights" : Str)].zip ws)
  f_parts_of : Addr
  d_parts_of : FuncData
  C_parts_of : Cal P w K mg base ec "parts_of" 4 [("share" : Str), ("many" : Str)] F_parts_of f_parts_of d_parts_of
  bk_parts_of : ∀ (s : Shared) (ws : List Value), ws.length = 2 → BindsTo s d_parts_of ⟨[], [("share" : Str), ("many" : Str)].zip ws⟩ ([("share" : Str), ("many" : Str)].zip ws)
section
variable {P : Program} {w : World} {K : PySem.W.Frag} {mg : Str → Option Value} {base : Heap} {ec : Ec} {C : Cls4} {f cc : Addr} {A : Around} {outer : List Env} {s : Shared} {H : Hp} {E : XK}
abbrev lawX (P : Program) (w : World) (K : PySem.W.Frag) (mg : Str → Option Value) (base : Heap) (f cc : Addr) (A : Around) (outer : List Env) (s : Shared) (H : Hp) (E : XK) : Cx := cxOf (L2.CX P w) P w K mg base N_law "law" (defScope s_law) f (.ref cc) A outer s H E
/-- _law_heard(lambda: ..) may be told of -/
def Hears (P : Program) (w : World) (K : PySem.W.Frag) (mg : Str → Option Value) (base : Heap) (ec : Ec) (C : Cls4) (f cc : Addr) (A : Around) (outer : List Env) (s : Shared) (H : Hp) (E : XK) : Prop :=
  ∀ {params : Arguments} {body : Expr} {scope : Scope} {t : XK → TE} {m : M Tk} {p lpos pos : Pos}, LamX.LamS (defScope s_law) scope → defaultsOf params (lawX P w K mg base f cc A outer s H E).env = ([], []) →
      (∀ (q : Str) (cl : List (Str × Addr)) (pm cv ctv : Value), bindArgs (PySem.W.kla_fn "<lambda>" q params body scope cl pm cv ctv) ⟨[], []⟩ = pure []) →
      (∀ (A2 : Around) (outer2 : List Env) (s2 : Shared) (H2 : Hp) (E2 : XK) (f2 c2 : Addr), Room 7 (A2.deeper (LamX.lamEnv (lawX P w K mg base f cc A outer s H E) scope s2.heap.objs.size f2 c2)) → PED (LamX.lamCx (lawX P w K mg base f cc A outer s H E) A2 outer2 s2 H2 E2 scope f2 c2) ⟨ec, [], E2⟩ body (t E2) m) →
      PED (lawX P w K mg base f cc A outer s H E) ⟨ec, [7], E⟩ (.Call (.Name "_law_heard" p) [.Lambda params body scope lpos] [] pos) (LamX.tLam ec.tb (THeard C.hs) t) (mHeard heardWs [7] m)
theorem hears {gH : Addr} {fdH : FuncData} {PT : Addr} (TH : Hd P K mg C) (hf : ec.f = C.f) (htb : ec.tb = [(PT, ("law.<locals>.<lambda>" : Str))]) (FH : FnP K "_law_heard" s__law_heard gH fdH) (gHm : mg "_law_heard" = some (.ref gH)) (TB : LamX.TabB base mg cc PT)
    (hr : Room 9 (A.deeper (envOfC "law" (defScope s_law) s.heap.objs.size f (.ref cc)))) : Hears P w K mg base ec C f cc A outer s H E := by
  obtain ⟨ocH, odH, dVH, kVH, docH, pmH, anH, cdvH, ctH, oslH, rfl, lkH, hcdH, hdH, _⟩ := FH.ex
  have hdv : dVH = .none := by
    rcases hdH with ⟨_, e⟩ | ⟨n, _⟩
    · exact e
    · exact absurd rfl n
  subst hdv
  intro params body scope t m p lpos pos h1 h2 h3 h4
  exact pd_heard (X := lawX P w K mg base f cc A outer s H E) (c := ⟨ec, [7], E⟩) (hs := C.hs) (ws := heardWs) (by intro cn wd A h1 h2; exact C.ws cn wd A h1 (by rw [← hf]; exact h2)) (by exact rfl) gHm FH.kp lkH hcdH (Binds.all (fun us hl => match us, hl with | [_], _ => rfl)) sc__law_heard rfl (Or.inl rfl) (gives_heard rfl rfl TH) TB rfl
      (by rw [show (⟨ec, [7], E⟩ : Cd).ec.tb = _ from htb]; exact List.mem_singleton.mpr rfl) (by rw [show (⟨ec, [7], E⟩ : Cd).ec.tb = _ from htb]; intro p hp _; rw [List.mem_singleton.mp hp] <;> rfl) hr h1 h2 h3 h4

noncomputable def m_law_d : M Fl := (mAsg (aName 1) (mCall 2 F__law_draw (mCons (mVar [7] 0) (mCons (mK (.d (.int 5))) mNil))))
theorem w_d (T : Txt P K mg ec) (L : LC P w K mg base ec) (HRD : Hears P w K mg base ec C f cc A outer s H E) (hr : Room 9 (A.deeper (envOfC "law" (defScope s_law) s.heap.objs.size f (.ref cc)))) : ∃ ts, PSD (lawX P w K mg base f cc A outer s H E) ⟨ec, [], E⟩ (lawS 0) ts m_law_d :=
  ⟨_, (psd_set (i := 1) (show 1 ∉ ([] : List Nat) by decide) (pd_callC L.C__law_draw hr (by decide) (by exact rfl) passD (pad_cons (pd_var 0) (pad_cons pd_int pad_nil))) (fun h => ps_set sc_law.nd rfl (Or.inr rfl) h))⟩
noncomputable def m_law_0 : M Fl := (mAsg (aName 3) (mFz (mLst (mCons (mTup (mCons (mK (.d (.int 1))) (mCons (mK (.d (.int 1))) mNil))) mNil))))
theorem w_0 (T : Txt P K mg ec) (L : LC P w K mg base ec) (HRD : Hears P w K mg base ec C f cc A outer s H E) (hr : Room 9 (A.deeper (envOfC "law" (defScope s_law) s.heap.objs.size f (.ref cc)))) : ∃ ts, PSD (lawX P w K mg base f cc A outer s H E) ⟨ec, [7], E⟩ (loopS 0) ts m_law_0 :=
  ⟨_, (psd_set (i := 3) (show 3 ∉ ([7] : List Nat) by decide) (pd_fz (pf_lst (pad_cons (pd_tup (pad_cons pd_int (pad_cons pd_int pad_nil))) pad_nil))) (fun h => ps_set sc_law.nd rfl (Or.inl rfl) h))⟩
noncomputable def m_law_1 : M Fl := (mHide [7] (mFor (mRange rng1 (mCons (mCall 2 F__law_any (mCons (mVar [] 1) (mCons (mK (.d (.int 6))) mNil))) mNil)) (aName 4) (mSeq (mPar 5 6 (mCons (mCall 2 F__law_any (mCons (mVar [] 1) (mCons (mCB lenF (mCons (mVar [] 3) mNil)) mNil))) (mCons (mOp addF (mK (.d (.int 1))) (mCall 2 F__law_any (mCons (mVar [] 1) (mCons (mK (.d (.int 5))) mNil)))) mNil))) (mSeq (mAsg (aName 7) (mCall 2 F_parts_of (mCons (mOp atF (mVar [] 3) (mVar [] 5)) (mCons (mVar [] 6) mNil)))) (mSeq (mAsg (aName 8) (mCall 2 F__law_lowest (mCons (mOp atF (mOp atF (mVar [] 3) (mVar [] 5)) (mK (.d (.int 0)))) (mCons (mOp mulF (mOp atF (mOp atF (mVar [] 3) (mVar [] 5)) (mK (.d (.int 1)))) (mVar [] 6)) mNil)))) (mSeq (mIfS (mOr (mNot (mTru (mCall 2 F__law_same (mCons (mVar [] 7) (mCons (mOp mulF (mTup (mCons (mVar [] 8) mNil)) (mVar [] 6)) mNil))))) (mT (mOp neF (mCall 1 F__law_sum (mCons (mVar [] 7) mNil)) (mOp atF (mVar [] 3) (mVar [] 5))))) (mRet (mK (.d (.bool false)))) mNx) (mAsg (aName 3) (mOp addF (mOp addF (mSl (mVar [] 3) mNoP (mPart (mVar [] 5))) (mSl (mVar [] 3) (mPart (mOp addF (mVar [] 5) (mK (.d (.int 1))))) mNoP)) (mFz (mCBF listF (mCons (mVar [] 7) mNil)))))))))))
theorem w_1 (T : Txt P K mg ec) (L : LC P w K mg base ec) (HRD : Hears P w K mg base ec C f cc A outer s H E) (hr : Room 9 (A.deeper (envOfC "law" (defScope s_law) s.heap.objs.size f (.ref cc)))) : ∃ ts, PSD (lawX P w K mg base f cc A outer s H E) ⟨ec, [7], E⟩ (loopS 1) ts m_law_1 :=
  ⟨_, (psd_hide (psd_for ownD rfl (pid_range1 (by exact rfl) T.b_range (pad_cons (pd_callC L.C__law_any hr (by decide) (by exact rfl) passD (pad_cons (pd_var 1 (hv := v_deal)) (pad_cons pd_int pad_nil))) pad_nil)) (pgd_name (i := 4) (show 4 ∉ ([] : List Nat) by decide) sc_law.nd rfl (Or.inr rfl)) (psd_cons (psd_par (i := 5) (j := 6) (show 5 ∉ ([] : List Nat) by decide) (show 6 ∉ ([] : List Nat) by decide) (pad_cons (pd_callC L.C__law_any hr (by decide) (by exact rfl) passD (pad_cons (pd_var 1 (hv := v_deal)) (pad_cons (pd_len (by exact rfl) T.b_len (pad_cons (pd_var 3 (hv := v_held)) pad_nil)) pad_nil))) (pad_cons (pd_add pd_int (pd_callC L.C__law_any hr (by decide) (by exact rfl) passD (pad_cons (pd_var 1 (hv := v_deal)) (pad_cons pd_int pad_nil)))) pad_nil)) (fun h => ps_par rfl sc_law.nd rfl rfl (by decide) rfl rfl h rfl)) (psd_cons (psd_set (i := 7) (show 7 ∉ ([] : List Nat) by decide) (pd_callKC L.C_parts_of L.bk_parts_of hr (by decide) (by exact rfl) passD (pkd_cons (pd_at (pd_var 3 (hv := v_held)) (pd_var 5 (hv := v_at))) (pkd_cons (pd_var 6 (hv := v_many)) pkd_nil))) (fun h => ps_set sc_law.nd rfl (Or.inl rfl) h)) (psd_cons (psd_set (i := 8) (show 8 ∉ ([] : List Nat) by decide) (pd_callC L.C__law_lowest hr (by decide) (by exact rfl) passD (pad_cons (pd_at (pd_at (pd_var 3 (hv := v_held)) (pd_var 5 (hv := v_at))) pd_int) (pad_cons (pd_mul (pd_at (pd_at (pd_var 3 (hv := v_held)) (pd_var 5 (hv := v_at))) pd_int) (pd_var 6 (hv := v_many))) pad_nil))) (fun h => ps_set sc_law.nd rfl (Or.inl rfl) h)) (psd_cons (psd_if (ptd_w (pwd_or (ptd_not (ptd_tru (pd_callC L.C__law_same hr (by decide) (by exact rfl) passD (pad_cons (pd_var 7 (hv := v_told)) (pad_cons (pd_mul (pd_tup (pad_cons (pd_var 8 (hv := v_due)) pad_nil)) (pd_var 6 (hv := v_many))) pad_nil))))) (pwd_or1 (ptd_ne (hu_of hr) (pd_callC L.C__law_sum hr (by decide) (by exact rfl) passD (pad_cons (pd_var 7 (hv := v_told)) pad_nil)) (pd_at (pd_var 3 (hv := v_held)) (pd_var 5 (hv := v_at))))))) (psd_one (psd_ret pd_bl)) psd_nil) (psd_one (psd_set (i := 3) (show 3 ∉ ([] : List Nat) by decide) (pd_add (pd_add (pd_sl (pd_var 3 (hv := v_held)) pod_none (pod_some (pd_var 5 (hv := v_at)))) (pd_sl (pd_var 3 (hv := v_held)) (pod_some (pd_add (pd_var 5 (hv := v_at)) pd_int)) pod_none)) (pd_fz (pf_list (by exact rfl) T.b_list (pad_cons (pd_var 7 (hv := v_told)) pad_nil)))) (fun h => ps_set sc_law.nd rfl (Or.inl rfl) h)))))))))⟩
noncomputable def m_law_2 : M Fl := (mIfS (mNot (mTru (mCall 2 F__law_same (mCons (mFz (mLst (mCons (mCall 1 F_joined_shares (mCons (mCall 2 F__law_mixed (mCons (mVar [7] 1) (mCons (mVar [7] 3) mNil))) mNil)) (mCons (mCall 1 F_joined_shares (mCons (mCB tupF (mCons (mVar [7] 3) mNil)) mNil)) mNil)))) (mCons (mFz (mLst (mCons (mTup (mCons (mK (.d (.int 1))) (mCons (mK (.d (.int 1))) mNil))) (mCons (mTup (mCons (mK (.d (.int 1))) (mCons (mK (.d (.int 1))) mNil))) mNil)))) mNil))))) (mRet (mK (.d (.bool false)))) mNx)
theorem w_2 (T : Txt P K mg ec) (L : LC P w K mg base ec) (HRD : Hears P w K mg base ec C f cc A outer s H E) (hr : Room 9 (A.deeper (envOfC "law" (defScope s_law) s.heap.objs.size f (.ref cc)))) : ∃ ts, PSD (lawX P w K mg base f cc A outer s H E) ⟨ec, [7], E⟩ (loopS 2) ts m_law_2 :=
  ⟨_, (psd_if (ptd_not (ptd_tru (pd_callC L.C__law_same hr (by decide) (by exact rfl) passD (pad_cons (pd_fz (pf_lst (pad_cons (pd_callKC L.C_joined_shares L.bk_joined_shares hr (by decide) (by exact rfl) passD (pkd_cons (pd_callC L.C__law_mixed hr (by decide) (by exact rfl) passD (pad_cons (pd_var 1 (hv := v_deal)) (pad_cons (pd_var 3 (hv := v_held)) pad_nil))) pkd_nil)) (pad_cons (pd_callC L.C_joined_shares hr (by decide) (by exact rfl) passD (pad_cons (pd_tupc (by exact rfl) T.b_tuple (pad_cons (pd_var 3 (hv := v_held)) pad_nil)) pad_nil)) pad_nil)))) (pad_cons (pd_fz (pf_lst (pad_cons (pd_tup (pad_cons pd_int (pad_cons pd_int pad_nil))) (pad_cons (pd_tup (pad_cons pd_int (pad_cons pd_int pad_nil))) pad_nil)))) pad_nil))))) (psd_one (psd_ret pd_bl)) psd_nil)⟩
noncomputable def m_law_3 : M Fl := (mAsg (aName 9) (mSl (mCall 2 F__law_mixed (mCons (mVar [7] 1) (mCons (mVar [7] 3) mNil))) mNoP (mPart (mOp addF (mK (.d (.int 1))) (mCall 2 F__law_any (mCons (mVar [7] 1) (mCons (mCB lenF (mCons (mVar [7] 3) mNil)) mNil)))))))
theorem w_3 (T : Txt P K mg ec) (L : LC P w K mg base ec) (HRD : Hears P w K mg base ec C f cc A outer s H E) (hr : Room 9 (A.deeper (envOfC "law" (defScope s_law) s.heap.objs.size f (.ref cc)))) : ∃ ts, PSD (lawX P w K mg base f cc A outer s H E) ⟨ec, [7], E⟩ (loopS 3) ts m_law_3 :=
  ⟨_, (psd_set (i := 9) (show 9 ∉ ([7] : List Nat) by decide) (pd_sl (pd_callC L.C__law_mixed hr (by decide) (by exact rfl) passD (pad_cons (pd_var 1 (hv := v_deal)) (pad_cons (pd_var 3 (hv := v_held)) pad_nil))) pod_none (pod_some (pd_add pd_int (pd_callC L.C__law_any hr (by decide) (by exact rfl) passD (pad_cons (pd_var 1 (hv := v_deal)) (pad_cons (pd_len (by exact rfl) T.b_len (pad_cons (pd_var 3 (hv := v_held)) pad_nil)) pad_nil)))))) (fun h => ps_set sc_law.nd rfl (Or.inr rfl) h))⟩
noncomputable def m_law_4 : M Fl := (mPar 8 10 (mCons (mCall 1 F__law_sum (mCons (mVar [7] 9) mNil)) (mCons (mFz (mLst (mCons (mTup (mCons (mK (.d (.int 1))) (mCons (mK (.d (.int 1))) mNil))) mNil))) mNil)))
theorem w_4 (T : Txt P K mg ec) (L : LC P w K mg base ec) (HRD : Hears P w K mg base ec C f cc A outer s H E) (hr : Room 9 (A.deeper (envOfC "law" (defScope s_law) s.heap.objs.size f (.ref cc)))) : ∃ ts, PSD (lawX P w K mg base f cc A outer s H E) ⟨ec, [7], E⟩ (loopS 4) ts m_law_4 :=
  ⟨_, (psd_par (i := 8) (j := 10) (show 8 ∉ ([7] : List Nat) by decide) (show 10 ∉ ([7] : List Nat) by decide) (pad_cons (pd_callC L.C__law_sum hr (by decide) (by exact rfl) passD (pad_cons (pd_var 9 (hv := v_some)) pad_nil)) (pad_cons (pd_fz (pf_lst (pad_cons (pd_tup (pad_cons pd_int (pad_cons pd_int pad_nil))) pad_nil))) pad_nil)) (fun h => ps_par rfl sc_law.nd rfl rfl (by decide) rfl rfl h rfl))⟩
noncomputable def m_law_5 : M Fl := (mIfS (mNot (mTru (mCall 2 F__law_same (mCons (mFz (mLst (mCons (mCall 1 F_joined_shares (mCons (mVar [7] 9) mNil)) (mCons (mCall 1 F_is_whole (mCons (mCall 1 F_joined_shares (mCons (mVar [7] 9) mNil)) mNil)) mNil)))) (mCons (mFz (mLst (mCons (mVar [7] 8) (mCons (mOp eqF (mVar [7] 8) (mTup (mCons (mK (.d (.int 1))) (mCons (mK (.d (.int 1))) mNil)))) mNil)))) mNil))))) (mRet (mK (.d (.bool false)))) mNx)
theorem w_5 (T : Txt P K mg ec) (L : LC P w K mg base ec) (HRD : Hears P w K mg base ec C f cc A outer s H E) (hr : Room 9 (A.deeper (envOfC "law" (defScope s_law) s.heap.objs.size f (.ref cc)))) : ∃ ts, PSD (lawX P w K mg base f cc A outer s H E) ⟨ec, [7], E⟩ (loopS 5) ts m_law_5 :=
  ⟨_, (psd_if (ptd_not (ptd_tru (pd_callC L.C__law_same hr (by decide) (by exact rfl) passD (pad_cons (pd_fz (pf_lst (pad_cons (pd_callC L.C_joined_shares hr (by decide) (by exact rfl) passD (pad_cons (pd_var 9 (hv := v_some)) pad_nil)) (pad_cons (pd_callC L.C_is_whole hr (by decide) (by exact rfl) passD (pad_cons (pd_callC L.C_joined_shares hr (by decide) (by exact rfl) passD (pad_cons (pd_var 9 (hv := v_some)) pad_nil)) pad_nil)) pad_nil)))) (pad_cons (pd_fz (pf_lst (pad_cons (pd_var 8 (hv := v_due)) (pad_cons (pd_eq (hu_of hr) (pd_var 8 (hv := v_due)) (pd_tup (pad_cons pd_int (pad_cons pd_int pad_nil)))) pad_nil)))) pad_nil))))) (psd_one (psd_ret pd_bl)) psd_nil)⟩
noncomputable def m_law_6 : M Fl := (mAsg (aName 11) (mIfE (mT (mOp eqF (mVar [7] 8) (mTup (mCons (mK (.d (.int 1))) (mCons (mK (.d (.int 1))) mNil))))) (mK (.d .none)) (mCall 2 F__law_lowest (mCons (mOp subF (mOp atF (mVar [7] 8) (mK (.d (.int 1)))) (mOp atF (mVar [7] 8) (mK (.d (.int 0))))) (mCons (mOp atF (mVar [7] 8) (mK (.d (.int 1)))) mNil)))))
theorem w_6 (T : Txt P K mg ec) (L : LC P w K mg base ec) (HRD : Hears P w K mg base ec C f cc A outer s H E) (hr : Room 9 (A.deeper (envOfC "law" (defScope s_law) s.heap.objs.size f (.ref cc)))) : ∃ ts, PSD (lawX P w K mg base f cc A outer s H E) ⟨ec, [7], E⟩ (loopS 6) ts m_law_6 :=
  ⟨_, (psd_set (i := 11) (show 11 ∉ ([7] : List Nat) by decide) (pd_ifE (ptd_eq (hu_of hr) (pd_var 8 (hv := v_due)) (pd_tup (pad_cons pd_int (pad_cons pd_int pad_nil)))) pd_non (pd_callC L.C__law_lowest hr (by decide) (by exact rfl) passD (pad_cons (pd_sub (pd_at (pd_var 8 (hv := v_due)) pd_int) (pd_at (pd_var 8 (hv := v_due)) pd_int)) (pad_cons (pd_at (pd_var 8 (hv := v_due)) pd_int) pad_nil)))) (fun h => ps_set sc_law.nd rfl (Or.inl rfl) h))⟩
noncomputable def m_law_7 : M Fl := (mIfS (mNot (mTru (mCall 2 F__law_same (mCons (mFz (mLst (mCons (mCall 2 F_what_is_left (mCons (mTup (mCons (mK (.d (.int 1))) (mCons (mK (.d (.int 1))) mNil))) (mCons (mVar [7] 9) mNil))) (mCons (mCall 2 F_what_is_left (mCons (mTup (mCons (mK (.d (.int 1))) (mCons (mK (.d (.int 1))) mNil))) (mCons (mTup mNil) mNil))) mNil)))) (mCons (mFz (mLst (mCons (mVar [7] 11) (mCons (mTup (mCons (mK (.d (.int 1))) (mCons (mK (.d (.int 1))) mNil))) mNil)))) mNil))))) (mRet (mK (.d (.bool false)))) mNx)
theorem w_7 (T : Txt P K mg ec) (L : LC P w K mg base ec) (HRD : Hears P w K mg base ec C f cc A outer s H E) (hr : Room 9 (A.deeper (envOfC "law" (defScope s_law) s.heap.objs.size f (.ref cc)))) : ∃ ts, PSD (lawX P w K mg base f cc A outer s H E) ⟨ec, [7], E⟩ (loopS 7) ts m_law_7 :=
  ⟨_, (psd_if (ptd_not (ptd_tru (pd_callC L.C__law_same hr (by decide) (by exact rfl) passD (pad_cons (pd_fz (pf_lst (pad_cons (pd_callKC L.C_what_is_left L.bk_what_is_left hr (by decide) (by exact rfl) passD (pkd_cons (pd_tup (pad_cons pd_int (pad_cons pd_int pad_nil))) (pkd_cons (pd_var 9 (hv := v_some)) pkd_nil))) (pad_cons (pd_callC L.C_what_is_left hr (by decide) (by exact rfl) passD (pad_cons (pd_tup (pad_cons pd_int (pad_cons pd_int pad_nil))) (pad_cons (pd_tup pad_nil) pad_nil))) pad_nil)))) (pad_cons (pd_fz (pf_lst (pad_cons (pd_var 11 (hv := v_left)) (pad_cons (pd_tup (pad_cons pd_int (pad_cons pd_int pad_nil))) pad_nil)))) pad_nil))))) (psd_one (psd_ret pd_bl)) psd_nil)⟩
noncomputable def m_law_8 : M Fl := (mAsg (aName 4) (mCall 2 F__law_lowest (mCons (mOp addF (mK (.d (.int 1))) (mCall 2 F__law_any (mCons (mVar [7] 1) (mCons (mK (.d (.int 9))) mNil)))) (mCons (mOp addF (mK (.d (.int 9))) (mCall 2 F__law_any (mCons (mVar [7] 1) (mCons (mK (.d (.int 90))) mNil)))) mNil))))
theorem w_8 (T : Txt P K mg ec) (L : LC P w K mg base ec) (HRD : Hears P w K mg base ec C f cc A outer s H E) (hr : Room 9 (A.deeper (envOfC "law" (defScope s_law) s.heap.objs.size f (.ref cc)))) : ∃ ts, PSD (lawX P w K mg base f cc A outer s H E) ⟨ec, [7], E⟩ (loopS 8) ts m_law_8 :=
  ⟨_, (psd_set (i := 4) (show 4 ∉ ([7] : List Nat) by decide) (pd_callC L.C__law_lowest hr (by decide) (by exact rfl) passD (pad_cons (pd_add pd_int (pd_callC L.C__law_any hr (by decide) (by exact rfl) passD (pad_cons (pd_var 1 (hv := v_deal)) (pad_cons pd_int pad_nil)))) (pad_cons (pd_add pd_int (pd_callC L.C__law_any hr (by decide) (by exact rfl) passD (pad_cons (pd_var 1 (hv := v_deal)) (pad_cons pd_int pad_nil)))) pad_nil))) (fun h => ps_set sc_law.nd rfl (Or.inr rfl) h))⟩
noncomputable def m_law_9 : M Fl := (mAsg (aName 12) (mCall 1 F__law_sum (mCons (mOp addF (mVar [7] 9) (mFz (mLst (mCons (mVar [7] 4) mNil)))) mNil)))
theorem w_9 (T : Txt P K mg ec) (L : LC P w K mg base ec) (HRD : Hears P w K mg base ec C f cc A outer s H E) (hr : Room 9 (A.deeper (envOfC "law" (defScope s_law) s.heap.objs.size f (.ref cc)))) : ∃ ts, PSD (lawX P w K mg base f cc A outer s H E) ⟨ec, [7], E⟩ (loopS 9) ts m_law_9 :=
  ⟨_, (psd_set (i := 12) (show 12 ∉ ([7] : List Nat) by decide) (pd_callC L.C__law_sum hr (by decide) (by exact rfl) passD (pad_cons (pd_add (pd_var 9 (hv := v_some)) (pd_fz (pf_lst (pad_cons (pd_var 4 (hv := v_more)) pad_nil)))) pad_nil)) (fun h => ps_set sc_law.nd rfl (Or.inl rfl) h))⟩
noncomputable def m_law_10 : M Fl := (mAsg (aName 13) (mOp leF (mOp atF (mVar [7] 12) (mK (.d (.int 0)))) (mOp atF (mVar [7] 12) (mK (.d (.int 1))))))
theorem w_10 (T : Txt P K mg ec) (L : LC P w K mg base ec) (HRD : Hears P w K mg base ec C f cc A outer s H E) (hr : Room 9 (A.deeper (envOfC "law" (defScope s_law) s.heap.objs.size f (.ref cc)))) : ∃ ts, PSD (lawX P w K mg base f cc A outer s H E) ⟨ec, [7], E⟩ (loopS 10) ts m_law_10 :=
  ⟨_, (psd_set (i := 13) (show 13 ∉ ([7] : List Nat) by decide) (pd_le (pd_at (pd_var 12 (hv := v_whole)) pd_int) (pd_at (pd_var 12 (hv := v_whole)) pd_int)) (fun h => ps_set sc_law.nd rfl (Or.inl rfl) h))⟩
noncomputable def m_law_11 : M Fl := (mIfS (mNot (mTru (mCall 2 F__law_same (mCons (mHeard heardWs [7] (mCall 1 F_joined_shares (mCons (mOp addF (mVar [] 9) (mFz (mLst (mCons (mVar [] 4) mNil)))) mNil))) (mCons (mIfE (mTru (mVar [7] 13)) (mTup (mCons (mK (.d (.str "told"))) (mCons (mVar [7] 12) mNil))) (mTup (mCons (mK (.d (.str "refused"))) (mCons (mK (.d (.int 0))) mNil)))) mNil))))) (mRet (mK (.d (.bool false)))) mNx)
theorem w_11 (T : Txt P K mg ec) (L : LC P w K mg base ec) (HRD : Hears P w K mg base ec C f cc A outer s H E) (hr : Room 9 (A.deeper (envOfC "law" (defScope s_law) s.heap.objs.size f (.ref cc)))) : ∃ ts, PSD (lawX P w K mg base f cc A outer s H E) ⟨ec, [7], E⟩ (loopS 11) ts m_law_11 :=
  ⟨_, (psd_if (ptd_not (ptd_tru (pd_callC L.C__law_same hr (by decide) (by exact rfl) passD (pad_cons (HRD (t := fun E2 => (tCall (spD K ec 1 F_joined_shares) [] E2 (tCons (tOp (rAddA K) (tVar 9) (tLst (tCons (tVar 4) tNil))) tNil))) (LamX.lamS_by (by kernel_rfl)) (by rfl) (by intros; rfl) (fun A2 outer2 s2 H2 E2 f2 c2 hr2 => (pd_callC L.C_joined_shares hr2 (by decide) (by exact rfl) (passL' (Y := lawX P w K mg base f cc A outer s H E)) (pad_cons (pd_add (pd_var 9) (pd_fz (pf_lst (pad_cons (pd_var 4) pad_nil)))) pad_nil)))) (pad_cons (pd_ifE (ptd_tru (pd_var 13 (hv := v_fine))) (pd_tup (pad_cons pd_str (pad_cons (pd_var 12 (hv := v_whole)) pad_nil))) (pd_tup (pad_cons pd_str (pad_cons pd_int pad_nil)))) pad_nil))))) (psd_one (psd_ret pd_bl)) psd_nil)⟩
noncomputable def m_law_12 : M Fl := (mIfS (mAnd (mNot (mTru (mVar [7] 13))) (mNot (mTru (mCall 2 F__law_same (mCons (mHeard heardWs [7] (mCall 2 F_what_is_left (mCons (mTup (mCons (mK (.d (.int 1))) (mCons (mK (.d (.int 1))) mNil))) (mCons (mOp addF (mVar [] 9) (mFz (mLst (mCons (mVar [] 4) mNil)))) mNil)))) (mCons (mTup (mCons (mK (.d (.str "refused"))) (mCons (mK (.d (.int 0))) mNil))) mNil)))))) (mRet (mK (.d (.bool false)))) mNx)
theorem w_12 (T : Txt P K mg ec) (L : LC P w K mg base ec) (HRD : Hears P w K mg base ec C f cc A outer s H E) (hr : Room 9 (A.deeper (envOfC "law" (defScope s_law) s.heap.objs.size f (.ref cc)))) : ∃ ts, PSD (lawX P w K mg base f cc A outer s H E) ⟨ec, [7], E⟩ (loopS 12) ts m_law_12 :=
  ⟨_, (psd_if (ptd_w (pwd_and (ptd_not (ptd_tru (pd_var 13 (hv := v_fine)))) (pwd_and1 (ptd_not (ptd_tru (pd_callC L.C__law_same hr (by decide) (by exact rfl) passD (pad_cons (HRD (t := fun E2 => (tCall (spD K ec 2 F_what_is_left) [] E2 (tCons (tTup (tCons (tC (.int 1)) (tCons (tC (.int 1)) tNil))) (tCons (tOp (rAddA K) (tVar 9) (tLst (tCons (tVar 4) tNil))) tNil)))) (LamX.lamS_by (by kernel_rfl)) (by rfl) (by intros; rfl) (fun A2 outer2 s2 H2 E2 f2 c2 hr2 => (pd_callC L.C_what_is_left hr2 (by decide) (by exact rfl) (passL' (Y := lawX P w K mg base f cc A outer s H E)) (pad_cons (pd_tup (pad_cons pd_int (pad_cons pd_int pad_nil))) (pad_cons (pd_add (pd_var 9) (pd_fz (pf_lst (pad_cons (pd_var 4) pad_nil)))) pad_nil))))) (pad_cons (pd_tup (pad_cons pd_str (pad_cons pd_int pad_nil))) pad_nil)))))))) (psd_one (psd_ret pd_bl)) psd_nil)⟩
noncomputable def m_law_13 : M Fl := (mAsg (aName 14) (mFz (mLst (mCons (mTup (mCons (mK (.d (.int 1))) (mCons (mK (.d (.int 1))) mNil))) (mCons (mTup (mCons (mK (.d (.int 2))) (mCons (mK (.d (.int 4))) mNil))) (mCons (mTup (mCons (mK (.d (.int 0))) (mCons (mK (.d (.int 1))) mNil))) (mCons (mTup (mCons (mK (.d (.int 3))) (mCons (mK (.d (.int 2))) mNil))) (mCons (mTup (mCons (mK (.d (.int 1))) (mCons (mK (.d (.int 2))) mNil))) (mCons (mTup (mCons (mK (.d (.int 1))) (mCons (mOp powF (mK (.d (.int 10))) (mK (.d (.int 30)))) mNil))) (mCons (mTup (mCons (mK (.d (.bool true))) (mCons (mK (.d (.int 1))) mNil))) (mCons (mTup (mCons (mK (.d (.int 1))) mNil)) (mCons (mFz (mLst (mCons (mK (.d (.int 1))) (mCons (mK (.d (.int 2))) mNil)))) (mCons (mK (.d .none)) (mCons (mTup (mCons (mK (.d (.int 1))) (mCons (mK (.d (.int 2))) (mCons (mK (.d (.int 3))) mNil)))) (mCons (mTup (mCons (mK (.d (.int (-1)))) (mCons (mK (.d (.int 2))) mNil))) (mCons (mTup (mCons (mK (.d (.int 1))) (mCons (mK (.d (.int 0))) mNil))) (mCons (mVar [7] 4) (mCons (mVar [7] 8) mNil))))))))))))))))))
theorem w_13 (T : Txt P K mg ec) (L : LC P w K mg base ec) (HRD : Hears P w K mg base ec C f cc A outer s H E) (hr : Room 9 (A.deeper (envOfC "law" (defScope s_law) s.heap.objs.size f (.ref cc)))) : ∃ ts, PSD (lawX P w K mg base f cc A outer s H E) ⟨ec, [7], E⟩ (loopS 13) ts m_law_13 :=
  ⟨_, (psd_set (i := 14) (show 14 ∉ ([7] : List Nat) by decide) (pd_fz (pf_lst (pad_cons (pd_tup (pad_cons pd_int (pad_cons pd_int pad_nil))) (pad_cons (pd_tup (pad_cons pd_int (pad_cons pd_int pad_nil))) (pad_cons (pd_tup (pad_cons pd_int (pad_cons pd_int pad_nil))) (pad_cons (pd_tup (pad_cons pd_int (pad_cons pd_int pad_nil))) (pad_cons (pd_tup (pad_cons pd_int (pad_cons pd_int pad_nil))) (pad_cons (pd_tup (pad_cons pd_int (pad_cons (pd_pow pd_int pd_int) pad_nil))) (pad_cons (pd_tup (pad_cons pd_bl (pad_cons pd_int pad_nil))) (pad_cons (pd_tup (pad_cons pd_int pad_nil)) (pad_cons (pd_fz (pf_lst (pad_cons pd_int (pad_cons pd_int pad_nil)))) (pad_cons pd_non (pad_cons (pd_tup (pad_cons pd_int (pad_cons pd_int (pad_cons pd_int pad_nil)))) (pad_cons (pd_tup (pad_cons pd_negc (pad_cons pd_int pad_nil))) (pad_cons (pd_tup (pad_cons pd_int (pad_cons pd_int pad_nil))) (pad_cons (pd_var 4 (hv := v_more)) (pad_cons (pd_var 8 (hv := v_due)) pad_nil))))))))))))))))) (fun h => ps_set sc_law.nd rfl (Or.inl rfl) h))⟩
noncomputable def m_law_14 : M Fl := (mFor (mIter (mVar [7] 14)) (aName 15) (mIfS (mNot (mTru (mCall 2 F__law_same (mCons (mFz (mLst (mCons (mCall 1 F_is_share (mCons (mVar [7] 15) mNil)) (mCons (mCall 1 F_is_whole (mCons (mVar [7] 15) mNil)) mNil)))) (mCons (mFz (mLst (mCons (mCall 1 F__law_is_share (mCons (mVar [7] 15) mNil)) (mCons (mAndV (mCall 1 F__law_is_share (mCons (mVar [7] 15) mNil)) (mOp eqF (mVar [7] 15) (mTup (mCons (mK (.d (.int 1))) (mCons (mK (.d (.int 1))) mNil))))) mNil)))) mNil))))) (mRet (mK (.d (.bool false)))) mNx))
theorem w_14 (T : Txt P K mg ec) (L : LC P w K mg base ec) (HRD : Hears P w K mg base ec C f cc A outer s H E) (hr : Room 9 (A.deeper (envOfC "law" (defScope s_law) s.heap.objs.size f (.ref cc)))) : ∃ ts, PSD (lawX P w K mg base f cc A outer s H E) ⟨ec, [7], E⟩ (loopS 14) ts m_law_14 :=
  ⟨_, (psd_for ownD rfl (pid_any (pd_var 14 (hv := v_values))) (pgd_name (i := 15) (show 15 ∉ ([7] : List Nat) by decide) sc_law.nd rfl (Or.inl rfl)) (psd_one (psd_if (ptd_not (ptd_tru (pd_callC L.C__law_same hr (by decide) (by exact rfl) passD (pad_cons (pd_fz (pf_lst (pad_cons (pd_callKC L.C_is_share L.bk_is_share hr (by decide) (by exact rfl) passD (pkd_cons (pd_var 15 (hv := v_value)) pkd_nil)) (pad_cons (pd_callKC L.C_is_whole L.bk_is_whole hr (by decide) (by exact rfl) passD (pkd_cons (pd_var 15 (hv := v_value)) pkd_nil)) pad_nil)))) (pad_cons (pd_fz (pf_lst (pad_cons (pd_callC L.C__law_is_share hr (by decide) (by exact rfl) passD (pad_cons (pd_var 15 (hv := v_value)) pad_nil)) (pad_cons (pd_and (pd_callC L.C__law_is_share hr (by decide) (by exact rfl) passD (pad_cons (pd_var 15 (hv := v_value)) pad_nil)) (pd_one (pd_eq (hu_of hr) (pd_var 15 (hv := v_value)) (pd_tup (pad_cons pd_int (pad_cons pd_int pad_nil)))))) pad_nil)))) pad_nil))))) (psd_one (psd_ret pd_bl)) psd_nil)))⟩
noncomputable def m_law_15 : M Fl := (mAsg (aName 16) (mFz (mLc (mRange rng1 (mCons (mCall 2 F__law_any (mCons (mVar [7] 1) (mCons (mK (.d (.int 4))) mNil))) mNil)) [20] (aName 20) (M.ret true) (mCall 2 F__law_of (mCons (mVar [7] 1) (mCons (mFz (mLst (mCons (mK (.d (.str "read"))) (mCons (mK (.d (.str "read"))) (mCons (mK (.d (.str "edit"))) mNil))))) mNil))))))
theorem w_15 (T : Txt P K mg ec) (L : LC P w K mg base ec) (HRD : Hears P w K mg base ec C f cc A outer s H E) (hr : Room 9 (A.deeper (envOfC "law" (defScope s_law) s.heap.objs.size f (.ref cc)))) : ∃ ts, PSD (lawX P w K mg base f cc A outer s H E) ⟨ec, [7], E⟩ (loopS 15) ts m_law_15 :=
  ⟨_, (psd_setLc (i := 16) (show 16 ∉ ([7] : List Nat) by decide) rfl sc_law.nd rfl rfl rfl (g := (gName 20)) (tt := tYes) (te := (tCall (spD K ec 2 F__law_of) [] L2.E0 (tCons (tVar 1) (tCons (tLst (tCons (tC (.str "read")) (tCons (tC (.str "read")) (tCons (tC (.str "edit")) tNil)))) tNil)))) (pid_range1 (by exact rfl) T.b_range (pad_cons (pd_callC L.C__law_any hr (by decide) (by exact rfl) passD (pad_cons (pd_var 1 (hv := v_deal)) (pad_cons pd_int pad_nil))) pad_nil)) (own := [("place", 20)]) (blk_of (by kernel_rfl)) (fun _ _ _ _ _ => (pgd_name (i := 20) (show 20 ∉ ([7] : List Nat) by decide) sc_law.nd rfl (Or.inl rfl))) (fun _ _ _ _ _ => ptsd_nil) (fun _ _ _ _ _ => (pd_callC L.C__law_of hr (by decide) (by exact rfl) L2.passL (pad_cons (pd_var 1) (pad_cons (pd_fz (pf_lst (pad_cons pd_str (pad_cons pd_str (pad_cons pd_str pad_nil))))) pad_nil)))) (show ∀ i ∈ ([20] : List Nat), i ∉ ([7] : List Nat) by decide) (show ∀ i ∈ ([20] : List Nat), i ∈ ([20] : List Nat) by decide))⟩
noncomputable def m_law_16 : M Fl := (mAsg (aName 17) (mCB lenF (mCons (mFz (mLc (mIter (mVar [7] 16)) [21] (aName 21) (mT (mOp eqF (mVar [7] 21) (mK (.d (.str "edit"))))) (mVar [7] 21))) mNil)))
theorem w_16 (T : Txt P K mg ec) (L : LC P w K mg base ec) (HRD : Hears P w K mg base ec C f cc A outer s H E) (hr : Room 9 (A.deeper (envOfC "law" (defScope s_law) s.heap.objs.size f (.ref cc)))) : ∃ ts, PSD (lawX P w K mg base f cc A outer s H E) ⟨ec, [7], E⟩ (loopS 16) ts m_law_16 :=
  ⟨_, (psd_set (i := 17) (show 17 ∉ ([7] : List Nat) by decide) (pd_len (by exact rfl) T.b_len (pad_cons (pd_fz (pfd_lc rfl sc_law.nd (g := (gName 21)) (tt := (tTest (tOp (rEqA K) (tVar 21) (tC (.str "edit"))))) (te := (tVar 21)) (pid_any (pd_var 16 (hv := v_rights))) (own := [("one", 21)]) (blk_of (by kernel_rfl)) (fun _ _ _ _ _ => (pgd_name (i := 21) (show 21 ∉ ([7] : List Nat) by decide) sc_law.nd rfl (Or.inl rfl))) (fun _ _ _ _ _ => (ptsd_one (ptd_eq (hu_of hr) (pd_var 21) pd_str))) (fun _ _ _ _ _ => (pd_var 21)) (show ∀ i ∈ ([21] : List Nat), i ∉ ([7] : List Nat) by decide) (show ∀ i ∈ ([21] : List Nat), i ∈ ([21] : List Nat) by decide))) pad_nil)) (fun h => ps_set sc_law.nd rfl (Or.inl rfl) h))⟩
noncomputable def m_law_17 : M Fl := (mIfS (mNot (mTru (mCall 2 F__law_same (mCons (mFz (mLst (mCons (mCall 1 F_may_meet (mCons (mVar [7] 16) mNil)) (mCons (mCall 1 F_may_meet (mCons (mCB tupF (mCons (mVar [7] 16) mNil)) mNil)) mNil)))) (mCons (mOp mulF (mFz (mLst (mCons (mOrV (mOp eqF (mVar [7] 17) (mK (.d (.int 0)))) (mOp ltF (mCB lenF (mCons (mVar [7] 16) mNil)) (mK (.d (.int 2))))) mNil))) (mK (.d (.int 2)))) mNil))))) (mRet (mK (.d (.bool false)))) mNx)
theorem w_17 (T : Txt P K mg ec) (L : LC P w K mg base ec) (HRD : Hears P w K mg base ec C f cc A outer s H E) (hr : Room 9 (A.deeper (envOfC "law" (defScope s_law) s.heap.objs.size f (.ref cc)))) : ∃ ts, PSD (lawX P w K mg base f cc A outer s H E) ⟨ec, [7], E⟩ (loopS 17) ts m_law_17 :=
  ⟨_, (psd_if (ptd_not (ptd_tru (pd_callC L.C__law_same hr (by decide) (by exact rfl) passD (pad_cons (pd_fz (pf_lst (pad_cons (pd_callKC L.C_may_meet L.bk_may_meet hr (by decide) (by exact rfl) passD (pkd_cons (pd_var 16 (hv := v_rights)) pkd_nil)) (pad_cons (pd_callC L.C_may_meet hr (by decide) (by exact rfl) passD (pad_cons (pd_tupc (by exact rfl) T.b_tuple (pad_cons (pd_var 16 (hv := v_rights)) pad_nil)) pad_nil)) pad_nil)))) (pad_cons (pd_mul (pd_fz (pf_lst (pad_cons (pd_or (pd_eq (hu_of hr) (pd_var 17 (hv := v_edits)) pd_int) (pd_one (pd_lt (pd_len (by exact rfl) T.b_len (pad_cons (pd_var 16 (hv := v_rights)) pad_nil)) pd_int))) pad_nil))) pd_int) pad_nil))))) (psd_one (psd_ret pd_bl)) psd_nil)⟩
noncomputable def m_law_18 : M Fl := (mAsg (aTup 2 (aCons (aName 18) (aCons (aName 19) aNil))) (mTup (mCons (mCall 2 F__law_of (mCons (mVar [7] 1) (mCons (mFz (mLst (mCons (mK (.d .none)) (mCons (mTup (mCons (mK (.d (.int 2))) (mCons (mK (.d (.int 4))) mNil))) (mCons (mTup (mCons (mK (.d (.int 0))) (mCons (mK (.d (.int 1))) mNil))) (mCons (mFz (mLst (mCons (mK (.d (.int 1))) (mCons (mK (.d (.int 1))) mNil)))) (mCons (mTup (mCons (mK (.d (.bool true))) (mCons (mK (.d (.int 1))) mNil))) mNil))))))) mNil))) (mCons (mCall 2 F__law_of (mCons (mVar [7] 1) (mCons (mFz (mLst (mCons (mK (.d (.int 0))) (mCons (mK (.d (.int 1001))) (mCons (mK (.d .none)) (mCons (mK (.d (.bool true))) (mCons (mK (.d (.int (-1)))) mNil))))))) mNil))) mNil))))
theorem w_18 (T : Txt P K mg ec) (L : LC P w K mg base ec) (HRD : Hears P w K mg base ec C f cc A outer s H E) (hr : Room 9 (A.deeper (envOfC "law" (defScope s_law) s.heap.objs.size f (.ref cc)))) : ∃ ts, PSD (lawX P w K mg base f cc A outer s H E) ⟨ec, [7], E⟩ (loopS 18) ts m_law_18 :=
  ⟨_, (psd_asg (pd_tup (pad_cons (pd_callC L.C__law_of hr (by decide) (by exact rfl) passD (pad_cons (pd_var 1 (hv := v_deal)) (pad_cons (pd_fz (pf_lst (pad_cons pd_non (pad_cons (pd_tup (pad_cons pd_int (pad_cons pd_int pad_nil))) (pad_cons (pd_tup (pad_cons pd_int (pad_cons pd_int pad_nil))) (pad_cons (pd_fz (pf_lst (pad_cons pd_int (pad_cons pd_int pad_nil)))) (pad_cons (pd_tup (pad_cons pd_bl (pad_cons pd_int pad_nil))) pad_nil))))))) pad_nil))) (pad_cons (pd_callC L.C__law_of hr (by decide) (by exact rfl) passD (pad_cons (pd_var 1 (hv := v_deal)) (pad_cons (pd_fz (pf_lst (pad_cons pd_int (pad_cons pd_int (pad_cons pd_non (pad_cons pd_bl (pad_cons pd_negc pad_nil))))))) pad_nil))) pad_nil))) (pgd_tup (pgsd_cons (pgd_name (i := 18) (show 18 ∉ ([7] : List Nat) by decide) sc_law.nd rfl (Or.inr rfl)) (pgsd_cons (pgd_name (i := 19) (show 19 ∉ ([7] : List Nat) by decide) sc_law.nd rfl (Or.inr rfl)) pgsd_nil (fun h1 h2 => pgs_cons h1 h2)) (fun h1 h2 => pgs_cons h1 h2)) (fun h => pg_tup rfl h)) (fun h1 h2 => ps_asg h1 h2))⟩
noncomputable def m_law_19 : M Fl := (mAsgO 7 (mLst (mCons (mHeard heardWs [7] (mCall 2 F_parts_of (mCons (mVar [] 18) (mCons (mVar [] 19) mNil)))) mNil)))
theorem w_19 (T : Txt P K mg ec) (L : LC P w K mg base ec) (HRD : Hears P w K mg base ec C f cc A outer s H E) (hr : Room 9 (A.deeper (envOfC "law" (defScope s_law) s.heap.objs.size f (.ref cc)))) : ∃ ts, PSD (lawX P w K mg base f cc A outer s H E) ⟨ec, [7], E⟩ (loopS 19) ts m_law_19 :=
  ⟨_, (psd_setO (i := 7) (show 7 ∈ ([7] : List Nat) by decide) (pf_lst (pad_cons (HRD (t := fun E2 => (tCall (spD K ec 2 F_parts_of) [] E2 (tCons (tVar 18) (tCons (tVar 19) tNil)))) (LamX.lamS_by (by kernel_rfl)) (by rfl) (by intros; rfl) (fun A2 outer2 s2 H2 E2 f2 c2 hr2 => (pd_callC L.C_parts_of hr2 (by decide) (by exact rfl) (passL' (Y := lawX P w K mg base f cc A outer s H E)) (pad_cons (pd_var 18) (pad_cons (pd_var 19) pad_nil))))) pad_nil)) (fun h => ps_set sc_law.nd rfl (Or.inl rfl) h))⟩
noncomputable def m_law_20 : M Fl := (mDrop (has 7 (mAppend 7 (mCons (mHeard heardWs [7] (mCall 2 F_parts_of (mCons (mTup (mCons (mK (.d (.int 1))) (mCons (mK (.d (.int 2))) mNil))) (mCons (mVar [] 19) mNil)))) mNil))))
theorem w_20 (T : Txt P K mg ec) (L : LC P w K mg base ec) (HRD : Hears P w K mg base ec C f cc A outer s H E) (hr : Room 9 (A.deeper (envOfC "law" (defScope s_law) s.heap.objs.size f (.ref cc)))) : ∃ ts, PSD (lawX P w K mg base f cc A outer s H E) ⟨ec, [7], E⟩ (loopS 20) ts m_law_20 :=
  ⟨_, (psd_expr (pd_append (i := 7) (show 7 ∈ ([7] : List Nat) by decide) rfl (Or.inl rfl) (pad_cons (HRD (t := fun E2 => (tCall (spD K ec 2 F_parts_of) [] E2 (tCons (tTup (tCons (tC (.int 1)) (tCons (tC (.int 2)) tNil))) (tCons (tVar 19) tNil)))) (LamX.lamS_by (by kernel_rfl)) (by rfl) (by intros; rfl) (fun A2 outer2 s2 H2 E2 f2 c2 hr2 => (pd_callC L.C_parts_of hr2 (by decide) (by exact rfl) (passL' (Y := lawX P w K mg base f cc A outer s H E)) (pad_cons (pd_tup (pad_cons pd_int (pad_cons pd_int pad_nil))) (pad_cons (pd_var 19) pad_nil))))) pad_nil) (fun h1 h2 => pe_bm PySem.F.plainAttrs_list PySem.F.slot_list_append PySem.F.type_list_append mt_append h1 h2)))⟩
noncomputable def m_law_21 : M Fl := (mDrop (has 7 (mAppend 7 (mCons (mHeard heardWs [7] (mCall 1 F_joined_shares (mCons (mCall 2 F__law_of (mCons (mVar [] 1) (mCons (mFz (mLst (mCons (mTup mNil) (mCons (mK (.d .none)) (mCons (mFz (mLst (mCons (mTup (mCons (mK (.d (.int 1))) (mCons (mK (.d (.int 2))) mNil))) (mCons (mVar [] 18) mNil)))) (mCons (mOp mulF (mTup (mCons (mTup (mCons (mK (.d (.int 1))) (mCons (mK (.d (.int 2000))) mNil))) mNil)) (mK (.d (.int 1001)))) mNil)))))) mNil))) mNil))) mNil))))
theorem w_21 (T : Txt P K mg ec) (L : LC P w K mg base ec) (HRD : Hears P w K mg base ec C f cc A outer s H E) (hr : Room 9 (A.deeper (envOfC "law" (defScope s_law) s.heap.objs.size f (.ref cc)))) : ∃ ts, PSD (lawX P w K mg base f cc A outer s H E) ⟨ec, [7], E⟩ (loopS 21) ts m_law_21 :=
  ⟨_, (psd_expr (pd_append (i := 7) (show 7 ∈ ([7] : List Nat) by decide) rfl (Or.inl rfl) (pad_cons (HRD (t := fun E2 => (tCall (spD K ec 1 F_joined_shares) [] E2 (tCons (tCall (spD K ec 2 F__law_of) [] E2 (tCons (tVar 1) (tCons (tLst (tCons (tTup tNil) (tCons (tC .non) (tCons (tLst (tCons (tTup (tCons (tC (.int 1)) (tCons (tC (.int 2)) tNil))) (tCons (tVar 18) tNil))) (tCons (tOp (rMulA K) (tTup (tCons (tTup (tCons (tC (.int 1)) (tCons (tC (.int 2000)) tNil))) tNil)) (tC (.int 1001))) tNil))))) tNil))) tNil))) (LamX.lamS_by (by kernel_rfl)) (by rfl) (by intros; rfl) (fun A2 outer2 s2 H2 E2 f2 c2 hr2 => (pd_callC L.C_joined_shares hr2 (by decide) (by exact rfl) (passL' (Y := lawX P w K mg base f cc A outer s H E)) (pad_cons (pd_callC L.C__law_of hr2 (by decide) (by exact rfl) (passL' (Y := lawX P w K mg base f cc A outer s H E)) (pad_cons (pd_var 1) (pad_cons (pd_fz (pf_lst (pad_cons (pd_tup pad_nil) (pad_cons pd_non (pad_cons (pd_fz (pf_lst (pad_cons (pd_tup (pad_cons pd_int (pad_cons pd_int pad_nil))) (pad_cons (pd_var 18) pad_nil)))) (pad_cons (pd_mul (pd_tup (pad_cons (pd_tup (pad_cons pd_int (pad_cons pd_int pad_nil))) pad_nil)) pd_int) pad_nil)))))) pad_nil))) pad_nil)))) pad_nil) (fun h1 h2 => pe_bm PySem.F.plainAttrs_list PySem.F.slot_list_append PySem.F.type_list_append mt_append h1 h2)))⟩
noncomputable def m_law_22 : M Fl := (mDrop (has 7 (mAppend 7 (mCons (mHeard heardWs [7] (mCall 2 F_what_is_left (mCons (mVar [] 18) (mCons (mK (.d .none)) mNil)))) mNil))))
theorem w_22 (T : Txt P K mg ec) (L : LC P w K mg base ec) (HRD : Hears P w K mg base ec C f cc A outer s H E) (hr : Room 9 (A.deeper (envOfC "law" (defScope s_law) s.heap.objs.size f (.ref cc)))) : ∃ ts, PSD (lawX P w K mg base f cc A outer s H E) ⟨ec, [7], E⟩ (loopS 22) ts m_law_22 :=
  ⟨_, (psd_expr (pd_append (i := 7) (show 7 ∈ ([7] : List Nat) by decide) rfl (Or.inl rfl) (pad_cons (HRD (t := fun E2 => (tCall (spD K ec 2 F_what_is_left) [] E2 (tCons (tVar 18) (tCons (tC .non) tNil)))) (LamX.lamS_by (by kernel_rfl)) (by rfl) (by intros; rfl) (fun A2 outer2 s2 H2 E2 f2 c2 hr2 => (pd_callC L.C_what_is_left hr2 (by decide) (by exact rfl) (passL' (Y := lawX P w K mg base f cc A outer s H E)) (pad_cons (pd_var 18) (pad_cons pd_non pad_nil))))) pad_nil) (fun h1 h2 => pe_bm PySem.F.plainAttrs_list PySem.F.slot_list_append PySem.F.type_list_append mt_append h1 h2)))⟩
noncomputable def m_law_23 : M Fl := (mDrop (has 7 (mAppend 7 (mCons (mHeard heardWs [7] (mCall 2 F_what_is_left (mCons (mTup (mCons (mK (.d (.int 1))) (mCons (mK (.d (.int 2))) mNil))) (mCons (mCall 2 F__law_of (mCons (mVar [] 1) (mCons (mFz (mLst (mCons (mK (.d .none)) (mCons (mK (.d (.int 3))) (mCons (mFz (mLst (mCons (mVar [] 18) mNil))) (mCons (mTup (mCons (mK (.d (.int 1))) (mCons (mK (.d (.int 2))) mNil))) mNil)))))) mNil))) mNil)))) mNil))))
theorem w_23 (T : Txt P K mg ec) (L : LC P w K mg base ec) (HRD : Hears P w K mg base ec C f cc A outer s H E) (hr : Room 9 (A.deeper (envOfC "law" (defScope s_law) s.heap.objs.size f (.ref cc)))) : ∃ ts, PSD (lawX P w K mg base f cc A outer s H E) ⟨ec, [7], E⟩ (loopS 23) ts m_law_23 :=
  ⟨_, (psd_expr (pd_append (i := 7) (show 7 ∈ ([7] : List Nat) by decide) rfl (Or.inl rfl) (pad_cons (HRD (t := fun E2 => (tCall (spD K ec 2 F_what_is_left) [] E2 (tCons (tTup (tCons (tC (.int 1)) (tCons (tC (.int 2)) tNil))) (tCons (tCall (spD K ec 2 F__law_of) [] E2 (tCons (tVar 1) (tCons (tLst (tCons (tC .non) (tCons (tC (.int 3)) (tCons (tLst (tCons (tVar 18) tNil)) (tCons (tTup (tCons (tC (.int 1)) (tCons (tC (.int 2)) tNil))) tNil))))) tNil))) tNil)))) (LamX.lamS_by (by kernel_rfl)) (by rfl) (by intros; rfl) (fun A2 outer2 s2 H2 E2 f2 c2 hr2 => (pd_callC L.C_what_is_left hr2 (by decide) (by exact rfl) (passL' (Y := lawX P w K mg base f cc A outer s H E)) (pad_cons (pd_tup (pad_cons pd_int (pad_cons pd_int pad_nil))) (pad_cons (pd_callC L.C__law_of hr2 (by decide) (by exact rfl) (passL' (Y := lawX P w K mg base f cc A outer s H E)) (pad_cons (pd_var 1) (pad_cons (pd_fz (pf_lst (pad_cons pd_non (pad_cons pd_int (pad_cons (pd_fz (pf_lst (pad_cons (pd_var 18) pad_nil))) (pad_cons (pd_tup (pad_cons pd_int (pad_cons pd_int pad_nil))) pad_nil)))))) pad_nil))) pad_nil))))) pad_nil) (fun h1 h2 => pe_bm PySem.F.plainAttrs_list PySem.F.slot_list_append PySem.F.type_list_append mt_append h1 h2)))⟩
noncomputable def m_law_24 : M Fl := (mDrop (has 7 (mAppend 7 (mCons (mHeard heardWs [7] (mCall 1 F_may_meet (mCons (mCall 2 F__law_of (mCons (mVar [] 1) (mCons (mFz (mLst (mCons (mK (.d .none)) (mCons (mK (.d (.str "edit"))) (mCons (mFz (mLst (mCons (mK (.d (.str "Read"))) mNil))) (mCons (mFz (mLst (mCons (mK (.d .none)) mNil))) (mCons (mK (.d (.int 3))) mNil))))))) mNil))) mNil))) mNil))))
theorem w_24 (T : Txt P K mg ec) (L : LC P w K mg base ec) (HRD : Hears P w K mg base ec C f cc A outer s H E) (hr : Room 9 (A.deeper (envOfC "law" (defScope s_law) s.heap.objs.size f (.ref cc)))) : ∃ ts, PSD (lawX P w K mg base f cc A outer s H E) ⟨ec, [7], E⟩ (loopS 24) ts m_law_24 :=
  ⟨_, (psd_expr (pd_append (i := 7) (show 7 ∈ ([7] : List Nat) by decide) rfl (Or.inl rfl) (pad_cons (HRD (t := fun E2 => (tCall (spD K ec 1 F_may_meet) [] E2 (tCons (tCall (spD K ec 2 F__law_of) [] E2 (tCons (tVar 1) (tCons (tLst (tCons (tC .non) (tCons (tC (.str "edit")) (tCons (tLst (tCons (tC (.str "Read")) tNil)) (tCons (tLst (tCons (tC .non) tNil)) (tCons (tC (.int 3)) tNil)))))) tNil))) tNil))) (LamX.lamS_by (by kernel_rfl)) (by rfl) (by intros; rfl) (fun A2 outer2 s2 H2 E2 f2 c2 hr2 => (pd_callC L.C_may_meet hr2 (by decide) (by exact rfl) (passL' (Y := lawX P w K mg base f cc A outer s H E)) (pad_cons (pd_callC L.C__law_of hr2 (by decide) (by exact rfl) (passL' (Y := lawX P w K mg base f cc A outer s H E)) (pad_cons (pd_var 1) (pad_cons (pd_fz (pf_lst (pad_cons pd_non (pad_cons pd_str (pad_cons (pd_fz (pf_lst (pad_cons pd_str pad_nil))) (pad_cons (pd_fz (pf_lst (pad_cons pd_non pad_nil))) (pad_cons pd_int pad_nil))))))) pad_nil))) pad_nil)))) pad_nil) (fun h1 h2 => pe_bm PySem.F.plainAttrs_list PySem.F.slot_list_append PySem.F.type_list_append mt_append h1 h2)))⟩
noncomputable def m_law_25 : M Fl := (mIfS (mNot (mTru (mCallB 2 F__law_same (mCons (mVar [7] 7) (mCons (mFz (mLst (mCons (mTup (mCons (mK (.d (.str "question"))) (mCons (mK (.d (.int 0))) mNil))) (mCons (mTup (mCons (mK (.d (.str "question"))) (mCons (mK (.d (.int 1))) mNil))) (mCons (mTup (mCons (mK (.d (.str "question"))) (mCons (mK (.d (.int 0))) mNil))) (mCons (mTup (mCons (mK (.d (.str "question"))) (mCons (mK (.d (.int 0))) mNil))) (mCons (mTup (mCons (mK (.d (.str "question"))) (mCons (mK (.d (.int 1))) mNil))) (mCons (mTup (mCons (mK (.d (.str "question"))) (mCons (mK (.d (.int 0))) mNil))) mNil)))))))) mNil))))) (mRet (mK (.d (.bool false)))) mNx)
theorem w_25 (T : Txt P K mg ec) (L : LC P w K mg base ec) (HRD : Hears P w K mg base ec C f cc A outer s H E) (hr : Room 9 (A.deeper (envOfC "law" (defScope s_law) s.heap.objs.size f (.ref cc)))) : ∃ ts, PSD (lawX P w K mg base f cc A outer s H E) ⟨ec, [7], E⟩ (loopS 25) ts m_law_25 :=
  ⟨_, (psd_if (ptd_not (ptd_tru (pd_callBC L.C__law_same hr (by decide) (by exact rfl) passD (pad_cons (pd_var 7 (hv := v_told)) (pad_cons (pd_fz (pf_lst (pad_cons (pd_tup (pad_cons pd_str (pad_cons pd_int pad_nil))) (pad_cons (pd_tup (pad_cons pd_str (pad_cons pd_int pad_nil))) (pad_cons (pd_tup (pad_cons pd_str (pad_cons pd_int pad_nil))) (pad_cons (pd_tup (pad_cons pd_str (pad_cons pd_int pad_nil))) (pad_cons (pd_tup (pad_cons pd_str (pad_cons pd_int pad_nil))) (pad_cons (pd_tup (pad_cons pd_str (pad_cons pd_int pad_nil))) pad_nil)))))))) pad_nil))))) (psd_one (psd_ret pd_bl)) psd_nil)⟩
noncomputable def m_law_z : M Fl := (mRet (mCall 2 F__law_same (mCons (mOp atF (mCall 2 F_parts_of (mCons (mTup (mCons (mK (.d (.int 1))) (mCons (mK (.d (.int 1))) mNil))) (mCons (mK (.d (.int 1000))) mNil))) (mK (.d (.int 999)))) (mCons (mTup (mCons (mK (.d (.int 1))) (mCons (mK (.d (.int 1000))) mNil))) mNil))))
theorem w_z (T : Txt P K mg ec) (L : LC P w K mg base ec) (HRD : Hears P w K mg base ec C f cc A outer s H E) (hr : Room 9 (A.deeper (envOfC "law" (defScope s_law) s.heap.objs.size f (.ref cc)))) : ∃ ts, PSD (lawX P w K mg base f cc A outer s H E) ⟨ec, [7], E⟩ (lawS 2) ts m_law_z :=
  ⟨_, (psd_ret (pd_callC L.C__law_same hr (by decide) (by exact rfl) passD (pad_cons (pd_at (pd_callC L.C_parts_of hr (by decide) (by exact rfl) passD (pad_cons (pd_tup (pad_cons pd_int (pad_cons pd_int pad_nil))) (pad_cons pd_int pad_nil))) pd_int) (pad_cons (pd_tup (pad_cons pd_int (pad_cons pd_int pad_nil))) pad_nil))))⟩
noncomputable def m_turn : M Fl := (mSeq m_law_0 (mSeq m_law_1 (mSeq m_law_2 (mSeq m_law_3 (mSeq m_law_4 (mSeq m_law_5 (mSeq m_law_6 (mSeq m_law_7 (mSeq m_law_8 (mSeq m_law_9 (mSeq m_law_10 (mSeq m_law_11 (mSeq m_law_12 (mSeq m_law_13 (mSeq m_law_14 (mSeq m_law_15 (mSeq m_law_16 (mSeq m_law_17 (mSeq m_law_18 (mSeq m_law_19 (mSeq m_law_20 (mSeq m_law_21 (mSeq m_law_22 (mSeq m_law_23 (mSeq m_law_24 m_law_25)))))))))))))))))))))))))
noncomputable def m_law2 : M Fl := mSeq (mFor (mRange rng1 (mCons (mK (.d (.int 6))) mNil)) (aName 2) m_turn) m_law_z
theorem loop_eq : forB (lawS 1) = [loopS 0, loopS 1, loopS 2, loopS 3, loopS 4, loopS 5, loopS 6, loopS 7, loopS 8, loopS 9, loopS 10, loopS 11, loopS 12, loopS 13, loopS 14, loopS 15, loopS 16, loopS 17, loopS 18, loopS 19, loopS 20, loopS 21, loopS 22, loopS 23, loopS 24, loopS 25] := by kernel_rfl
theorem w_loop (T : Txt P K mg ec) (L : LC P w K mg base ec) (HRD : Hears P w K mg base ec C f cc A outer s H E) (hr : Room 9 (A.deeper (envOfC "law" (defScope s_law) s.heap.objs.size f (.ref cc)))) : ∃ ts, PSsD (lawX P w K mg base f cc A outer s H E) ⟨ec, [7], E⟩ (forB (lawS 1)) ts m_turn := by
  rw [loop_eq]
  obtain ⟨t0, h0⟩ := w_0 T L HRD hr
  obtain ⟨t1, h1⟩ := w_1 T L HRD hr
  obtain ⟨t2, h2⟩ := w_2 T L HRD hr
  obtain ⟨t3, h3⟩ := w_3 T L HRD hr
  obtain ⟨t4, h4⟩ := w_4 T L HRD hr
  obtain ⟨t5, h5⟩ := w_5 T L HRD hr
  obtain ⟨t6, h6⟩ := w_6 T L HRD hr
  obtain ⟨t7, h7⟩ := w_7 T L HRD hr
  obtain ⟨t8, h8⟩ := w_8 T L HRD hr
  obtain ⟨t9, h9⟩ := w_9 T L HRD hr
  obtain ⟨t10, h10⟩ := w_10 T L HRD hr
  obtain ⟨t11, h11⟩ := w_11 T L HRD hr
  obtain ⟨t12, h12⟩ := w_12 T L HRD hr
  obtain ⟨t13, h13⟩ := w_13 T L HRD hr
  obtain ⟨t14, h14⟩ := w_14 T L HRD hr
  obtain ⟨t15, h15⟩ := w_15 T L HRD hr
  obtain ⟨t16, h16⟩ := w_16 T L HRD hr
  obtain ⟨t17, h17⟩ := w_17 T L HRD hr
  obtain ⟨t18, h18⟩ := w_18 T L HRD hr
  obtain ⟨t19, h19⟩ := w_19 T L HRD hr
  obtain ⟨t20, h20⟩ := w_20 T L HRD hr
  obtain ⟨t21, h21⟩ := w_21 T L HRD hr
  obtain ⟨t22, h22⟩ := w_22 T L HRD hr
  obtain ⟨t23, h23⟩ := w_23 T L HRD hr
  obtain ⟨t24, h24⟩ := w_24 T L HRD hr
  obtain ⟨t25, h25⟩ := w_25 T L HRD hr
  exact ⟨_, (psd_cons h0 (psd_cons h1 (psd_cons h2 (psd_cons h3 (psd_cons h4 (psd_cons h5 (psd_cons h6 (psd_cons h7 (psd_cons h8 (psd_cons h9 (psd_cons h10 (psd_cons h11 (psd_cons h12 (psd_cons h13 (psd_cons h14 (psd_cons h15 (psd_cons h16 (psd_cons h17 (psd_cons h18 (psd_cons h19 (psd_cons h20 (psd_cons h21 (psd_cons h22 (psd_cons h23 (psd_cons h24 (psd_one h25))))))))))))))))))))))))))⟩
theorem walk_law (T : Txt P K mg ec) (L : LC P w K mg base ec) (HRD : Hears P w K mg base ec C f cc A outer s H E) (hr : Room 9 (A.deeper (envOfC "law" (defScope s_law) s.heap.objs.size f (.ref cc)))) : ∃ ts, PSsD (lawX P w K mg base f cc A outer s H E) ⟨ec, [7], E⟩ [lawS 1, lawS 2] ts m_law2 := by
  obtain ⟨tl, hl⟩ := w_loop T L HRD hr
  obtain ⟨tz, hz⟩ := w_z T L HRD hr
  exact ⟨_, psd_cons (psd_for ownD rfl (pid_range1 (by exact rfl) T.b_range (pad_cons pd_int pad_nil)) (pgd_name (i := 2) (show 2 ∉ ([7] : List Nat) by decide) sc_law.nd rfl (Or.inl rfl)) hl) (psd_one hz)⟩
end
end K05
end
section
set_option maxRecDepth 100000
set_option maxHeartbeats 4000000
namespace K05
open PySem PySem.Spec PyProof.Rows L2 DL ErrX
section
variable {P : Program} {w : World} {K : PySem.W.Frag} {mg : Str → Option Value} {base : Heap} {ec : Ec}
theorem same_ok {f : Addr} {fd : FuncData} (T : Txt P K mg ec) (FD : FnP K "_law_same" s__law_same f fd) (hm : mg "_law_same" = some (.ref f)) : ∀ n, Cal P w K mg base ec "_law_same" n [("value" : Str), ("due" : Str)] (F_sameN n) f fd
  | 0 => ⟨⟨fun vs H Q E h => spD_len h, fun A outer s H args us vs Q E hr e0 hb hv h => by
      obtain ⟨G, B, xs, t, _, _, _, _, p⟩ := h
      have e : F_sameN 0 xs t = .st := by
        unfold F_sameN
        split
        · simp [eqN]
        · rfl
      rw [e] at p
      exact p.elim⟩, hm, FD.kp, FD.bindsN fun _ _ _ _ _ _ us hl => match us, hl with | [_, _], _ => rfl⟩
  | n + 1 => Cal.weak ⟨ok__law_same T (same_ok T FD hm n) FD, hm, FD.kp, FD.bindsN fun _ _ _ _ _ _ us hl => match us, hl with | [_, _], _ => rfl⟩ (e_same n)

theorem mkLC (T : Txt P K mg ec) {f_great_divisor : Addr} {d_great_divisor : FuncData} (D_great_divisor : FnP K "great_divisor" s_great_divisor f_great_divisor d_great_divisor) (M_great_divisor : mg "great_divisor" = some (.ref f_great_divisor)) {f_is_integer : Addr} {d_is_integer : FuncData} (D_is_integer : FnP K "is_integer" s_is_integer f_is_integer d_is_integer) (M_is_integer : mg "is_integer" = some (.ref f_is_integer)) {f_is_sequence : Addr} {d_is_sequence : FuncData} (D_is_sequence : FnP K "is_sequence" s_is_sequence f_is_sequence d_is_sequence) (M_is_sequence : mg "is_sequence" = some (.ref f_is_sequence)) {f_is_share : Addr} {d_is_share : FuncData} (D_is_share : FnP K "is_share" s_is_share f_is_share d_is_share) (M_is_share : mg "is_share" = some (.ref f_is_share)) {f_checked_share : Addr} {d_checked_share : FuncData} (D_checked_share : FnP K "checked_share" s_checked_share f_checked_share d_checked_share) (M_checked_share : mg "checked_share" = some (.ref f_checked_share)) {f_lowest : Addr} {d_lowest : FuncData} (D_lowest : FnP K "lowest" s_lowest f_lowest d_lowest) (M_lowest : mg "lowest" = some (.ref f_lowest)) {f_parts_of : Addr} {d_parts_of : FuncData} (D_parts_of : FnP K "parts_of" s_parts_of f_parts_of d_parts_of) (M_parts_of : mg "parts_of" = some (.ref f_parts_of)) {f_sum_of : Addr} {d_sum_of : FuncData} (D_sum_of : FnP K "sum_of" s_sum_of f_sum_of d_sum_of) (M_sum_of : mg "sum_of" = some (.ref f_sum_of)) {f_checked_shares : Addr} {d_checked_shares : FuncData} (D_checked_shares : FnP K "checked_shares" s_checked_shares f_checked_shares d_checked_shares) (M_checked_shares : mg "checked_shares" = some (.ref f_checked_shares)) {f_joined_shares : Addr} {d_joined_shares : FuncData} (D_joined_shares : FnP K "joined_shares" s_joined_shares f_joined_shares d_joined_shares) (M_joined_shares : mg "joined_shares" = some (.ref f_joined_shares)) {f_is_whole : Addr} {d_is_whole : FuncData} (D_is_whole : FnP K "is_whole" s_is_whole f_is_whole d_is_whole) (M_is_whole : mg "is_whole" = some (.ref f_is_whole)) {f_what_is_left : Addr} {d_what_is_left : FuncData} (D_what_is_left : FnP K "what_is_left" s_what_is_left f_what_is_left d_what_is_left) (M_what_is_left : mg "what_is_left" = some (.ref f_what_is_left)) {f_may_meet : Addr} {d_may_meet : FuncData} (D_may_meet : FnP K "may_meet" s_may_meet f_may_meet d_may_meet) (M_may_meet : mg "may_meet" = some (.ref f_may_meet)) {f__law_draw : Addr} {d__law_draw : FuncData} (D__law_draw : FnP K "_law_draw" s__law_draw f__law_draw d__law_draw) (M__law_draw : mg "_law_draw" = some (.ref f__law_draw)) {f__law_any : Addr} {d__law_any : FuncData} (D__law_any : FnP K "_law_any" s__law_any f__law_any d__law_any) (M__law_any : mg "_law_any" = some (.ref f__law_any)) {f__law_of : Addr} {d__law_of : FuncData} (D__law_of : FnP K "_law_of" s__law_of f__law_of d__law_of) (M__law_of : mg "_law_of" = some (.ref f__law_of)) {f__law_mixed : Addr} {d__law_mixed : FuncData} (D__law_mixed : FnP K "_law_mixed" s__law_mixed f__law_mixed d__law_mixed) (M__law_mixed : mg "_law_mixed" = some (.ref f__law_mixed)) {f__law_is_int : Addr} {d__law_is_int : FuncData} (D__law_is_int : FnP K "_law_is_int" s__law_is_int f__law_is_int d__law_is_int) (M__law_is_int : mg "_law_is_int" = some (.ref f__law_is_int)) {f__law_lowest : Addr} {d__law_lowest : FuncData} (D__law_lowest : FnP K "_law_lowest" s__law_lowest f__law_lowest d__law_lowest) (M__law_lowest : mg "_law_lowest" = some (.ref f__law_lowest)) {f__law_sum : Addr} {d__law_sum : FuncData} (D__law_sum : FnP K "_law_sum" s__law_sum f__law_sum d__law_sum) (M__law_sum : mg "_law_sum" = some (.ref f__law_sum)) {f__law_is_share : Addr} {d__law_is_share : FuncData} (D__law_is_share : FnP K "_law_is_share" s__law_is_share f__law_is_share d__law_is_share) (M__law_is_share : mg "_law_is_share" = some (.ref f__law_is_share)) {f__law_same : Addr} {d__law_same : FuncData} (D__law_same : FnP K "_law_same" s__law_same f__law_same d__law_same) (M__law_same : mg "_law_same" = some (.ref f__law_same)) : Nonempty (LC P w K mg base ec) := by
  have C_great_divisor : Cal P w K mg base ec "great_divisor" 1 [("one" : Str), ("other" : Str)] F_great_divisor f_great_divisor d_great_divisor := Cal.weak ⟨ok_great_divisor T D_great_divisor, M_great_divisor, D_great_divisor.kp, D_great_divisor.bindsN fun _ _ _ _ _ _ us hl => match us, hl with | [_, _], _ => rfl⟩ e_gcd
  have C_is_integer : Cal P w K mg base ec "is_integer" 1 [("value" : Str)] F_is_integer f_is_integer d_is_integer := Cal.weak ⟨ok_is_integer T D_is_integer, M_is_integer, D_is_integer.kp, D_is_integer.bindsN fun _ _ _ _ _ _ us hl => match us, hl with | [_], _ => rfl⟩ e_isint
  have C_is_sequence : Cal P w K mg base ec "is_sequence" 1 [("value" : Str)] F_is_sequence f_is_sequence d_is_sequence := Cal.weak ⟨ok_is_sequence T D_is_sequence, M_is_sequence, D_is_sequence.kp, D_is_sequence.bindsN fun _ _ _ _ _ _ us hl => match us, hl with | [_], _ => rfl⟩ e_isseq
  have C_is_share : Cal P w K mg base ec "is_share" 2 [("value" : Str)] F_is_share f_is_share d_is_share := Cal.weak ⟨ok_is_share T C_is_integer C_great_divisor D_is_share, M_is_share, D_is_share.kp, D_is_share.bindsN fun _ _ _ _ _ _ us hl => match us, hl with | [_], _ => rfl⟩ e_share
  have C_checked_share : Cal P w K mg base ec "checked_share" 3 [("value" : Str), ("at" : Str)] F_checked_share f_checked_share d_checked_share := Cal.weak ⟨ok_checked_share T C_is_share D_checked_share, M_checked_share, D_checked_share.kp, D_checked_share.bindsN fun _ _ _ _ _ _ us hl => match us, hl with | [_, _], _ => rfl⟩ e_checked
  have C_lowest : Cal P w K mg base ec "lowest" 2 [("top" : Str), ("bottom" : Str)] F_lowest f_lowest d_lowest := Cal.weak ⟨ok_lowest T C_great_divisor D_lowest, M_lowest, D_lowest.kp, D_lowest.bindsN fun _ _ _ _ _ _ us hl => match us, hl with | [_, _], _ => rfl⟩ e_lowest
  have C_parts_of : Cal P w K mg base ec "parts_of" 4 [("share" : Str), ("many" : Str)] F_parts_of f_parts_of d_parts_of := Cal.weak ⟨ok_parts_of T C_checked_share C_is_integer C_lowest D_parts_of, M_parts_of, D_parts_of.kp, D_parts_of.bindsN fun _ _ _ _ _ _ us hl => match us, hl with | [_, _], _ => rfl⟩ e_parts
  have C_sum_of : Cal P w K mg base ec "sum_of" 3 [("shares" : Str)] F_sum_of f_sum_of d_sum_of := Cal.weak ⟨ok_sum_of T C_lowest D_sum_of, M_sum_of, D_sum_of.kp, D_sum_of.bindsN fun _ _ _ _ _ _ us hl => match us, hl with | [_], _ => rfl⟩ e_sum
  have C_checked_shares : Cal P w K mg base ec "checked_shares" 4 [("shares" : Str)] F_checked_shares f_checked_shares d_checked_shares := Cal.weak ⟨ok_checked_shares T C_is_sequence C_is_share C_sum_of D_checked_shares, M_checked_shares, D_checked_shares.kp, D_checked_shares.bindsN fun _ _ _ _ _ _ us hl => match us, hl with | [_], _ => rfl⟩ e_chk
  have C_joined_shares : Cal P w K mg base ec "joined_shares" 5 [("shares" : Str)] F_joined_shares f_joined_shares d_joined_shares := Cal.weak ⟨ok_joined_shares T C_checked_shares C_sum_of D_joined_shares, M_joined_shares, D_joined_shares.kp, D_joined_shares.bindsN fun _ _ _ _ _ _ us hl => match us, hl with | [_], _ => rfl⟩ e_joined
  have C_is_whole : Cal P w K mg base ec "is_whole" 3 [("value" : Str)] F_is_whole f_is_whole d_is_whole := Cal.weak ⟨ok_is_whole T C_is_share D_is_whole, M_is_whole, D_is_whole.kp, D_is_whole.bindsN fun _ _ _ _ _ _ us hl => match us, hl with | [_], _ => rfl⟩ e_whole
  have C_what_is_left : Cal P w K mg base ec "what_is_left" 4 [("share" : Str), ("shares" : Str)] F_what_is_left f_what_is_left d_what_is_left := Cal.weak ⟨ok_what_is_left T C_checked_share C_is_sequence C_is_share C_sum_of C_lowest D_what_is_left, M_what_is_left, D_what_is_left.kp, D_what_is_left.bindsN fun _ _ _ _ _ _ us hl => match us, hl with | [_, _], _ => rfl⟩ e_left
  have C_may_meet : Cal P w K mg base ec "may_meet" 2 [("rights" : Str)] F_may_meet f_may_meet d_may_meet := Cal.weak ⟨ok_may_meet T C_is_sequence D_may_meet, M_may_meet, D_may_meet.kp, D_may_meet.bindsN fun _ _ _ _ _ _ us hl => match us, hl with | [_], _ => rfl⟩ e_meet
  have C__law_draw : Cal P w K mg base ec "_law_draw" 1 [("script" : Str), ("salt" : Str)] F__law_draw f__law_draw d__law_draw := Cal.weak ⟨ok__law_draw T D__law_draw, M__law_draw, D__law_draw.kp, D__law_draw.bindsN fun _ _ _ _ _ _ us hl => match us, hl with | [_, _], _ => rfl⟩ e_draw
  have C__law_any : Cal P w K mg base ec "_law_any" 1 [("deal" : Str), ("bound" : Str)] F__law_any f__law_any d__law_any := ⟨ok__law_any T D__law_any, M__law_any, D__law_any.kp, D__law_any.bindsN fun _ _ _ _ _ _ us hl => match us, hl with | [_, _], _ => rfl⟩
  have C__law_of : Cal P w K mg base ec "_law_of" 2 [("deal" : Str), ("some" : Str)] F__law_of f__law_of d__law_of := Cal.weak ⟨ok__law_of T C__law_any D__law_of, M__law_of, D__law_of.kp, D__law_of.bindsN fun _ _ _ _ _ _ us hl => match us, hl with | [_, _], _ => rfl⟩ e_of
  have C__law_mixed : Cal P w K mg base ec "_law_mixed" 2 [("deal" : Str), ("some" : Str)] F__law_mixed f__law_mixed d__law_mixed := Cal.weak ⟨ok__law_mixed T C__law_any D__law_mixed, M__law_mixed, D__law_mixed.kp, D__law_mixed.bindsN fun _ _ _ _ _ _ us hl => match us, hl with | [_, _], _ => rfl⟩ e_mixed
  have C__law_is_int : Cal P w K mg base ec "_law_is_int" 1 [("value" : Str)] F__law_is_int f__law_is_int d__law_is_int := Cal.weak ⟨ok__law_is_int T D__law_is_int, M__law_is_int, D__law_is_int.kp, D__law_is_int.bindsN fun _ _ _ _ _ _ us hl => match us, hl with | [_], _ => rfl⟩ e_lint
  have C__law_lowest : Cal P w K mg base ec "_law_lowest" 1 [("top" : Str), ("bottom" : Str)] F__law_lowest f__law_lowest d__law_lowest := Cal.weak ⟨ok__law_lowest T D__law_lowest, M__law_lowest, D__law_lowest.kp, D__law_lowest.bindsN fun _ _ _ _ _ _ us hl => match us, hl with | [_, _], _ => rfl⟩ e_llow
  have C__law_sum : Cal P w K mg base ec "_law_sum" 2 [("shares" : Str)] F__law_sum f__law_sum d__law_sum := Cal.weak ⟨ok__law_sum T C__law_lowest D__law_sum, M__law_sum, D__law_sum.kp, D__law_sum.bindsN fun _ _ _ _ _ _ us hl => match us, hl with | [_], _ => rfl⟩ e_lsum
  have C__law_is_share : Cal P w K mg base ec "_law_is_share" 2 [("value" : Str)] F__law_is_share f__law_is_share d__law_is_share := Cal.weak ⟨ok__law_is_share T C__law_is_int C__law_lowest D__law_is_share, M__law_is_share, D__law_is_share.kp, D__law_is_share.bindsN fun _ _ _ _ _ _ us hl => match us, hl with | [_], _ => rfl⟩ e_lshare
  have C__law_same : Cal P w K mg base ec "_law_same" 8 [("value" : Str), ("due" : Str)] F__law_same f__law_same d__law_same := same_ok T D__law_same M__law_same 8
  have bk_joined_shares : ∀ (s : Shared) (ws : List Value), ws.length = 1 → BindsTo s d_joined_shares ⟨[], [("shares" : Str)].zip ws⟩ ([("shares" : Str)].zip ws) := bk1 (ps := [("shares" : Str)]) D_joined_shares fun _ _ _ _ _ _ _ ws e hl s => by
    subst e
    exact (match ws, hl with | [_], _ => .of_eq rfl)
  have bk_is_whole : ∀ (s : Shared) (ws : List Value), ws.length = 1 → BindsTo s d_is_whole ⟨[], [("value" : Str)].zip ws⟩ ([("value" : Str)].zip ws) := bk1 (ps := [("value" : Str)]) D_is_whole fun _ _ _ _ _ _ _ ws e hl s => by
    subst e
    exact (match ws, hl with | [_], _ => .of_eq rfl)
  have bk_what_is_left : ∀ (s : Shared) (ws : List Value), ws.length = 2 → BindsTo s d_what_is_left ⟨[], [("share" : Str), ("shares" : Str)].zip ws⟩ ([("share" : Str), ("shares" : Str)].zip ws) := bk1 (ps := [("share" : Str), ("shares" : Str)]) D_what_is_left fun _ _ _ _ _ _ _ ws e hl s => by
    subst e
    exact (match ws, hl with | [_, _], _ => .of_eq rfl)
  have bk_is_share : ∀ (s : Shared) (ws : List Value), ws.length = 1 → BindsTo s d_is_share ⟨[], [("value" : Str)].zip ws⟩ ([("value" : Str)].zip ws) := bk1 (ps := [("value" : Str)]) D_is_share fun _ _ _ _ _ _ _ ws e hl s => by
    subst e
    exact (match ws, hl with | [_], _ => .of_eq rfl)
  have bk_may_meet : ∀ (s : Shared) (ws : List Value), ws.length = 1 → BindsTo s d_may_meet ⟨[], [("rights" : Str)].zip ws⟩ ([("rights" : Str)].zip ws) := bk1 (ps := [("rights" : Str)]) D_may_meet fun _ _ _ _ _ _ _ ws e hl s => by
    subst e
    exact (match ws, hl with | [_], _ => .of_eq rfl)
  have bk_parts_of : ∀ (s : Shared) (ws : List Value), ws.length = 2 → BindsTo s d_parts_of ⟨[], [("share" : Str), ("many" : Str)].zip ws⟩ ([("share" : Str), ("many" : Str)].zip ws) := bk1 (ps := [("share" : Str), ("many" : Str)]) D_parts_of fun _ _ _ _ _ _ _ ws e hl s => by
    subst e
    exact (match ws, hl with | [_, _], _ => .of_eq rfl)
  exact ⟨{ f__law_draw := f__law_draw, d__law_draw := d__law_draw, C__law_draw := C__law_draw, f__law_any := f__law_any, d__law_any := d__law_any, C__law_any := C__law_any, f__law_lowest := f__law_lowest, d__law_lowest := d__law_lowest, C__law_lowest := C__law_lowest, f__law_same := f__law_same, d__law_same := d__law_same, C__law_same := C__law_same, f__law_sum := f__law_sum, d__law_sum := d__law_sum, C__law_sum := C__law_sum, f_joined_shares := f_joined_shares, d_joined_shares := d_joined_shares, C_joined_shares := C_joined_shares, bk_joined_shares := bk_joined_shares, f__law_mixed := f__law_mixed, d__law_mixed := d__law_mixed, C__law_mixed := C__law_mixed, f_is_whole := f_is_whole, d_is_whole := d_is_whole, C_is_whole := C_is_whole, bk_is_whole := bk_is_whole, f_what_is_left := f_what_is_left, d_what_is_left := d_what_is_left, C_what_is_left := C_what_is_left, bk_what_is_left := bk_what_is_left, f_is_share := f_is_share, d_is_share := d_is_share, C_is_share := C_is_share, bk_is_share := bk_is_share, f__law_is_share := f__law_is_share, d__law_is_share := d__law_is_share, C__law_is_share := C__law_is_share, f__law_of := f__law_of, d__law_of := d__law_of, C__law_of := C__law_of, f_may_meet := f_may_meet, d_may_meet := d_may_meet, C_may_meet := C_may_meet, bk_may_meet := bk_may_meet, f_parts_of := f_parts_of, d_parts_of := d_parts_of, C_parts_of := C_parts_of, bk_parts_of := bk_parts_of }⟩
end
end K05
end
section
set_option maxRecDepth 100000
set_option maxHeartbeats 4000000
namespace K05
open PySem PySem.Spec PyProof.Rows L2 DL ErrX
def cells0 (ns : List Int) : List Int := ((drawC ns).filter (fun c => decide (10 ^ 18 ≤ c))).reverse
def slots0 (x0 x1 : Sl) : Rho := some x0 :: some x1 :: List.replicate (N_law.length - 2) none
/-- the law, over plain data -/
def LawM : Prop := ∀ (ns : List Int) (x0 : Sl), ∃ r2 t2, m_law2 (slots0 x0 .deal) (some ⟨cells0 ns, drawB ns 5⟩) = .ok (.rt (.d (.bool true))) r2 t2
theorem law_d (ns : List Int) : m_law_d (some (.scr ns) :: List.replicate (N_law.length - 1) none) none = .ok .nx (slots0 (.scr ns) (.d (.list [.list ((cells0 ns).map PyData.int), .int (drawB ns 5)]))) none := by
  have e : F__law_draw [.scr ns, .d (.int 5)] none = .ok (.d (.list [.list ((cells0 ns).map PyData.int), .int (drawB ns 5)])) none := by
    unfold F__law_draw
    simp only
    rw [if_pos ⟨by decide, by decide⟩]
    rfl
  simp [m_law_d, mAsg, mCall, mCons, mNil, M.bind, mVar, M.ret, mK, optM, keepAll, runF, e, keep, aName, slots0]
def spLaw (K : PySem.W.Frag) (PT : Addr) : Sp := fun vs H Q _ => ∃ (a : Addr) (ns : List Int), vs = [.ref a] ∧ H PT = some (.tbl #[]) ∧ SqL K H a (ns.map V.int) ∧ ∀ H', Q (.bl true) H'
theorem sls_law {K : PySem.W.Frag} {B : Bs} {H : Hp} {v0 v1 : V} {x0 x1 : Sl} {ow : List Nat} {G : Hp} {n : Nat} (h0 : Sv K B v0 x0) (h1 : Sv K B v1 x1) (how : ∀ i ∈ ow, 2 ≤ i) {σ : L2.St} (hσ : σ = some v0 :: some v1 :: List.replicate n none) : Sls K ow G B H σ (some x0 :: some x1 :: List.replicate n none) := by
  subst hσ
  have none_ : ∀ i x, 2 ≤ i → (some x0 :: some x1 :: List.replicate n none : Rho)[i]? = some (some x) → False := fun i x hi e => by
    match i, hi with
    | i + 2, _ =>
      simp only [List.getElem?_cons_succ, List.getElem?_replicate] at e
      split at e <;> simp at e
  refine ⟨by simp, fun i x hx hi => ?_, fun i x hx hi => (none_ i x (how i hi) hx).elim, fun i j p hi hj ij li lj e => ?_⟩
  · match i with
    | 0 => cases hx; exact ⟨v0, rfl, h0⟩
    | 1 => cases hx; exact ⟨v1, rfl, h1⟩
    | i + 2 => exact (none_ (i + 2) x (by omega) hx).elim
  · obtain ⟨x, hx⟩ := li
    exact (none_ i x (how i hi) hx).elim
theorem sql_nt {K : PySem.W.Frag} {H : Hp} {a : Addr} {xs : List V} (h : SqL K H a xs) : ∃ B : Hp, (∀ b o, B b = some o → H b = some o) ∧ SqL K B a xs ∧ ∀ b ps, B b ≠ some (.tbl ps) := by
  rcases h with (h | ⟨o, h⟩) | h
  · refine ⟨fun b => if b = a then some (.lst xs) else none, fun b o e => ?_, .inl (.inl (if_pos rfl)), fun b ps e => ?_⟩
    · by_cases q : b = a
      · subst q
        have e' : some (HO.lst xs) = some o := by rw [← e]; exact (if_pos rfl).symm
        rw [h]; exact e'
      · have e' : (none : Option HO) = some o := by rw [← e]; exact (if_neg q).symm
        cases e'
    · by_cases q : b = a
      · have e' : some (HO.lst xs) = some (.tbl ps) := by rw [← e]; exact (if_pos q).symm
        cases e'
      · have e' : (none : Option HO) = some (.tbl ps) := by rw [← e]; exact (if_neg q).symm
        cases e'
  · refine ⟨fun b => if b = a then H a else none, fun b u e => ?_, .inl (.inr ⟨o, by show (if a = a then H a else none) = _; rw [if_pos rfl]; exact h⟩), fun b ps e => ?_⟩
    · by_cases q : b = a
      · subst q
        have e' : H b = some u := by rw [← e]; exact (if_pos rfl).symm
        exact e'
      · have e' : (none : Option HO) = some u := by rw [← e]; exact (if_neg q).symm
        cases e'
    · by_cases q : b = a
      · have e' : H a = some (.tbl ps) := by rw [← e]; exact (if_pos q).symm
        rw [h] at e'
        cases e'
      · have e' : (none : Option HO) = some (.tbl ps) := by rw [← e]; exact (if_neg q).symm
        cases e'
  · exact ⟨fun _ => none, (fun b o e => by cases e), .inr h, (fun b ps e => by cases e)⟩
theorem ints_of_dq {K : PySem.W.Frag} {H : Hp} {vs : List V} {cs : List Int} (h : DqAll K H vs (cs.map PyData.int)) : vs = cs.map V.int := dpa_ints h
theorem cells_len (ns : List Int) : (cells0 ns).length ≤ 1000 := by
  unfold cells0
  rw [List.length_reverse]
  have h1 := List.length_filter_le (fun c => decide ((10 : Int) ^ 18 ≤ c)) (drawC ns)
  have h2 : (drawC ns).length ≤ 48 := by
    unfold drawC
    rw [List.length_map, List.length_take]
    omega
  omega
theorem dealIt {K : PySem.W.Frag} {ec : Ec} {PT : Addr} {ns : List Int} {t2 : TS} {E : XK} {B0 B1 : Bs} {H1 : Hp} {σ1 : L2.St} {D : Ends} {v0 v1 : V} (hM : LawM) (hk2 : RfS K ⟨ec, [7], E⟩ t2 m_law2) (htb : ec.tb = [(PT, ("law.<locals>.<lambda>" : Str))]) (hQ : ∀ H', D.rt (.bl true) H')
    (l1 : Bs.le ⟨B0.H, none, none, [(PT, ("law.<locals>.<lambda>" : Str))]⟩ B1) (w1 : Wd (fun _ => none) B1 H1 none) (s1 : Sls K [] (fun _ => none) B1 H1 σ1 (slots0 (.scr ns) (.d (.list [.list ((cells0 ns).map PyData.int), .int (drawB ns 5)]))))
    (hσ0 : σ1[0]? = some (some v0)) (hσ1 : σ1[1]? = some (some v1)) (hv1 : Sv K B1 v1 (.d (.list [.list ((cells0 ns).map PyData.int), .int (drawB ns 5)]))) : t2 D σ1 H1 := by
  have hq : Dq K B1.H v1 (.list [.list ((cells0 ns).map PyData.int), .int (drawB ns 5)]) := hv1
  cases hq with
  | @lst da xs _ hda hxs =>
    match xs, hxs with
    | [u1, u2], .cons h1 (.cons h2 .nil) =>
      cases h2
      cases h1 with
      | @lst l ys _ hl hys =>
        have ey := dpa_ints hys
        subst ey
        have hne : da ≠ l := fun z => by
          subst z
          rw [hda] at hl
          have e : [V.ref da, V.int (drawB ns 5)] = (cells0 ns).map V.int := HO.lst.inj (Option.some.inj hl)
          cases hc : cells0 ns with
          | nil => rw [hc] at e; cases e
          | cons c cs => rw [hc] at e; simp at e
        let B2 : Bs := ⟨fun _ => none, some (da, l), none, [(PT, ("law.<locals>.<lambda>" : Str))]⟩
        have w2 : Wd (fun _ => none) B2 H1 (some ⟨cells0 ns, drawB ns 5⟩) := ⟨(fun _ _ e => by cases e), (fun _ _ e => by cases e), ⟨w1.sub _ _ hda, w1.sub _ _ hl, rfl, rfl, rfl, rfl, hne, cells_len ns⟩, ⟨by have := w1.tb.tabs; rw [l1.b] at this; exact this, (fun _ _ e => by cases e), (fun _ _ e => by cases e)⟩⟩
        have sl2 : Sls K [7] (fun _ => none) B2 H1 σ1 (slots0 (.raw v0) .deal) := by
          have hlen := s1.len
          have none_ : ∀ i x, 2 ≤ i → (slots0 (.raw v0) .deal)[i]? = some (some x) → False := fun i x hi e => by
            unfold slots0 at e
            match i, hi with
            | i + 2, _ =>
              simp only [List.getElem?_cons_succ, List.getElem?_replicate] at e
              split at e <;> simp at e
          refine ⟨hlen, fun i x hx hi => ?_, fun i x hx hi => ?_, fun i j p hi hj ij li lj e => ?_⟩
          · match i with
            | 0 => cases hx; exact ⟨v0, hσ0, rfl⟩
            | 1 => cases hx; exact ⟨_, hσ1, da, l, rfl, rfl⟩
            | i + 2 => exact (none_ (i + 2) x (by omega) hx).elim
          · rw [List.mem_singleton.mp hi] at hx
            exact (none_ 7 x (by omega) hx).elim
          · obtain ⟨x, hx⟩ := li
            rw [List.mem_singleton.mp hi] at hx
            exact (none_ 7 x (by omega) hx).elim
        obtain ⟨r2, tt2, hm⟩ := hM ns (.raw v0)
        refine hk2 (fun _ => none) B2 H1 σ1 _ _ D (fun _ _ _ => False) w2 sl2 ⟨htb.symm, fun _ _ _ _ _ _ _ _ h => h.elim⟩ ?_
        rw [hm]
        intro v B' H' _ _ sv
        cases sv
        exact hQ H'
section
variable {P : Program} {w : World} {K : PySem.W.Frag} {mg : Str → Option Value} {base : Heap} {ec : Ec} {C : Cls4}
theorem ok_law {f cc PT gH : Addr} {fdH : FuncData} {oc : Value} {od : Option Addr} {dV kV doc pm ct : Value} {an : Option Addr} {osl : Array (Option Value)} (hM : LawM) (T : Txt P K mg ec) (TH : Hd P K mg C) (hf : ec.f = C.f) (htb : ec.tb = [(PT, ("law.<locals>.<lambda>" : Str))]) (L : LC P w K mg base ec)
    (FH : FnP K "_law_heard" s__law_heard gH fdH) (gHm : mg "_law_heard" = some (.ref gH)) (TB : LamX.TabB base mg cc PT)
    (lk : K.lookup f = some ⟨oc, od, .func (PySem.W.fnOf "law" "law" (defArgs s_law) (defBody s_law) (defScope s_law) dV kV doc pm an (.ref cc) ct), osl⟩) (hcd : PySem.W.codeIn K (.ref cc) "law" = true) :
    FnOk P w K mg base (L2.CX P w) 10 f (PySem.W.fnOf "law" "law" (defArgs s_law) (defBody s_law) (defScope s_law) dV kV doc pm an (.ref cc) ct) ["script"] (spLaw K PT) := by
  refine fn_of lk hcd sc_law (fun vs H Q E h => ?_) fun A outer s H vs Q E hr h => ?_
  · obtain ⟨a, ns, rfl, _⟩ := h
    rfl
  · have HRD : Hears P w K mg base ec C f cc A outer s H E := @hears P w K mg base ec C f cc A outer s H E gH fdH PT TH hf htb FH gHm TB hr
    obtain ⟨t1, hp1, hk1⟩ := w_d (w := w) (outer := outer) (H := H) (E := E) T L HRD hr
    obtain ⟨t2, hp2, hk2⟩ := walk_law (w := w) (outer := outer) (H := H) (E := E) T L HRD hr
    have hb : defBody s_law = [lawS 0, lawS 1, lawS 2] := by kernel_rfl
    rw [hb]
    refine ⟨_, pss_cons hp1 hp2, ?_⟩
    obtain ⟨a, ns, rfl, hT, hS, hQ⟩ := h
    obtain ⟨B0, hB0, hS0, hnt⟩ := sql_nt hS
    let Bs0 : Bs := ⟨B0, none, none, [(PT, ("law.<locals>.<lambda>" : Str))]⟩
    have tabs0 : LamX.Tabs [(PT, ("law.<locals>.<lambda>" : Str))] H := fun p hp => by
      rw [List.mem_singleton.mp hp]
      exact LamX.TabS.nil hT
    have w0 : Wd (fun _ => none) Bs0 H none := ⟨hB0, (fun _ _ e => by cases e), True.intro, ⟨tabs0, hnt, (fun _ _ e => by cases e)⟩⟩
    have sl0 : Sls K [] (fun _ => none) Bs0 H (L2.start N_law [.ref a]) (some (.scr ns) :: List.replicate (N_law.length - 1) none) := by
      have := sls_start (K := K) (ow := []) (G := fun _ => none) (B := Bs0) (H := H) (N := N_law) (vs := [.ref a]) (xs := [.scr ns]) (n := 1) ⟨⟨a, rfl, hS0⟩, True.intro⟩ rfl (by simp)
      exact this
    refine hk1 (fun _ => none) Bs0 H (L2.start N_law [.ref a]) _ none _ (fun _ _ _ => False) w0 sl0 ⟨htb.symm, fun _ _ _ _ _ _ _ _ h => h.elim⟩ ?_
    rw [law_d ns]
    intro σ1 B1 H1 l1 w1 s1
    show t2 _ σ1 H1
    -- the deal is the deal's from now on
    obtain ⟨v0, hσ0, _⟩ := s1.var 0 (.scr ns) rfl (by simp)
    obtain ⟨v1, hσ1, hv1⟩ := s1.var 1 _ rfl (by simp)
    exact dealIt (B0 := Bs0) hM hk2 htb hQ l1 w1 s1 hσ0 hσ1 hv1
end
end K05
end
section
set_option maxRecDepth 100000
set_option maxHeartbeats 4000000
/-! # The head: what the written part says of the errors, looked at by a Bool -/
namespace HeY
open PySem PySem.W PySem.Spec PyProof.Rows L2 ErrX He
def clsB (K : Frag) (C : Addr) : Bool := match K.lookup C with
  | some ⟨.type "type", _, .cls cd, sl⟩ => (match cd.mro, sl.toList with
    | .ref C' :: bm, [_, _, _, _, some (.builtin n), _] => decide (C' = C) && (decide (n = "ValueError.__new__") && (!cd.hasDel && (cd.hasDict && (HandSPX.refsVE bm && decide (alongIn K "__init__" bm = some (some (.builtin "ValueError.__init__")))))))
    | _, _ => false)
  | _ => false
theorem clsB_ok {K : Frag} {C : Addr} (h : clsB K C = true) : ∃ nm q N bs bm sn sub ab col dd k0 k1 k2 k3 k5, K.lookup C = some (excClassObj nm q C N bs bm true sn sub ab col dd k0 k1 k2 k3 k5 "ValueError.__new__") ∧ HandSPX.refsVE bm = true ∧ alongIn K "__init__" bm = some (some (.builtin "ValueError.__init__")) := by
  unfold clsB at h
  split at h
  · rename_i dd cd sl ho
    split at h
    · rename_i C' bm k0 k1 k2 k3 n k5 hm hs
      simp only [Bool.and_eq_true, decide_eq_true_eq, Bool.not_eq_true'] at h
      obtain ⟨rfl, rfl, hdel, hdct, hv, ha⟩ := h
      obtain ⟨nm, bs, mro, ns, qn, hd, sn, sub, ab, col, del⟩ := cd
      dsimp only at hm hdel hdct
      subst hm hdel hdct
      have hsl : sl = #[k0, k1, k2, k3, some (.builtin "ValueError.__new__"), k5] := by
        obtain ⟨l⟩ := sl
        simp only at hs
        rw [hs]
      subst hsl
      exact ⟨nm, qn, ns, bs, bm, sn, sub, ab, col, dd, k0, k1, k2, k3, k5, ho, hv, ha⟩
    · cases h
  · cases h
def parB : Arguments → Bool
  | ⟨[], [⟨s1, .none, _⟩, ⟨s2, .none, _⟩], .none, [], [], .none, []⟩ => decide (s1 = "self") && decide (s2 = "at")
  | _ => false
theorem parB_ok {a : Arguments} (h : parB a = true) : ∃ p1 p2, a = eA p1 p2 := by
  unfold parB at h
  split at h
  · rw [Bool.and_eq_true, decide_eq_true_eq, decide_eq_true_eq] at h
    obtain ⟨rfl, rfl⟩ := h
    exact ⟨_, _, rfl⟩
  · cases h
def bodB : FuncBody → Bool
  | .stmts [.Expr (.Call (.Attribute (.Call (.Name n1 _) [] [] _) n2 q3) [.Name n3 _] [] q5) _, .Assign [.Attribute (.Name n4 _) n5 _] (.Name n6 _) _] =>
    decide (n1 = "super") && (decide (n2 = "__init__") && (decide (n3 = "at") && (decide (n4 = "self") && (decide (n5 = "at") && (decide (n6 = "at") && (q3.endLine == q5.line))))))
  | _ => false
theorem bodB_ok {b : FuncBody} (h : bodB b = true) : ∃ q1 q2 q3 q4 q5 q6 r1 r2 r3 r4, b = .stmts (eB q1 q2 q3 q4 q5 q6 r1 r2 r3 r4) ∧ (q3.endLine == q5.line) = true := by
  unfold bodB at h
  split at h
  · simp only [Bool.and_eq_true, decide_eq_true_eq] at h
    obtain ⟨rfl, rfl, rfl, rfl, rfl, rfl, hl⟩ := h
    exact ⟨_, _, _, _, _, _, _, _, _, _, rfl, hl⟩
  · cases h
def celB (K : Frag) (cc C : Addr) : Bool := match K.lookup cc with
  | some ⟨_, _, .cell (some (.ref C')), _⟩ => decide (C' = C)
  | _ => false
theorem celB_ok {K : Frag} {cc C : Addr} (h : celB K cc C = true) : ∃ cl cld csl, K.lookup cc = some ⟨cl, cld, .cell (some (.ref C)), csl⟩ := by
  unfold celB at h
  split at h
  · rename_i q
    have e := of_decide_eq_true h
    subst e
    exact ⟨_, _, _, q⟩
  · cases h
def filB (prog : Program) (K : Frag) (cda : Addr) : Bool := match K.lookup cda with
  | some ⟨_, _, .fields vs, _⟩ => (match (vs[2]? : Option Value) with
    | some (.str file _) => (prog.main.file : Str) == file
    | _ => false)
  | _ => false
theorem filB_ok {prog : Program} {K : Frag} {cda : Addr} (h : filB prog K cda = true) : ∃ (ccl : Value) (cdd : Option Addr) (ccs : Array (Option Value)) (vs : Array Value) (file : Str) (tf : Tok), K.lookup cda = some ⟨ccl, cdd, .fields vs, ccs⟩ ∧ vs[2]? = some (.str file tf) ∧ ((prog.main.file : Str) == file) = true := by
  unfold filB at h
  split at h
  · rename_i q
    split at h
    · rename_i q2
      exact ⟨_, _, _, _, _, _, q, q2, h⟩
    · cases h
  · cases h
def fnB (prog : Program) (K : Frag) (C fI : Addr) : Bool := match K.lookup fI with
  | some ⟨_, _, .func fd, _⟩ => decide (fd.name = "__init__") && (parB fd.params && (bodB fd.body && (decide (fd.scope = eS) && (decide (fd.globals = mainGlobals) && (decide (fd.builtins = builtinsNs) && (match fd.defaults, fd.closure, fd.code with
      | .none, [(n, cc)], .ref cda => decide (n = "__class__") && (codeIn K (.ref cda) fd.qualname && (celB K cc C && filB prog K cda))
      | _, _, _ => false))))))
  | _ => false
def errB (prog : Program) (K : Frag) (x : Str) : Bool :=
  (Fa.glo x).ok K && ((Fa.free "super").ok K && (clsB K (ga K x) && (decide (findIn K (.ref (ga K x)) "__setattr__" = some (some (.builtin "object.__setattr__"))) && (xfB K (ga K x) && (decide (findIn K (.ref (ga K x)) "at" = some none) && (keepIn K (.ref (ga K x)) &&
    (decide (typeIn K (.ref (ga K x)) = some (.type "type")) && (decide (nsIn K cStatics "thirdparty.any" = some none) && (!(prog.main.scope.names.lookup ("super" : Str)).isSome && (decide (mroIn K (ga K x) (.ref (ga K x)) = some true) &&
      (decide (findIn K (.ref (ga K x)) "__init__" = some (some (.ref (ma K (ga K x) "__init__")))) && (decide (typeIn K (.ref (ma K (ga K x) "__init__")) = some (.type "function")) && fnB prog K (ga K x) (ma K (ga K x) "__init__")))))))))))))
theorem errB_ok {prog : Program} {K : Frag} {x : Str} {h : Heap} {mg : Str → Option Value} (X : K.In h) (G : h.Ns mainGlobals mg) (c : errB prog K x = true) : ErrTxt prog K mg x (ga K x) := by
  unfold errB at c
  simp only [Bool.and_eq_true, decide_eq_true_eq, Bool.not_eq_true'] at c
  obtain ⟨c1, c2, c3, c4, c5, c6, c7, c8, c9, c10, c11, c12, c13, c14⟩ := c
  refine ⟨glo_ok X G c1, free_ok X G c2, clsB_ok c3, c4, xfB_ok c5, c6, c7, (xfB_ok c5).exC, c8, c9, c10, c11, ?_⟩
  unfold fnB at c14
  split at c14
  · rename_i oc od fd osl ho
    simp only [Bool.and_eq_true, decide_eq_true_eq] at c14
    obtain ⟨d1, d2, d3, d4, d5, d6, d7⟩ := c14
    split at d7
    · rename_i n cc cda e1 e2 e3
      simp only [Bool.and_eq_true, decide_eq_true_eq] at d7
      obtain ⟨rfl, g2, g3, g4⟩ := d7
      obtain ⟨p1, p2, hp⟩ := parB_ok d2
      obtain ⟨q1, q2, q3, q4, q5, q6, r1, r2, r3, r4, hb, hl⟩ := bodB_ok d3
      obtain ⟨cl, cld, csl, hc⟩ := celB_ok g3
      obtain ⟨ccl, cdd, ccs, vs, file, tf, hk, hv, hf⟩ := filB_ok g4
      obtain ⟨nm, qual, params, body, scope, globals, closure, dV, kV, doc, pm, an, cdv, ct, bt⟩ := fd
      dsimp only at d1 d4 d5 d6 e1 e2 e3 hp hb g2
      subst d1 d4 d5 d6 e1 e2 e3 hp hb
      exact ⟨_, cc, cda, qual, oc, .none, kV, doc, pm, ct, od, an, osl, p1, p2, q1, q2, q3, q4, q5, q6, r1, r2, r3, r4, cl, ccl, cld, cdd, csl, ccs, vs, file, tf, c12, c13, ho, rfl, g2, hc, hk, hv, hf, hl⟩
    · cases d7
  · cases c14
/-! the Hook: as hookX, with the statics -/
def asY (g : Addr → Option Obj) (n : Nat) : List Addr := asD g n ++ [cStatics]
def obsY (n : Nat) (fa : List Fa) (fn : List DefD) (ts : List Tab) (tf : List Defn) (ex : Frag → Bool) (g : Addr → Option Obj) : AlX := (obsT fa fn ts (frT g (asY g n)), ex (frT g (asY g n)) && tabsB g tf (frT g (asY g n)))
theorem saysY_of {n : Nat} {fa : List Fa} {fn : List DefD} {ts : List Tab} {tf : List Defn} {ex : Frag → Bool} {w : World} {h : Heap} (e : obsY n fa fn ts tf ex h.get? = valX fn ts w) : SaysX fa fn ts tf ex w h (frT h.get? (asY h.get? n)) := by
  have e1 : obsT fa fn ts (frT h.get? (asY h.get? n)) = valT fn ts w := congrArg (fun z : AlX => z.1) e
  have e2 : (ex (frT h.get? (asY h.get? n)) && tabsB h.get? tf (frT h.get? (asY h.get? n))) = true := congrArg (fun z : AlX => z.2) e
  obtain ⟨h1, h2⟩ := ba e2
  have key : ∀ p ∈ tf, codeHdIn (frT h.get? (asY h.get? n)) (cT (frT h.get? (asY h.get? n)) p).1 (cT (frT h.get? (asY h.get? n)) p).2 = true ∧ ∃ o, h.get? (cT (frT h.get? (asY h.get? n)) p).2 = some o ∧ emptyTab o = true := fun p hp => by
    obtain ⟨h3, h4⟩ := ba (List.all_eq_true.mp h2 p hp)
    refine ⟨h3, ?_⟩
    cases q : h.get? (cT (frT h.get? (asY h.get? n)) p).2 with
    | none =>
      rw [q] at h4
      cases h4
    | some o =>
      rw [q] at h4
      exact ⟨o, rfl, h4⟩
  exact ⟨e1, h1, fun p hp => (key p hp).1, fun p hp => by
    obtain ⟨_, o, q, z⟩ := key p hp
    exact frT_none q z, fun p hp => by
    obtain ⟨_, o, q, z⟩ := key p hp
    rw [q, emptyTab_eq z]⟩
def hookY (n : Nat) (fa : List Fa) (fn : List DefD) (ts : List Tab) (tf : List Defn) (ex : Frag → Bool) : Hook where
  α := AlX
  obs := fun s => obsY n fa fn ts tf ex s.heap.get?
  val := fun w => valX fn ts w
  says := fun w h => ∃ K : Frag, K.In h ∧ SaysX fa fn ts tf ex w h K
  of := fun _ _ e => ⟨_, frT_in, saysY_of e⟩
  keeps := fun _ _ _ ⟨K, hK, c⟩ k => ⟨K, Frag.In.keeps hK k, ⟨c.t, c.more, c.hd, c.out, fun p hp => k _ _ (c.empty p hp)⟩⟩
theorem obsY_eq {n : Nat} {fa : List Fa} {fn : List DefD} {ts : List Tab} {tf : List Defn} {ex : Frag → Bool} {g : Addr → Option Obj} {s : Shared} (h : ∀ a, g a = s.heap.get? a) : obsY n fa fn ts tf ex g = (hookY n fa fn ts tf ex).obs s := by
  have e : g = s.heap.get? := funext h
  rw [e] <;> rfl
end HeY
end
section
set_option maxRecDepth 100000
set_option maxHeartbeats 0
namespace K05H
open PySem PySem.Spec PyProof.Rows L2 DL K05
def d_great_divisor : He.DefD := ⟨("great_divisor", none), "great_divisor", "great_divisor", defArgs (top 11), defBody (top 11), defScope (top 11), [], []⟩
def d_is_integer : He.DefD := ⟨("is_integer", none), "is_integer", "is_integer", defArgs (top 7), defBody (top 7), defScope (top 7), [], []⟩
def d_is_sequence : He.DefD := ⟨("is_sequence", none), "is_sequence", "is_sequence", defArgs (top 8), defBody (top 8), defScope (top 8), [], []⟩
def d_is_share : He.DefD := ⟨("is_share", none), "is_share", "is_share", defArgs (top 12), defBody (top 12), defScope (top 12), [], []⟩
def d_checked_share : He.DefD := ⟨("checked_share", none), "checked_share", "checked_share", defArgs (top 13), defBody (top 13), defScope (top 13), [], []⟩
def d_lowest : He.DefD := ⟨("lowest", none), "lowest", "lowest", defArgs (top 14), defBody (top 14), defScope (top 14), [], []⟩
def d_parts_of : He.DefD := ⟨("parts_of", none), "parts_of", "parts_of", defArgs (top 15), defBody (top 15), defScope (top 15), [], []⟩
def d_sum_of : He.DefD := ⟨("sum_of", none), "sum_of", "sum_of", defArgs (top 16), defBody (top 16), defScope (top 16), [], []⟩
def d_checked_shares : He.DefD := ⟨("checked_shares", none), "checked_shares", "checked_shares", defArgs (top 17), defBody (top 17), defScope (top 17), [], []⟩
def d_joined_shares : He.DefD := ⟨("joined_shares", none), "joined_shares", "joined_shares", defArgs (top 18), defBody (top 18), defScope (top 18), [], []⟩
def d_is_whole : He.DefD := ⟨("is_whole", none), "is_whole", "is_whole", defArgs (top 19), defBody (top 19), defScope (top 19), [], []⟩
def d_what_is_left : He.DefD := ⟨("what_is_left", none), "what_is_left", "what_is_left", defArgs (top 20), defBody (top 20), defScope (top 20), [], []⟩
def d_may_meet : He.DefD := ⟨("may_meet", none), "may_meet", "may_meet", defArgs (top 21), defBody (top 21), defScope (top 21), [], []⟩
def d__law_draw : He.DefD := ⟨("_law_draw", none), "_law_draw", "_law_draw", defArgs (top 23), defBody (top 23), defScope (top 23), [], []⟩
def d__law_any : He.DefD := ⟨("_law_any", none), "_law_any", "_law_any", defArgs (top 24), defBody (top 24), defScope (top 24), [], []⟩
def d__law_of : He.DefD := ⟨("_law_of", none), "_law_of", "_law_of", defArgs (top 25), defBody (top 25), defScope (top 25), [], []⟩
def d__law_mixed : He.DefD := ⟨("_law_mixed", none), "_law_mixed", "_law_mixed", defArgs (top 26), defBody (top 26), defScope (top 26), [], []⟩
def d__law_same : He.DefD := ⟨("_law_same", none), "_law_same", "_law_same", defArgs (top 27), defBody (top 27), defScope (top 27), [], []⟩
def d__law_is_int : He.DefD := ⟨("_law_is_int", none), "_law_is_int", "_law_is_int", defArgs (top 28), defBody (top 28), defScope (top 28), [], []⟩
def d__law_heard : He.DefD := ⟨("_law_heard", none), "_law_heard", "_law_heard", defArgs (top 29), defBody (top 29), defScope (top 29), [], []⟩
def d__law_lowest : He.DefD := ⟨("_law_lowest", none), "_law_lowest", "_law_lowest", defArgs (top 30), defBody (top 30), defScope (top 30), [], []⟩
def d__law_sum : He.DefD := ⟨("_law_sum", none), "_law_sum", "_law_sum", defArgs (top 31), defBody (top 31), defScope (top 31), [], []⟩
def d__law_is_share : He.DefD := ⟨("_law_is_share", none), "_law_is_share", "_law_is_share", defArgs (top 32), defBody (top 32), defScope (top 32), [], []⟩
def d_law : He.DefD := ⟨("law", none), "law", "law", defArgs (top 33), defBody (top 33), defScope (top 33), [], []⟩
def fn : List He.DefD := [d_great_divisor, d_is_integer, d_is_sequence, d_is_share, d_checked_share, d_lowest, d_parts_of, d_sum_of, d_checked_shares, d_joined_shares, d_is_whole, d_what_is_left, d_may_meet, d__law_draw, d__law_any, d__law_of, d__law_mixed, d__law_same, d__law_is_int, d__law_heard, d__law_lowest, d__law_sum, d__law_is_share, d_law]
def fa : List He.Fa := [.glo "great_divisor", .glo "is_integer", .glo "is_sequence", .glo "is_share", .glo "checked_share", .glo "lowest", .glo "parts_of", .glo "sum_of", .glo "checked_shares", .glo "joined_shares", .glo "is_whole", .glo "what_is_left", .glo "may_meet", .glo "_law_draw", .glo "_law_any", .glo "_law_of", .glo "_law_mixed", .glo "_law_same", .glo "_law_is_int", .glo "_law_heard", .glo "_law_lowest", .glo "_law_sum", .glo "_law_is_share", .glo "law", .free "len", .free "all", .free "abs", .free "int", .free "bool", .free "str", .free "tuple", .free "list", .free "range", .free "zip", .free "isinstance", .int "MOST_PARTS" 1000, .glo "InvalidKind", .glo "InvalidQuestion", .glo "InvalidValue", .glo "Refused"]
def exB (K : PySem.W.Frag) : Bool := HeY.errB PySem.Challenge.pw_heldshares_k05_whole_shares K "InvalidKind" && HeY.errB PySem.Challenge.pw_heldshares_k05_whole_shares K "InvalidQuestion" && HeY.errB PySem.Challenge.pw_heldshares_k05_whole_shares K "InvalidValue" && HeY.errB PySem.Challenge.pw_heldshares_k05_whole_shares K "Refused" && (decide (PySem.W.exmOne K (.ref (He.ga K "InvalidKind")) (.ref (He.ga K "InvalidKind")) = some true) && decide (PySem.W.exmOne K (.ref (He.ga K "InvalidKind")) (.ref (He.ga K "InvalidQuestion")) = some false) && decide (PySem.W.exmOne K (.ref (He.ga K "InvalidKind")) (.ref (He.ga K "InvalidValue")) = some false) && decide (PySem.W.exmOne K (.ref (He.ga K "InvalidKind")) (.ref (He.ga K "Refused")) = some false) && decide (PySem.W.exmOne K (.ref (He.ga K "InvalidQuestion")) (.ref (He.ga K "InvalidKind")) = some false) && decide (PySem.W.exmOne K (.ref (He.ga K "InvalidQuestion")) (.ref (He.ga K "InvalidQuestion")) = some true) && decide (PySem.W.exmOne K (.ref (He.ga K "InvalidQuestion")) (.ref (He.ga K "InvalidValue")) = some false) && decide (PySem.W.exmOne K (.ref (He.ga K "InvalidQuestion")) (.ref (He.ga K "Refused")) = some false) && decide (PySem.W.exmOne K (.ref (He.ga K "InvalidValue")) (.ref (He.ga K "InvalidKind")) = some false) && decide (PySem.W.exmOne K (.ref (He.ga K "InvalidValue")) (.ref (He.ga K "InvalidQuestion")) = some false) && decide (PySem.W.exmOne K (.ref (He.ga K "InvalidValue")) (.ref (He.ga K "InvalidValue")) = some true) && decide (PySem.W.exmOne K (.ref (He.ga K "InvalidValue")) (.ref (He.ga K "Refused")) = some false) && decide (PySem.W.exmOne K (.ref (He.ga K "Refused")) (.ref (He.ga K "InvalidKind")) = some false) && decide (PySem.W.exmOne K (.ref (He.ga K "Refused")) (.ref (He.ga K "InvalidQuestion")) = some false) && decide (PySem.W.exmOne K (.ref (He.ga K "Refused")) (.ref (He.ga K "InvalidValue")) = some false) && decide (PySem.W.exmOne K (.ref (He.ga K "Refused")) (.ref (He.ga K "Refused")) = some true))
abbrev R : PySem.W.OpenRow := PySem.W.OpenLaw.row PySem.Challenge.rw_heldshares_k05_whole_shares
abbrev hk : PySem.W.Hook := HeY.hookY 6 fa fn [] [("law", none)] exB
def ob (s : PySem.W.SharedT) : He.AlX := HeY.obsY 6 fa fn [] [("law", none)] exB (HandSHeadRun.getT s)
theorem ob_eq (s : PySem.W.SharedT) : ob s = hk.obs s.abs := HeY.obsY_eq (HandSHeadRun.getT_eq s)
def loose : List Str := ["HoldError", "InvalidKind", "InvalidValue", "InvalidQuestion", "Refused", "is_integer", "is_sequence", "MOST_PARTS", "great_divisor", "is_share", "checked_share", "lowest", "parts_of", "sum_of", "checked_shares", "joined_shares", "is_whole", "what_is_left", "may_meet", "_law_draw", "_law_any", "_law_of", "_law_mixed", "_law_same", "_law_is_int", "_law_heard", "_law_lowest", "_law_sum", "_law_is_share"]
theorem run (w : World) : HandSHeadRun.RunEq R (PySem.W.view R.prog [33]) hk ob 20000 loose w := by
  intro os
  kernel_rfl
end K05H
end
section
set_option maxRecDepth 100000
set_option maxHeartbeats 4000000
namespace K05
open PySem PySem.Spec PyProof.Rows L2 DL ErrX K05H

theorem hd_of {P : Program} {K : PySem.W.Frag} {mg : Str → Option Value} {a b c d : Addr} (haa : PySem.W.exmOne K (.ref a) (.ref a) = some true) (hab : PySem.W.exmOne K (.ref a) (.ref b) = some false) (hac : PySem.W.exmOne K (.ref a) (.ref c) = some false) (had : PySem.W.exmOne K (.ref a) (.ref d) = some false) (hba : PySem.W.exmOne K (.ref b) (.ref a) = some false) (hbb : PySem.W.exmOne K (.ref b) (.ref b) = some true) (hbc : PySem.W.exmOne K (.ref b) (.ref c) = some false) (hbd : PySem.W.exmOne K (.ref b) (.ref d) = some false) (hca : PySem.W.exmOne K (.ref c) (.ref a) = some false) (hcb : PySem.W.exmOne K (.ref c) (.ref b) = some false) (hcc : PySem.W.exmOne K (.ref c) (.ref c) = some true) (hcd : PySem.W.exmOne K (.ref c) (.ref d) = some false) (hda : PySem.W.exmOne K (.ref d) (.ref a) = some false) (hdb : PySem.W.exmOne K (.ref d) (.ref b) = some false) (hdc : PySem.W.exmOne K (.ref d) (.ref c) = some false) (hdd : PySem.W.exmOne K (.ref d) (.ref d) = some true) (k : ErrTxt P K mg "InvalidKind" a) (q : ErrTxt P K mg "InvalidQuestion" b) (v : ErrTxt P K mg "InvalidValue" c) (r : ErrTxt P K mg "Refused" d) : Hd P K mg ⟨a, b, c, d⟩ := by
  have nab : a ≠ b := fun z => by
    rw [← z, haa] at hab
    cases hab
  have nac : a ≠ c := fun z => by
    rw [← z, haa] at hac
    cases hac
  have nad : a ≠ d := fun z => by
    rw [← z, haa] at had
    cases had
  have nba : b ≠ a := fun z => by
    rw [← z, hbb] at hba
    cases hba
  have nbc : b ≠ c := fun z => by
    rw [← z, hbb] at hbc
    cases hbc
  have nbd : b ≠ d := fun z => by
    rw [← z, hbb] at hbd
    cases hbd
  have nca : c ≠ a := fun z => by
    rw [← z, hcc] at hca
    cases hca
  have ncb : c ≠ b := fun z => by
    rw [← z, hcc] at hcb
    cases hcb
  have ncd : c ≠ d := fun z => by
    rw [← z, hcc] at hcd
    cases hcd
  have nda : d ≠ a := fun z => by
    rw [← z, hdd] at hda
    cases hda
  have ndb : d ≠ b := fun z => by
    rw [← z, hdd] at hdb
    cases hdb
  have ndc : d ≠ c := fun z => by
    rw [← z, hdd] at hdc
    cases hdc
  refine ⟨?_, fun p hp q' hq => ?_, k, q, v, r⟩
  · show [a, b, c, d].Nodup
    simp [nab, nac, nad, nbc, nbd, ncd]
  · have hp' : p = (a, ("kind" : Str)) ∨ p = (b, ("question" : Str)) ∨ p = (c, ("value" : Str)) ∨ p = (d, ("refused" : Str)) := by simpa using hp
    have hq' : q' = (a, ("kind" : Str)) ∨ q' = (b, ("question" : Str)) ∨ q' = (c, ("value" : Str)) ∨ q' = (d, ("refused" : Str)) := by simpa using hq
    rcases hp' with rfl | rfl | rfl | rfl
    · rcases hq' with rfl | rfl | rfl | rfl
      · exact haa.trans (congrArg some (decide_eq_true rfl).symm)
      · exact hab.trans (congrArg some (decide_eq_false nab).symm)
      · exact hac.trans (congrArg some (decide_eq_false nac).symm)
      · exact had.trans (congrArg some (decide_eq_false nad).symm)
    · rcases hq' with rfl | rfl | rfl | rfl
      · exact hba.trans (congrArg some (decide_eq_false nba).symm)
      · exact hbb.trans (congrArg some (decide_eq_true rfl).symm)
      · exact hbc.trans (congrArg some (decide_eq_false nbc).symm)
      · exact hbd.trans (congrArg some (decide_eq_false nbd).symm)
    · rcases hq' with rfl | rfl | rfl | rfl
      · exact hca.trans (congrArg some (decide_eq_false nca).symm)
      · exact hcb.trans (congrArg some (decide_eq_false ncb).symm)
      · exact hcc.trans (congrArg some (decide_eq_true rfl).symm)
      · exact hcd.trans (congrArg some (decide_eq_false ncd).symm)
    · rcases hq' with rfl | rfl | rfl | rfl
      · exact hda.trans (congrArg some (decide_eq_false nda).symm)
      · exact hdb.trans (congrArg some (decide_eq_false ndb).symm)
      · exact hdc.trans (congrArg some (decide_eq_false ndc).symm)
      · exact hdd.trans (congrArg some (decide_eq_true rfl).symm)
theorem law_at (hM : LawM) {w : World} {mg : Str → Option Value} {fa : Addr} {h : Heap} {K : PySem.W.Frag} (X : K.In h) (G : h.Ns mainGlobals mg) (hfa : mg ("law" : Str) = some (.ref fa)) (c : He.SaysX K05H.fa K05H.fn [] [("law", none)] K05H.exB w h K) :
    LamX.LawAtS PySem.Challenge.rw_heldshares_k05_whole_shares w K (L2.CX PySem.Challenge.pw_heldshares_k05_whole_shares w) 10 63 "script" mg fa h := by
  have cd := c.t.d
  obtain ⟨d_great_divisor, D_great_divisor⟩ := cd.def_ 0 (d := K05H.d_great_divisor) rfl
  have M_great_divisor := He.glo_ok X G (cd.fact 0 (f := .glo "great_divisor") rfl)
  obtain ⟨d_is_integer, D_is_integer⟩ := cd.def_ 1 (d := K05H.d_is_integer) rfl
  have M_is_integer := He.glo_ok X G (cd.fact 1 (f := .glo "is_integer") rfl)
  obtain ⟨d_is_sequence, D_is_sequence⟩ := cd.def_ 2 (d := K05H.d_is_sequence) rfl
  have M_is_sequence := He.glo_ok X G (cd.fact 2 (f := .glo "is_sequence") rfl)
  obtain ⟨d_is_share, D_is_share⟩ := cd.def_ 3 (d := K05H.d_is_share) rfl
  have M_is_share := He.glo_ok X G (cd.fact 3 (f := .glo "is_share") rfl)
  obtain ⟨d_checked_share, D_checked_share⟩ := cd.def_ 4 (d := K05H.d_checked_share) rfl
  have M_checked_share := He.glo_ok X G (cd.fact 4 (f := .glo "checked_share") rfl)
  obtain ⟨d_lowest, D_lowest⟩ := cd.def_ 5 (d := K05H.d_lowest) rfl
  have M_lowest := He.glo_ok X G (cd.fact 5 (f := .glo "lowest") rfl)
  obtain ⟨d_parts_of, D_parts_of⟩ := cd.def_ 6 (d := K05H.d_parts_of) rfl
  have M_parts_of := He.glo_ok X G (cd.fact 6 (f := .glo "parts_of") rfl)
  obtain ⟨d_sum_of, D_sum_of⟩ := cd.def_ 7 (d := K05H.d_sum_of) rfl
  have M_sum_of := He.glo_ok X G (cd.fact 7 (f := .glo "sum_of") rfl)
  obtain ⟨d_checked_shares, D_checked_shares⟩ := cd.def_ 8 (d := K05H.d_checked_shares) rfl
  have M_checked_shares := He.glo_ok X G (cd.fact 8 (f := .glo "checked_shares") rfl)
  obtain ⟨d_joined_shares, D_joined_shares⟩ := cd.def_ 9 (d := K05H.d_joined_shares) rfl
  have M_joined_shares := He.glo_ok X G (cd.fact 9 (f := .glo "joined_shares") rfl)
  obtain ⟨d_is_whole, D_is_whole⟩ := cd.def_ 10 (d := K05H.d_is_whole) rfl
  have M_is_whole := He.glo_ok X G (cd.fact 10 (f := .glo "is_whole") rfl)
  obtain ⟨d_what_is_left, D_what_is_left⟩ := cd.def_ 11 (d := K05H.d_what_is_left) rfl
  have M_what_is_left := He.glo_ok X G (cd.fact 11 (f := .glo "what_is_left") rfl)
  obtain ⟨d_may_meet, D_may_meet⟩ := cd.def_ 12 (d := K05H.d_may_meet) rfl
  have M_may_meet := He.glo_ok X G (cd.fact 12 (f := .glo "may_meet") rfl)
  obtain ⟨d__law_draw, D__law_draw⟩ := cd.def_ 13 (d := K05H.d__law_draw) rfl
  have M__law_draw := He.glo_ok X G (cd.fact 13 (f := .glo "_law_draw") rfl)
  obtain ⟨d__law_any, D__law_any⟩ := cd.def_ 14 (d := K05H.d__law_any) rfl
  have M__law_any := He.glo_ok X G (cd.fact 14 (f := .glo "_law_any") rfl)
  obtain ⟨d__law_of, D__law_of⟩ := cd.def_ 15 (d := K05H.d__law_of) rfl
  have M__law_of := He.glo_ok X G (cd.fact 15 (f := .glo "_law_of") rfl)
  obtain ⟨d__law_mixed, D__law_mixed⟩ := cd.def_ 16 (d := K05H.d__law_mixed) rfl
  have M__law_mixed := He.glo_ok X G (cd.fact 16 (f := .glo "_law_mixed") rfl)
  obtain ⟨d__law_same, D__law_same⟩ := cd.def_ 17 (d := K05H.d__law_same) rfl
  have M__law_same := He.glo_ok X G (cd.fact 17 (f := .glo "_law_same") rfl)
  obtain ⟨d__law_is_int, D__law_is_int⟩ := cd.def_ 18 (d := K05H.d__law_is_int) rfl
  have M__law_is_int := He.glo_ok X G (cd.fact 18 (f := .glo "_law_is_int") rfl)
  obtain ⟨d__law_heard, D__law_heard⟩ := cd.def_ 19 (d := K05H.d__law_heard) rfl
  have M__law_heard := He.glo_ok X G (cd.fact 19 (f := .glo "_law_heard") rfl)
  obtain ⟨d__law_lowest, D__law_lowest⟩ := cd.def_ 20 (d := K05H.d__law_lowest) rfl
  have M__law_lowest := He.glo_ok X G (cd.fact 20 (f := .glo "_law_lowest") rfl)
  obtain ⟨d__law_sum, D__law_sum⟩ := cd.def_ 21 (d := K05H.d__law_sum) rfl
  have M__law_sum := He.glo_ok X G (cd.fact 21 (f := .glo "_law_sum") rfl)
  obtain ⟨d__law_is_share, D__law_is_share⟩ := cd.def_ 22 (d := K05H.d__law_is_share) rfl
  have M__law_is_share := He.glo_ok X G (cd.fact 22 (f := .glo "_law_is_share") rfl)
  obtain ⟨d_law, D_law⟩ := cd.def_ 23 (d := K05H.d_law) rfl
  have M_law := He.glo_ok X G (cd.fact 23 (f := .glo "law") rfl)
  have hex := c.more
  unfold K05H.exB at hex
  simp only [Bool.and_eq_true, decide_eq_true_eq] at hex
  let C : Cls4 := ⟨He.ga K "InvalidKind", He.ga K "InvalidQuestion", He.ga K "InvalidValue", He.ga K "Refused"⟩
  obtain ⟨⟨⟨⟨ek, eq⟩, ev⟩, er⟩, hx⟩ := hex
  obtain ⟨⟨⟨⟨⟨⟨⟨⟨⟨⟨⟨⟨⟨⟨⟨haa, hab⟩, hac⟩, had⟩, hba⟩, hbb⟩, hbc⟩, hbd⟩, hca⟩, hcb⟩, hcc⟩, hcd⟩, hda⟩, hdb⟩, hdc⟩, hdd⟩ := hx
  have Ek := HeY.errB_ok X G ek
  have Eq := HeY.errB_ok X G eq
  have Ev := HeY.errB_ok X G ev
  have Er := HeY.errB_ok X G er
  let PT : Addr := (He.cT K ("law", none)).2
  let ec : Ec := ⟨C.f, [(PT, ("law.<locals>.<lambda>" : Str))]⟩
  have T : Txt PySem.Challenge.pw_heldshares_k05_whole_shares K mg ec := {
    b_len := He.free_ok X G (cd.fact 24 (f := .free "len") rfl)
    b_all := He.free_ok X G (cd.fact 25 (f := .free "all") rfl)
    b_abs := He.free_ok X G (cd.fact 26 (f := .free "abs") rfl)
    b_int := He.free_ok X G (cd.fact 27 (f := .free "int") rfl)
    b_bool := He.free_ok X G (cd.fact 28 (f := .free "bool") rfl)
    b_str := He.free_ok X G (cd.fact 29 (f := .free "str") rfl)
    b_tuple := He.free_ok X G (cd.fact 30 (f := .free "tuple") rfl)
    b_list := He.free_ok X G (cd.fact 31 (f := .free "list") rfl)
    b_range := He.free_ok X G (cd.fact 32 (f := .free "range") rfl)
    b_zip := He.free_ok X G (cd.fact 33 (f := .free "zip") rfl)
    b_isinstance := He.free_ok X G (cd.fact 34 (f := .free "isinstance") rfl)
    c_MOST_PARTS := He.int_ok X G (cd.fact 35 (f := .int "MOST_PARTS" 1000) rfl)
    e_InvalidKind := ⟨_, C.k_, Ek⟩
    e_InvalidValue := ⟨_, C.v_, Ev⟩
    e_InvalidQuestion := ⟨_, C.q_, Eq⟩
    e_Refused := ⟨_, C.r_, Er⟩ }
  have TH : Hd PySem.Challenge.pw_heldshares_k05_whole_shares K mg C := hd_of haa hab hac had hba hbb hbc hbd hca hcb hcc hcd hda hdb hdc hdd Ek Eq Ev Er
  obtain ⟨oc, od, dV, kV, doc, pm, an, cdv, ct, osl, e1, lk, hcd, hdv, _⟩ := D_law.ex
  obtain ⟨cc, rfl⟩ := He.codeIn_ref hcd
  have hco : He.codeOf K ("law", none) = cc := He.codeOf_eq lk (by rw [e1])
  have hcT : He.cT K ("law", none) = (cc, PT) := by
    show (He.codeOf K ("law", none), (He.cT K ("law", none)).2) = _
    rw [hco]
  have hmem : (("law", none) : He.Defn) ∈ [(("law", none) : He.Defn)] := List.mem_singleton.mpr rfl
  have hhd := c.hd _ hmem
  have hout := c.out _ hmem
  have hemp := c.empty _ hmem
  have efa : fa = He.fAd K ("law", none) := by
    have := hfa.symm.trans M_law
    exact Value.ref.inj (Option.some.inj this)
  subst e1
  have lk2 : K.lookup fa = some ⟨oc, od, .func (PySem.W.fnOf "law" "law" (defArgs s_law) (defBody s_law) (defScope s_law) dV kV doc pm an (.ref cc) ct), osl⟩ := by
    rw [efa]
    exact lk
  refine ⟨_, [(cc, PT)], spLaw K PT, ?_, ?_, ?_, fun s u => FunD.bindsA (ps := ["script"]) D_law (fun _ _ _ _ _ _ us hl => match us, hl with | [_], _ => rfl) s [u] rfl, fun H a ns hl _ hT hS => ⟨a, ns, rfl, hT (cc, PT) (List.mem_singleton.mpr rfl), hS, fun _ => rfl⟩, fun base KB GB hTB => ?_⟩
  · intro p hp
    rw [List.mem_singleton.mp hp]
    exact hemp
  · intro p hp
    rw [List.mem_singleton.mp hp]
    exact hout
  · intro p hp
    rw [List.mem_singleton.mp hp]
    have := PySem.W.codeHd_of_K X hhd
    rw [hcT] at this
    exact this
  · have TB := hTB (cc, PT) (List.mem_singleton.mpr rfl)
    obtain ⟨L⟩ := mkLC (w := w) (base := base) T D_great_divisor M_great_divisor D_is_integer M_is_integer D_is_sequence M_is_sequence D_is_share M_is_share D_checked_share M_checked_share D_lowest M_lowest D_parts_of M_parts_of D_sum_of M_sum_of D_checked_shares M_checked_shares D_joined_shares M_joined_shares D_is_whole M_is_whole D_what_is_left M_what_is_left D_may_meet M_may_meet D__law_draw M__law_draw D__law_any M__law_any D__law_of M__law_of D__law_mixed M__law_mixed D__law_is_int M__law_is_int D__law_lowest M__law_lowest D__law_sum M__law_sum D__law_is_share M__law_is_share D__law_same M__law_same
    exact ok_law hM T TH rfl rfl L D__law_heard M__law_heard TB lk2 hcd
/-- the law holds, if it does over plain data -/
theorem holds_of (hM : LawM) : PySem.Challenge.rw_heldshares_k05_whole_shares.Holds := by
  open PySem.W PySem.Calls in
  w_on; o_law
  refine HandSHeadRun.head_any (r := PySem.W.OpenLaw.row PySem.Challenge.rw_heldshares_k05_whole_shares) (q := PySem.W.view (PySem.W.OpenLaw.row PySem.Challenge.rw_heldshares_k05_whole_shares).prog [33]) (H := K05H.hk) (ob := K05H.ob) (M := 20000) (loose := K05H.loose) (d := HandSHeadRun.topDef (PySem.W.OpenLaw.row PySem.Challenge.rw_heldshares_k05_whole_shares).prog 33) (kwd := []) K05H.ob_eq
    (by kernel_rfl) (fun s => by kernel_rfl) K05H.run (by kernel_rfl) (by kernel_rfl) (by kernel_rfl) (by rfl) (by first | assumption | decide +kernel) (by decide +kernel) ⟨rfl, rfl, rfl, rfl, rfl, by decide +kernel⟩ ?hw ?hc
  case hw => w_witness2
  case hc =>
    refine LamX.walk_ofTsE (l := PySem.Challenge.rw_heldshares_k05_whole_shares) (n := 63) (k := 10) (x := "script") (CX := fun w => L2.CX PySem.Challenge.pw_heldshares_k05_whole_shares w) rfl (by decide) (by kernel_rfl) ⟨rfl, by decide, by decide⟩ ?F ?X
    case F =>
      intro w mg fa h Y G hmg0
      obtain ⟨K, KX, c⟩ := Y
      have hmg : mg ("law" : PySem.Str) = some (.ref fa) := by
        have e : (HandSHeadRun.topDef (PySem.W.OpenLaw.row PySem.Challenge.rw_heldshares_k05_whole_shares).prog 33).name = ("law" : PySem.Str) := by kernel_rfl
        rw [← e]
        exact hmg0
      exact ⟨K, KX, law_at hM KX G hmg c⟩
    case X =>
      intro w H s e s' h
      obtain ⟨_, _, _, _, _, _, _, _, _, _, _, _, z⟩ := h
      exact z.elim
end K05
end
section
set_option maxRecDepth 100000
set_option maxHeartbeats 4000000
namespace K05
open PySem PySem.Spec DL
/-! sums as one fraction: numP over prodB -/
def numP : List Pr → Int
  | [] => 0
  | p :: ps => p.1 * prodB ps + p.2 * numP ps
theorem fold0_eq : ∀ (ps : List Pr) (s : Pr), ps.foldl add0 s = (s.1 * prodB ps + s.2 * numP ps, s.2 * prodB ps)
  | [], s => by
    show s = (s.1 * 1 + s.2 * 0, s.2 * 1)
    simp
  | p :: ps, s => by
    rw [List.foldl_cons, fold0_eq ps (add0 s p)]
    refine Prod.ext ?_ ?_
    · show (s.1 * p.2 + p.1 * s.2) * prodB ps + s.2 * p.2 * numP ps = s.1 * (p.2 * prodB ps) + s.2 * (p.1 * prodB ps + p.2 * numP ps)
      rw [Int.add_mul, Int.mul_add, Int.mul_assoc s.1, Int.mul_assoc s.2, Int.mul_comm p.1 s.2, Int.mul_assoc s.2 p.1, Int.add_assoc]
    · show s.2 * p.2 * prodB ps = s.2 * (p.2 * prodB ps)
      rw [Int.mul_assoc]
theorem sumL_eq {ps : List Pr} (hk : ∀ p ∈ ps, okP p) : sumL ps = low (numP ps) (prodB ps) := by
  rw [sumL_low hk, fold0_eq]
  show low (0 * prodB ps + 1 * numP ps) (1 * prodB ps) = _
  simp
theorem prodB_app : ∀ (a b : List Pr), prodB (a ++ b) = prodB a * prodB b
  | [], b => by show prodB b = 1 * prodB b; simp
  | p :: a, b => by
    show p.2 * prodB (a ++ b) = p.2 * prodB a * prodB b
    rw [prodB_app a b, Int.mul_assoc]
theorem numP_app : ∀ (a b : List Pr), numP (a ++ b) = numP a * prodB b + prodB a * numP b
  | [], b => by show numP b = 0 * prodB b + 1 * numP b; simp
  | p :: a, b => by
    show p.1 * prodB (a ++ b) + p.2 * numP (a ++ b) = (p.1 * prodB a + p.2 * numP a) * prodB b + p.2 * prodB a * numP b
    rw [prodB_app, numP_app, Int.mul_add, Int.add_mul, Int.mul_assoc p.1, Int.mul_assoc p.2, Int.mul_assoc p.2, Int.add_assoc]
theorem perm_prod {a b : List Pr} (h : a.Perm b) : prodB a = prodB b := by
  induction h with
  | nil => rfl
  | cons x _ ih => show x.2 * _ = x.2 * _; rw [ih]
  | swap x y l =>
    show y.2 * (x.2 * prodB l) = x.2 * (y.2 * prodB l)
    rw [Int.mul_left_comm]
  | trans _ _ i1 i2 => rw [i1, i2]
theorem perm_num {a b : List Pr} (h : a.Perm b) : numP a = numP b := by
  induction h with
  | nil => rfl
  | cons x hp ih =>
    show x.1 * prodB _ + x.2 * numP _ = x.1 * prodB _ + x.2 * numP _
    rw [ih, perm_prod hp]
  | swap x y l =>
    show y.1 * (x.2 * prodB l) + y.2 * (x.1 * prodB l + x.2 * numP l) = x.1 * (y.2 * prodB l) + x.2 * (y.1 * prodB l + y.2 * numP l)
    rw [Int.mul_add, Int.mul_add, Int.mul_left_comm y.1 x.2, Int.mul_left_comm y.2 x.1, Int.mul_left_comm y.2 x.2]
    omega
  | trans _ _ i1 i2 => rw [i1, i2]
theorem low_cross {a b c d : Int} (ha : 0 ≤ a) (hb : 0 < b) (hc : 0 ≤ c) (hd : 0 < d) (h : a * d = c * b) : low a b = low c d := by
  have e1 : low a b = low (d * a) (d * b) := (low_scale hd hb).symm
  have e2 : low c d = low (b * c) (b * d) := (low_scale hb hd).symm
  rw [e1, e2, Int.mul_comm d a, h, Int.mul_comm c b, Int.mul_comm d b]
theorem low_ok {p : Pr} (h : okP p) : low p.1 p.2 = p := by
  obtain ⟨_, _, k⟩ := h
  unfold low
  rw [k]
  simp
end K05
end
section
set_option maxRecDepth 100000
set_option maxHeartbeats 4000000
namespace K05
open PySem PySem.Spec DL
theorem okP_low {a b : Int} (ha : 0 < a) (hb : a ≤ b) : okP (low a b) := by
  have hb0 : 0 < b := by omega
  have g0 := gcd_pos (a := a) hb0
  obtain ⟨l1, l2, l3, e1, e2⟩ := low_le (a := a) (b := b) (by omega) hb0
  refine ⟨?_, ?_, ?_⟩
  · by_cases h : 0 < (low a b).1
    · exact h
    · have : (low a b).1 = 0 := by omega
      rw [this] at e1
      omega
  · exact Int.le_of_mul_le_mul_right (by rw [e1, e2]; exact hb) g0
  · have h : ((Int.gcd ((low a b).1 * (Int.gcd a b : Int)) ((low a b).2 * (Int.gcd a b : Int)) : Nat) : Int) = Int.gcd a b := by rw [e1, e2]
    have h2 : Int.gcd ((low a b).1 * (Int.gcd a b : Int)) ((low a b).2 * (Int.gcd a b : Int)) = Int.gcd (low a b).1 (low a b).2 * Int.gcd a b := by
      rw [Int.gcd_mul_right]
      rfl
    have h3 : Int.gcd (low a b).1 (low a b).2 * Int.gcd a b = 1 * Int.gcd a b := by
      rw [← h2, Nat.one_mul]
      exact_mod_cast h
    exact Nat.eq_of_mul_eq_mul_right (by omega) h3
/-- so many times the same part -/
theorem rep_val (q : Pr) (hq : 0 < q.2) : ∀ n : Nat, numP (List.replicate n q) * q.2 = n * q.1 * prodB (List.replicate n q)
  | 0 => by show 0 * q.2 = ((0 : Nat) : Int) * q.1 * 1; simp
  | n + 1 => by
    rw [List.replicate_succ]
    show (q.1 * prodB (List.replicate n q) + q.2 * numP (List.replicate n q)) * q.2 = ((n + 1 : Nat) : Int) * q.1 * (q.2 * prodB (List.replicate n q))
    have ih := rep_val q hq n
    rw [Int.add_mul, Int.mul_assoc q.2, ih]
    push_cast
    rw [Int.add_mul, Int.one_mul, Int.add_mul]
    have a1 : q.1 * prodB (List.replicate n q) * q.2 = q.1 * (q.2 * prodB (List.replicate n q)) := by rw [Int.mul_assoc, Int.mul_comm q.2]
    have a2 : q.2 * ((n : Int) * q.1 * prodB (List.replicate n q)) = (n : Int) * q.1 * (q.2 * prodB (List.replicate n q)) := by rw [Int.mul_left_comm]
    rw [a1, a2, Int.add_comm]
/-- a part cut in m parts comes to the part -/
theorem rep_part {p : Pr} (hp : okP p) {m : Nat} (hm : 0 < m) : numP (List.replicate m (low p.1 (p.2 * m))) * p.2 = p.1 * prodB (List.replicate m (low p.1 (p.2 * m))) := by
  have p0 : 0 < p.2 := by have := hp.1; have := hp.2.1; omega
  have pm : 0 < p.2 * (m : Int) := Int.mul_pos p0 (by omega)
  obtain ⟨l1, l2, l3, e1, e2⟩ := low_le (a := p.1) (b := p.2 * m) (by have := hp.1; omega) pm
  have g0 := gcd_pos (a := p.1) pm
  generalize low p.1 (p.2 * m) = q at l1 l2 l3 e1 e2 ⊢
  generalize (Int.gcd p.1 (p.2 * m) : Int) = g at e1 e2 g0
  have hv := rep_val q l2 m
  generalize numP (List.replicate m q) = N at hv ⊢
  generalize prodB (List.replicate m q) = B at hv ⊢
  -- N q2 = m q1 B, q1 g = p1, q2 g = p2 m
  have h1 : (N * p.2) * (m * 1) = (p.1 * B) * (m * 1) := by
    have a1 : N * p.2 * (m * 1) = N * (q.2 * g) := by rw [e2, Int.mul_one, Int.mul_assoc]
    have a2 : N * (q.2 * g) = (m * q.1 * B) * g := by rw [← Int.mul_assoc, hv]
    have a3 : (m * q.1 * B) * g = (p.1 * B) * (m * 1) := by
      rw [← e1, Int.mul_one, Int.mul_assoc (m : Int), Int.mul_assoc (m : Int), Int.mul_comm (m : Int)]
      congr 1
      rw [Int.mul_assoc, Int.mul_comm B g, Int.mul_assoc]
    rw [a1, a2, a3]
  exact Int.eq_of_mul_eq_mul_right (by omega) h1
theorem numP_nn {ps : List Pr} (hk : ∀ p ∈ ps, okP p) : 0 ≤ numP ps := by
  induction ps with
  | nil => exact Int.le_refl _
  | cons p ps ih =>
    have kp := hk p List.mem_cons_self
    have kr : ∀ q ∈ ps, okP q := fun q hq => hk q (List.mem_cons_of_mem _ hq)
    have h1 := prodB_pos kr
    exact Int.add_nonneg (Int.mul_nonneg (by have := kp.1; omega) (by omega)) (Int.mul_nonneg (by have := kp.1; have := kp.2.1; omega) (ih kr))
/-- one part exchanged for its parts: the whole stays -/
theorem cut_whole {p : Pr} {rest : List Pr} (hp : okP p) (hr : ∀ q ∈ rest, okP q) {m : Nat} (hm : 0 < m) (h : numP (p :: rest) = prodB (p :: rest)) :
    numP (rest ++ List.replicate m (low p.1 (p.2 * m))) = prodB (rest ++ List.replicate m (low p.1 (p.2 * m))) := by
  have hv := rep_part hp hm
  rw [numP_app, prodB_app]
  generalize numP (List.replicate m (low p.1 (p.2 * m))) = N at hv ⊢
  generalize prodB (List.replicate m (low p.1 (p.2 * m))) = B at hv ⊢
  have p0 : 0 < p.2 := by have := hp.1; have := hp.2.1; omega
  have h' : p.1 * prodB rest + p.2 * numP rest = p.2 * prodB rest := h
  have key : (numP rest * B + prodB rest * N) * p.2 = (prodB rest * B) * p.2 := by
    have a1 : (numP rest * B + prodB rest * N) * p.2 = B * (p.2 * numP rest) + prodB rest * (N * p.2) := by
      rw [Int.add_mul, Int.mul_assoc (prodB rest), Int.mul_comm (numP rest) B, Int.mul_assoc B, Int.mul_comm (numP rest) p.2]
    have a2 : prodB rest * (N * p.2) = B * (p.1 * prodB rest) := by
      rw [hv, Int.mul_comm (prodB rest), Int.mul_comm p.1 B, Int.mul_assoc]
    rw [a1, a2, ← Int.mul_add, Int.add_comm (p.2 * numP rest), h', Int.mul_comm p.2, ← Int.mul_assoc, Int.mul_comm B]
  exact Int.eq_of_mul_eq_mul_right (by omega) key
/-- a part of the whole is at most one -/
theorem part_le {a b : List Pr} (ha : ∀ q ∈ a, okP q) (hb : ∀ q ∈ b, okP q) (h : numP (a ++ b) = prodB (a ++ b)) : numP a ≤ prodB a := by
  rw [numP_app, prodB_app] at h
  have pb := prodB_pos hb
  have nb := numP_nn hb
  have pa := prodB_pos ha
  have h2 : 0 ≤ prodB a * numP b := Int.mul_nonneg (by omega) nb
  exact Int.le_of_mul_le_mul_right (by omega : numP a * prodB b ≤ prodB a * prodB b) pb
end K05
end
section
set_option maxRecDepth 100000
set_option maxHeartbeats 4000000
namespace K05
open PySem PySem.Spec DL
/-- the law's slots: 1 is the deal -/
def sg (a0 a2 a3 a4 a5 a6 a7 a8 a9 a10 a11 a12 a13 a14 a15 a16 a17 a18 a19 a20 a21 : Option Sl) : Rho := [a0, some .deal, a2, a3, a4, a5, a6, a7, a8, a9, a10, a11, a12, a13, a14, a15, a16, a17, a18, a19, a20, a21]
section
variable {a0 a2 a3 a4 a5 a6 a7 a8 a9 a10 a11 a12 a13 a14 a15 a16 a17 a18 a19 a20 a21 : Option Sl} {t : Option Deal} {dl : Deal}
def one : Pr := (1, 1)
def heldD (ps : List Pr) : PyData := .list (ps.map dP)
theorem t_0 : m_law_0 (sg a0 a2 a3 a4 a5 a6 a7 a8 a9 a10 a11 a12 a13 a14 a15 a16 a17 a18 a19 a20 a21) t = .ok .nx (sg a0 a2 (some (.d (heldD [one]))) a4 a5 a6 a7 a8 a9 a10 a11 a12 a13 a14 a15 a16 a17 a18 a19 a20 a21) t := by
  simp [m_law_0, sg, M.bind, M.ret, M.st, mT, mOp, mVar, mK, use, keep, lft, boolOf, optM, mCB, useAll, mCons, mNil, mTup, mLst, mFz, keepD, mSeq, mRet, mIfS, mAnd, mOr, mNot, mAndV, mOrV, mNotV, mIfE, mCall, keepAll, runF, mAsg, aName, mNx, mChain, fnM, startR, isiF, isT, isTN, askT, tyN, lenF, gtF, ltF, leF, geF, cmpF, eqF, neF, eqOk, scalD, atF, addF, subF, mulF, fdivF, modF, mTru, truS, isF, asks, truD, isNoneD, isBoolD, mRaise, raiseM, oneD, List.replicate, allF, boolsOf, F_is_integer, F_great_divisor, F_is_share, F_is_sequence, mDrop, aTup, aCons, aNil, twoK, mPar, heldD, dP, one]
/-- the shares of a list of pairs -/
theorem unL_map : ∀ {ps : List Pr}, (∀ p ∈ ps, okP p) → unL (ps.map dP) = some ps
  | [], _ => rfl
  | p :: ps, h => by
    have ih := unL_map (ps := ps) fun q hq => h q (List.mem_cons_of_mem _ hq)
    have hp := h p List.mem_cons_self
    have e : unS (dP p) = some p := by
      unfold dP unS
      simp only
      rw [if_pos hp]
    rw [List.map_cons]
    unfold unL
    rw [e, ih]
theorem same_refl {v : PyData} {t : Option Deal} (h : eqN 8 v v = some true) : F__law_same [.d v, .d v] t = .ok (.d (.bool true)) t := by
  unfold F__law_same F_sameN
  simp only [h]
theorem eq_pairs (n : Nat) : ∀ ps : List Pr, ps.length < 100000 → allO (((ps.map dP).zip (ps.map dP)).map fun p => eqN (n + 2) p.1 p.2) = some true
  | [], _ => rfl
  | p :: ps, h => by
    have ih := eq_pairs n ps (by simp at h; omega)
    have e : eqN (n + 2) (dP p) (dP p) = some true := by
      simp [dP, eqN, allO]
    simp only [List.map_cons, List.zip_cons_cons, e, allO, ih]
    rfl
theorem t_4 {ps : List Pr} (hk : ∀ p ∈ ps, okP p) (hf : fits (prodB ps)) (hl : ps.length ≤ 1000) : m_law_4 (sg a0 a2 a3 a4 a5 a6 a7 a8 (some (.d (heldD ps))) a10 a11 a12 a13 a14 a15 a16 a17 a18 a19 a20 a21) t = .ok .nx (sg a0 a2 a3 a4 a5 a6 a7 (some (.d (dP (sumL ps)))) (some (.d (heldD ps))) (some (.d (heldD [one]))) a11 a12 a13 a14 a15 a16 a17 a18 a19 a20 a21) t := by
  have e : F__law_sum [.d (heldD ps)] t = .ok (.d (dP (sumL ps))) t := by
    unfold F__law_sum
    simp only [heldD, seqD, unL_map hk, if_pos (And.intro hf hl)]
  simp [m_law_4, sg, M.bind, M.ret, M.st, mT, mOp, mVar, mK, use, keep, lft, boolOf, optM, mCB, useAll, mCons, mNil, mTup, mLst, mFz, keepD, mSeq, mRet, mIfS, mAnd, mOr, mNot, mAndV, mOrV, mNotV, mIfE, mCall, keepAll, runF, mAsg, aName, mNx, mChain, fnM, startR, isiF, isT, isTN, askT, tyN, lenF, gtF, ltF, leF, geF, cmpF, eqF, neF, eqOk, scalD, atF, addF, subF, mulF, fdivF, modF, mTru, truS, isF, asks, truD, isNoneD, isBoolD, mRaise, raiseM, oneD, List.replicate, allF, boolsOf, F_is_integer, F_great_divisor, F_is_share, F_is_sequence, mDrop, aTup, aCons, aNil, twoK, mPar, mPar, twoK, e]
  simp [heldD, dP, one]
end
end K05
end
section
set_option maxRecDepth 100000
set_option maxHeartbeats 4000000
namespace K05
open PySem PySem.Spec DL
theorem erase_map {α β : Type} (f : α → β) : ∀ (l : List α) (i : Nat), (l.map f).eraseIdx i = (l.eraseIdx i).map f
  | [], _ => rfl
  | x :: l, 0 => rfl
  | x :: l, i + 1 => by
    show f x :: (l.map f).eraseIdx i = f x :: (l.eraseIdx i).map f
    rw [erase_map f l i]
theorem erase_perm {α : Type} : ∀ (l : List α) (i : Nat) (h : i < l.length), (l[i] :: l.eraseIdx i).Perm l
  | x :: l, 0, _ => .refl _
  | x :: l, i + 1, h => by
    have hi : i < l.length := by simpa using h
    have ih := erase_perm l i hi
    show (l[i] :: x :: l.eraseIdx i).Perm (x :: l)
    exact (List.Perm.swap x _ _).trans (List.Perm.cons x ih)
theorem mix_perm : ∀ (n : Nat) (ps : List Pr) (dl : Deal), ps.length = n → fineD dl → ∃ (qs : List Pr) (dl' : Deal), mixD n (ps.map dP) dl = (qs.map dP, dl') ∧ qs.Perm ps ∧ fineD dl'
  | 0, ps, dl, hn, hd => by
    have e : ps = [] := List.eq_nil_of_length_eq_zero hn
    subst e
    exact ⟨[], dl, rfl, .nil, hd⟩
  | n + 1, ps, dl, hn, hd => by
    have hr := anyD_range dl (b := ((ps.map dP).length : Nat)) (by rw [List.length_map]; omega)
    have hi : (anyD dl (ps.map dP).length).1.toNat < ps.length := by rw [List.length_map] at hr ⊢; omega
    have hne : ps.map dP ≠ [] := by
      intro z
      rw [List.map_eq_nil_iff] at z
      rw [z] at hn
      simp at hn
    have hg : (ps.map dP)[(anyD dl (ps.map dP).length).1.toNat]? = some (dP ps[(anyD dl (ps.map dP).length).1.toNat]) := by
      rw [List.getElem?_map, List.getElem?_eq_getElem hi]
      rfl
    have hlen : (ps.eraseIdx (anyD dl (ps.map dP).length).1.toNat).length = n := by
      rw [List.length_eraseIdx_of_lt hi]
      omega
    obtain ⟨qs, dl', e, hp, hf⟩ := mix_perm n (ps.eraseIdx (anyD dl (ps.map dP).length).1.toNat) (anyD dl (ps.map dP).length).2 hlen (anyD_fine hd)
    refine ⟨ps[(anyD dl (ps.map dP).length).1.toNat] :: qs, dl', ?_, ?_, hf⟩
    · unfold mixD
      rw [if_neg hne, hg]
      simp only
      rw [erase_map, e]
      rfl
    · exact ((List.Perm.cons _ hp).trans (erase_perm ps _ hi))
end K05
end
section
set_option maxRecDepth 100000
set_option maxHeartbeats 4000000
namespace K05
open PySem PySem.Spec DL
/-- a good row of shares -/
structure Row (ps : List Pr) : Prop where
  ok : ∀ p ∈ ps, okP p
  ft : fits (prodB ps)
  lo : 1 ≤ ps.length
  hi : ps.length ≤ 1000
theorem Row.perm {ps qs : List Pr} (h : Row ps) (p : qs.Perm ps) : Row qs :=
  ⟨fun q hq => h.ok q (p.subset hq), by rw [perm_prod p]; exact h.ft, by rw [p.length_eq]; exact h.lo, by rw [p.length_eq]; exact h.hi⟩
theorem sum_le {ps : List Pr} (h : Row ps) (hn : numP ps ≤ prodB ps) : (sumL ps).1 ≤ (sumL ps).2 := by
  rw [sumL_eq h.ok]
  have pb := prodB_pos h.ok
  obtain ⟨_, _, _, e1, e2⟩ := low_le (numP_nn h.ok) pb
  have g0 := gcd_pos (a := numP ps) pb
  exact Int.le_of_mul_le_mul_right (by rw [e1, e2]; exact hn) g0
theorem sum_gt {ps : List Pr} (h : Row ps) (hn : prodB ps < numP ps) : (sumL ps).2 < (sumL ps).1 := by
  rw [sumL_eq h.ok]
  have pb := prodB_pos h.ok
  obtain ⟨_, _, _, e1, e2⟩ := low_le (numP_nn h.ok) pb
  have g0 := gcd_pos (a := numP ps) pb
  exact Int.lt_of_mul_lt_mul_right (by rw [e1, e2]; exact hn) (by omega)
theorem joined_ok {ps : List Pr} {v : PyData} (h : Row ps) (hv : seqD v = some (ps.map dP)) (t : Option Deal) : F_joined_shares [.d v] t = if (sumL ps).2 < (sumL ps).1 then .ex "Refused" (.int 0) t else .ok (.d (dP (sumL ps))) t := by
  have hl : 1 ≤ (ps.map dP).length ∧ (ps.map dP).length ≤ 1000 := by rw [List.length_map]; exact ⟨h.lo, h.hi⟩
  unfold F_joined_shares
  simp only [hv, if_pos hl, unL_map h.ok, if_pos h.ft]
theorem mixed_ok {ps : List Pr} {dl : Deal} (h : Row ps) (hd : fineD dl) : ∃ (qs : List Pr) (dl' : Deal), F__law_mixed [.deal, .d (heldD ps)] (some dl) = .ok (.d (heldD qs)) (some dl') ∧ qs.Perm ps ∧ fineD dl' := by
  obtain ⟨qs, dl', e, hp, hf⟩ := mix_perm ps.length ps dl rfl hd
  have hs : (ps.map dP).all shareD = true := by
    rw [← unL_some, unL_map h.ok]
    rfl
  refine ⟨qs, dl', ?_, hp, hf⟩
  have hc : (ps.map dP).length ≤ 1000 ∧ (ps.map dP).all shareD = true ∧ fineD dl := ⟨by rw [List.length_map]; exact h.hi, hs, hd⟩
  show (if (ps.map dP).length ≤ 1000 ∧ (ps.map dP).all shareD = true ∧ fineD dl then Res.ok (.d (.list (mixD (ps.map dP).length (ps.map dP) dl).1)) (some (mixD (ps.map dP).length (ps.map dP) dl).2) else .st) = _
  rw [if_pos hc, List.length_map, e]
  rfl
theorem sum_one {ps : List Pr} (h : Row ps) (hn : numP ps = prodB ps) : sumL ps = one := by
  rw [sumL_eq h.ok, hn]
  have pb := prodB_pos h.ok
  unfold low one
  rw [Int.gcd_self, show ((prodB ps).natAbs : Int) = prodB ps by omega, Int.ediv_self (by omega)]
end K05
end
section
set_option maxRecDepth 100000
set_option maxHeartbeats 4000000
namespace K05
open PySem PySem.Spec DL
section
variable {a0 a2 a3 a4 a5 a6 a7 a8 a9 a10 a11 a12 a13 a14 a15 a16 a17 a18 a19 a20 a21 : Option Sl} {t : Option Deal} {dl : Deal}
theorem t_2 {ps : List Pr} (h : Row ps) (hn : numP ps = prodB ps) (hd : fineD dl) : ∃ dl', fineD dl' ∧ m_law_2 (sg a0 a2 (some (.d (heldD ps))) a4 a5 a6 a7 a8 a9 a10 a11 a12 a13 a14 a15 a16 a17 a18 a19 a20 a21) (some dl) = .ok .nx (sg a0 a2 (some (.d (heldD ps))) a4 a5 a6 a7 a8 a9 a10 a11 a12 a13 a14 a15 a16 a17 a18 a19 a20 a21) (some dl') := by
  obtain ⟨qs, dl', em, hp, hf⟩ := mixed_ok h hd
  have hq := h.perm hp
  have hnq : numP qs = prodB qs := by rw [perm_num hp, perm_prod hp]; exact hn
  have s1 := sum_one hq hnq
  have s2 := sum_one h hn
  have j1 : F_joined_shares [.d (heldD qs)] (some dl') = .ok (.d (dP one)) (some dl') := by
    rw [joined_ok hq rfl, s1]
    rfl
  have j2 : F_joined_shares [.d (.tuple (ps.map dP))] (some dl') = .ok (.d (dP one)) (some dl') := by
    rw [joined_ok h rfl, s2]
    rfl
  have e : F__law_same [.d (.list [dP one, dP one]), .d (.list [dP one, dP one])] (some dl') = .ok (.d (.bool true)) (some dl') := same_refl (by decide +kernel)
  refine ⟨dl', hf, ?_⟩
  have j2' : F_joined_shares [.d (.tuple (ps.map dP))] (some dl') = .ok (.d (.tuple [.int 1, .int 1])) (some dl') := j2
  have j1' : F_joined_shares [.d (heldD qs)] (some dl') = .ok (.d (.tuple [.int 1, .int 1])) (some dl') := j1
  have e' : F__law_same [.d (.list [.tuple [.int 1, .int 1], .tuple [.int 1, .int 1]]), .d (.list [.tuple [.int 1, .int 1], .tuple [.int 1, .int 1]])] (some dl') = .ok (.d (.bool true)) (some dl') := e
  have et : tupF [.d (heldD ps)] = some (.d (.tuple (ps.map dP))) := rfl
  simp [m_law_2, sg, M.bind, M.ret, M.st, mT, mOp, mVar, mK, use, keep, lft, boolOf, optM, mCB, useAll, mCons, mNil, mTup, mLst, mFz, keepD, mSeq, mRet, mIfS, mAnd, mOr, mNot, mAndV, mOrV, mNotV, mIfE, mCall, keepAll, runF, mAsg, aName, mNx, mChain, fnM, startR, isiF, isT, isTN, askT, tyN, lenF, gtF, ltF, leF, geF, cmpF, eqF, neF, eqOk, scalD, atF, addF, subF, mulF, fdivF, modF, mTru, truS, isF, asks, truD, isNoneD, isBoolD, mRaise, raiseM, oneD, List.replicate, allF, boolsOf, F_is_integer, F_great_divisor, F_is_share, F_is_sequence, mDrop, aTup, aCons, aNil, twoK, mPar, em, j1', j2', e', et]
end
end K05
end
section
set_option maxRecDepth 100000
set_option maxHeartbeats 4000000
namespace K05
open PySem PySem.Spec DL
theorem cut_to {α : Type} (xs : List α) {k : Int} (h : 0 ≤ k) : cutL xs none (some k) = xs.take k.toNat := by
  unfold cutL
  rw [HT.sIx_none]
  have e : HT.sIx xs.length xs.length (some k) = min k.toNat xs.length := by
    have := HT.sIx_nat xs.length xs.length k.toNat
    rw [show ((k.toNat : Nat) : Int) = k by omega] at this
    exact this
  rw [e, List.drop_zero, Nat.sub_zero]
  by_cases h2 : xs.length ≤ k.toNat
  · rw [Nat.min_eq_right h2, List.take_length, List.take_of_length_le h2]
  · rw [Nat.min_eq_left (by omega)]
section
variable {a0 a2 a3 a4 a5 a6 a7 a8 a9 a10 a11 a12 a13 a14 a15 a16 a17 a18 a19 a20 a21 : Option Sl} {t : Option Deal} {dl : Deal}
theorem t_3 {ps : List Pr} (h : Row ps) (hd : fineD dl) : ∃ (qs rs : List Pr) (dl' : Deal), (qs ++ rs).Perm ps ∧ 1 ≤ qs.length ∧ fineD dl' ∧ m_law_3 (sg a0 a2 (some (.d (heldD ps))) a4 a5 a6 a7 a8 a9 a10 a11 a12 a13 a14 a15 a16 a17 a18 a19 a20 a21) (some dl) = .ok .nx (sg a0 a2 (some (.d (heldD ps))) a4 a5 a6 a7 a8 (some (.d (heldD qs))) a10 a11 a12 a13 a14 a15 a16 a17 a18 a19 a20 a21) (some dl') := by
  obtain ⟨qs, dl1, em, hp, hf⟩ := mixed_ok h hd
  have ha := any_call (dl := dl1) (n := (ps.map dP).length) (by rw [List.length_map]; have := h.lo; omega) (by rw [List.length_map]; exact h.hi) hf
  have hr := anyD_range dl1 (b := ((ps.map dP).length : Nat)) (by rw [List.length_map]; have := h.lo; omega)
  have hk : 0 ≤ 1 + (anyD dl1 (ps.map dP).length).1 := by omega
  have hc := cut_to (qs.map dP) hk
  refine ⟨qs.take (1 + (anyD dl1 (ps.map dP).length).1).toNat, qs.drop (1 + (anyD dl1 (ps.map dP).length).1).toNat, (anyD dl1 (ps.map dP).length).2, by rw [List.take_append_drop]; exact hp, ?_, anyD_fine hf, ?_⟩
  · rw [List.length_take, hp.length_eq]
    have := h.lo
    omega
  · have hl : lenF [.d (heldD ps)] = some (.d (.int (ps.map dP).length)) := rfl
    have hs : ∀ k : Int, slF none (some k) (.d (heldD qs)) = some (.d (.list (cutL (qs.map dP) none (some k)))) := fun _ => rfl
    have ha' : F__law_any [.deal, .d (.int (ps.map dP).length)] (some dl1) = .ok (.d (.int (anyD dl1 (ps.map dP).length).1)) (some (anyD dl1 (ps.map dP).length).2) := ha
    have fin : PyData.list ((qs.map dP).take (1 + (anyD dl1 (ps.map dP).length).1).toNat) = heldD (qs.take (1 + (anyD dl1 (ps.map dP).length).1).toNat) := by
      unfold heldD
      rw [List.map_take]
    rw [← fin]
    generalize (ps.map dP).length = L at hl ha' hc ⊢
    simp [m_law_3, sg, M.bind, M.ret, M.st, mT, mOp, mVar, mK, use, keep, lft, boolOf, optM, mCB, useAll, mCons, mNil, mTup, mLst, mFz, keepD, mSeq, mRet, mIfS, mAnd, mOr, mNot, mAndV, mOrV, mNotV, mIfE, mCall, keepAll, runF, mAsg, aName, mNx, mChain, fnM, startR, isiF, isT, isTN, askT, tyN, gtF, ltF, leF, geF, cmpF, eqF, neF, eqOk, scalD, atF, addF, subF, mulF, fdivF, modF, mTru, truS, isF, asks, truD, isNoneD, isBoolD, mRaise, raiseM, oneD, List.replicate, allF, boolsOf, F_is_integer, F_great_divisor, F_is_share, F_is_sequence, mDrop, aTup, aCons, aNil, twoK, mPar, em, hl, ha', mSl, mNoP, mPart, intOf, hs, hc]
end
end K05
end
section
set_option maxRecDepth 100000
set_option maxHeartbeats 4000000
namespace K05
open PySem PySem.Spec DL
section
variable {a0 a2 a3 a4 a5 a6 a7 a8 a9 a10 a11 a12 a13 a14 a15 a16 a17 a18 a19 a20 a21 : Option Sl} {t : Option Deal} {dl : Deal}
theorem joined_fine {ps : List Pr} (h : Row ps) (hn : numP ps ≤ prodB ps) (t : Option Deal) : F_joined_shares [.d (heldD ps)] t = .ok (.d (.tuple [.int (sumL ps).1, .int (sumL ps).2])) t := by
  rw [joined_ok h rfl, if_neg (by have := sum_le h hn; omega)]
  rfl
theorem t_5 {ps : List Pr} (h : Row ps) (hn : numP ps ≤ prodB ps) : m_law_5 (sg a0 a2 a3 a4 a5 a6 a7 (some (.d (dP (sumL ps)))) (some (.d (heldD ps))) a10 a11 a12 a13 a14 a15 a16 a17 a18 a19 a20 a21) t = .ok .nx (sg a0 a2 a3 a4 a5 a6 a7 (some (.d (dP (sumL ps)))) (some (.d (heldD ps))) a10 a11 a12 a13 a14 a15 a16 a17 a18 a19 a20 a21) t := by
  have j := joined_fine h hn t
  generalize sumL ps = s at j ⊢
  have w : F_is_whole [.d (.tuple [.int s.1, .int s.2])] t = .ok (.d (.bool (s.1 == 1 && s.2 == 1))) t := by
    unfold F_is_whole wholeD
    simp [int_beq]
  have e : F__law_same [.d (.list [.tuple [.int s.1, .int s.2], .bool (s.1 == 1 && s.2 == 1)]), .d (.list [.tuple [.int s.1, .int s.2], .bool (s.1 == 1 && s.2 == 1)])] t = .ok (.d (.bool true)) t := same_refl (by simp [eqN, allO])
  have p1 := shaped_pair s.1 s.2
  have p2 := shaped_pair 1 1
  simp [m_law_5, sg, M.bind, M.ret, M.st, mT, mOp, mVar, mK, use, keep, lft, boolOf, optM, mCB, useAll, mCons, mNil, mTup, mLst, mFz, keepD, mSeq, mRet, mIfS, mAnd, mOr, mNot, mAndV, mOrV, mNotV, mIfE, mCall, keepAll, runF, mAsg, aName, mNx, mChain, fnM, startR, isiF, isT, isTN, askT, tyN, lenF, gtF, ltF, leF, geF, cmpF, eqF, neF, eqOk, scalD, atF, addF, subF, mulF, fdivF, modF, mTru, truS, isF, asks, truD, isNoneD, isBoolD, mRaise, raiseM, oneD, List.replicate, allF, boolsOf, F_is_integer, F_great_divisor, F_is_share, F_is_sequence, mDrop, aTup, aCons, aNil, twoK, mPar, dP, j, w, p1, p2, PyData.eqv, PyData.eqvAll, e]
end
end K05
end
section
set_option maxRecDepth 100000
set_option maxHeartbeats 4000000
namespace K05
open PySem PySem.Spec DL
section
variable {a0 a2 a3 a4 a5 a6 a7 a8 a9 a10 a11 a12 a13 a14 a15 a16 a17 a18 a19 a20 a21 : Option Sl} {t : Option Deal} {dl : Deal}
/-- what is left of the whole behind s -/
def leftD (s : Pr) : PyData := if s.1 = 1 ∧ s.2 = 1 then .none else dP (low (s.2 - s.1) s.2)
theorem t_6 {s : Pr} (h1 : s.1 ≤ s.2) (h2 : 0 < s.2) (hf : fits s.2) : m_law_6 (sg a0 a2 a3 a4 a5 a6 a7 (some (.d (dP s))) a9 a10 a11 a12 a13 a14 a15 a16 a17 a18 a19 a20 a21) t = .ok .nx (sg a0 a2 a3 a4 a5 a6 a7 (some (.d (dP s))) a9 a10 (some (.d (leftD s))) a12 a13 a14 a15 a16 a17 a18 a19 a20 a21) t := by
  have p1 := shaped_pair s.1 s.2
  have p2 := shaped_pair 1 1
  by_cases hc : s.1 = 1 ∧ s.2 = 1
  · obtain ⟨e1, e2⟩ := hc
    have p1' : SeqAt.shaped (.tuple [.int 1, .int 1]) = true := p2
    simp [m_law_6, sg, M.bind, M.ret, M.st, mT, mOp, mVar, mK, use, keep, lft, boolOf, optM, mCB, useAll, mCons, mNil, mTup, mLst, mFz, keepD, mSeq, mRet, mIfS, mAnd, mOr, mNot, mAndV, mOrV, mNotV, mIfE, mCall, keepAll, runF, mAsg, aName, mNx, mChain, fnM, startR, isiF, isT, isTN, askT, tyN, lenF, gtF, ltF, leF, geF, cmpF, eqF, neF, eqOk, scalD, atF, addF, subF, mulF, fdivF, modF, mTru, truS, isF, asks, truD, isNoneD, isBoolD, mRaise, raiseM, oneD, List.replicate, allF, boolsOf, F_is_integer, F_great_divisor, F_is_share, F_is_sequence, mDrop, aTup, aCons, aNil, twoK, mPar, dP, e1, e2, p2, PyData.eqv, PyData.eqvAll, leftD]
  · have hb : (s.1 == 1 && s.2 == 1) = false := by
      cases hx : (s.1 == 1 && s.2 == 1) with
      | false => rfl
      | true =>
        rw [Bool.and_eq_true, beq_iff_eq, beq_iff_eq] at hx
        exact absurd hx hc
    have e : F__law_lowest [.d (.int (s.2 - s.1)), .d (.int s.2)] t = .ok (.d (dP (low (s.2 - s.1) s.2))) t := if_pos ⟨by omega, h2, hf⟩
    simp only [leftD, if_neg hc]
    simp [m_law_6, sg, M.bind, M.ret, M.st, mT, mOp, mVar, mK, use, keep, lft, boolOf, optM, mCB, useAll, mCons, mNil, mTup, mLst, mFz, keepD, mSeq, mRet, mIfS, mAnd, mOr, mNot, mAndV, mOrV, mNotV, mIfE, mCall, keepAll, runF, mAsg, aName, mNx, mChain, fnM, startR, isiF, isT, isTN, askT, tyN, lenF, gtF, ltF, leF, geF, cmpF, eqF, neF, eqOk, scalD, atF, addF, subF, mulF, fdivF, modF, mTru, truS, isF, asks, truD, isNoneD, isBoolD, mRaise, raiseM, oneD, List.replicate, allF, boolsOf, F_is_integer, F_great_divisor, F_is_share, F_is_sequence, mDrop, aTup, aCons, aNil, twoK, mPar, dP, p1, p2, PyData.eqv, PyData.eqvAll, hb, L2.atI, L2.ixN, e]
end
end K05
end
section
set_option maxRecDepth 100000
set_option maxHeartbeats 4000000
namespace K05
open PySem PySem.Spec DL
section
variable {a0 a2 a3 a4 a5 a6 a7 a8 a9 a10 a11 a12 a13 a14 a15 a16 a17 a18 a19 a20 a21 : Option Sl} {t : Option Deal} {dl : Deal}
theorem any_c {dl : Deal} (n : Nat) (h0 : 0 < n) (h1 : n ≤ 1000) (hf : fineD dl) : F__law_any [.deal, .d (.int (n : Int))] (some dl) = .ok (.d (.int (anyD dl n).1)) (some (anyD dl n).2) := any_call h0 h1 hf
/-- more = a share of at most one -/
theorem t_8 (hd : fineD dl) : ∃ (p : Pr) (dl' : Deal), okP p ∧ p.2 ≤ 98 ∧ fineD dl' ∧ m_law_8 (sg a0 a2 a3 a4 a5 a6 a7 a8 a9 a10 a11 a12 a13 a14 a15 a16 a17 a18 a19 a20 a21) (some dl) = .ok .nx (sg a0 a2 a3 (some (.d (dP p))) a5 a6 a7 a8 a9 a10 a11 a12 a13 a14 a15 a16 a17 a18 a19 a20 a21) (some dl') := by
  have e1 := any_c (dl := dl) 9 (by decide) (by decide) hd
  have r1 := anyD_range dl (b := 9) (by decide)
  have hd1 := anyD_fine (b := 9) hd
  have e2 := any_c (dl := (anyD dl 9).2) 90 (by decide) (by decide) hd1
  have r2 := anyD_range (anyD dl 9).2 (b := 90) (by decide)
  have e1' : F__law_any [.deal, .d (.int 9)] (some dl) = .ok (.d (.int (anyD dl 9).1)) (some (anyD dl 9).2) := e1
  have e2' : F__law_any [.deal, .d (.int 90)] (some (anyD dl 9).2) = .ok (.d (.int (anyD (anyD dl 9).2 90).1)) (some (anyD (anyD dl 9).2 90).2) := e2
  have hd2 := anyD_fine (b := 90) hd1
  generalize (anyD (anyD dl 9).2 90).2 = d2 at e2' hd2
  generalize (anyD (anyD dl 9).2 90).1 = y at e2' r2
  generalize (anyD dl 9).2 = d1 at e1' e2'
  generalize (anyD dl 9).1 = x at e1' r1
  have hb : fits (9 + y) := by
    unfold fits
    have : (9 + y).natAbs < 2 ^ 10 := by omega
    exact Nat.lt_of_lt_of_le this (Nat.pow_le_pow_right (by decide) (by decide))
  have e3 : F__law_lowest [.d (.int (1 + x)), .d (.int (9 + y))] (some d2) = .ok (.d (dP (low (1 + x) (9 + y)))) (some d2) := if_pos ⟨by omega, by omega, hb⟩
  refine ⟨low (1 + x) (9 + y), d2, okP_low (by omega) (by omega), ?_, hd2, ?_⟩
  · have := (low_le (a := 1 + x) (b := 9 + y) (by omega) (by omega)).1
    omega
  · simp [m_law_8, sg, M.bind, M.ret, M.st, mT, mOp, mVar, mK, use, keep, lft, boolOf, optM, mCB, useAll, mCons, mNil, mTup, mLst, mFz, keepD, mSeq, mRet, mIfS, mAnd, mOr, mNot, mAndV, mOrV, mNotV, mIfE, mCall, keepAll, runF, mAsg, aName, mNx, mChain, fnM, startR, isiF, isT, isTN, askT, tyN, lenF, gtF, ltF, leF, geF, cmpF, eqF, neF, eqOk, scalD, atF, addF, subF, mulF, fdivF, modF, mTru, truS, isF, asks, truD, isNoneD, isBoolD, mRaise, raiseM, oneD, List.replicate, allF, boolsOf, F_is_integer, F_great_divisor, F_is_share, F_is_sequence, mDrop, aTup, aCons, aNil, twoK, mPar, e1', e2', e3]
end
end K05
end
section
set_option maxRecDepth 100000
set_option maxHeartbeats 4000000
namespace K05
open PySem PySem.Spec DL
section
variable {a0 a2 a3 a4 a5 a6 a7 a8 a9 a10 a11 a12 a13 a14 a15 a16 a17 a18 a19 a20 a21 : Option Sl} {t : Option Deal} {dl : Deal}
theorem t_10 {s : Pr} : m_law_10 (sg a0 a2 a3 a4 a5 a6 a7 a8 a9 a10 a11 (some (.d (dP s))) a13 a14 a15 a16 a17 a18 a19 a20 a21) t = .ok .nx (sg a0 a2 a3 a4 a5 a6 a7 a8 a9 a10 a11 (some (.d (dP s))) (some (.d (.bool (decide (s.1 ≤ s.2))))) a14 a15 a16 a17 a18 a19 a20 a21) t := by
  simp [m_law_10, sg, M.bind, M.ret, M.st, mT, mOp, mVar, mK, use, keep, lft, boolOf, optM, mCB, useAll, mCons, mNil, mTup, mLst, mFz, keepD, mSeq, mRet, mIfS, mAnd, mOr, mNot, mAndV, mOrV, mNotV, mIfE, mCall, keepAll, runF, mAsg, aName, mNx, mChain, fnM, startR, isiF, isT, isTN, askT, tyN, lenF, gtF, ltF, leF, geF, cmpF, eqF, neF, eqOk, scalD, atF, addF, subF, mulF, fdivF, modF, mTru, truS, isF, asks, truD, isNoneD, isBoolD, mRaise, raiseM, oneD, List.replicate, allF, boolsOf, F_is_integer, F_great_divisor, F_is_share, F_is_sequence, mDrop, aTup, aCons, aNil, twoK, mPar, dP, L2.atI, L2.ixN]
theorem t_9 {ps : List Pr} {p : Pr} (h : Row (ps ++ [p])) : m_law_9 (sg a0 a2 a3 (some (.d (dP p))) a5 a6 a7 a8 (some (.d (heldD ps))) a10 a11 a12 a13 a14 a15 a16 a17 a18 a19 a20 a21) t = .ok .nx (sg a0 a2 a3 (some (.d (dP p))) a5 a6 a7 a8 (some (.d (heldD ps))) a10 a11 (some (.d (dP (sumL (ps ++ [p]))))) a13 a14 a15 a16 a17 a18 a19 a20 a21) t := by
  have e : F__law_sum [.d (.list (ps.map dP ++ [dP p]))] t = .ok (.d (dP (sumL (ps ++ [p])))) t := by
    have em : ps.map dP ++ [dP p] = (ps ++ [p]).map dP := by simp
    unfold F__law_sum
    simp only [em, seqD, unL_map h.ok, if_pos (And.intro h.ft h.hi)]
  have ea : addF (.d (heldD ps)) (.d (.list [dP p])) = some (.d (.list (ps.map dP ++ [dP p]))) := by
    have hl : (ps.map dP).length + [dP p].length ≤ 16777216 := by
      have := h.hi
      simp at this ⊢
      omega
    unfold addF heldD
    simp only
    rw [if_pos hl]
  simp [m_law_9, sg, M.bind, M.ret, M.st, mT, mOp, mVar, mK, use, keep, lft, boolOf, optM, mCB, useAll, mCons, mNil, mTup, mLst, mFz, keepD, mSeq, mRet, mIfS, mAnd, mOr, mNot, mAndV, mOrV, mNotV, mIfE, mCall, keepAll, runF, mAsg, aName, mNx, mChain, fnM, startR, isiF, isT, isTN, askT, tyN, lenF, gtF, ltF, leF, geF, cmpF, eqF, neF, eqOk, scalD, atF, subF, mulF, fdivF, modF, mTru, truS, isF, asks, truD, isNoneD, isBoolD, mRaise, raiseM, oneD, List.replicate, allF, boolsOf, F_is_integer, F_great_divisor, F_is_share, F_is_sequence, mDrop, aTup, aCons, aNil, twoK, mPar, ea, e]
end
end K05
end
section
set_option maxRecDepth 100000
set_option maxHeartbeats 4000000
namespace K05
open PySem PySem.Spec DL
theorem low_gcd {a b : Int} (ha : 0 ≤ a) (hb : 0 < b) : Int.gcd (low a b).1 (low a b).2 = 1 := by
  have g0 := gcd_pos (a := a) hb
  obtain ⟨_, _, _, e1, e2⟩ := low_le ha hb
  have h : ((Int.gcd ((low a b).1 * (Int.gcd a b : Int)) ((low a b).2 * (Int.gcd a b : Int)) : Nat) : Int) = Int.gcd a b := by rw [e1, e2]
  have h2 : Int.gcd ((low a b).1 * (Int.gcd a b : Int)) ((low a b).2 * (Int.gcd a b : Int)) = Int.gcd (low a b).1 (low a b).2 * Int.gcd a b := by
    rw [Int.gcd_mul_right]
    rfl
  have h3 : Int.gcd (low a b).1 (low a b).2 * Int.gcd a b = 1 * Int.gcd a b := by
    rw [← h2, Nat.one_mul]
    exact_mod_cast h
  exact Nat.eq_of_mul_eq_mul_right (by omega) h3
theorem sum_gcd {ps : List Pr} (h : Row ps) : Int.gcd (sumL ps).1 (sumL ps).2 = 1 := by
  rw [sumL_eq h.ok]
  exact low_gcd (numP_nn h.ok) (prodB_pos h.ok)
/-- what is left of the whole -/
theorem left_ok {ps : List Pr} (h : Row ps) (hn : numP ps ≤ prodB ps) (t : Option Deal) : F_what_is_left [.d (.tuple [.int 1, .int 1]), .d (heldD ps)] t = .ok (.d (leftD (sumL ps))) t := by
  have hl : (ps.map dP).length ≤ 1000 := by rw [List.length_map]; exact h.hi
  have u : unS (.tuple [.int 1, .int 1]) = some one := by decide
  have f1 : fits one.2 := by decide
  have le := sum_le h hn
  have sm := sumL_sm h.ok
  unfold F_what_is_left
  simp only [u, heldD, seqD, if_pos hl, unL_map h.ok, if_pos (And.intro h.ft f1)]
  have e : one.1 * (sumL ps).2 - (sumL ps).1 * one.2 = (sumL ps).2 - (sumL ps).1 := by
    show 1 * (sumL ps).2 - (sumL ps).1 * 1 = _
    omega
  have e2 : one.2 * (sumL ps).2 = (sumL ps).2 := by
    show 1 * (sumL ps).2 = _
    omega
  rw [e, e2, if_neg (by omega)]
  unfold leftD
  by_cases z : (sumL ps).2 - (sumL ps).1 = 0
  · rw [if_pos z]
    have g := sum_gcd h
    have e3 : (sumL ps).1 = (sumL ps).2 := by omega
    rw [e3, Int.gcd_self] at g
    have b0 := sm.b0
    rw [if_pos ⟨by omega, by omega⟩]
  · rw [if_neg z, if_neg (by intro q; omega)]
end K05
end
section
set_option maxRecDepth 100000
set_option maxHeartbeats 4000000
namespace K05
open PySem PySem.Spec DL

section
variable {a0 a2 a3 a4 a5 a6 a7 a8 a9 a10 a11 a12 a13 a14 a15 a16 a17 a18 a19 a20 a21 : Option Sl} {t : Option Deal} {dl : Deal}
theorem left_none (t : Option Deal) : F_what_is_left [.d (.tuple [.int 1, .int 1]), .d (.tuple [])] t = .ok (.d (.tuple [.int 1, .int 1])) t := by
  have u : unS (.tuple [.int 1, .int 1]) = some one := by decide
  have f1 : fits (prodB []) ∧ fits one.2 := by decide +kernel
  have l1 : low (one.1 * (sumL []).2 - (sumL []).1 * one.2) (one.2 * (sumL []).2) = one := by decide +kernel
  have n1 : ¬ (one.1 * (sumL []).2 - (sumL []).1 * one.2 < 0) := by decide +kernel
  have n2 : ¬ (one.1 * (sumL []).2 - (sumL []).1 * one.2 = 0) := by decide +kernel
  unfold F_what_is_left
  simp only [u, seqD, unL, List.length_nil, Nat.zero_le, if_true, if_pos f1, if_neg n1, if_neg n2, l1]
  rfl
theorem left_same (s : Pr) : eqN 8 (.list [leftD s, .tuple [.int 1, .int 1]]) (.list [leftD s, .tuple [.int 1, .int 1]]) = some true := by
  unfold leftD
  split <;> simp [eqN, allO, dP]
theorem t_7 {ps : List Pr} (h : Row ps) (hn : numP ps ≤ prodB ps) : m_law_7 (sg a0 a2 a3 a4 a5 a6 a7 a8 (some (.d (heldD ps))) a10 (some (.d (leftD (sumL ps)))) a12 a13 a14 a15 a16 a17 a18 a19 a20 a21) t = .ok .nx (sg a0 a2 a3 a4 a5 a6 a7 a8 (some (.d (heldD ps))) a10 (some (.d (leftD (sumL ps)))) a12 a13 a14 a15 a16 a17 a18 a19 a20 a21) t := by
  have w1 := left_ok h hn t
  have w2 := left_none t
  have e := same_refl (t := t) (left_same (sumL ps))
  simp [m_law_7, sg, M.bind, M.ret, M.st, mT, mOp, mVar, mK, use, keep, lft, boolOf, optM, mCB, useAll, mCons, mNil, mTup, mLst, mFz, keepD, mSeq, mRet, mIfS, mAnd, mOr, mNot, mAndV, mOrV, mNotV, mIfE, mCall, keepAll, runF, mAsg, aName, mNx, mChain, fnM, startR, isiF, isT, isTN, askT, tyN, lenF, gtF, ltF, leF, geF, cmpF, eqF, neF, eqOk, scalD, atF, addF, subF, mulF, fdivF, modF, mTru, truS, isF, asks, truD, isNoneD, isBoolD, mRaise, raiseM, oneD, List.replicate, allF, boolsOf, F_is_integer, F_great_divisor, F_is_share, F_is_sequence, mDrop, aTup, aCons, aNil, twoK, mPar, w1, w2, e]
end
end K05
end
section
set_option maxRecDepth 100000
set_option maxHeartbeats 4000000
namespace K05
open PySem PySem.Spec DL

section
variable {a0 a2 a3 a4 a5 a6 a7 a8 a9 a10 a11 a12 a13 a14 a15 a16 a17 a18 a19 a20 a21 : Option Sl} {t : Option Deal} {dl : Deal}
theorem sum_gt' {ps : List Pr} (h : Row ps) (hn : prodB ps < numP ps) : (sumL ps).2 - (sumL ps).1 < 0 := by have := sum_gt h hn; omega
theorem nn_le {ps : List Pr} (h : Row ps) : (sumL ps).1 ≤ (sumL ps).2 ↔ numP ps ≤ prodB ps := by
  constructor
  · intro q
    by_cases z : numP ps ≤ prodB ps
    · exact z
    · have := sum_gt h (by omega)
      omega
  · exact sum_le h
theorem add_one {ps : List Pr} {p : Pr} (h : Row (ps ++ [p])) : addF (.d (heldD ps)) (.d (.list [dP p])) = some (.d (heldD (ps ++ [p]))) := by
  have hl : (ps.map dP).length + [dP p].length ≤ 16777216 := by
    have := h.hi
    simp at this ⊢
    omega
  have em : ps.map dP ++ [dP p] = (ps ++ [p]).map dP := by simp
  unfold addF heldD
  simp only
  rw [if_pos hl, em]
theorem dp_eta (p : Pr) : dP p = .tuple [.int p.1, .int p.2] := rfl
theorem same_told (s : Pr) (t : Option Deal) : F__law_same [.d (.tuple [.str "told", dP s]), .d (.tuple [.str "told", dP s])] t = .ok (.d (.bool true)) t := same_refl (by simp [eqN, allO, dP])
theorem same_ref (t : Option Deal) : F__law_same [.d (.tuple [.str "refused", .int 0]), .d (.tuple [.str "refused", .int 0])] t = .ok (.d (.bool true)) t := same_refl (by simp [eqN, allO])
theorem lk_r : heardWs.lookup (Str.ofString "Refused") = some (Str.ofString "refused") := by decide +kernel
theorem lk_q : heardWs.lookup (Str.ofString "InvalidQuestion") = some (Str.ofString "question") := by decide +kernel
theorem t_11 {ps : List Pr} {p : Pr} (h : Row (ps ++ [p])) : m_law_11 (sg a0 a2 a3 (some (.d (dP p))) a5 a6 a7 a8 (some (.d (heldD ps))) a10 a11 (some (.d (dP (sumL (ps ++ [p]))))) (some (.d (.bool (decide ((sumL (ps ++ [p])).1 ≤ (sumL (ps ++ [p])).2))))) a14 a15 a16 a17 a18 a19 a20 a21) t = .ok .nx (sg a0 a2 a3 (some (.d (dP p))) a5 a6 a7 a8 (some (.d (heldD ps))) a10 a11 (some (.d (dP (sumL (ps ++ [p]))))) (some (.d (.bool (decide ((sumL (ps ++ [p])).1 ≤ (sumL (ps ++ [p])).2))))) a14 a15 a16 a17 a18 a19 a20 a21) t := by
  have ea := add_one h
  have j := joined_ok h (v := heldD (ps ++ [p])) rfl t
  generalize sumL (ps ++ [p]) = s at j ⊢
  have st := same_told s t
  have sr := same_ref t
  by_cases hc : s.1 ≤ s.2
  · rw [if_neg (by omega)] at j
    simp [m_law_11, sg, M.bind, M.ret, M.st, mT, mOp, mVar, mK, use, keep, lft, boolOf, optM, mCB, useAll, mCons, mNil, mTup, mLst, mFz, keepD, mSeq, mRet, mIfS, mAnd, mOr, mNot, mAndV, mOrV, mNotV, mIfE, mCall, keepAll, runF, mAsg, aName, mNx, mChain, fnM, startR, isiF, isT, isTN, askT, tyN, lenF, gtF, ltF, leF, geF, cmpF, eqF, neF, eqOk, scalD, atF, subF, mulF, fdivF, modF, mTru, truS, isF, asks, truD, isNoneD, isBoolD, mRaise, raiseM, oneD, List.replicate, allF, boolsOf, F_is_integer, F_great_divisor, F_is_share, F_is_sequence, mDrop, aTup, aCons, aNil, twoK, mPar, mHeard, wipeR, heardK, ea, j, hc, st]
  · rw [if_pos (by omega)] at j
    simp [m_law_11, sg, M.bind, M.ret, M.st, mT, mOp, mVar, mK, use, keep, lft, boolOf, optM, mCB, useAll, mCons, mNil, mTup, mLst, mFz, keepD, mSeq, mRet, mIfS, mAnd, mOr, mNot, mAndV, mOrV, mNotV, mIfE, mCall, keepAll, runF, mAsg, aName, mNx, mChain, fnM, startR, isiF, isT, isTN, askT, tyN, lenF, gtF, ltF, leF, geF, cmpF, eqF, neF, eqOk, scalD, atF, subF, mulF, fdivF, modF, mTru, truS, isF, asks, truD, isNoneD, isBoolD, mRaise, raiseM, oneD, List.replicate, allF, boolsOf, F_is_integer, F_great_divisor, F_is_share, F_is_sequence, mDrop, aTup, aCons, aNil, twoK, mPar, mHeard, wipeR, heardK, ea, j, hc, lk_r, sr]
theorem t_12 {ps : List Pr} {p : Pr} (h : Row (ps ++ [p])) : m_law_12 (sg a0 a2 a3 (some (.d (dP p))) a5 a6 a7 a8 (some (.d (heldD ps))) a10 a11 a12 (some (.d (.bool (decide ((sumL (ps ++ [p])).1 ≤ (sumL (ps ++ [p])).2))))) a14 a15 a16 a17 a18 a19 a20 a21) t = .ok .nx (sg a0 a2 a3 (some (.d (dP p))) a5 a6 a7 a8 (some (.d (heldD ps))) a10 a11 a12 (some (.d (.bool (decide ((sumL (ps ++ [p])).1 ≤ (sumL (ps ++ [p])).2))))) a14 a15 a16 a17 a18 a19 a20 a21) t := by
  have ea := add_one h
  have sr := same_ref t
  by_cases hc : (sumL (ps ++ [p])).1 ≤ (sumL (ps ++ [p])).2
  · simp [m_law_12, sg, M.bind, M.ret, M.st, mT, mOp, mVar, mK, use, keep, lft, boolOf, optM, mCB, useAll, mCons, mNil, mTup, mLst, mFz, keepD, mSeq, mRet, mIfS, mAnd, mOr, mNot, mAndV, mOrV, mNotV, mIfE, mCall, keepAll, runF, mAsg, aName, mNx, mChain, fnM, startR, isiF, isT, isTN, askT, tyN, lenF, gtF, ltF, leF, geF, cmpF, eqF, neF, eqOk, scalD, atF, subF, mulF, fdivF, modF, mTru, truS, isF, asks, truD, isNoneD, isBoolD, mRaise, raiseM, oneD, List.replicate, allF, boolsOf, F_is_integer, F_great_divisor, F_is_share, F_is_sequence, mDrop, aTup, aCons, aNil, twoK, mPar, hc]
  · have w : F_what_is_left [.d (.tuple [.int 1, .int 1]), .d (heldD (ps ++ [p]))] t = .ex "Refused" (.int 0) t := by
      have hl : ((ps ++ [p]).map dP).length ≤ 1000 := by rw [List.length_map]; exact h.hi
      have u : unS (.tuple [.int 1, .int 1]) = some one := by decide
      have f1 : fits one.2 := by decide +kernel
      unfold F_what_is_left
      simp only [u, heldD, seqD, if_pos hl, unL_map h.ok, if_pos (And.intro h.ft f1)]
      have e : one.1 * (sumL (ps ++ [p])).2 - (sumL (ps ++ [p])).1 * one.2 = (sumL (ps ++ [p])).2 - (sumL (ps ++ [p])).1 := by
        show 1 * (sumL (ps ++ [p])).2 - (sumL (ps ++ [p])).1 * 1 = _
        omega
      rw [e, if_pos (by omega)]
    simp [m_law_12, sg, M.bind, M.ret, M.st, mT, mOp, mVar, mK, use, keep, lft, boolOf, optM, mCB, useAll, mCons, mNil, mTup, mLst, mFz, keepD, mSeq, mRet, mIfS, mAnd, mOr, mNot, mAndV, mOrV, mNotV, mIfE, mCall, keepAll, runF, mAsg, aName, mNx, mChain, fnM, startR, isiF, isT, isTN, askT, tyN, lenF, gtF, ltF, leF, geF, cmpF, eqF, neF, eqOk, scalD, atF, subF, mulF, fdivF, modF, mTru, truS, isF, asks, truD, isNoneD, isBoolD, mRaise, raiseM, oneD, List.replicate, allF, boolsOf, F_is_integer, F_great_divisor, F_is_share, F_is_sequence, mDrop, aTup, aCons, aNil, twoK, mPar, mHeard, wipeR, heardK, ea, hc, w, lk_r, sr]
end
end K05
end
section
set_option maxRecDepth 100000
set_option maxHeartbeats 4000000
namespace K05
open PySem PySem.Spec DL

section
variable {a0 a2 a3 a4 a5 a6 a7 a8 a9 a10 a11 a12 a13 a14 a15 a16 a17 a18 a19 a20 a21 : Option Sl} {t : Option Deal} {dl : Deal}
/-- the values that are tried -/
def valsL (p s : Pr) : List PyData := [.tuple [.int 1, .int 1], .tuple [.int 2, .int 4], .tuple [.int 0, .int 1], .tuple [.int 3, .int 2], .tuple [.int 1, .int 2], .tuple [.int 1, .int (10 ^ 30)], .tuple [.bool true, .int 1], .tuple [.int 1], .list [.int 1, .int 2], .none, .tuple [.int 1, .int 2, .int 3], .tuple [.int (-1), .int 2], .tuple [.int 1, .int 0], dP p, dP s]
theorem pow30 : powF (.d (.int 10)) (.d (.int 30)) = some (.d (.int (10 ^ 30))) := rfl
theorem t_13 {p s : Pr} : m_law_13 (sg a0 a2 a3 (some (.d (dP p))) a5 a6 a7 (some (.d (dP s))) a9 a10 a11 a12 a13 a14 a15 a16 a17 a18 a19 a20 a21) t = .ok .nx (sg a0 a2 a3 (some (.d (dP p))) a5 a6 a7 (some (.d (dP s))) a9 a10 a11 a12 a13 (some (.d (.list (valsL p s)))) a15 a16 a17 a18 a19 a20 a21) t := by
  simp [m_law_13, sg, M.bind, M.ret, M.st, mT, mOp, mVar, mK, use, keep, lft, boolOf, optM, mCB, useAll, mCons, mNil, mTup, mLst, mFz, keepD, mSeq, mRet, mIfS, mAnd, mOr, mNot, mAndV, mOrV, mNotV, mIfE, mCall, keepAll, runF, mAsg, aName, mNx, mChain, fnM, startR, isiF, isT, isTN, askT, tyN, lenF, gtF, ltF, leF, geF, cmpF, eqF, neF, eqOk, scalD, atF, addF, subF, mulF, fdivF, modF, mTru, truS, isF, asks, truD, isNoneD, isBoolD, mRaise, raiseM, oneD, List.replicate, allF, boolsOf, F_is_integer, F_great_divisor, F_is_share, F_is_sequence, mDrop, aTup, aCons, aNil, twoK, mPar, pow30, valsL]
theorem vals_fine {p s : Pr} (hp1 : fits p.1) (hp2 : fits p.2) (hs1 : fits s.1) (hs2 : fits s.2) : ∀ v ∈ valsL p s, fineV v = true := by
  have f : ∀ v ∈ [PyData.tuple [.int 1, .int 1], .tuple [.int 2, .int 4], .tuple [.int 0, .int 1], .tuple [.int 3, .int 2], .tuple [.int 1, .int 2], .tuple [.int 1, .int (10 ^ 30)], .tuple [.bool true, .int 1], .tuple [.int 1], .list [.int 1, .int 2], .none, .tuple [.int 1, .int 2, .int 3], .tuple [.int (-1), .int 2], .tuple [.int 1, .int 0]], fineV v = true := by
    rw [← List.all_eq_true]
    decide +kernel
  intro v hv
  have e : valsL p s = [PyData.tuple [.int 1, .int 1], .tuple [.int 2, .int 4], .tuple [.int 0, .int 1], .tuple [.int 3, .int 2], .tuple [.int 1, .int 2], .tuple [.int 1, .int (10 ^ 30)], .tuple [.bool true, .int 1], .tuple [.int 1], .list [.int 1, .int 2], .none, .tuple [.int 1, .int 2, .int 3], .tuple [.int (-1), .int 2], .tuple [.int 1, .int 0]] ++ [dP p, dP s] := rfl
  rw [e, List.mem_append] at hv
  rcases hv with hv | hv
  · exact f v hv
  · rcases List.mem_cons.mp hv with rfl | hv
    · simp [fineV, dP, flatV, hp1, hp2]
    · rw [List.mem_singleton.mp hv]
      simp [fineV, dP, flatV, hs1, hs2]
noncomputable def body14 : M Fl := (mIfS (mNot (mTru (mCall 2 F__law_same (mCons (mFz (mLst (mCons (mCall 1 F_is_share (mCons (mVar [7] 15) mNil)) (mCons (mCall 1 F_is_whole (mCons (mVar [7] 15) mNil)) mNil)))) (mCons (mFz (mLst (mCons (mCall 1 F__law_is_share (mCons (mVar [7] 15) mNil)) (mCons (mAndV (mCall 1 F__law_is_share (mCons (mVar [7] 15) mNil)) (mOp eqF (mVar [7] 15) (mTup (mCons (mK (.d (.int 1))) (mCons (mK (.d (.int 1))) mNil))))) mNil)))) mNil))))) (mRet (mK (.d (.bool false)))) mNx)
theorem bls_same (b c : Bool) (t : Option Deal) : F__law_same [.d (.list [.bool b, .bool c]), .d (.list [.bool b, .bool c])] t = .ok (.d (.bool true)) t := same_refl (by cases b <;> cases c <;> decide +kernel)
theorem sh_pair {v : PyData} (h : shareD v = true) : ∃ a b : Int, v = .tuple [.int a, .int b] := by
  unfold shareD unS at h
  split at h
  · exact ⟨_, _, rfl⟩
  · cases h
theorem whole_no {v : PyData} (h : shareD v = false) : wholeD v = false := by
  unfold wholeD
  split
  · rename_i a b
    rw [decide_eq_false_iff_not]
    rintro ⟨rfl, rfl⟩
    have : shareD (.tuple [.int 1, .int 1]) = true := by decide +kernel
    rw [this] at h
    cases h
  · rfl
theorem b14 {v : PyData} (h : fineV v = true) : body14 (sg a0 a2 a3 a4 a5 a6 a7 a8 a9 a10 a11 a12 a13 a14 (some (.d v)) a16 a17 a18 a19 a20 a21) t = .ok .nx (sg a0 a2 a3 a4 a5 a6 a7 a8 a9 a10 a11 a12 a13 a14 (some (.d v)) a16 a17 a18 a19 a20 a21) t := by
  have e1 : F__law_is_share [.d v] t = .ok (.d (.bool (shareD v))) t := if_pos h
  have e2 : F_is_share [.d v] t = .ok (.d (.bool (shareD v))) t := rfl
  have e3 : F_is_whole [.d v] t = .ok (.d (.bool (wholeD v))) t := rfl
  cases hs : shareD v with
  | false =>
    rw [hs] at e1 e2
    rw [whole_no hs] at e3
    have sm := bls_same false false t
    simp [body14, sg, M.bind, M.ret, M.st, mT, mOp, mVar, mK, use, keep, lft, boolOf, optM, mCB, useAll, mCons, mNil, mTup, mLst, mFz, keepD, mSeq, mRet, mIfS, mAnd, mOr, mNot, mAndV, mOrV, mNotV, mIfE, mCall, keepAll, runF, mAsg, aName, mNx, mChain, fnM, startR, isiF, isT, isTN, askT, tyN, lenF, gtF, ltF, leF, geF, cmpF, eqF, neF, eqOk, scalD, atF, addF, subF, mulF, fdivF, modF, mTru, truS, isF, asks, truD, isNoneD, isBoolD, mRaise, raiseM, oneD, List.replicate, allF, boolsOf, mDrop, aTup, aCons, aNil, twoK, mPar, e1, e2, e3, sm]
  | true =>
    obtain ⟨a, b, rfl⟩ := sh_pair hs
    rw [hs] at e1 e2
    have p1 := shaped_pair a b
    have p2 := shaped_pair 1 1
    have ew : wholeD (.tuple [.int a, .int b]) = (a == 1 && b == 1) := by
      unfold wholeD
      simp [int_beq]
    rw [ew] at e3
    have sm := bls_same true (a == 1 && b == 1) t
    simp [body14, sg, M.bind, M.ret, M.st, mT, mOp, mVar, mK, use, keep, lft, boolOf, optM, mCB, useAll, mCons, mNil, mTup, mLst, mFz, keepD, mSeq, mRet, mIfS, mAnd, mOr, mNot, mAndV, mOrV, mNotV, mIfE, mCall, keepAll, runF, mAsg, aName, mNx, mChain, fnM, startR, isiF, isT, isTN, askT, tyN, lenF, gtF, ltF, leF, geF, cmpF, eqF, neF, eqOk, scalD, atF, addF, subF, mulF, fdivF, modF, mTru, truS, isF, asks, truD, isNoneD, isBoolD, mRaise, raiseM, oneD, List.replicate, allF, boolsOf, mDrop, aTup, aCons, aNil, twoK, mPar, e1, e2, e3, sm, p1, p2, PyData.eqv, PyData.eqvAll]
theorem for14 : ∀ (vs : List PyData) (a15 : Option Sl), (∀ v ∈ vs, fineV v = true) → ∃ b15, forL (aName 15) body14 (vs.map .d) (sg a0 a2 a3 a4 a5 a6 a7 a8 a9 a10 a11 a12 a13 a14 a15 a16 a17 a18 a19 a20 a21) t = .ok .nx (sg a0 a2 a3 a4 a5 a6 a7 a8 a9 a10 a11 a12 a13 a14 b15 a16 a17 a18 a19 a20 a21) t
  | [], a15, _ => ⟨a15, rfl⟩
  | v :: vs, a15, h => by
    obtain ⟨b15, e⟩ := for14 vs (some (.d v)) fun w hw => h w (List.mem_cons_of_mem _ hw)
    refine ⟨b15, ?_⟩
    have e1 : aName 15 (.d v) (sg a0 a2 a3 a4 a5 a6 a7 a8 a9 a10 a11 a12 a13 a14 a15 a16 a17 a18 a19 a20 a21) t = .ok () (sg a0 a2 a3 a4 a5 a6 a7 a8 a9 a10 a11 a12 a13 a14 (some (.d v)) a16 a17 a18 a19 a20 a21) t := rfl
    have e2 := b14 (a0 := a0) (a2 := a2) (a3 := a3) (a4 := a4) (a5 := a5) (a6 := a6) (a7 := a7) (a8 := a8) (a9 := a9) (a10 := a10) (a11 := a11) (a12 := a12) (a13 := a13) (a14 := a14) (a16 := a16) (a17 := a17) (a18 := a18) (a19 := a19) (a20 := a20) (a21 := a21) (t := t) (h v List.mem_cons_self)
    rw [List.map_cons]
    unfold forL
    unfold M.bind
    rw [e1]
    simp only
    rw [e2]
    simp only
    exact e
theorem t_14 {vs : List PyData} (h : ∀ v ∈ vs, fineV v = true) : ∃ b15, m_law_14 (sg a0 a2 a3 a4 a5 a6 a7 a8 a9 a10 a11 a12 a13 (some (.d (.list vs))) a15 a16 a17 a18 a19 a20 a21) t = .ok .nx (sg a0 a2 a3 a4 a5 a6 a7 a8 a9 a10 a11 a12 a13 (some (.d (.list vs))) b15 a16 a17 a18 a19 a20 a21) t := by
  obtain ⟨b15, e⟩ := for14 (a0 := a0) (a2 := a2) (a3 := a3) (a4 := a4) (a5 := a5) (a6 := a6) (a7 := a7) (a8 := a8) (a9 := a9) (a10 := a10) (a11 := a11) (a12 := a12) (a13 := a13) (a14 := some (.d (.list vs))) (a16 := a16) (a17 := a17) (a18 := a18) (a19 := a19) (a20 := a20) (a21 := a21) (t := t) vs a15 h
  refine ⟨b15, ?_⟩
  rw [← e]
  rfl
end
end K05
end
section
set_option maxRecDepth 100000
set_option maxHeartbeats 4000000
namespace K05
open PySem PySem.Spec DL

section
variable {a0 a2 a3 a4 a5 a6 a7 a8 a9 a10 a11 a12 a13 a14 a15 a16 a17 a18 a19 a20 a21 : Option Sl} {t : Option Deal} {dl : Deal}
theorem of_ok {vs : List PyData} (h0 : vs ≠ []) (h1 : vs.length ≤ 1000) (hd : fineD dl) : ∃ v dl', v ∈ vs ∧ fineD dl' ∧ F__law_of [.deal, .d (.list vs)] (some dl) = .ok (.d v) (some dl') := by
  have hpos : 0 < vs.length := List.length_pos_iff.mpr h0
  have hr := anyD_range dl (b := (vs.length : Nat)) (by omega)
  have hi : (anyD dl vs.length).1.toNat < vs.length := by omega
  refine ⟨vs[(anyD dl vs.length).1.toNat], (anyD dl vs.length).2, List.getElem_mem hi, anyD_fine hd, ?_⟩
  unfold F__law_of
  simp only
  rw [if_pos ⟨h0, h1, hd⟩, List.getElem?_eq_getElem hi]
def rD (b : Bool) : PyData := .str (if b then "edit" else "read")
def rdL : List PyData := [.str "read", .str "read", .str "edit"]
theorem rdL_in {v : PyData} (h : v ∈ rdL) : ∃ b, v = rD b := by
  unfold rdL at h
  simp only [List.mem_cons, List.not_mem_nil, or_false] at h
  rcases h with rfl | rfl | rfl
  · exact ⟨false, rfl⟩
  · exact ⟨false, rfl⟩
  · exact ⟨true, rfl⟩
noncomputable def elt15 : M Tk := (mCall 2 F__law_of (mCons (mVar [7] 1) (mCons (mFz (mLst (mCons (mK (.d (.str "read"))) (mCons (mK (.d (.str "read"))) (mCons (mK (.d (.str "edit"))) mNil))))) mNil)))
theorem elt15_e (hd : fineD dl) : ∃ b dl', fineD dl' ∧ elt15 (sg a0 a2 a3 a4 a5 a6 a7 a8 a9 a10 a11 a12 a13 a14 a15 a16 a17 a18 a19 a20 a21) (some dl) = .ok (.v (.d (rD b))) (sg a0 a2 a3 a4 a5 a6 a7 a8 a9 a10 a11 a12 a13 a14 a15 a16 a17 a18 a19 a20 a21) (some dl') := by
  obtain ⟨v, dl', hv, hf, e⟩ := of_ok (vs := rdL) (by decide) (by decide) hd
  obtain ⟨b, rfl⟩ := rdL_in hv
  refine ⟨b, dl', hf, ?_⟩
  unfold rdL at e
  simp [elt15, sg, M.bind, M.ret, M.st, mT, mOp, mVar, mK, use, keep, lft, boolOf, optM, mCB, useAll, mCons, mNil, mTup, mLst, mFz, keepD, mSeq, mRet, mIfS, mAnd, mOr, mNot, mAndV, mOrV, mNotV, mIfE, mCall, keepAll, runF, mAsg, aName, mNx, mChain, fnM, startR, isiF, isT, isTN, askT, tyN, lenF, gtF, ltF, leF, geF, cmpF, eqF, neF, eqOk, scalD, atF, addF, subF, mulF, fdivF, modF, mTru, truS, isF, asks, truD, isNoneD, isBoolD, mRaise, raiseM, oneD, List.replicate, allF, boolsOf, F_is_integer, F_great_divisor, F_is_share, F_is_sequence, mDrop, aTup, aCons, aNil, twoK, mPar, e]
theorem lc15 : ∀ (ds : List Sl) (acc : List PyData) (a20 : Option Sl) (dl : Deal), fineD dl → acc.length + ds.length ≤ 1000 → ∃ (bs : List Bool) (b20 : Option Sl) (dl' : Deal), bs.length = ds.length ∧ fineD dl' ∧ lcL [20] (aName 20) (M.ret true) elt15 ds acc (sg a0 a2 a3 a4 a5 a6 a7 a8 a9 a10 a11 a12 a13 a14 a15 a16 a17 a18 a19 a20 a21) (some dl) = .ok (acc ++ bs.map rD) (sg a0 a2 a3 a4 a5 a6 a7 a8 a9 a10 a11 a12 a13 a14 a15 a16 a17 a18 a19 b20 a21) (some dl')
  | [], acc, a20, dl, hd, _ => ⟨[], a20, dl, rfl, hd, by simp [lcL, M.ret]⟩
  | d :: ds, acc, a20, dl, hd, hl => by
    obtain ⟨b, dl1, hf, e⟩ := elt15_e (a0 := a0) (a2 := a2) (a3 := a3) (a4 := a4) (a5 := a5) (a6 := a6) (a7 := a7) (a8 := a8) (a9 := a9) (a10 := a10) (a11 := a11) (a12 := a12) (a13 := a13) (a14 := a14) (a15 := a15) (a16 := a16) (a17 := a17) (a18 := a18) (a19 := a19) (a20 := some d) (a21 := a21) hd
    obtain ⟨bs, b20, dl2, hz, hf2, e2⟩ := lc15 ds (acc ++ [rD b]) (some d) dl1 hf (by simp at hl ⊢; omega)
    refine ⟨b :: bs, b20, dl2, by simp [hz], hf2, ?_⟩
    have hacc : acc.length < 16777216 := by simp at hl; omega
    have e0 : lcOne [20] (aName 20) (M.ret true) elt15 d (sg a0 a2 a3 a4 a5 a6 a7 a8 a9 a10 a11 a12 a13 a14 a15 a16 a17 a18 a19 a20 a21) (some dl) = .ok (some (rD b)) (sg a0 a2 a3 a4 a5 a6 a7 a8 a9 a10 a11 a12 a13 a14 a15 a16 a17 a18 a19 (some d) a21) (some dl1) := by
      unfold sg at e ⊢
      simp [lcOne, M.bind, M.ret, wipeM, wipeR, aName, e, optM, dataOf]
    unfold lcL M.bind
    rw [e0]
    simp only [lcPut, if_pos hacc]
    rw [e2]
    simp
theorem t_15 (hd : fineD dl) : ∃ (bs : List Bool) (dl' : Deal), bs.length ≤ 3 ∧ fineD dl' ∧ m_law_15 (sg a0 a2 a3 a4 a5 a6 a7 a8 a9 a10 a11 a12 a13 a14 a15 a16 a17 a18 a19 a20 a21) (some dl) = .ok .nx (sg a0 a2 a3 a4 a5 a6 a7 a8 a9 a10 a11 a12 a13 a14 a15 (some (.d (.list (bs.map rD)))) a17 a18 a19 a20 a21) (some dl') := by
  have e1 : F__law_any [.deal, .d (.int 4)] (some dl) = .ok (.d (.int (anyD dl 4).1)) (some (anyD dl 4).2) := any_c 4 (by decide) (by decide) hd
  have r1 := anyD_range dl (b := 4) (by decide)
  have hd1 := anyD_fine (b := 4) hd
  generalize (anyD dl 4).2 = d1 at e1 hd1
  generalize (anyD dl 4).1 = n at e1 r1
  have hl : (rangeS 0 n.toNat).length = n.toNat := by simp [rangeS]
  obtain ⟨bs, b20, dl', hz, hf, e⟩ := lc15 (a0 := a0) (a2 := a2) (a3 := a3) (a4 := a4) (a5 := a5) (a6 := a6) (a7 := a7) (a8 := a8) (a9 := a9) (a10 := a10) (a11 := a11) (a12 := a12) (a13 := a13) (a14 := a14) (a15 := a15) (a16 := a16) (a17 := a17) (a18 := a18) (a19 := a19) (a21 := a21) (rangeS 0 n.toNat) [] none d1 hd1 (by rw [hl]; simp; omega)
  refine ⟨bs, dl', by omega, hf, ?_⟩
  have hrg : rng1 [.d (.int n)] = some (rangeS 0 n.toNat) := if_pos ⟨by omega, by omega⟩
  unfold sg at e ⊢
  show (mAsg (aName 16) (mFz (mLc (mRange rng1 (mCons (mCall 2 F__law_any (mCons (mVar [7] 1) (mCons (mK (.d (.int 4))) mNil))) mNil)) [20] (aName 20) (M.ret true) elt15))) _ _ = _
  simp [M.bind, M.ret, mAsg, mFz, keepD, mLc, mRange, mCons, mNil, mCall, mVar, mK, keepAll, optM, runF, e1, useAll, use, hrg, inComp, noX, wipeR, e, restR, keep, aName]
end
end K05
end
section
set_option maxRecDepth 100000
set_option maxHeartbeats 4000000
namespace K05
open PySem PySem.Spec DL

section
variable {a0 a2 a3 a4 a5 a6 a7 a8 a9 a10 a11 a12 a13 a14 a15 a16 a17 a18 a19 a20 a21 : Option Sl} {t : Option Deal} {dl : Deal}
def edN (bs : List Bool) : Int := ((bs.filter fun b => b).length : Nat)
theorem eqv_rD (b : Bool) : PyData.eqv (rD b) (.str "edit") = b := by cases b <;> decide +kernel
theorem eqF_rD (b : Bool) : eqF (.d (rD b)) (.d (.str "edit")) = some (.d (.bool b)) := by
  have e : eqOk (rD b) (.str "edit") = true := rfl
  unfold eqF
  simp only [e, if_true, eqv_rD]
theorem lc16 : ∀ (bs : List Bool) (acc : List PyData) (a21 : Option Sl), acc.length + bs.length ≤ 1000 → ∃ (xs : List PyData) (b21 : Option Sl), xs.length = acc.length + (bs.filter fun b => b).length ∧ lcL [21] (aName 21) (mT (mOp eqF (mVar [7] 21) (mK (.d (.str "edit"))))) (mVar [7] 21) (bs.map fun b => Sl.d (rD b)) acc (sg a0 a2 a3 a4 a5 a6 a7 a8 a9 a10 a11 a12 a13 a14 a15 a16 a17 a18 a19 a20 a21) t = .ok xs (sg a0 a2 a3 a4 a5 a6 a7 a8 a9 a10 a11 a12 a13 a14 a15 a16 a17 a18 a19 a20 b21) t
  | [], acc, a21, _ => ⟨acc, a21, by simp, by simp [lcL, M.ret]⟩
  | b :: bs, acc, a21, hl => by
    have eb := eqF_rD b
    have hacc : acc.length < 16777216 := by simp at hl; omega
    cases b with
    | true =>
      obtain ⟨xs, b21, hz, e⟩ := lc16 bs (acc ++ [rD true]) (some (.d (rD true))) (by simp at hl ⊢; omega)
      refine ⟨xs, b21, by simp at hz ⊢; omega, ?_⟩
      have e0 : lcOne [21] (aName 21) (mT (mOp eqF (mVar [7] 21) (mK (.d (.str "edit"))))) (mVar [7] 21) (.d (rD true)) (sg a0 a2 a3 a4 a5 a6 a7 a8 a9 a10 a11 a12 a13 a14 a15 a16 a17 a18 a19 a20 a21) t = .ok (some (rD true)) (sg a0 a2 a3 a4 a5 a6 a7 a8 a9 a10 a11 a12 a13 a14 a15 a16 a17 a18 a19 a20 (some (.d (rD true)))) t := by
        unfold sg
        simp [lcOne, M.bind, M.ret, wipeM, wipeR, aName, mT, mOp, mVar, mK, use, eb, lft, boolOf, optM, dataOf]
      rw [List.map_cons]
      unfold lcL M.bind
      rw [e0]
      simp only [lcPut, if_pos hacc]
      exact e
    | false =>
      obtain ⟨xs, b21, hz, e⟩ := lc16 bs acc (some (.d (rD false))) (by simp at hl ⊢; omega)
      refine ⟨xs, b21, by simp at hz ⊢; omega, ?_⟩
      have e0 : lcOne [21] (aName 21) (mT (mOp eqF (mVar [7] 21) (mK (.d (.str "edit"))))) (mVar [7] 21) (.d (rD false)) (sg a0 a2 a3 a4 a5 a6 a7 a8 a9 a10 a11 a12 a13 a14 a15 a16 a17 a18 a19 a20 a21) t = .ok none (sg a0 a2 a3 a4 a5 a6 a7 a8 a9 a10 a11 a12 a13 a14 a15 a16 a17 a18 a19 a20 (some (.d (rD false)))) t := by
        unfold sg
        simp [lcOne, M.bind, M.ret, wipeM, wipeR, aName, mT, mOp, mVar, mK, use, eb, lft, boolOf, optM, dataOf]
      rw [List.map_cons]
      unfold lcL M.bind
      rw [e0]
      simp only [lcPut]
      exact e
theorem t_16 {bs : List Bool} (h : bs.length ≤ 3) : m_law_16 (sg a0 a2 a3 a4 a5 a6 a7 a8 a9 a10 a11 a12 a13 a14 a15 (some (.d (.list (bs.map rD)))) a17 a18 a19 a20 a21) t = .ok .nx (sg a0 a2 a3 a4 a5 a6 a7 a8 a9 a10 a11 a12 a13 a14 a15 (some (.d (.list (bs.map rD)))) (some (.d (.int (edN bs)))) a18 a19 a20 a21) t := by
  obtain ⟨xs, b21, hz, e⟩ := lc16 (a0 := a0) (a2 := a2) (a3 := a3) (a4 := a4) (a5 := a5) (a6 := a6) (a7 := a7) (a8 := a8) (a9 := a9) (a10 := a10) (a11 := a11) (a12 := a12) (a13 := a13) (a14 := a14) (a15 := a15) (a16 := some (.d (.list (bs.map rD)))) (a17 := a17) (a18 := a18) (a19 := a19) (a20 := a20) (t := t) bs [] none (by simp; omega)
  have hi : itemsOf (.d (.list (bs.map rD))) = some (bs.map fun b => Sl.d (rD b)) := by
    unfold itemsOf
    simp only [List.map_map]
    rfl
  have hl : lenF [.d (.list xs)] = some (.d (.int (edN bs))) := by
    unfold lenF edN
    simp at hz
    simp only [hz]
  unfold sg at e ⊢
  simp [m_law_16, M.bind, M.ret, mAsg, mFz, keepD, mLc, mIter, mCB, mCons, mNil, mVar, hi, optM, useAll, use, inComp, noX, wipeR, e, restR, keep, aName, hl, lft]
theorem meet_ok (v : PyData) (bs : List Bool) (hv : seqD v = some (bs.map rD)) (h : bs.length ≤ 3) (t : Option Deal) : F_may_meet [.d v] t = .ok (.d (.bool (decide (edN bs = 0) || decide (bs.length < 2)))) t := by
  have ha : (bs.map rD).all rightD = true := by
    rw [List.all_eq_true]
    intro x hx
    obtain ⟨b, _, rfl⟩ := List.mem_map.mp hx
    cases b <;> decide +kernel
  have he : ∀ bs : List Bool, (bs.map rD).any editD = !(decide (edN bs = 0)) := by
    intro bs
    induction bs with
    | nil => rfl
    | cons b bs ih =>
      cases b with
      | true =>
        have e1 : editD (rD true) = true := by decide +kernel
        have e2 : ¬ (edN (true :: bs) = 0) := by
          unfold edN
          simp
          omega
        simp only [List.map_cons, List.any_cons, e1, Bool.true_or, decide_eq_false e2, Bool.not_false]
      | false =>
        have e1 : editD (rD false) = false := by decide +kernel
        have e2 : edN (false :: bs) = edN bs := by
          unfold edN
          simp
        simp only [List.map_cons, List.any_cons, e1, Bool.false_or, e2]
        exact ih
  unfold F_may_meet
  simp only [hv, ha, if_true, List.length_map]
  rw [if_pos (by omega), he, Bool.not_not, Bool.or_comm]
theorem t_17 {bs : List Bool} (h : bs.length ≤ 3) : m_law_17 (sg a0 a2 a3 a4 a5 a6 a7 a8 a9 a10 a11 a12 a13 a14 a15 (some (.d (.list (bs.map rD)))) (some (.d (.int (edN bs)))) a18 a19 a20 a21) t = .ok .nx (sg a0 a2 a3 a4 a5 a6 a7 a8 a9 a10 a11 a12 a13 a14 a15 (some (.d (.list (bs.map rD)))) (some (.d (.int (edN bs)))) a18 a19 a20 a21) t := by
  have m1 := meet_ok (.list (bs.map rD)) bs rfl h t
  have m2 := meet_ok (.tuple (bs.map rD)) bs rfl h t
  have et : tupF [.d (.list (bs.map rD))] = some (.d (.tuple (bs.map rD))) := rfl
  have hl : lenF [.d (.list (bs.map rD))] = some (.d (.int bs.length)) := by
    unfold lenF
    simp
  have sm := fun b : Bool => bls_same b b t
  have eq0 : eqF (.d (.int (edN bs))) (.d (.int 0)) = some (.d (.bool (decide (edN bs = 0)))) := by
    unfold eqF
    simp [eqOk, scalD, PyData.eqv, int_beq]
  generalize edN bs = n at m1 m2 eq0 ⊢
  have em : ∀ b : Bool, mulF (.d (.list [.bool b])) (.d (.int 2)) = some (.d (.list [.bool b, .bool b])) := by intro b; cases b <;> rfl
  by_cases h0 : n = 0
  · simp only [h0, decide_true, Bool.true_or] at m1 m2 eq0
    subst h0
    simp [m_law_17, sg, M.bind, M.ret, M.st, mT, mOp, mVar, mK, use, keep, lft, boolOf, optM, mCB, useAll, mCons, mNil, mTup, mLst, mFz, keepD, mSeq, mRet, mIfS, mAnd, mOr, mNot, mAndV, mOrV, mNotV, mIfE, mCall, keepAll, runF, mAsg, aName, mNx, mChain, fnM, startR, isiF, isT, isTN, askT, tyN, gtF, leF, geF, cmpF, neF, eqOk, scalD, atF, addF, subF, fdivF, modF, mTru, truS, isF, asks, truD, isNoneD, isBoolD, mRaise, raiseM, oneD, List.replicate, allF, boolsOf, mDrop, aTup, aCons, aNil, twoK, mPar, m1, m2, et, hl, sm, eq0, em]
  · simp only [h0, decide_false, Bool.false_or] at m1 m2 eq0
    have hlt : ltF (.d (.int bs.length)) (.d (.int 2)) = some (.d (.bool (decide (bs.length < 2)))) := by
      unfold ltF
      simp
      omega
    generalize decide (bs.length < 2) = q at m1 m2 hlt
    simp [m_law_17, sg, M.bind, M.ret, M.st, mT, mOp, mVar, mK, use, keep, lft, boolOf, optM, mCB, useAll, mCons, mNil, mTup, mLst, mFz, keepD, mSeq, mRet, mIfS, mAnd, mOr, mNot, mAndV, mOrV, mNotV, mIfE, mCall, keepAll, runF, mAsg, aName, mNx, mChain, fnM, startR, isiF, isT, isTN, askT, tyN, gtF, leF, geF, cmpF, neF, eqOk, scalD, atF, addF, subF, fdivF, modF, mTru, truS, isF, asks, truD, isNoneD, isBoolD, mRaise, raiseM, oneD, List.replicate, allF, boolsOf, mDrop, aTup, aCons, aNil, twoK, mPar, m1, m2, et, hl, sm, eq0, em, hlt]
end
end K05
end
section
set_option maxRecDepth 100000
set_option maxHeartbeats 4000000
namespace K05
open PySem PySem.Spec DL

section
variable {a0 a2 a3 a4 a5 a6 a7 a8 a9 a10 a11 a12 a13 a14 a15 a16 a17 a18 a19 a20 a21 : Option Sl} {t : Option Deal} {dl : Deal}
def oddL : List PyData := [.none, .tuple [.int 2, .int 4], .tuple [.int 0, .int 1], .list [.int 1, .int 1], .tuple [.bool true, .int 1]]
def badL : List PyData := [.int 0, .int 1001, .none, .bool true, .int (-1)]
theorem odd_no : ∀ v ∈ oddL, unS v = none := by
  intro v hv
  have : oddL.all (fun v => (unS v).isNone) = true := by decide +kernel
  have := List.all_eq_true.mp this v hv
  simpa using this
theorem t_18 (hd : fineD dl) : ∃ (v w : PyData) (dl' : Deal), v ∈ oddL ∧ w ∈ badL ∧ fineD dl' ∧ m_law_18 (sg a0 a2 a3 a4 a5 a6 a7 a8 a9 a10 a11 a12 a13 a14 a15 a16 a17 a18 a19 a20 a21) (some dl) = .ok .nx (sg a0 a2 a3 a4 a5 a6 a7 a8 a9 a10 a11 a12 a13 a14 a15 a16 a17 (some (.d v)) (some (.d w)) a20 a21) (some dl') := by
  obtain ⟨v, d1, hv, h1, e1⟩ := of_ok (vs := oddL) (by unfold oddL; simp) (by decide) hd
  obtain ⟨w, d2, hw, h2, e2⟩ := of_ok (vs := badL) (by unfold badL; simp) (by decide) h1
  refine ⟨v, w, d2, hv, hw, h2, ?_⟩
  unfold oddL at e1
  unfold badL at e2
  simp [m_law_18, sg, M.bind, M.ret, M.st, mT, mOp, mVar, mK, use, keep, lft, boolOf, optM, mCB, useAll, mCons, mNil, mTup, mLst, mFz, keepD, mSeq, mRet, mIfS, mAnd, mOr, mNot, mAndV, mOrV, mNotV, mIfE, mCall, keepAll, runF, mAsg, aName, mNx, mChain, fnM, startR, isiF, isT, isTN, askT, tyN, lenF, gtF, ltF, leF, geF, cmpF, eqF, neF, eqOk, scalD, atF, addF, subF, mulF, fdivF, modF, mTru, truS, isF, asks, truD, isNoneD, isBoolD, mRaise, raiseM, oneD, List.replicate, allF, boolsOf, F_is_integer, F_great_divisor, F_is_share, F_is_sequence, mDrop, aTup, aCons, aNil, twoK, mPar, e1, e2, dataOf]
def qn (n : Int) : PyData := .tuple [.str "question", .int n]
theorem t_19 {v w : PyData} (hv : v ∈ oddL) : m_law_19 (sg a0 a2 a3 a4 a5 a6 a7 a8 a9 a10 a11 a12 a13 a14 a15 a16 a17 (some (.d v)) (some (.d w)) a20 a21) t = .ok .nx (sg a0 a2 a3 a4 a5 a6 (some (.d (.list [qn 0]))) a8 a9 a10 a11 a12 a13 a14 a15 a16 a17 (some (.d v)) (some (.d w)) a20 a21) t := by
  have u := odd_no v hv
  have e : F_parts_of [.d v, .d w] t = exQ 0 t := by
    unfold F_parts_of
    simp only [u]
  simp [m_law_19, sg, M.bind, M.ret, M.st, mT, mOp, mVar, mK, use, keep, lft, boolOf, optM, mCB, useAll, mCons, mNil, mTup, mLst, mFz, keepD, mSeq, mRet, mIfS, mAnd, mOr, mNot, mAndV, mOrV, mNotV, mIfE, mCall, keepAll, runF, mAsg, aName, mNx, mChain, fnM, startR, isiF, isT, isTN, askT, tyN, lenF, gtF, ltF, leF, geF, cmpF, eqF, neF, eqOk, scalD, atF, addF, subF, mulF, fdivF, modF, mTru, truS, isF, asks, truD, isNoneD, isBoolD, mRaise, raiseM, oneD, List.replicate, allF, boolsOf, F_is_integer, F_great_divisor, F_is_share, F_is_sequence, mDrop, aTup, aCons, aNil, twoK, mPar, mHeard, wipeR, heardK, e, lk_q, mAsgO, setO, qn]
theorem t_20 {w : PyData} (hw : w ∈ badL) {ds : List PyData} (hl : ds.length < 10) : m_law_20 (sg a0 a2 a3 a4 a5 a6 (some (.d (.list ds))) a8 a9 a10 a11 a12 a13 a14 a15 a16 a17 a18 (some (.d w)) a20 a21) t = .ok .nx (sg a0 a2 a3 a4 a5 a6 (some (.d (.list (ds ++ [qn 1])))) a8 a9 a10 a11 a12 a13 a14 a15 a16 a17 a18 (some (.d w)) a20 a21) t := by
  have e : F_parts_of [.d (.tuple [.int 1, .int 2]), .d w] t = exQ 1 t := by
    have u : unS (.tuple [.int 1, .int 2]) = some (1, 2) := by decide +kernel
    unfold badL at hw
    simp only [List.mem_cons, List.not_mem_nil, or_false] at hw
    unfold F_parts_of
    simp only [u]
    rcases hw with rfl | rfl | rfl | rfl | rfl <;> first | rfl | exact if_neg (by decide)
  have hl' : ds.length < 16777216 := by omega
  simp [m_law_20, sg, M.bind, M.ret, M.st, mT, mOp, mVar, mK, use, keep, lft, boolOf, optM, mCB, useAll, mCons, mNil, mTup, mLst, mFz, keepD, mSeq, mRet, mIfS, mAnd, mOr, mNot, mAndV, mOrV, mNotV, mIfE, mCall, keepAll, runF, mAsg, aName, mNx, mChain, fnM, startR, isiF, isT, isTN, askT, tyN, lenF, gtF, ltF, leF, geF, cmpF, eqF, neF, eqOk, scalD, atF, addF, subF, mulF, fdivF, modF, mTru, truS, isF, asks, truD, isNoneD, isBoolD, mRaise, raiseM, oneD, List.replicate, allF, boolsOf, F_is_integer, F_great_divisor, F_is_share, F_is_sequence, mDrop, aTup, aCons, aNil, twoK, mPar, mHeard, wipeR, heardK, e, lk_q, has, mAppend, getO, setO, hl', qn]
theorem thousand : mulF (.d (.tuple [.tuple [.int 1, .int 2000]])) (.d (.int 1001)) = some (.d (.tuple (List.replicate 1001 (.tuple [.int 1, .int 2000])))) := by
  have e : (List.replicate 1001 [PyData.tuple [.int 1, .int 2000]]).flatten = List.replicate 1001 (.tuple [.int 1, .int 2000]) := by
    have : ∀ n : Nat, (List.replicate n [PyData.tuple [.int 1, .int 2000]]).flatten = List.replicate n (.tuple [.int 1, .int 2000]) := by
      intro n
      induction n with
      | zero => rfl
      | succ n ih => rw [List.replicate_succ, List.flatten_cons, ih, List.replicate_succ]; rfl
    exact this 1001
  unfold mulF
  simp only
  rw [if_pos ⟨by decide, by decide, by decide, by simp⟩]
  exact congrArg (fun x => some (Sl.d (.tuple x))) e
theorem t_21 {v : PyData} (hv : v ∈ oddL) (hd : fineD dl) {ds : List PyData} (hl : ds.length < 10) : ∃ dl', fineD dl' ∧ m_law_21 (sg a0 a2 a3 a4 a5 a6 (some (.d (.list ds))) a8 a9 a10 a11 a12 a13 a14 a15 a16 a17 (some (.d v)) a19 a20 a21) (some dl) = .ok .nx (sg a0 a2 a3 a4 a5 a6 (some (.d (.list (ds ++ [qn 0])))) a8 a9 a10 a11 a12 a13 a14 a15 a16 a17 (some (.d v)) a19 a20 a21) (some dl') := by
  obtain ⟨x, d1, hx, h1, e1⟩ := of_ok (vs := [.tuple [], .none, .list [.tuple [.int 1, .int 2], v], .tuple (List.replicate 1001 (.tuple [.int 1, .int 2000]))]) (by simp) (by simp) hd
  refine ⟨d1, h1, ?_⟩
  have u := odd_no v hv
  have e : F_joined_shares [.d x] (some d1) = exQ 0 (some d1) := by
    simp only [List.mem_cons, List.not_mem_nil, or_false] at hx
    rcases hx with rfl | rfl | rfl | rfl
    · rfl
    · rfl
    · have ul : unL [.tuple [.int 1, .int 2], v] = none := by
        unfold unL
        unfold unL
        rw [u]
        cases unS (.tuple [.int 1, .int 2]) <;> rfl
      unfold F_joined_shares
      simp only [seqD, ul, List.length_cons, List.length_nil]
      rw [if_pos (by decide)]
    · unfold F_joined_shares
      simp only [seqD, List.length_replicate]
      rw [if_neg (by decide), if_pos (by decide)]
  have hl' : ds.length < 16777216 := by omega
  have th := thousand
  generalize List.replicate 1001 (PyData.tuple [.int 1, .int 2000]) = big at th e1
  simp [m_law_21, sg, M.bind, M.ret, M.st, mT, mOp, mVar, mK, use, keep, lft, boolOf, optM, mCB, useAll, mCons, mNil, mTup, mLst, mFz, keepD, mSeq, mRet, mIfS, mAnd, mOr, mNot, mAndV, mOrV, mNotV, mIfE, mCall, keepAll, runF, mAsg, aName, mNx, mChain, fnM, startR, isiF, isT, isTN, askT, tyN, lenF, gtF, ltF, leF, geF, cmpF, eqF, neF, eqOk, scalD, atF, addF, subF, fdivF, modF, mTru, truS, isF, asks, truD, isNoneD, isBoolD, mRaise, raiseM, oneD, List.replicate, allF, boolsOf, mDrop, aTup, aCons, aNil, twoK, mPar, mHeard, wipeR, heardK, th, e1, e, lk_q, has, mAppend, getO, setO, hl', qn]
theorem t_22 {v : PyData} (hv : v ∈ oddL) {ds : List PyData} (hl : ds.length < 10) : m_law_22 (sg a0 a2 a3 a4 a5 a6 (some (.d (.list ds))) a8 a9 a10 a11 a12 a13 a14 a15 a16 a17 (some (.d v)) a19 a20 a21) t = .ok .nx (sg a0 a2 a3 a4 a5 a6 (some (.d (.list (ds ++ [qn 0])))) a8 a9 a10 a11 a12 a13 a14 a15 a16 a17 (some (.d v)) a19 a20 a21) t := by
  have u := odd_no v hv
  have e : F_what_is_left [.d v, .d .none] t = exQ 0 t := by
    unfold F_what_is_left
    simp only [u]
  have hl' : ds.length < 16777216 := by omega
  simp [m_law_22, sg, M.bind, M.ret, M.st, mT, mOp, mVar, mK, use, keep, lft, boolOf, optM, mCB, useAll, mCons, mNil, mTup, mLst, mFz, keepD, mSeq, mRet, mIfS, mAnd, mOr, mNot, mAndV, mOrV, mNotV, mIfE, mCall, keepAll, runF, mAsg, aName, mNx, mChain, fnM, startR, isiF, isT, isTN, askT, tyN, lenF, gtF, ltF, leF, geF, cmpF, eqF, neF, eqOk, scalD, atF, addF, subF, mulF, fdivF, modF, mTru, truS, isF, asks, truD, isNoneD, isBoolD, mRaise, raiseM, oneD, List.replicate, allF, boolsOf, F_is_integer, F_great_divisor, F_is_share, F_is_sequence, mDrop, aTup, aCons, aNil, twoK, mPar, mHeard, wipeR, heardK, e, lk_q, has, mAppend, getO, setO, hl', qn]
theorem t_23 {v : PyData} (hv : v ∈ oddL) (hd : fineD dl) {ds : List PyData} (hl : ds.length < 10) : ∃ dl', fineD dl' ∧ m_law_23 (sg a0 a2 a3 a4 a5 a6 (some (.d (.list ds))) a8 a9 a10 a11 a12 a13 a14 a15 a16 a17 (some (.d v)) a19 a20 a21) (some dl) = .ok .nx (sg a0 a2 a3 a4 a5 a6 (some (.d (.list (ds ++ [qn 1])))) a8 a9 a10 a11 a12 a13 a14 a15 a16 a17 (some (.d v)) a19 a20 a21) (some dl') := by
  obtain ⟨x, d1, hx, h1, e1⟩ := of_ok (vs := [.none, .int 3, .list [v], .tuple [.int 1, .int 2]]) (by simp) (by simp) hd
  refine ⟨d1, h1, ?_⟩
  have u := odd_no v hv
  have e : F_what_is_left [.d (.tuple [.int 1, .int 2]), .d x] (some d1) = exQ 1 (some d1) := by
    have u2 : unS (.tuple [.int 1, .int 2]) = some (1, 2) := by decide +kernel
    simp only [List.mem_cons, List.not_mem_nil, or_false] at hx
    unfold F_what_is_left
    simp only [u2]
    rcases hx with rfl | rfl | rfl | rfl
    · rfl
    · rfl
    · have ul : unL [v] = none := by
        unfold unL
        rw [u]
      simp only [seqD, ul, List.length_cons, List.length_nil]
      rw [if_pos (by decide)]
    · rfl
  have hl' : ds.length < 16777216 := by omega
  simp [m_law_23, sg, M.bind, M.ret, M.st, mT, mOp, mVar, mK, use, keep, lft, boolOf, optM, mCB, useAll, mCons, mNil, mTup, mLst, mFz, keepD, mSeq, mRet, mIfS, mAnd, mOr, mNot, mAndV, mOrV, mNotV, mIfE, mCall, keepAll, runF, mAsg, aName, mNx, mChain, fnM, startR, isiF, isT, isTN, askT, tyN, lenF, gtF, ltF, leF, geF, cmpF, eqF, neF, eqOk, scalD, atF, addF, subF, mulF, fdivF, modF, mTru, truS, isF, asks, truD, isNoneD, isBoolD, mRaise, raiseM, oneD, List.replicate, allF, boolsOf, F_is_integer, F_great_divisor, F_is_share, F_is_sequence, mDrop, aTup, aCons, aNil, twoK, mPar, mHeard, wipeR, heardK, e1, e, lk_q, has, mAppend, getO, setO, hl', qn]
theorem t_24 (hd : fineD dl) {ds : List PyData} (hl : ds.length < 10) : ∃ dl', fineD dl' ∧ m_law_24 (sg a0 a2 a3 a4 a5 a6 (some (.d (.list ds))) a8 a9 a10 a11 a12 a13 a14 a15 a16 a17 a18 a19 a20 a21) (some dl) = .ok .nx (sg a0 a2 a3 a4 a5 a6 (some (.d (.list (ds ++ [qn 0])))) a8 a9 a10 a11 a12 a13 a14 a15 a16 a17 a18 a19 a20 a21) (some dl') := by
  obtain ⟨x, d1, hx, h1, e1⟩ := of_ok (vs := [.none, .str "edit", .list [.str "Read"], .list [.none], .int 3]) (by simp) (by simp) hd
  refine ⟨d1, h1, ?_⟩
  have e : F_may_meet [.d x] (some d1) = exQ 0 (some d1) := by
    simp only [List.mem_cons, List.not_mem_nil, or_false] at hx
    rcases hx with rfl | rfl | rfl | rfl | rfl
    · rfl
    · rfl
    · have ha : [PyData.str "Read"].all rightD = false := by decide +kernel
      unfold F_may_meet
      simp only [seqD, ha]
      rfl
    · have ha : [PyData.none].all rightD = false := by decide +kernel
      unfold F_may_meet
      simp only [seqD, ha]
      rfl
    · rfl
  have hl' : ds.length < 16777216 := by omega
  simp [m_law_24, sg, M.bind, M.ret, M.st, mT, mOp, mVar, mK, use, keep, lft, boolOf, optM, mCB, useAll, mCons, mNil, mTup, mLst, mFz, keepD, mSeq, mRet, mIfS, mAnd, mOr, mNot, mAndV, mOrV, mNotV, mIfE, mCall, keepAll, runF, mAsg, aName, mNx, mChain, fnM, startR, isiF, isT, isTN, askT, tyN, lenF, gtF, ltF, leF, geF, cmpF, eqF, neF, eqOk, scalD, atF, addF, subF, mulF, fdivF, modF, mTru, truS, isF, asks, truD, isNoneD, isBoolD, mRaise, raiseM, oneD, List.replicate, allF, boolsOf, F_is_integer, F_great_divisor, F_is_share, F_is_sequence, mDrop, aTup, aCons, aNil, twoK, mPar, mHeard, wipeR, heardK, e1, e, lk_q, has, mAppend, getO, setO, hl', qn]
theorem t_25 : m_law_25 (sg a0 a2 a3 a4 a5 a6 (some (.d (.list [qn 0, qn 1, qn 0, qn 0, qn 1, qn 0]))) a8 a9 a10 a11 a12 a13 a14 a15 a16 a17 a18 a19 a20 a21) t = .ok .nx (sg a0 a2 a3 a4 a5 a6 (some (.d (.list [qn 0, qn 1, qn 0, qn 0, qn 1, qn 0]))) a8 a9 a10 a11 a12 a13 a14 a15 a16 a17 a18 a19 a20 a21) t := by
  have e : F__law_same [.d (.list [qn 0, qn 1, qn 0, qn 0, qn 1, qn 0]), .d (.list [qn 0, qn 1, qn 0, qn 0, qn 1, qn 0])] t = .ok (.d (.bool true)) t := same_refl (by decide +kernel)
  unfold qn at e
  simp [m_law_25, sg, M.bind, M.ret, M.st, mT, mOp, mVar, mK, use, keep, lft, boolOf, optM, mCB, useAll, mCons, mNil, mTup, mLst, mFz, keepD, mSeq, mRet, mIfS, mAnd, mOr, mNot, mAndV, mOrV, mNotV, mIfE, mCall, keepAll, runF, mAsg, aName, mNx, mChain, fnM, startR, isiF, isT, isTN, askT, tyN, lenF, gtF, ltF, leF, geF, cmpF, eqF, neF, eqOk, scalD, atF, addF, subF, mulF, fdivF, modF, mTru, truS, isF, asks, truD, isNoneD, isBoolD, mRaise, raiseM, oneD, List.replicate, allF, boolsOf, F_is_integer, F_great_divisor, F_is_share, F_is_sequence, mDrop, aTup, aCons, aNil, twoK, mPar, mCallB, runB, scalS, flatD, e, qn]
end
end K05
end
section
set_option maxRecDepth 100000
set_option maxHeartbeats 4000000
namespace K05
open PySem PySem.Spec DL

structure Inv (r : Nat) (ps : List Pr) : Prop where
  ok : ∀ p ∈ ps, okP p ∧ p.2 ≤ 5 ^ r
  lo : 1 ≤ ps.length
  hi : ps.length ≤ 1 + 4 * r
  wh : numP ps = prodB ps
theorem prodB_le {M : Nat} : ∀ {ps : List Pr}, (∀ p ∈ ps, okP p ∧ p.2 ≤ M) → 0 < prodB ps ∧ prodB ps ≤ ((M ^ ps.length : Nat) : Int)
  | [], _ => ⟨by decide, by simp [prodB]⟩
  | p :: ps, h => by
    obtain ⟨i1, i2⟩ := prodB_le (ps := ps) fun q hq => h q (List.mem_cons_of_mem _ hq)
    obtain ⟨hk, hm⟩ := h p List.mem_cons_self
    have p0 : 0 < p.2 := by have := hk.1; have := hk.2.1; omega
    refine ⟨Int.mul_pos p0 i1, ?_⟩
    show p.2 * prodB ps ≤ _
    have e : ((M ^ (p :: ps).length : Nat) : Int) = (M : Int) * ((M ^ ps.length : Nat) : Int) := by
      rw [List.length_cons, Nat.pow_succ, Nat.mul_comm]
      push_cast
      rfl
    rw [e]
    exact Int.mul_le_mul hm i2 (by omega) (by omega)
theorem row_of {ps : List Pr} (h : ∀ p ∈ ps, okP p ∧ p.2 ≤ 3125) (lo : 1 ≤ ps.length) (hi : ps.length ≤ 30) : Row ps := by
  obtain ⟨i1, i2⟩ := prodB_le (M := 3125) h
  refine ⟨fun p hp => (h p hp).1, ?_, lo, by omega⟩
  unfold fits
  have a : 3125 ^ ps.length ≤ 3125 ^ 30 := Nat.pow_le_pow_right (by decide) hi
  have b : 3125 ^ 30 < 2 ^ 1500 := by decide +kernel
  have c : (prodB ps).natAbs ≤ 3125 ^ ps.length := by omega
  exact Nat.lt_of_le_of_lt (Nat.le_trans c a) b
theorem five {r : Nat} (h : r ≤ 5) : (5 : Int) ^ r ≤ 3125 := by
  have : 5 ^ r ≤ 5 ^ 5 := Nat.pow_le_pow_right (by decide) h
  have e : ((5 ^ r : Nat) : Int) = (5 : Int) ^ r := by push_cast; rfl
  rw [← e]
  have e5 : (5 ^ 5 : Nat) = 3125 := by decide
  omega
theorem Inv.row {r : Nat} {ps : List Pr} (h : Inv r ps) (hr : r ≤ 5) : Row ps := by
  have := five hr
  have := h.hi
  exact row_of (fun p hp => ⟨(h.ok p hp).1, by have := (h.ok p hp).2; omega⟩) h.lo (by omega)
theorem inv_0 : Inv 0 [one] := by
  refine ⟨fun p hp => ?_, by decide, by decide, by decide⟩
  rw [List.mem_singleton.mp hp]
  decide
theorem split_at {α : Type} (l : List α) (i : Nat) (h : i < l.length) : (l[i] :: (l.take i ++ l.drop (i + 1))).Perm l := by
  have e : l.take i ++ l.drop (i + 1) = l.eraseIdx i := (List.eraseIdx_eq_take_drop_succ l i).symm
  rw [e]
  exact erase_perm l i h
theorem Inv.cut {r : Nat} {ps : List Pr} (h : Inv r ps) (i : Nat) (hi : i < ps.length) (m : Nat) (h1 : 1 ≤ m) (h5 : m ≤ 5) : Inv (r + 1) ((ps.take i ++ ps.drop (i + 1)) ++ List.replicate m (low ps[i].1 (ps[i].2 * m))) := by
  have hp := split_at ps i hi
  have hk := h.ok ps[i] (List.getElem_mem hi)
  have p0 : 0 < ps[i].2 := by have := hk.1.1; have := hk.1.2.1; omega
  have hrest : ∀ q ∈ ps.take i ++ ps.drop (i + 1), okP q ∧ q.2 ≤ 5 ^ r := fun q hq => h.ok q (hp.subset (List.mem_cons_of_mem _ hq))
  have hle : ps[i].2 ≤ ps[i].2 * m := by
    have : ps[i].2 * 1 ≤ ps[i].2 * (m : Int) := Int.mul_le_mul_of_nonneg_left (by omega) (by omega)
    omega
  have p5 : (5 : Int) ^ (r + 1) = 5 ^ r * 5 := Int.pow_succ 5 r
  have pr0 : (0 : Int) < 5 ^ r := Int.pow_pos (by decide)
  have hm5 : ps[i].2 * (m : Int) ≤ 5 ^ r * 5 := Int.mul_le_mul hk.2 (by omega) (by omega) (by omega)
  have hz := hp.length_eq
  rw [List.length_cons] at hz
  refine ⟨fun q hq => ?_, ?_, ?_, ?_⟩
  · rcases List.mem_append.mp hq with hq | hq
    · have := hrest q hq
      exact ⟨this.1, by rw [p5]; omega⟩
    · rw [(List.mem_replicate.mp hq).2]
      refine ⟨okP_low hk.1.1 (by have := hk.1.2.1; omega), ?_⟩
      have := (low_le (a := ps[i].1) (b := ps[i].2 * m) (by have := hk.1.1; omega) (by omega)).1
      rw [p5]
      omega
  · rw [List.length_append, List.length_replicate]; omega
  · rw [List.length_append, List.length_replicate]; have := h.hi; omega
  · refine cut_whole hk.1 (fun q hq => (hrest q hq).1) h1 ?_
    rw [perm_num hp, perm_prod hp]
    exact h.wh
/-- the sum of equal parts -/
theorem sum_rep {p : Pr} (hp : okP p) {m : Nat} (hm : 0 < m) : sumL (List.replicate m (low p.1 (p.2 * m))) = p := by
  have p0 : 0 < p.2 := by have := hp.1; have := hp.2.1; omega
  have hk : ∀ q ∈ List.replicate m (low p.1 (p.2 * m)), okP q := fun q hq => by
    rw [(List.mem_replicate.mp hq).2]
    refine okP_low hp.1 ?_
    have : p.2 * 1 ≤ p.2 * (m : Int) := Int.mul_le_mul_of_nonneg_left (by omega) (by omega)
    have := hp.2.1
    omega
  rw [sumL_eq hk, low_cross (numP_nn hk) (prodB_pos hk) (by have := hp.1; omega) p0 (rep_part hp hm), low_ok hp]
end K05
end
section
set_option maxRecDepth 100000
set_option maxHeartbeats 4000000
namespace K05
open PySem PySem.Spec DL

section
variable {a0 a2 a3 a4 a5 a6 a7 a8 a9 a10 a11 a12 a13 a14 a15 a16 a17 a18 a19 a20 a21 : Option Sl} {t : Option Deal} {dl : Deal}
theorem cut_from {α : Type} (xs : List α) {k : Int} (h : 0 ≤ k) : cutL xs (some k) none = xs.drop k.toNat := by
  unfold cutL
  rw [HT.sIx_none]
  have e : HT.sIx xs.length 0 (some k) = min k.toNat xs.length := by
    have := HT.sIx_nat xs.length 0 k.toNat
    rw [show ((k.toNat : Nat) : Int) = k by omega] at this
    exact this
  rw [e]
  have e2 : (xs.drop (min k.toNat xs.length)).take (xs.length - min k.toNat xs.length) = xs.drop (min k.toNat xs.length) := by
    apply List.take_of_length_le
    rw [List.length_drop]
    omega
  rw [e2]
  by_cases h2 : xs.length ≤ k.toNat
  · rw [Nat.min_eq_right h2, List.drop_length, List.drop_of_length_le h2]
  · rw [Nat.min_eq_left (by omega)]
noncomputable def body1 : M Fl := (mSeq (mPar 5 6 (mCons (mCall 2 F__law_any (mCons (mVar [] 1) (mCons (mCB lenF (mCons (mVar [] 3) mNil)) mNil))) (mCons (mOp addF (mK (.d (.int 1))) (mCall 2 F__law_any (mCons (mVar [] 1) (mCons (mK (.d (.int 5))) mNil)))) mNil))) (mSeq (mAsg (aName 7) (mCall 2 F_parts_of (mCons (mOp atF (mVar [] 3) (mVar [] 5)) (mCons (mVar [] 6) mNil)))) (mSeq (mAsg (aName 8) (mCall 2 F__law_lowest (mCons (mOp atF (mOp atF (mVar [] 3) (mVar [] 5)) (mK (.d (.int 0)))) (mCons (mOp mulF (mOp atF (mOp atF (mVar [] 3) (mVar [] 5)) (mK (.d (.int 1)))) (mVar [] 6)) mNil)))) (mSeq (mIfS (mOr (mNot (mTru (mCall 2 F__law_same (mCons (mVar [] 7) (mCons (mOp mulF (mTup (mCons (mVar [] 8) mNil)) (mVar [] 6)) mNil))))) (mT (mOp neF (mCall 1 F__law_sum (mCons (mVar [] 7) mNil)) (mOp atF (mVar [] 3) (mVar [] 5))))) (mRet (mK (.d (.bool false)))) mNx) (mAsg (aName 3) (mOp addF (mOp addF (mSl (mVar [] 3) mNoP (mPart (mVar [] 5))) (mSl (mVar [] 3) (mPart (mOp addF (mVar [] 5) (mK (.d (.int 1))))) mNoP)) (mFz (mCBF listF (mCons (mVar [] 7) mNil)))))))))
theorem body1_e {ps : List Pr} {r : Nat} (h : Inv r ps) (hr : r ≤ 4) (hd : fineD dl) : ∃ (qs : List Pr) (dl' : Deal) (b5 b6 b7 b8 : Option Sl), Inv (r + 1) qs ∧ fineD dl' ∧ body1 (sg a0 a2 (some (.d (heldD ps))) a4 a5 a6 a7 a8 a9 a10 a11 a12 a13 a14 a15 a16 a17 a18 a19 a20 a21) (some dl) = .ok .nx (sg a0 a2 (some (.d (heldD qs))) a4 b5 b6 b7 b8 a9 a10 a11 a12 a13 a14 a15 a16 a17 a18 a19 a20 a21) (some dl') := by
  have hlen := h.hi
  have hlo := h.lo
  have e1 : F__law_any [.deal, .d (.int ps.length)] (some dl) = .ok (.d (.int (anyD dl ps.length).1)) (some (anyD dl ps.length).2) := any_c ps.length (by omega) (by omega) hd
  have r1 := anyD_range dl (b := (ps.length : Nat)) (by omega)
  have hd1 := anyD_fine (b := (ps.length : Nat)) hd
  generalize (anyD dl ps.length).2 = d1 at e1 hd1
  generalize (anyD dl ps.length).1 = i at e1 r1
  have e2 : F__law_any [.deal, .d (.int 5)] (some d1) = .ok (.d (.int (anyD d1 5).1)) (some (anyD d1 5).2) := any_c 5 (by decide) (by decide) hd1
  have r2 := anyD_range d1 (b := 5) (by decide)
  have hd2 := anyD_fine (b := 5) hd1
  generalize (anyD d1 5).2 = d2 at e2 hd2
  generalize (anyD d1 5).1 = x at e2 r2
  obtain ⟨m, hm⟩ : ∃ m : Nat, 1 + x = m := ⟨(1 + x).toNat, by omega⟩
  have hm1 : 1 ≤ m := by omega
  have hm5 : m ≤ 5 := by omega
  have hi : i.toNat < ps.length := by omega
  have hinv := h.cut i.toNat hi m hm1 hm5
  have hk := h.ok ps[i.toNat] (List.getElem_mem hi)
  have hat : L2.atI (ps.map dP) i = some (dP ps[i.toNat]) := by
    rw [atI_in r1.1 (by rw [List.length_map]; omega), List.getElem?_map, List.getElem?_eq_getElem hi]
    rfl
  refine ⟨_, d2, some (.d (.int i)), some (.d (.int m)), some (.d (.tuple (List.replicate m (dP (low ps[i.toNat].1 (ps[i.toNat].2 * m)))))), some (.d (dP (low ps[i.toNat].1 (ps[i.toNat].2 * m)))), hinv, hd2, ?_⟩
  have hsum := sum_rep hk.1 (m := m) hm1
  have hb : ps[i.toNat].2 ≤ 3125 := by have := five (r := r) (by omega); have := hk.2; omega
  generalize ps[i.toNat] = p at hat hk hsum hb ⊢
  have p0 : 0 < p.2 := by have := hk.1.1; have := hk.1.2.1; omega
  have hpm : 0 < p.2 * (m : Int) := Int.mul_pos p0 (by omega)
  have hpm2 : p.2 * (m : Int) ≤ 3125 * 5 := Int.mul_le_mul hb (by omega) (by omega) (by decide)
  have fb : ∀ b : Int, 0 < b → b ≤ 15625 → fits b := fun b h0 h1 => by
    unfold fits
    exact Nat.lt_of_lt_of_le (show b.natAbs < 2 ^ 14 by omega) (Nat.pow_le_pow_right (by decide) (by decide))
  have us : unS (dP p) = some p := by
    unfold dP unS
    simp only
    rw [if_pos hk.1]
  have ep : F_parts_of [.d (dP p), .d (.int m)] (some d2) = .ok (.d (.tuple (List.replicate m (dP (low p.1 (p.2 * m)))))) (some d2) := by
    unfold F_parts_of
    simp only [us]
    rw [if_pos ⟨by omega, by omega⟩, if_pos (fb p.2 p0 (by omega))]
    simp
  have el : F__law_lowest [.d (.int p.1), .d (.int (p.2 * m))] (some d2) = .ok (.d (dP (low p.1 (p.2 * m)))) (some d2) := if_pos ⟨by have := hk.1.1; omega, hpm, fb _ hpm (by omega)⟩
  have emul : mulF (.d (.int p.2)) (.d (.int m)) = some (.d (.int (p.2 * m))) := by
    have a1 : p.2.natAbs.log2 < 14 := (Nat.log2_lt (by omega)).mpr (by omega)
    have a2 : (m : Int).natAbs.log2 < 14 := (Nat.log2_lt (by omega)).mpr (by omega)
    exact if_pos (by omega)
  have okq : ∀ q ∈ List.replicate m (low p.1 (p.2 * m)), okP q ∧ q.2 ≤ 15625 := fun q hq => by
    rw [(List.mem_replicate.mp hq).2]
    have a1 : p.2 * 1 ≤ p.2 * (m : Int) := Int.mul_le_mul_of_nonneg_left (by omega) (by omega)
    refine ⟨okP_low hk.1.1 (by have := hk.1.2.1; omega), ?_⟩
    have := (low_le (a := p.1) (b := p.2 * m) (by have := hk.1.1; omega) hpm).1
    omega
  generalize low p.1 (p.2 * m) = q at ep el hsum okq ⊢
  have emt : mulF (.d (.tuple [dP q])) (.d (.int m)) = some (.d (.tuple (List.replicate m (dP q)))) := by
    have a1 : ∀ n : Nat, (List.replicate n [dP q]).flatten = List.replicate n (dP q) := by
      intro n
      induction n with
      | zero => rfl
      | succ n ih => rw [List.replicate_succ, List.flatten_cons, ih, List.replicate_succ]; rfl
    unfold mulF
    simp only
    rw [if_pos ⟨by omega, by omega, by simp; omega, by simp⟩, a1]
    simp
  have er : List.replicate m (dP q) = (List.replicate m q).map dP := by rw [List.map_replicate]
  have esame : F__law_same [.d (.tuple (List.replicate m (dP q))), .d (.tuple (List.replicate m (dP q)))] (some d2) = .ok (.d (.bool true)) (some d2) := by
    refine same_refl ?_
    have := eq_pairs 5 (List.replicate m q) (by rw [List.length_replicate]; omega)
    rw [← er] at this
    unfold eqN
    simp only [if_true]
    rw [if_pos (by rw [List.length_replicate]; omega)]
    exact this
  have esum : F__law_sum [.d (.tuple (List.replicate m (dP q)))] (some d2) = .ok (.d (dP p)) (some d2) := by
    have hf : fits (prodB (List.replicate m q)) := by
      obtain ⟨i1, i2⟩ := prodB_le (M := 15625) okq
      unfold fits
      have a : 15625 ^ (List.replicate m q).length ≤ 15625 ^ 30 := Nat.pow_le_pow_right (by decide) (by rw [List.length_replicate]; omega)
      have b : 15625 ^ 30 < 2 ^ 1500 := by decide +kernel
      exact Nat.lt_of_le_of_lt (Nat.le_trans (by omega) a) b
    unfold F__law_sum
    simp only [er, seqD, unL_map fun q hq => (okq q hq).1]
    rw [if_pos ⟨hf, by rw [List.length_replicate]; omega⟩, hsum]
  have ene : neF (.d (dP p)) (.d (dP p)) = some (.d (.bool false)) := by
    unfold neF
    have a1 : eqOk (dP p) (dP p) = true := rfl
    simp only [a1, if_true]
    simp [dP, PyData.eqv, PyData.eqvAll]
  have hlenF : lenF [.d (heldD ps)] = some (.d (.int ps.length)) := by
    unfold lenF heldD
    simp
  have hatF : atF (.d (heldD ps)) (.d (.int i)) = some (.d (dP p)) := by
    unfold atF heldD
    simp only [hat]
    rfl
  have hat0 : atF (.d (dP p)) (.d (.int 0)) = some (.d (.int p.1)) := rfl
  have hat1 : atF (.d (dP p)) (.d (.int 1)) = some (.d (.int p.2)) := rfl
  have hs1 : slF none (some i) (.d (heldD ps)) = some (.d (heldD (ps.take i.toNat))) := by
    unfold slF heldD
    simp only
    rw [cut_to _ r1.1, List.map_take]
  have hs2 : slF (some (i + 1)) none (.d (heldD ps)) = some (.d (heldD (ps.drop (i.toNat + 1)))) := by
    unfold slF heldD
    simp only
    rw [cut_from _ (by omega), List.map_drop, show (i + 1).toNat = i.toNat + 1 by omega]
  have hadd : ∀ (xs ys : List Pr), xs.length + ys.length ≤ 1000 → addF (.d (heldD xs)) (.d (heldD ys)) = some (.d (heldD (xs ++ ys))) := fun xs ys hz => by
    unfold addF heldD
    simp only
    rw [if_pos (by simp; omega), List.map_append]
  have hadd1 := hadd (ps.take i.toNat) (ps.drop (i.toNat + 1)) (by rw [List.length_take, List.length_drop]; omega)
  have hadd2 := hadd (ps.take i.toNat ++ ps.drop (i.toNat + 1)) (List.replicate m q) (by rw [List.length_append, List.length_take, List.length_drop, List.length_replicate]; omega)
  have hlist : listF [.d (.tuple (List.replicate m (dP q)))] = some (List.replicate m (dP q)) := rfl
  have hrep : PyData.list (List.replicate m (dP q)) = heldD (List.replicate m q) := by
    unfold heldD
    rw [List.map_replicate]
  have hx : addF (.d (.int 1)) (.d (.int x)) = some (.d (.int m)) := by
    unfold addF
    simp only [hm]
  have hi1 : addF (.d (.int i)) (.d (.int 1)) = some (.d (.int (i + 1))) := rfl
  generalize List.replicate m (dP q) = R at ep emt esame esum hlist hrep ⊢
  generalize heldD ps = hp at hlenF hatF hs1 hs2 ⊢
  generalize heldD (ps.take i.toNat) = h1 at hs1 hadd1 ⊢
  generalize heldD (ps.drop (i.toNat + 1)) = h2 at hs2 hadd1 ⊢
  generalize heldD (ps.take i.toNat ++ ps.drop (i.toNat + 1)) = h3 at hadd1 hadd2 ⊢
  generalize heldD (ps.take i.toNat ++ ps.drop (i.toNat + 1) ++ List.replicate m q) = h4 at hadd2 ⊢
  generalize heldD (List.replicate m q) = h5 at hadd2 hrep ⊢
  generalize dP p = dp at hatF ep hat0 hat1 esum ene ⊢
  generalize dP q = dq at el emt ⊢
  generalize i + 1 = j at hi1 hs2 ⊢
  generalize ps.length = n at hlenF e1 ⊢
  generalize p.2 * (m : Int) = pm at emul el ⊢
  simp [body1, sg, M.bind, M.ret, M.st, mT, mOp, mVar, mK, use, keep, lft, boolOf, optM, mCB, useAll, mCons, mNil, mTup, mLst, mFz, keepD, mSeq, mRet, mIfS, mAnd, mOr, mNot, mAndV, mOrV, mNotV, mIfE, mCall, keepAll, runF, mAsg, aName, mNx, mChain, fnM, startR, isiF, isT, isTN, askT, tyN, gtF, ltF, leF, geF, cmpF, eqF, eqOk, scalD, subF, fdivF, modF, mTru, truS, isF, asks, truD, isNoneD, isBoolD, mRaise, raiseM, oneD, allF, boolsOf, mDrop, aTup, aCons, aNil, twoK, mPar, mSl, mNoP, mPart, intOf, mCBF, e1, e2, hx, hlenF, hatF, hat0, hat1, ep, el, emul, emt, esame, esum, ene, hs1, hs2, hadd1, hadd2, hlist, hrep, hi1]
end
end K05
end
section
set_option maxRecDepth 100000
set_option maxHeartbeats 4000000
namespace K05
open PySem PySem.Spec DL

section
variable {a0 a2 a3 a4 a5 a6 a7 a8 a9 a10 a11 a12 a13 a14 a15 a16 a17 a18 a19 a20 a21 : Option Sl} {t : Option Deal} {dl : Deal}
theorem loop1 : ∀ (ds : List Sl) (r : Nat) (ps : List Pr) (dl : Deal) (a4 a5 a6 a7 a8 : Option Sl), Inv r ps → r + ds.length ≤ 5 → fineD dl → ∃ (qs : List Pr) (r' : Nat) (dl' : Deal) (b4 b5 b6 b7 b8 : Option Sl), Inv r' qs ∧ r' ≤ 5 ∧ fineD dl' ∧ forL (aName 4) body1 ds (sg a0 a2 (some (.d (heldD ps))) a4 a5 a6 a7 a8 a9 a10 a11 a12 a13 a14 a15 a16 a17 a18 a19 a20 a21) (some dl) = .ok .nx (sg a0 a2 (some (.d (heldD qs))) b4 b5 b6 b7 b8 a9 a10 a11 a12 a13 a14 a15 a16 a17 a18 a19 a20 a21) (some dl')
  | [], r, ps, dl, a4, a5, a6, a7, a8, h, hr, hd => ⟨ps, r, dl, a4, a5, a6, a7, a8, h, by simp at hr; omega, hd, rfl⟩
  | d :: ds, r, ps, dl, a4, a5, a6, a7, a8, h, hr, hd => by
    rw [List.length_cons] at hr
    obtain ⟨qs, dl1, b5, b6, b7, b8, h1, hd1, e1⟩ := body1_e (a0 := a0) (a2 := a2) (a4 := some d) (a5 := a5) (a6 := a6) (a7 := a7) (a8 := a8) (a9 := a9) (a10 := a10) (a11 := a11) (a12 := a12) (a13 := a13) (a14 := a14) (a15 := a15) (a16 := a16) (a17 := a17) (a18 := a18) (a19 := a19) (a20 := a20) (a21 := a21) h (by omega) hd
    obtain ⟨qs2, r2, dl2, c4, c5, c6, c7, c8, h2, hr2, hd2, e2⟩ := loop1 ds (r + 1) qs dl1 (some d) b5 b6 b7 b8 h1 (by omega) hd1
    refine ⟨qs2, r2, dl2, c4, c5, c6, c7, c8, h2, hr2, hd2, ?_⟩
    have e0 : aName 4 d (sg a0 a2 (some (.d (heldD ps))) a4 a5 a6 a7 a8 a9 a10 a11 a12 a13 a14 a15 a16 a17 a18 a19 a20 a21) (some dl) = .ok () (sg a0 a2 (some (.d (heldD ps))) (some d) a5 a6 a7 a8 a9 a10 a11 a12 a13 a14 a15 a16 a17 a18 a19 a20 a21) (some dl) := rfl
    unfold forL
    unfold M.bind
    rw [e0]
    simp only
    rw [e1]
    simp only
    exact e2
theorem t_1 (hd : fineD dl) : ∃ (qs : List Pr) (r' : Nat) (dl' : Deal) (b4 b5 b6 b8 : Option Sl), Inv r' qs ∧ r' ≤ 5 ∧ fineD dl' ∧ m_law_1 (sg a0 a2 (some (.d (heldD [one]))) a4 a5 a6 a7 a8 a9 a10 a11 a12 a13 a14 a15 a16 a17 a18 a19 a20 a21) (some dl) = .ok .nx (sg a0 a2 (some (.d (heldD qs))) b4 b5 b6 none b8 a9 a10 a11 a12 a13 a14 a15 a16 a17 a18 a19 a20 a21) (some dl') := by
  have e1 : F__law_any [.deal, .d (.int 6)] (some dl) = .ok (.d (.int (anyD dl 6).1)) (some (anyD dl 6).2) := any_c 6 (by decide) (by decide) hd
  have r1 := anyD_range dl (b := 6) (by decide)
  have hd1 := anyD_fine (b := 6) hd
  generalize (anyD dl 6).2 = d1 at e1 hd1
  generalize (anyD dl 6).1 = n at e1 r1
  have hl : (rangeS 0 n.toNat).length = n.toNat := by simp [rangeS]
  obtain ⟨qs, r', dl', b4, b5, b6, b7, b8, hi, hr, hf, e⟩ := loop1 (a0 := a0) (a2 := a2) (a9 := a9) (a10 := a10) (a11 := a11) (a12 := a12) (a13 := a13) (a14 := a14) (a15 := a15) (a16 := a16) (a17 := a17) (a18 := a18) (a19 := a19) (a20 := a20) (a21 := a21) (rangeS 0 n.toNat) 0 [one] d1 a4 a5 a6 none a8 inv_0 (by rw [hl]; omega) hd1
  refine ⟨qs, r', dl', b4, b5, b6, b8, hi, hr, hf, ?_⟩
  have hrg : rng1 [.d (.int n)] = some (rangeS 0 n.toNat) := if_pos ⟨by omega, by omega⟩
  show mHide [7] (mFor (mRange rng1 (mCons (mCall 2 F__law_any (mCons (mVar [] 1) (mCons (mK (.d (.int 6))) mNil))) mNil)) (aName 4) body1) _ _ = _
  unfold sg at e ⊢
  simp [mHide, wipeR, mFor, mRange, M.bind, M.ret, mCons, mNil, mCall, mVar, mK, keepAll, optM, runF, e1, useAll, use, hrg, e]
end
end K05
end
section
set_option maxRecDepth 100000
set_option maxHeartbeats 4000000
namespace K05
open PySem PySem.Spec DL

theorem seq_nx {m n : M Fl} {r r' : Rho} {t t' : Option Deal} (h : m r t = .ok .nx r' t') : mSeq m n r t = n r' t' := by
  unfold mSeq M.bind
  rw [h]
section
variable {a0 a2 a3 a4 a5 a6 a7 a8 a9 a10 a11 a12 a13 a14 a15 a16 a17 a18 a19 a20 a21 : Option Sl} {t : Option Deal} {dl : Deal}
def shp (r : Rho) : Prop := ∃ a0 a2 a3 a4 a5 a6 a7 a8 a9 a10 a11 a12 a13 a14 a15 a16 a17 a18 a19 a20 a21 : Option Sl, r = sg a0 a2 a3 a4 a5 a6 a7 a8 a9 a10 a11 a12 a13 a14 a15 a16 a17 a18 a19 a20 a21
theorem small_fits {b : Int} (h0 : 0 ≤ b) (h1 : b ≤ 20000) : fits b := by
  unfold fits
  exact Nat.lt_of_lt_of_le (show b.natAbs < 2 ^ 15 by omega) (Nat.pow_le_pow_right (by decide) (by decide))
theorem fits_le {a b : Int} (h0 : 0 ≤ a) (h1 : a ≤ b) (h : fits b) : fits a := by
  unfold fits at h ⊢
  omega
theorem turn_ok (hd : fineD dl) : ∃ (r' : Rho) (dl' : Deal), shp r' ∧ fineD dl' ∧ m_turn (sg a0 a2 a3 a4 a5 a6 a7 a8 a9 a10 a11 a12 a13 a14 a15 a16 a17 a18 a19 a20 a21) (some dl) = .ok .nx r' (some dl') := by
  unfold m_turn
  rw [seq_nx t_0]
  obtain ⟨ps, r, d1, b4, b5, b6, b8, hi, hr, hd1, e1⟩ := t_1 (a0 := a0) (a2 := a2) (a4 := a4) (a5 := a5) (a6 := a6) (a7 := a7) (a8 := a8) (a9 := a9) (a10 := a10) (a11 := a11) (a12 := a12) (a13 := a13) (a14 := a14) (a15 := a15) (a16 := a16) (a17 := a17) (a18 := a18) (a19 := a19) (a20 := a20) (a21 := a21) hd
  rw [seq_nx e1]
  clear e1
  have hrow := hi.row hr
  obtain ⟨d2, hd2, e2⟩ := t_2 (a0 := a0) (a2 := a2) (a4 := b4) (a5 := b5) (a6 := b6) (a7 := none) (a8 := b8) (a9 := a9) (a10 := a10) (a11 := a11) (a12 := a12) (a13 := a13) (a14 := a14) (a15 := a15) (a16 := a16) (a17 := a17) (a18 := a18) (a19 := a19) (a20 := a20) (a21 := a21) hrow hi.wh hd1
  rw [seq_nx e2]
  clear e2
  obtain ⟨qs, rs, d3, hperm, hq1, hd3, e3⟩ := t_3 (a0 := a0) (a2 := a2) (a4 := b4) (a5 := b5) (a6 := b6) (a7 := none) (a8 := b8) (a9 := a9) (a10 := a10) (a11 := a11) (a12 := a12) (a13 := a13) (a14 := a14) (a15 := a15) (a16 := a16) (a17 := a17) (a18 := a18) (a19 := a19) (a20 := a20) (a21 := a21) hrow hd2
  rw [seq_nx e3]
  clear e3
  have h5 := five hr
  have hqok : ∀ p ∈ qs, okP p ∧ p.2 ≤ 3125 := fun p hp => by
    have := hi.ok p (hperm.subset (List.mem_append_left _ hp))
    exact ⟨this.1, by have := this.2; omega⟩
  have hrok : ∀ p ∈ rs, okP p := fun p hp => (hi.ok p (hperm.subset (List.mem_append_right _ hp))).1
  have hqlen : qs.length ≤ 21 := by
    have h1 := hperm.length_eq
    rw [List.length_append] at h1
    have := hi.hi
    omega
  have hqrow : Row qs := row_of hqok hq1 (by omega)
  have hwh : numP (qs ++ rs) = prodB (qs ++ rs) := by rw [perm_num hperm, perm_prod hperm]; exact hi.wh
  have hle : numP qs ≤ prodB qs := part_le hqrow.ok hrok hwh
  rw [seq_nx (t_4 hqrow.ok hqrow.ft hqrow.hi), seq_nx (t_5 hqrow hle)]
  have sm := sumL_sm hqrow.ok
  have hs12 := sum_le hqrow hle
  have hs0 : 0 ≤ (sumL qs).1 := by
    rw [sumL_eq hqrow.ok]
    exact (low_le (numP_nn hqrow.ok) (prodB_pos hqrow.ok)).2.2.1 |> fun h => by first | exact h | omega
  have hsf : fits (sumL qs).2 := by
    have pb := prodB_pos hqrow.ok
    have e : (sumL qs).2 ≤ prodB qs := by
      rw [sumL_eq hqrow.ok]
      exact (low_le (numP_nn hqrow.ok) pb).1
    exact fits_le (by have := sm.b0; omega) e hqrow.ft
  rw [seq_nx (t_6 hs12 sm.b0 hsf), seq_nx (t_7 hqrow hle)]
  obtain ⟨p, d4, hp, hp98, hd4, e8⟩ := t_8 (a0 := a0) (a2 := a2) (a3 := some (.d (heldD ps))) (a4 := b4) (a5 := b5) (a6 := b6) (a7 := none) (a8 := some (.d (dP (sumL qs)))) (a9 := some (.d (heldD qs))) (a10 := some (.d (heldD [one]))) (a11 := some (.d (leftD (sumL qs)))) (a12 := a12) (a13 := a13) (a14 := a14) (a15 := a15) (a16 := a16) (a17 := a17) (a18 := a18) (a19 := a19) (a20 := a20) (a21 := a21) hd3
  rw [seq_nx e8]
  clear e8
  have hqp : Row (qs ++ [p]) := by
    refine row_of (fun q hq => ?_) (by simp) (by simp; omega)
    rcases List.mem_append.mp hq with hq | hq
    · exact hqok q hq
    · rw [List.mem_singleton.mp hq]
      exact ⟨hp, by omega⟩
  rw [seq_nx (t_9 hqp), seq_nx t_10, seq_nx (t_11 hqp), seq_nx (t_12 hqp), seq_nx t_13]
  have hvals := vals_fine (p := p) (s := sumL qs) (small_fits (by have := hp.1; omega) (by have := hp.2.1; omega)) (small_fits (by have := hp.1; have := hp.2.1; omega) (by omega)) (fits_le hs0 hs12 hsf) hsf
  obtain ⟨c15, e14⟩ := t_14 (a0 := a0) (a2 := a2) (a3 := some (.d (heldD ps))) (a4 := some (.d (dP p))) (a5 := b5) (a6 := b6) (a7 := none) (a8 := some (.d (dP (sumL qs)))) (a9 := some (.d (heldD qs))) (a10 := some (.d (heldD [one]))) (a11 := some (.d (leftD (sumL qs)))) (a12 := some (.d (dP (sumL (qs ++ [p]))))) (a13 := some (.d (.bool (decide ((sumL (qs ++ [p])).1 ≤ (sumL (qs ++ [p])).2))))) (a15 := a15) (a16 := a16) (a17 := a17) (a18 := a18) (a19 := a19) (a20 := a20) (a21 := a21) (t := some d4) hvals
  rw [seq_nx e14]
  clear e14
  generalize some (Sl.d (heldD ps)) = b3
  generalize some (Sl.d (dP (sumL (qs ++ [p])))) = b12
  generalize some (Sl.d (.bool (decide ((sumL (qs ++ [p])).1 ≤ (sumL (qs ++ [p])).2)))) = b13
  generalize some (Sl.d (.list (valsL p (sumL qs)))) = b14
  generalize some (Sl.d (dP p)) = c4
  generalize some (Sl.d (dP (sumL qs))) = c8
  generalize some (Sl.d (heldD qs)) = c9
  generalize some (Sl.d (leftD (sumL qs))) = c11
  generalize some (Sl.d (heldD [one])) = c10
  obtain ⟨bs, d5, hbs, hd5, e15⟩ := t_15 (a0 := a0) (a2 := a2) (a3 := b3) (a4 := c4) (a5 := b5) (a6 := b6) (a7 := none) (a8 := c8) (a9 := c9) (a10 := c10) (a11 := c11) (a12 := b12) (a13 := b13) (a14 := b14) (a15 := c15) (a16 := a16) (a17 := a17) (a18 := a18) (a19 := a19) (a20 := a20) (a21 := a21) hd4
  rw [seq_nx e15, seq_nx (t_16 hbs), seq_nx (t_17 hbs)]
  clear e15
  generalize some (Sl.d (.list (bs.map rD))) = b16
  generalize some (Sl.d (.int (edN bs))) = b17
  obtain ⟨v, w, d6, hv, hw, hd6, e18⟩ := t_18 (a0 := a0) (a2 := a2) (a3 := b3) (a4 := c4) (a5 := b5) (a6 := b6) (a7 := none) (a8 := c8) (a9 := c9) (a10 := c10) (a11 := c11) (a12 := b12) (a13 := b13) (a14 := b14) (a15 := c15) (a16 := b16) (a17 := b17) (a18 := a18) (a19 := a19) (a20 := a20) (a21 := a21) hd5
  rw [seq_nx e18, seq_nx (t_19 hv), seq_nx (t_20 hw (by simp))]
  clear e18
  obtain ⟨d7, hd7, e21⟩ := t_21 (a0 := a0) (a2 := a2) (a3 := b3) (a4 := c4) (a5 := b5) (a6 := b6) (a8 := c8) (a9 := c9) (a10 := c10) (a11 := c11) (a12 := b12) (a13 := b13) (a14 := b14) (a15 := c15) (a16 := b16) (a17 := b17) (a19 := some (.d w)) (a20 := a20) (a21 := a21) (ds := [qn 0] ++ [qn 1]) hv hd6 (by simp)
  rw [seq_nx e21, seq_nx (t_22 hv (by simp))]
  clear e21
  obtain ⟨d8, hd8, e23⟩ := t_23 (a0 := a0) (a2 := a2) (a3 := b3) (a4 := c4) (a5 := b5) (a6 := b6) (a8 := c8) (a9 := c9) (a10 := c10) (a11 := c11) (a12 := b12) (a13 := b13) (a14 := b14) (a15 := c15) (a16 := b16) (a17 := b17) (a19 := some (.d w)) (a20 := a20) (a21 := a21) (ds := [qn 0] ++ [qn 1] ++ [qn 0] ++ [qn 0]) hv hd7 (by simp)
  rw [seq_nx e23]
  clear e23
  obtain ⟨d9, hd9, e24⟩ := t_24 (a0 := a0) (a2 := a2) (a3 := b3) (a4 := c4) (a5 := b5) (a6 := b6) (a8 := c8) (a9 := c9) (a10 := c10) (a11 := c11) (a12 := b12) (a13 := b13) (a14 := b14) (a15 := c15) (a16 := b16) (a17 := b17) (a18 := some (.d v)) (a19 := some (.d w)) (a20 := a20) (a21 := a21) (ds := [qn 0] ++ [qn 1] ++ [qn 0] ++ [qn 0] ++ [qn 1]) hd8 (by simp)
  rw [seq_nx e24]
  clear e24
  exact ⟨_, d9, ⟨_, _, _, _, _, _, _, _, _, _, _, _, _, _, _, _, _, _, _, _, _, rfl⟩, hd9, t_25⟩
theorem turns : ∀ (ds : List Sl) (r : Rho) (dl : Deal), shp r → fineD dl → ∃ (r' : Rho) (dl' : Deal), shp r' ∧ fineD dl' ∧ forL (aName 2) m_turn ds r (some dl) = .ok .nx r' (some dl')
  | [], r, dl, h, hd => ⟨r, dl, h, hd, rfl⟩
  | d :: ds, r, dl, h, hd => by
    obtain ⟨a0, a2, a3, a4, a5, a6, a7, a8, a9, a10, a11, a12, a13, a14, a15, a16, a17, a18, a19, a20, a21, rfl⟩ := h
    obtain ⟨r1, d1, h1, hd1, e1⟩ := turn_ok (a0 := a0) (a2 := some d) (a3 := a3) (a4 := a4) (a5 := a5) (a6 := a6) (a7 := a7) (a8 := a8) (a9 := a9) (a10 := a10) (a11 := a11) (a12 := a12) (a13 := a13) (a14 := a14) (a15 := a15) (a16 := a16) (a17 := a17) (a18 := a18) (a19 := a19) (a20 := a20) (a21 := a21) hd
    obtain ⟨r2, d2, h2, hd2, e2⟩ := turns ds r1 d1 h1 hd1
    refine ⟨r2, d2, h2, hd2, ?_⟩
    have e0 : aName 2 d (sg a0 a2 a3 a4 a5 a6 a7 a8 a9 a10 a11 a12 a13 a14 a15 a16 a17 a18 a19 a20 a21) (some dl) = .ok () (sg a0 (some d) a3 a4 a5 a6 a7 a8 a9 a10 a11 a12 a13 a14 a15 a16 a17 a18 a19 a20 a21) (some dl) := rfl
    unfold forL
    unfold M.bind
    rw [e0]
    simp only
    rw [e1]
    simp only
    exact e2
theorem t_z (r : Rho) (t : Option Deal) : m_law_z r t = .ok (.rt (.d (.bool true))) r t := by
  have us : unS (.tuple [.int 1, .int 1]) = some one := by decide
  have ep : F_parts_of [.d (.tuple [.int 1, .int 1]), .d (.int 1000)] t = .ok (.d (.tuple (List.replicate 1000 (.tuple [.int 1, .int 1000])))) t := by
    have l1 : low one.1 (one.2 * 1000) = (1, 1000) := by decide +kernel
    have f1 : fits one.2 := by decide +kernel
    unfold F_parts_of
    simp only [us]
    rw [if_pos ⟨by decide, by decide⟩, if_pos f1, l1]
    rfl
  have ea : atF (.d (.tuple (List.replicate 1000 (.tuple [.int 1, .int 1000])))) (.d (.int 999)) = some (.d (.tuple [.int 1, .int 1000])) := by
    unfold atF
    simp only
    rw [atI_in (by decide) (by rw [List.length_replicate]; decide), List.getElem?_replicate, if_pos (by decide)]
    rfl
  have es : F__law_same [.d (.tuple [.int 1, .int 1000]), .d (.tuple [.int 1, .int 1000])] t = .ok (.d (.bool true)) t := same_refl (by decide +kernel)
  generalize List.replicate 1000 (PyData.tuple [.int 1, .int 1000]) = R at ep ea
  simp [m_law_z, M.bind, M.ret, M.st, mT, mOp, mVar, mK, use, keep, lft, boolOf, optM, mCB, useAll, mCons, mNil, mTup, mLst, mFz, keepD, mSeq, mRet, mIfS, mAnd, mOr, mNot, mAndV, mOrV, mNotV, mIfE, mCall, keepAll, runF, mAsg, aName, mNx, mChain, fnM, startR, isiF, isT, isTN, askT, tyN, lenF, gtF, ltF, leF, geF, cmpF, eqF, neF, eqOk, scalD, addF, subF, mulF, fdivF, modF, mTru, truS, isF, asks, truD, isNoneD, isBoolD, mRaise, raiseM, oneD, List.replicate, allF, boolsOf, mDrop, aTup, aCons, aNil, twoK, mPar, ep, ea, es]
theorem draw_fine (ns : List Int) : fineD ⟨cells0 ns, drawB ns 5⟩ := by
  have h : ∀ (l : List Int) (b : Int), 0 ≤ b ∧ b < 2147483647 → 0 ≤ l.foldl (fun b c => (b * 48271 + c % 2147483549 + 11) % 2147483647) b ∧ l.foldl (fun b c => (b * 48271 + c % 2147483549 + 11) % 2147483647) b < 2147483647 := by
    intro l
    induction l with
    | nil => intro b hb; exact hb
    | cons c l ih =>
      intro b hb
      rw [List.foldl_cons]
      exact ih _ ⟨Int.emod_nonneg _ (by decide), Int.emod_lt_of_pos _ (by decide)⟩
  exact h (drawC ns) _ (by decide)
theorem lawM : LawM := by
  intro ns x0
  obtain ⟨r1, d1, h1, hd1, e1⟩ := turns (rangeS 0 6) (slots0 x0 .deal) ⟨cells0 ns, drawB ns 5⟩ ⟨some x0, none, none, none, none, none, none, none, none, none, none, none, none, none, none, none, none, none, none, none, none, rfl⟩ (draw_fine ns)
  refine ⟨r1, some d1, ?_⟩
  unfold m_law2
  have e0 : mFor (mRange rng1 (mCons (mK (.d (.int 6))) mNil)) (aName 2) m_turn (slots0 x0 .deal) (some ⟨cells0 ns, drawB ns 5⟩) = .ok .nx r1 (some d1) := by
    rw [← e1]
    rfl
  rw [seq_nx e0]
  exact t_z r1 (some d1)
end
end K05
end
theorem PySem.Challenge.cw_heldshares_k05_whole_shares_holds : PySem.Challenge.rw_heldshares_k05_whole_shares.Holds := by
  exact K05.holds_of K05.lawM
