import PyProof.Rows.All
import Wide.All
import OpenK.AllK
import Wide.FinOn
import HandS.ForMost
import HandS.ForExc
import HandS.CallSlots
import HandS.Defaults
import HandS.TupAny
import HandS.Deep
import HandS.IsInst
import HandS.Style
import HandS.StrMore
import HandS.Zip
import KE.GoesMore
import KE.GoesEnum
import HandS.ListItems
import HandS.Small
import HandS.TupLe
import HandS.TupMul
import KE.KStateDown
import HandS.Head0
import HandS.Head1
import HandS.Head2
import HandS.HeadEnd
import HandS.HeadHook1
import HandS.HeadHook2
import HandS.HeadHook3
import PySem.Challenge.RW_casealone_k12_texts_there_and_back
set_option Elab.async false
set_option linter.all false
set_option maxRecDepth 100000
set_option maxHeartbeats 1000000
/-! MP1: a mini Python over plain data. Values are frozen data or references to cells of a small memory; what a semantic function says is told as a reading (RE), and each construct is shown once. -/
namespace MP
open PySem PySem.Spec PyProof.Rows L2
abbrev St := L2.St
/-! ### values, cells, memory, results -/
inductive Val where
  | dat (d : PyData)
  | ob (n : Nat)
inductive Cell where
  | lst (xs : List Val)
  | tup (xs : List Val)
  | dct (kvs : List (Key × Val))
  | ins (C : Str) (fs : List (Str × Val))
  | dead
abbrev Mem := List Cell
structure Exn where
  cls : Str
  pay : Option (Str × PyData) := none
inductive Res (α : Type) where
  | ok (a : α) (M : Mem)
  | exc (e : Exn) (M : Mem)
  | bad
def Res.bind {α β : Type} (r : Res α) (k : α → Mem → Res β) : Res β := match r with
  | .ok a M => k a M
  | .exc e M => .exc e M
  | .bad => .bad
@[simp] theorem Res.bind_ok {α β : Type} (a : α) (M : Mem) (k : α → Mem → Res β) : (Res.ok a M).bind k = k a M := rfl
@[simp] theorem Res.bind_exc {α β : Type} (e : Exn) (M : Mem) (k : α → Mem → Res β) : (Res.exc e M).bind k = Res.exc e M := rfl
@[simp] theorem Res.bind_bad {α β : Type} (k : α → Mem → Res β) : (Res.bad : Res α).bind k = Res.bad := rfl
abbrev Env := List (Option Val)
/-! ### what stands for what -/
def keyD : Key → PyData
  | .inl i => .int i
  | .inr x => .str x
abbrev FrgT := PySem.W.Frag
/-- a value of the mini memory; I: what is frozen -/
def VR (K : FrgT) (I : Hp) (β : List Addr) (v : V) : Val → Prop
  | .dat d => Dp K I v d
  | .ob n => ∃ p, β[n]? = some p ∧ v = .ref p
abbrev VRs (K : FrgT) (I : Hp) (β : List Addr) : List V → List Val → Prop := Paired (VR K I β)
def PairR (K : FrgT) (I : Hp) (β : List Addr) : List (Key × V) → List (Key × Val) → Prop := Paired fun a b => a.1 = b.1 ∧ VR K I β a.2 b.2
def CellR (K : FrgT) (ca : Str → Addr) (I H : Hp) (β : List Addr) (p : Addr) : Cell → Prop
  | .lst xs => I p = none ∧ ∃ vs, H p = some (.lst vs) ∧ VRs K I β vs xs
  | .tup xs => I p = none ∧ ∃ vs, H p = some (.tup vs) ∧ VRs K I β vs xs
  | .dct kvs => I p = none ∧ ∃ ks, H p = some (.dK ks) ∧ PairR K I β ks kvs
  | .ins C fs => I p = none ∧ ∃ dx gs, H p = some (.ins (ca C) dx gs) ∧ Paired (fun (a : Str × V) (b : Str × Val) => a.1 = b.1 ∧ VR K I β a.2 b.2) gs fs
  | .dead => True
structure Sit (K : FrgT) (ca : Str → Addr) (I H : Hp) (β : List Addr) (M : Mem) : Prop where
  sub : Same I H
  len : β.length = M.length
  inj : β.Nodup
  trk : ∀ p ∈ β, H p ≠ none
  cell : ∀ (n : Nat) (c : Cell) (p : Addr), M[n]? = some c → β[n]? = some p → CellR K ca I H β p c
/-- frozen things and addresses stay -/
structure Ex0 (I : Hp) (β : List Addr) (I' : Hp) (β' : List Addr) : Prop where
  fro : Same I I'
  adr : ∀ (n : Nat) (p : Addr), β[n]? = some p → β'[n]? = some p
/-- .. and what is tracked, but neither frozen nor a cell, stays too -/
structure Ext (I H : Hp) (β : List Addr) (I' H' : Hp) (β' : List Addr) : Prop extends Ex0 I β I' β' where
  frm : ∀ a o, H a = some o → I a = none → a ∉ β → H' a = some o ∧ I' a = none ∧ a ∉ β'
/-- the frozen part grows by new things, all else stays -/
structure Grow (I H I' H' : Hp) : Prop where
  fro : Same I I'
  all : Same H H'
  sub : Same I' H'
  new : ∀ a, I' a ≠ none → I a = none → H a = none
section
variable {K : FrgT} {ca : Str → Addr} {I I1 I2 H H1 H2 : Hp} {β β1 β2 : List Addr} {M M1 : Mem}
theorem Ex0.refl : Ex0 I β I β := ⟨Same.refl _, fun _ _ h => h⟩
theorem Ex0.trans (a : Ex0 I β I1 β1) (b : Ex0 I1 β1 I2 β2) : Ex0 I β I2 β2 := ⟨a.fro.trans b.fro, fun n p h => b.adr n p (a.adr n p h)⟩
theorem Ext.refl : Ext I H β I H β := ⟨Ex0.refl, fun a o h1 h2 h3 => ⟨h1, h2, h3⟩⟩
theorem Ext.trans (a : Ext I H β I1 H1 β1) (b : Ext I1 H1 β1 I2 H2 β2) : Ext I H β I2 H2 β2 := ⟨a.toEx0.trans b.toEx0, fun x o h1 h2 h3 => by
  obtain ⟨g1, g2, g3⟩ := a.frm x o h1 h2 h3
  exact b.frm x o g1 g2 g3⟩
theorem _root_.L2.Same.tupl {a : Addr} {xs : List V} (e : Same I I1) (h : SqT K I a xs) : SqT K I1 a xs := by
  rcases h with (h | ⟨o, h⟩) | h
  · exact .inl (.inl (e _ _ h))
  · exact .inl (.inr ⟨o, e _ _ h⟩)
  · exact .inr h
mutual
theorem dp_mono (e : Same I I1) : ∀ (d : PyData) (v : V), Dp K I v d → Dp K I1 v d
  | .none, _, h => by cases h; exact .non
  | .bool b, _, h => by cases h; exact .bl b
  | .int i, _, h => by cases h; exact .int i
  | .str x, _, h => by cases h; exact .str x
  | .list ds, _, h => by
    cases h with
    | lst hs ha => exact .lst (e.seq hs) (dpAll_mono e ds _ ha)
  | .tuple ds, _, h => by
    cases h with
    | tup hs ha => exact .tup (Same.tupl e hs) (dpAll_mono e ds _ ha)
  | .dict _, _, h => by cases h
theorem dpAll_mono (e : Same I I1) : ∀ (ds : List PyData) (vs : List V), DpAll K I vs ds → DpAll K I1 vs ds
  | [], _, h => by cases h; exact .nil
  | d :: ds, _, h => by
    cases h with
    | cons h1 h2 => exact .cons (dp_mono e d _ h1) (dpAll_mono e ds _ h2)
end
theorem _root_.L2.Dp.mono {v : V} {d : PyData} (h : Dp K I v d) (e : Same I I1) : Dp K I1 v d := dp_mono e d v h
theorem _root_.L2.DpAll.mono {vs : List V} {ds : List PyData} (h : DpAll K I vs ds) (e : Same I I1) : DpAll K I1 vs ds := dpAll_mono e ds vs h
theorem VR.mono {v : V} {x : Val} (h : VR K I β v x) (e : Ex0 I β I1 β1) : VR K I1 β1 v x := by
  cases x with
  | dat d => exact Dp.mono (show Dp K I v d from h) e.fro
  | ob n =>
    obtain ⟨p, h1, h2⟩ := h
    exact ⟨p, e.adr n p h1, h2⟩
theorem VRs.mono {vs : List V} {xs : List Val} (h : VRs K I β vs xs) (e : Ex0 I β I1 β1) : VRs K I1 β1 vs xs := Paired.mapP h fun _ _ r => VR.mono r e
theorem PairR.mono {ks : List (Key × V)} {kvs : List (Key × Val)} (h : PairR K I β ks kvs) (e : Ex0 I β I1 β1) : PairR K I1 β1 ks kvs := Paired.mapP h fun a b r => ⟨r.1, VR.mono r.2 e⟩
theorem Grow.refl (s : Same I H) : Grow I H I H := ⟨Same.refl _, Same.refl _, s, fun a h1 h2 => absurd h2 h1⟩
theorem Grow.trans (a : Grow I H I1 H1) (b : Grow I1 H1 I2 H2) : Grow I H I2 H2 := ⟨a.fro.trans b.fro, a.all.trans b.all, b.sub, fun x h1 h2 => by
  cases q : I1 x with
  | none =>
    have h3 := b.new x h1 q
    cases r : H x with
    | none => rfl
    | some o =>
      have := a.all x o r
      rw [h3] at this
      cases this
  | some o => exact a.new x (by rw [q]; exact fun z => nomatch z) h2⟩
theorem Grow.ex0 (g : Grow I H I1 H1) : Ex0 I β I1 β := ⟨g.fro, fun _ _ h => h⟩
theorem Grow.keepN (g : Grow I H I1 H1) {a : Addr} (h1 : H a ≠ none) (h2 : I a = none) : I1 a = none := by
  cases q : I1 a with
  | none => rfl
  | some u => exact absurd (g.new a (by rw [q]; exact fun z => nomatch z) h2) h1
theorem Grow.ext (g : Grow I H I1 H1) : Ext I H β I1 H1 β := ⟨g.ex0, fun a o h1 h2 h3 => ⟨g.all a o h1, g.keepN (by rw [h1]; exact fun z => nomatch z) h2, h3⟩⟩
/-- a new frozen object -/
theorem Grow.one {p : Addr} {o : HO} (s : Same I H) (h : H p = none) : Grow I H (upd I p o) (upd H p o) := by
  have hi : I p = none := s.free h
  refine ⟨fun b u e => ?_, fun b u e => ?_, fun b u e => ?_, fun a h1 h2 => ?_⟩
  · rw [upd_ne (ne_of_none e hi)]; exact e
  · rw [upd_ne (ne_of_none e h)]; exact e
  · by_cases q : b = p
    · subst q; rw [upd_same] at e ⊢; exact e
    · rw [upd_ne q] at e ⊢; exact s b u e
  · by_cases q : a = p
    · subst q; exact h
    · rw [upd_ne q] at h1; exact absurd h2 h1
theorem CellR.grow {p : Addr} {c : Cell} (h : CellR K ca I H β p c) (g : Grow I H I1 H1) (hp : H p ≠ none) : CellR K ca I1 H1 β p c := by
  have key : I p = none → I1 p = none := fun hi => by
    cases q : I1 p with
    | none => rfl
    | some o => exact absurd (g.new p (by rw [q]; exact fun z => nomatch z) hi) hp
  cases c with
  | lst xs =>
    obtain ⟨hi, vs, h1, h2⟩ := h
    exact ⟨key hi, vs, g.all _ _ h1, VRs.mono h2 g.ex0⟩
  | tup xs =>
    obtain ⟨hi, vs, h1, h2⟩ := h
    exact ⟨key hi, vs, g.all _ _ h1, VRs.mono h2 g.ex0⟩
  | dct kvs =>
    obtain ⟨hi, ho, h1, h2⟩ := h
    exact ⟨key hi, ho, g.all _ _ h1, PairR.mono h2 g.ex0⟩
  | ins C fs =>
    obtain ⟨hi, dx, gs, h1, h2⟩ := h
    exact ⟨key hi, dx, gs, g.all _ _ h1, Paired.mapP h2 fun _ _ r => ⟨r.1, VR.mono r.2 g.ex0⟩⟩
  | dead => trivial
theorem Sit.grow (s : Sit K ca I H β M) (g : Grow I H I1 H1) : Sit K ca I1 H1 β M := by
  refine ⟨g.sub, s.len, s.inj, fun p hp z => ?_, fun n c p h1 h2 => (s.cell n c p h1 h2).grow g (s.trk p (List.mem_of_getElem? h2))⟩
  cases q : H p with
  | none => exact s.trk p hp q
  | some o =>
    have h3 := g.all p o q
    rw [z] at h3
    cases h3
theorem CellR.adr {p : Addr} {c : Cell} (h : CellR K ca I H β p c) (e : ∀ (n : Nat) (q : Addr), β[n]? = some q → β1[n]? = some q) : CellR K ca I H β1 p c := by
  cases c with
  | lst xs =>
    obtain ⟨hi, vs, h1, h2⟩ := h
    exact ⟨hi, vs, h1, VRs.mono h2 ⟨Same.refl _, e⟩⟩
  | tup xs =>
    obtain ⟨hi, vs, h1, h2⟩ := h
    exact ⟨hi, vs, h1, VRs.mono h2 ⟨Same.refl _, e⟩⟩
  | dct kvs =>
    obtain ⟨hi, vs, h1, h2⟩ := h
    exact ⟨hi, vs, h1, PairR.mono h2 ⟨Same.refl _, e⟩⟩
  | ins C fs =>
    obtain ⟨hi, dx, gs, h1, h2⟩ := h
    exact ⟨hi, dx, gs, h1, Paired.mapP h2 fun _ _ r => ⟨r.1, VR.mono r.2 ⟨Same.refl _, e⟩⟩⟩
  | dead => trivial
theorem CellR.other {p q : Addr} {o : HO} {c : Cell} (h : CellR K ca I H β p c) (ne : p ≠ q) : CellR K ca I (upd H q o) β p c := by
  cases c with
  | lst xs =>
    obtain ⟨hi, vs, h1, h2⟩ := h
    exact ⟨hi, vs, by rw [upd_ne ne]; exact h1, h2⟩
  | tup xs =>
    obtain ⟨hi, vs, h1, h2⟩ := h
    exact ⟨hi, vs, by rw [upd_ne ne]; exact h1, h2⟩
  | dct kvs =>
    obtain ⟨hi, ho, h1, h2⟩ := h
    exact ⟨hi, ho, by rw [upd_ne ne]; exact h1, h2⟩
  | ins C fs =>
    obtain ⟨hi, dx, gs, h1, h2⟩ := h
    exact ⟨hi, dx, gs, by rw [upd_ne ne]; exact h1, h2⟩
  | dead => trivial
theorem same_upd_out {p : Addr} {o : HO} (s : Same I H) (hi : I p = none) : Same I (upd H p o) := fun b u e => by
  rw [upd_ne (ne_of_none e hi)]
  exact s b u e
/-- a new cell -/
theorem Sit.alloc {p : Addr} {o : HO} {c : Cell} (s : Sit K ca I H β M) (h : H p = none) (hc : CellR K ca I (upd H p o) (β ++ [p]) p c) : Sit K ca I (upd H p o) (β ++ [p]) (M ++ [c]) := by
  have hb : p ∉ β := fun z => s.trk p z h
  refine ⟨same_upd_out s.sub (s.sub.free h), by simp [s.len], ?_, ?_, ?_⟩
  · rw [List.nodup_append]
    exact ⟨s.inj, by simp, fun a ha b hb' => by
      simp at hb'
      subst hb'
      exact fun e => hb (e ▸ ha)⟩
  · intro q hq z
    rcases List.mem_append.mp hq with hq | hq
    · have ne : q ≠ p := fun e => hb (e ▸ hq)
      rw [upd_ne ne] at z
      exact s.trk q hq z
    · simp at hq
      subst hq
      rw [upd_same] at z
      cases z
  · intro n c' q h1 h2
    by_cases hn : n < M.length
    · rw [List.getElem?_append_left hn] at h1
      rw [List.getElem?_append_left (by rw [s.len]; exact hn)] at h2
      have ne : q ≠ p := fun e => hb (e ▸ List.mem_of_getElem? h2)
      refine (CellR.adr (s.cell n c' q h1 h2) fun k r e => ?_).other ne
      rw [List.getElem?_append_left (List.getElem?_eq_some_iff.mp e).1]
      exact e
    · have hn' : n = M.length := by
        have := (List.getElem?_eq_some_iff.mp h1).1
        simp at this
        omega
      subst hn'
      simp at h1
      rw [← s.len] at h2
      simp at h2
      subst h1 h2
      exact hc
/-- a cell is changed -/
theorem Sit.put {n : Nat} {p : Addr} {o : HO} {c : Cell} (s : Sit K ca I H β M) (hp : β[n]? = some p) (hi : I p = none) (hc : CellR K ca I (upd H p o) β p c) : Sit K ca I (upd H p o) β (M.set n c) := by
  refine ⟨same_upd_out s.sub hi, by simp [s.len], s.inj, fun q hq z => ?_, fun m c' q h1 h2 => ?_⟩
  · by_cases e : q = p
    · subst e; rw [upd_same] at z; cases z
    · rw [upd_ne e] at z; exact s.trk q hq z
  · by_cases e : n = m
    · subst e
      have hn : n < M.length := by
        have := (List.getElem?_eq_some_iff.mp h1).1
        simpa using this
      rw [List.getElem?_set_self hn] at h1
      cases h1
      rw [hp] at h2
      cases h2
      exact hc
    · rw [List.getElem?_set_ne e] at h1
      have ne : q ≠ p := fun z => by
        subst z
        obtain ⟨a1, a2⟩ := List.getElem?_eq_some_iff.mp hp
        obtain ⟨b1, b2⟩ := List.getElem?_eq_some_iff.mp h2
        exact e ((List.getElem_inj s.inj).mp (a2.trans b2.symm))
      exact (s.cell m c' q h1 h2).other ne
theorem Ext.alloc {p : Addr} {o : HO} (h : H p = none) : Ext I H β I (upd H p o) (β ++ [p]) := ⟨⟨Same.refl _, fun n q e => by
  rw [List.getElem?_append_left (List.getElem?_eq_some_iff.mp e).1]
  exact e⟩, fun a u h1 h2 h3 => by
  have ne : a ≠ p := ne_of_none h1 h
  exact ⟨by rw [upd_ne ne]; exact h1, h2, by simp [h3, ne]⟩⟩
theorem Ext.put {p : Addr} {o : HO} (h : p ∈ β) : Ext I H β I (upd H p o) β := ⟨Ex0.refl, fun a u h1 h2 h3 => by
  have ne : a ≠ p := fun e => h3 (e ▸ h)
  exact ⟨by rw [upd_ne ne]; exact h1, h2, h3⟩⟩
end
/-! ### views -/
def datsOf : List Val → Option (List PyData)
  | [] => some []
  | .dat d :: r => (datsOf r).map (d :: ·)
  | .ob _ :: _ => none
theorem dats_of {K : FrgT} {I : Hp} {β : List Addr} : ∀ {vs : List V} {xs : List Val} {ds : List PyData}, VRs K I β vs xs → datsOf xs = some ds → DpAll K I vs ds
  | _, _, _, .nil, e => by cases e; exact .nil
  | _, x :: xs, _, .cons r t, e => by
    cases x with
    | dat d =>
      simp only [datsOf] at e
      cases q : datsOf xs with
      | none => rw [q] at e; cases e
      | some ds => rw [q] at e; cases e; exact .cons r (dats_of t q)
    | ob n => cases e
@[simp] theorem datsOf_map : ∀ ds : List PyData, datsOf (ds.map Val.dat) = some ds
  | [] => rfl
  | d :: ds => by rw [List.map_cons, datsOf, datsOf_map ds]; rfl
theorem vrs_map {K : FrgT} {I : Hp} {β : List Addr} : ∀ {vs : List V} {ds : List PyData}, DpAll K I vs ds → VRs K I β vs (ds.map Val.dat)
  | _, _, .nil => .nil
  | _, _, .cons r t => .cons r (vrs_map t)
def view (M : Mem) : Val → Option PyData
  | .dat d => some d
  | .ob n => match M[n]? with
    | some (.lst xs) => (datsOf xs).map .list
    | _ => none
/-- v reads as d now: frozen, or a cell of our own -/
inductive VW (K : FrgT) (I H : Hp) : V → PyData → Prop
  | fro {v : V} {d : PyData} : Dp K I v d → VW K I H v d
  | lst {p : Addr} {vs : List V} {xs : List PyData} : H p = some (.lst vs) → DpAll K I vs xs → VW K I H (.ref p) (.list xs)
abbrev VWs (K : FrgT) (I H : Hp) : List V → List PyData → Prop := Paired (VW K I H)
section
variable {K : FrgT} {ca : Str → Addr} {I I1 H H1 : Hp} {β β1 : List Addr} {M : Mem}
theorem Sit.view {v : V} {x : Val} {d : PyData} (s : Sit K ca I H β M) (r : VR K I β v x) (e : view M x = some d) : VW K I H v d := by
  cases x with
  | dat d' => cases e; exact .fro r
  | ob n =>
    obtain ⟨p, h1, rfl⟩ := r
    have e' : (match M[n]? with
      | some (.lst xs) => (datsOf xs).map PyData.list
      | _ => none) = some d := e
    split at e'
    · rename_i xs hM
      obtain ⟨_, vs, g1, g2⟩ := s.cell n _ p hM h1
      cases q : datsOf xs with
      | none => rw [q] at e'; cases e'
      | some ds =>
        rw [q] at e'
        cases e'
        exact .lst g1 (dats_of g2 q)
    · cases e'
def views (M : Mem) : List Val → Option (List PyData)
  | [] => some []
  | x :: xs => match view M x, views M xs with
    | some d, some ds => some (d :: ds)
    | _, _ => none
theorem Sit.views (s : Sit K ca I H β M) : ∀ {vs : List V} {xs : List Val} {ds : List PyData}, VRs K I β vs xs → views M xs = some ds → VWs K I H vs ds
  | _, _, _, .nil, e => by cases e; exact .nil
  | _, x :: xs, _, .cons r t, e => by
    unfold MP.views at e
    cases q1 : MP.view M x with
    | none => rw [q1] at e; cases e
    | some d =>
      cases q2 : MP.views M xs with
      | none => rw [q1, q2] at e; cases e
      | some ds =>
        rw [q1, q2] at e
        cases e
        exact .cons (s.view r q1) (Sit.views s t q2)
theorem VW.dp {v : V} {d : PyData} (s : Same I H) (h : VW K I H v d) : Dp K H v d := by
  cases h with
  | fro h => exact h.mono s
  | lst h1 h2 => exact .lst (.inl (.inl h1)) (h2.mono s)
theorem VW.int {v : V} {i : Int} (h : VW K I H v (.int i)) : v = .int i := by
  cases h with
  | fro h => cases h; rfl
theorem VW.str {v : V} {x : Str} (h : VW K I H v (.str x)) : v = .str x := by
  cases h with
  | fro h => cases h; rfl
theorem VW.bool {v : V} {b : Bool} (h : VW K I H v (.bool b)) : v = .bl b := by
  cases h with
  | fro h => cases h; rfl
theorem VW.none {v : V} (h : VW K I H v .none) : v = .non := by
  cases h with
  | fro h => cases h; rfl
theorem VW.list {v : V} {xs : List PyData} (s : Same I H) (h : VW K I H v (.list xs)) : ∃ a vs, v = .ref a ∧ SqL K H a vs ∧ DpAll K I vs xs := by
  cases h with
  | fro h =>
    cases h with
    | lst hs ha => exact ⟨_, _, rfl, s.seq hs, ha⟩
  | lst h1 h2 => exact ⟨_, _, rfl, .inl (.inl h1), h2⟩
theorem VW.tuple {v : V} {xs : List PyData} (s : Same I H) (h : VW K I H v (.tuple xs)) : ∃ a vs, v = .ref a ∧ SqT K I a vs ∧ SqT K H a vs ∧ DpAll K I vs xs := by
  cases h with
  | fro h =>
    cases h with
    | tup hs ha => exact ⟨_, _, rfl, hs, Same.tupl s hs, ha⟩
end
/-! ### readings of semantic functions -/
def ExnR (K : FrgT) (ca : Str → Addr) (H : Hp) (cls : Value) (d : Option Addr) (e : Exn) : Prop :=
  cls = .ref (ca e.cls) ∧ match e.pay with
    | none => d = none
    | some (f, x) => ∃ a v, d = some a ∧ H a = some (.xd [(f, v)]) ∧ Dp K H v x
/-- a mini world: the written part, the classes' addresses -/
structure Mw where
  K : FrgT
  ca : Str → Addr
section
variable (w : Mw) (W : WX)
/-- behind a result: what is wanted of every value and heap that stand for it -/
def Post {α γ : Type} (R : Hp → Hp → List Addr → γ → α → Prop) (σ : St) (I H : Hp) (β : List Addr) (Q : γ → Hp → Prop) : Res α → Prop
  | .ok a M => ∀ I' H' β' v, Sit w.K w.ca I' H' β' M → Ext I H β I' H' β' → R I' H' β' v a → Q v H'
  | .exc e M => ∀ I' H' β' cls d, Sit w.K w.ca I' H' β' M → Ext I H β I' H' β' → ExnR w.K w.ca H' cls d e → W cls d σ H'
  | .bad => False
def EnvR (K : FrgT) (I : Hp) (β : List Addr) (σ : St) (env : Env) : Prop :=
  env.length = σ.length ∧ ∀ (i : Nat) (x : Val), env[i]? = some (some x) → ∃ v, σ[i]? = some (some v) ∧ VR K I β v x
/-- the reading of an expression's semantic function -/
def RE (r : Env → Mem → Res Val) : TE := fun σ H Q => ∃ I β M env, Sit w.K w.ca I H β M ∧ EnvR w.K I β σ env ∧ Post w W (fun I _ β v x => VR w.K I β v x) σ I H β Q (r env M)
def RA (r : Env → Mem → Res (List Val)) : TA := fun σ H Q => ∃ I β M env, Sit w.K w.ca I H β M ∧ EnvR w.K I β σ env ∧ Post w W (fun I _ β v x => VRs w.K I β v x) σ I H β Q (r env M)
end
section
variable {w : Mw} {W : WX} {X : Cx} {σ : St} {I H : Hp} {β : List Addr}
theorem EnvR.mono {K : FrgT} {I1 : Hp} {β1 : List Addr} {env : Env} (h : EnvR K I β σ env) (e : Ex0 I β I1 β1) : EnvR K I1 β1 σ env :=
  ⟨h.1, fun i x hx => let ⟨v, h1, h2⟩ := h.2 i x hx; ⟨v, h1, h2.mono e⟩⟩
theorem pe_imp {e : Expr} {t t' : TE} (h : PE X e t) (i : ∀ σ H Q, t' σ H Q → t σ H Q) : PE X e t' := ⟨fun pins s σ H Q I q => h.run pins s σ H Q I (i σ H Q q)⟩
theorem pa_imp {e : List Expr} {t t' : TA} (h : PA X e t) (i : ∀ σ H Q, t' σ H Q → t σ H Q) : PA X e t' := ⟨fun pos pins s σ H Q I q => h.run pos pins s σ H Q I (i σ H Q q)⟩
theorem pt_imp {e : Expr} {t t' : TT} (h : PT X e t) (i : ∀ σ H Q, t' σ H Q → t σ H Q) : PT X e t' := ⟨fun pins s σ H Q I q => h.run pins s σ H Q I (i σ H Q q)⟩
theorem ps_imp {st : Stmt} {t t' : TS} (h : PS X st t) (i : ∀ D σ H, t' D σ H → t D σ H) : PS X st t' := ⟨fun pins s σ H D I q => h.run pins s σ H D I (i D σ H q)⟩
theorem pss_imp {st : List Stmt} {t t' : TS} (h : PSs X st t) (i : ∀ D σ H, t' D σ H → t D σ H) : PSs X st t' := ⟨fun pins s σ H D I q => h.run pins s σ H D I (i D σ H q)⟩
theorem Post.imp {α γ : Type} {R : Hp → Hp → List Addr → γ → α → Prop} {Q Q' : γ → Hp → Prop} {r : Res α} (h : Post w W R σ I H β Q r) (i : ∀ v H, Q v H → Q' v H) : Post w W R σ I H β Q' r := by
  cases r with
  | ok a M => exact fun I' H' β' v s e q => i _ _ (h I' H' β' v s e q)
  | exc e M => exact h
  | bad => exact h
theorem Post.ext {α γ : Type} {R : Hp → Hp → List Addr → γ → α → Prop} {Q : γ → Hp → Prop} {r : Res α} {I1 H1 : Hp} {β1 : List Addr} (h : Post w W R σ I H β Q r) (x : Ext I H β I1 H1 β1) : Post w W R σ I1 H1 β1 Q r := by
  cases r with
  | ok a M => exact fun I' H' β' v s e q => h I' H' β' v s (x.trans e) q
  | exc e M => exact fun I' H' β' c d s y q => h I' H' β' c d s (x.trans y) q
  | bad => exact h
/-- one step, then the rest -/
theorem Post.seq {α γ α' γ' : Type} {R : Hp → Hp → List Addr → γ → α → Prop} {R' : Hp → Hp → List Addr → γ' → α' → Prop} {Q : γ' → Hp → Prop} {r : Res α} {k : α → Mem → Res α'} (h : Post w W R' σ I H β Q (r.bind k)) :
    Post w W R σ I H β (fun v H1 => ∃ I1 β1 M1 x, Sit w.K w.ca I1 H1 β1 M1 ∧ Ext I H β I1 H1 β1 ∧ R I1 H1 β1 v x ∧ Post w W R' σ I1 H1 β1 Q (k x M1)) r := by
  cases r with
  | ok a M => exact fun I' H' β' v s e q => ⟨I', β', M, a, s, e, q, Post.ext h e⟩
  | exc e M => exact h
  | bad => exact h
end
end MP
set_option Elab.async false
set_option linter.all false
set_option maxRecDepth 100000
set_option maxHeartbeats 1000000
/-! MP2: expressions: names, constants, operators, comparisons, and, or, not, if-else, displays, arguments. -/
namespace MP
open PySem PySem.Spec PyProof.Rows L2
abbrev Sm := Env → Mem → Res Val
abbrev Sms := Env → Mem → Res (List Val)
def evVar (i : Nat) : Sm := fun env M => match env[i]? with
  | some (some x) => .ok x M
  | _ => .bad
def evLit (d : PyData) : Sm := fun _ M => .ok (.dat d) M
def v1 (f : PyData → Option PyData) (x : Val) (M : Mem) : Res Val := match view M x with
  | some d => (match f d with
    | some z => .ok (.dat z) M
    | none => .bad)
  | none => .bad
def v2 (f : PyData → PyData → Option PyData) (x y : Val) (M : Mem) : Res Val := match view M x, view M y with
  | some d, some e => (match f d e with
    | some z => .ok (.dat z) M
    | none => .bad)
  | _, _ => .bad
def vn (f : List PyData → Option PyData) (xs : List Val) (M : Mem) : Res Val := match views M xs with
  | some ds => (match f ds with
    | some z => .ok (.dat z) M
    | none => .bad)
  | none => .bad
def ev1 (f : PyData → Option PyData) (a : Sm) : Sm := fun env M => (a env M).bind fun x M1 => v1 f x M1
def ev2 (f : PyData → PyData → Option PyData) (a b : Sm) : Sm := fun env M => (a env M).bind fun x M1 => (b env M1).bind fun y M2 => v2 f x y M2
def evs : List Sm → Sms
  | [] => fun _ M => .ok [] M
  | a :: as => fun env M => (a env M).bind fun x M1 => (evs as env M1).bind fun xs M2 => .ok (x :: xs) M2
def evn (f : List PyData → Option PyData) (as : Sms) : Sm := fun env M => (as env M).bind fun xs M1 => vn f xs M1
def asB : Val → Option Bool
  | .dat (.bool b) => some b
  | _ => none
abbrev Stt := Env → Mem → Res Bool
def toB (a : Sm) : Stt := fun env M => (a env M).bind fun x M1 => match asB x with
  | some b => .ok b M1
  | none => .bad
def evIf (c a b : Sm) : Sm := fun env M => (toB c env M).bind fun k M1 => match k with
  | true => a env M1
  | false => b env M1
def evAnd : List Sm → Sm
  | [] => fun _ _ => .bad
  | [a] => a
  | a :: b :: r => fun env M => (a env M).bind fun x M1 => match asB x with
    | some true => evAnd (b :: r) env M1
    | some false => .ok (.dat (.bool false)) M1
    | none => .bad
def evOr : List Sm → Sm
  | [] => fun _ _ => .bad
  | [a] => a
  | a :: b :: r => fun env M => (a env M).bind fun x M1 => match asB x with
    | some true => .ok (.dat (.bool true)) M1
    | some false => evOr (b :: r) env M1
    | none => .bad
def notD : PyData → Option PyData
  | .bool b => some (.bool (!b))
  | _ => none
/-- a o b o' c -/
def evCh (f g : PyData → PyData → Option PyData) (a b c : Sm) : Sm := fun env M => (a env M).bind fun x M1 => (b env M1).bind fun y M2 => (v2 f x y M2).bind fun z M3 => match asB z with
  | some true => (c env M3).bind fun u M4 => v2 g y u M4
  | some false => .ok (.dat (.bool false)) M3
  | none => .bad
section
variable (w : Mw) (W : WX)
abbrev RV (w : Mw) : Hp → Hp → List Addr → V → Val → Prop := fun I _ β v x => VR w.K I β v x
abbrev RVs (w : Mw) : Hp → Hp → List Addr → List V → List Val → Prop := fun I _ β v x => VRs w.K I β v x
abbrev RB : Hp → Hp → List Addr → Bool → Bool → Prop := fun _ _ _ b x => b = x
def RT (r : Stt) : TT := fun σ H Q => ∃ I β M env, Sit w.K w.ca I H β M ∧ EnvR w.K I β σ env ∧ Post w W RB σ I H β Q (r env M)
end
def OkOp (K : FrgT) (r : R2) (f : PyData → PyData → Option PyData) : Prop := ∀ (I H : Hp) (x y : V) (d e z : PyData) (Q : VK), Same I H → VW K I H x d → VW K I H y e → f d e = some z → (∀ I' H' v, Grow I H I' H' → Dp K I' v z → Q v H') → r x y H Q
def OkUn (K : FrgT) (r : V → Hp → VK → Prop) (f : PyData → Option PyData) : Prop := ∀ (I H : Hp) (x : V) (d z : PyData) (Q : VK), Same I H → VW K I H x d → f d = some z → (∀ I' H' v, Grow I H I' H' → Dp K I' v z → Q v H') → r x H Q
def OkCall (K : FrgT) (r : List V → Hp → VK → Prop) (f : List PyData → Option PyData) : Prop := ∀ (I H : Hp) (xs : List V) (ds : List PyData) (z : PyData) (Q : VK), Same I H → VWs K I H xs ds → f ds = some z → (∀ I' H' v, Grow I H I' H' → Dp K I' v z → Q v H') → r xs H Q
section
variable {w : Mw} {W : WX} {X : Cx} {σ : St} {I H : Hp} {β : List Addr} {M : Mem} {a b c : Expr} {ra rb rc : Sm} {pos : Pos}
theorem Post.dat {Q : VK} {z : PyData} (h : Post w W (RV w) σ I H β Q (.ok (.dat z) M)) (s : Sit w.K w.ca I H β M) : ∀ I' H' v, Grow I H I' H' → Dp w.K I' v z → Q v H' := fun I' H' v g d => h I' H' β v (s.grow g) g.ext d
theorem Post.dat0 {Q : VK} {z : PyData} {v : V} (h : Post w W (RV w) σ I H β Q (.ok (.dat z) M)) (s : Sit w.K w.ca I H β M) (d : Dp w.K I v z) : Q v H := Post.dat h s I H v (Grow.refl s.sub) d
theorem Post.v2 {Q : VK} {x y : V} {u v : Val} {r : R2} {f : PyData → PyData → Option PyData} (h : Post w W (RV w) σ I H β Q (v2 f u v M)) (ok : OkOp w.K r f) (s : Sit w.K w.ca I H β M) (ru : VR w.K I β x u) (rv : VR w.K I β y v) : r x y H Q := by
  unfold MP.v2 at h
  cases q1 : view M u with
  | none => rw [q1] at h; exact False.elim h
  | some d =>
    cases q2 : view M v with
    | none => rw [q1, q2] at h; exact False.elim h
    | some e =>
      rw [q1, q2] at h
      cases q3 : f d e with
      | none => simp only [q3] at h; exact False.elim h
      | some z =>
        simp only [q3] at h
        exact ok I H x y d e z Q s.sub (s.view ru q1) (s.view rv q2) q3 (Post.dat h s)
theorem Post.v1 {Q : VK} {x : V} {u : Val} {r : V → Hp → VK → Prop} {f : PyData → Option PyData} (h : Post w W (RV w) σ I H β Q (v1 f u M)) (ok : OkUn w.K r f) (s : Sit w.K w.ca I H β M) (ru : VR w.K I β x u) : r x H Q := by
  unfold MP.v1 at h
  cases q1 : view M u with
  | none => rw [q1] at h; exact False.elim h
  | some d =>
    rw [q1] at h
    cases q3 : f d with
    | none => simp only [q3] at h; exact False.elim h
    | some z =>
      simp only [q3] at h
      exact ok I H x d z Q s.sub (s.view ru q1) q3 (Post.dat h s)
theorem Post.vn {Q : VK} {xs : List V} {us : List Val} {r : List V → Hp → VK → Prop} {f : List PyData → Option PyData} (h : Post w W (RV w) σ I H β Q (vn f us M)) (ok : OkCall w.K r f) (s : Sit w.K w.ca I H β M) (ru : VRs w.K I β xs us) : r xs H Q := by
  unfold MP.vn at h
  cases q1 : views M us with
  | none => rw [q1] at h; exact False.elim h
  | some d =>
    rw [q1] at h
    cases q3 : f d with
    | none => simp only [q3] at h; exact False.elim h
    | some z =>
      simp only [q3] at h
      exact ok I H xs d z Q s.sub (s.views ru q1) q3 (Post.dat h s)
/-! ### names and constants -/
theorem peM_var {i : Nat} {x : Str} (hN : X.N[i]? = some x) (hv : Vis X.env.scope x) (hd : (x == ("__debug__" : Str)) = false) (hcd : (x == ("__classdict__" : Str)) = false) : PE X (.Name x pos) (RE w W (evVar i)) :=
  pe_imp (pe_var hN hv hd hcd) fun σ H Q ⟨I, β, M, env, s, en, p⟩ => by
    unfold evVar at p
    cases q : env[i]? with
    | none => rw [q] at p; exact False.elim p
    | some o =>
      cases o with
      | none => rw [q] at p; exact False.elim p
      | some x =>
        rw [q] at p
        obtain ⟨v, h1, h2⟩ := en.2 i x q
        exact ⟨v, h1, p I H β v s Ext.refl h2⟩
theorem peM_const {d : PyData} {e : Expr} {v : V} (h : PE X e (tC v)) (hd : ∀ I, Dp w.K I v d) : PE X e (RE w W (evLit d)) :=
  pe_imp h fun σ H Q ⟨I, β, M, env, s, en, p⟩ => Post.dat0 p s (hd I)
/-! ### operators -/
theorem peM_op {op : Operator} {r : R2} {f : PyData → PyData → Option PyData} (ho : OpR X (binaryOp op) r) (ok : OkOp w.K r f) (ha : PE X a (RE w W ra)) (hb : PE X b (RE w W rb)) : PE X (.BinOp a op b pos) (RE w W (ev2 f ra rb)) :=
  pe_imp (pe_op ho ha hb) fun σ H Q ⟨I, β, M, env, s, en, p⟩ => ⟨I, β, M, env, s, en, Post.imp (Post.seq p) fun v H1 ⟨I1, β1, M1, x, s1, e1, r1, p1⟩ => ⟨I1, β1, M1, env, s1, en.mono e1.toEx0, Post.imp (Post.seq p1) fun u H2 ⟨I2, β2, M2, y, s2, e2, r2, p2⟩ =>
    Post.v2 p2 ok s2 (r1.mono e2.toEx0) r2⟩⟩
theorem peM_cmp {op : CmpOp} {r : R2} {f : PyData → PyData → Option PyData} (ho : OpR X (compareOp op) r) (ok : OkOp w.K r f) (hm : behindInMarks op b = false) (ha : PE X a (RE w W ra)) (hb : PE X b (RE w W rb)) : PE X (.Compare a [op] [b] pos) (RE w W (ev2 f ra rb)) :=
  pe_imp (pe_cmpR ho ha hb hm) fun σ H Q ⟨I, β, M, env, s, en, p⟩ => ⟨I, β, M, env, s, en, Post.imp (Post.seq p) fun v H1 ⟨I1, β1, M1, x, s1, e1, r1, p1⟩ => ⟨I1, β1, M1, env, s1, en.mono e1.toEx0, Post.imp (Post.seq p1) fun u H2 ⟨I2, β2, M2, y, s2, e2, r2, p2⟩ =>
    Post.v2 p2 ok s2 (r1.mono e2.toEx0) r2⟩⟩
theorem asB_eq {x : Val} {b : Bool} (h : asB x = some b) : x = .dat (.bool b) := by
  cases x with
  | ob n => cases h
  | dat d => cases d with
    | bool c => cases h; rfl
    | _ => cases h
theorem VR.bool {K : FrgT} {v : V} {b : Bool} (h : VR K I β v (.dat (.bool b))) : v = .bl b := by
  cases (show Dp K I v (.bool b) from h)
  rfl
/-- a test that is an expression's value, by its rule as a test -/
theorem Post.toB {Q : Bool → Hp → Prop} {r : Res Val} (h : Post w W RB σ I H β Q (r.bind fun x M1 => match asB x with
  | some b => .ok b M1
  | none => .bad)) : Post w W (RV w) σ I H β (fun x H' => ∃ c, x = .bl c ∧ Q c H') r := by
  cases r with
  | ok x M' =>
    simp only [Res.bind_ok] at h
    cases q2 : asB x with
    | none => rw [q2] at h; exact False.elim h
    | some k =>
      rw [q2] at h
      rw [asB_eq q2]
      exact fun I' H' β' v s' e' rv => ⟨k, VR.bool rv, h I' H' β' k s' e' rfl⟩
  | exc e M' => exact h
  | bad => exact h
theorem ptM_tB {e : Expr} {r : Sm} {t : TE} (h : PT X e (tTest t)) (i : ∀ σ H Q, RE w W r σ H Q → t σ H Q) : PT X e (RT w W (toB r)) :=
  pt_imp h fun σ H Q ⟨I, β, M, env, s, en, p⟩ => i σ H _ ⟨I, β, M, env, s, en, Post.toB p⟩
theorem ptM_cmp {op : CmpOp} {r : R2} {f : PyData → PyData → Option PyData} (ho : OpR X (compareOp op) r) (ok : OkOp w.K r f) (hm : behindInMarks op b = false) (ha : PE X a (RE w W ra)) (hb : PE X b (RE w W rb)) :
    PT X (.Compare a [op] [b] pos) (RT w W (toB (ev2 f ra rb))) :=
  ptM_tB (pt_cmpR ho ha hb hm) fun σ H Q ⟨I, β, M, env, s, en, p⟩ => ⟨I, β, M, env, s, en, Post.imp (Post.seq p) fun v H1 ⟨I1, β1, M1, x, s1, e1, r1, p1⟩ => ⟨I1, β1, M1, env, s1, en.mono e1.toEx0, Post.imp (Post.seq p1) fun u H2 ⟨I2, β2, M2, y, s2, e2, r2, p2⟩ =>
    Post.v2 p2 ok s2 (r1.mono e2.toEx0) r2⟩⟩
/-- a value that is True or False, as a test -/
theorem ptM_val {e : Expr} {r : Sm} (h : PE X e (RE w W r)) (he : ∀ whole, isTrue e X.env whole = (do let v ← whole; standAt e.pos; holding [v] (truthy v))) : PT X e (RT w W (toB r)) :=
  pt_imp (pt_val h he) fun σ H Q ⟨I, β, M, env, s, en, p⟩ => ⟨I, β, M, env, s, en, by
    unfold toB at p
    cases q : r env M with
    | ok x M' =>
      rw [q] at p
      simp only [Res.bind_ok] at p
      cases q2 : asB x with
      | none => rw [q2] at p; exact False.elim p
      | some k =>
        rw [q2] at p
        rw [asB_eq q2]
        intro I' H' β' v s' e' rv
        exact ⟨k, VR.bool rv, p I' H' β' k s' e' rfl⟩
    | exc e M' => rw [q] at p; exact p
    | bad => rw [q] at p; exact p⟩
/-! ### and, or, not, if-else -/
theorem toB_and (a b : Sm) (r : List Sm) (env : Env) (M : Mem) : toB (evAnd (a :: b :: r)) env M = (toB a env M).bind fun k M1 => match k with
    | true => toB (evAnd (b :: r)) env M1
    | false => .ok false M1 := by
  unfold toB
  rw [evAnd]
  dsimp only
  cases a env M with
  | ok x M' =>
    simp only [Res.bind_ok]
    cases asB x with
    | none => rfl
    | some k => cases k <;> rfl
  | exc e M' => rfl
  | bad => rfl
theorem toB_or (a b : Sm) (r : List Sm) (env : Env) (M : Mem) : toB (evOr (a :: b :: r)) env M = (toB a env M).bind fun k M1 => match k with
    | true => .ok true M1
    | false => toB (evOr (b :: r)) env M1 := by
  unfold toB
  rw [evOr]
  dsimp only
  cases a env M with
  | ok x M' =>
    simp only [Res.bind_ok]
    cases asB x with
    | none => rfl
    | some k => cases k <;> rfl
  | exc e M' => rfl
  | bad => rfl
theorem toB_not (a : Sm) (env : Env) (M : Mem) : toB (ev1 notD a) env M = (toB a env M).bind fun k M1 => .ok (!k) M1 := by
  unfold toB ev1
  cases a env M with
  | ok x M' =>
    simp only [Res.bind_ok]
    cases x with
    | ob n =>
      show (v1 notD (.ob n) M').bind _ = _
      unfold v1
      cases q : view M' (.ob n) with
      | none => rfl
      | some d =>
        simp only
        have hd : ∃ xs, d = .list xs := by
          have q' : (match M'[n]? with
            | some (.lst xs) => (datsOf xs).map PyData.list
            | _ => none) = some d := q
          split at q'
          · rename_i xs _
            cases q2 : datsOf xs with
            | none => rw [q2] at q'; cases q'
            | some ds => rw [q2] at q'; cases q'; exact ⟨_, rfl⟩
          · cases q'
        obtain ⟨xs, rfl⟩ := hd
        rfl
    | dat d => cases d <;> rfl
  | exc e M' => rfl
  | bad => rfl
theorem pwM_and1 (ha : PT X a (RT w W (toB ra))) : PW X (.BoolOp .And [a] pos) (RT w W (toB (evAnd [ra]))) := pw_and1 ha
theorem pwM_or1 (ha : PT X a (RT w W (toB ra))) : PW X (.BoolOp .Or [a] pos) (RT w W (toB (evOr [ra]))) := pw_or1 ha
theorem pw_imp {e : Expr} {t t' : TT} (h : PW X e t) (i : ∀ σ H Q, t' σ H Q → t σ H Q) : PW X e t' := ⟨fun wh pins s σ H Q I q => h.run wh pins s σ H Q I (i σ H Q q)⟩
theorem pwM_and {es : List Expr} {rs : List Sm} (ha : PT X a (RT w W (toB ra))) (hb : PW X (.BoolOp .And (b :: es) pos) (RT w W (toB (evAnd (rb :: rs))))) : PW X (.BoolOp .And (a :: b :: es) pos) (RT w W (toB (evAnd (ra :: rb :: rs)))) :=
  pw_imp (pw_and ha hb) fun σ H Q ⟨I, β, M, env, s, en, p⟩ => ⟨I, β, M, env, s, en, by
    rw [toB_and] at p
    exact Post.imp (Post.seq (R := RB) p) fun c H1 ⟨I1, β1, M1, k, s1, e1, r1, p1⟩ => by
      cases r1
      cases c with
      | true => rw [if_pos rfl]; exact ⟨I1, β1, M1, env, s1, en.mono e1.toEx0, p1⟩
      | false => rw [if_neg Bool.false_ne_true]; exact p1 I1 H1 β1 false s1 Ext.refl rfl⟩
theorem pwM_or {es : List Expr} {rs : List Sm} (ha : PT X a (RT w W (toB ra))) (hb : PW X (.BoolOp .Or (b :: es) pos) (RT w W (toB (evOr (rb :: rs))))) : PW X (.BoolOp .Or (a :: b :: es) pos) (RT w W (toB (evOr (ra :: rb :: rs)))) :=
  pw_imp (pw_or ha hb) fun σ H Q ⟨I, β, M, env, s, en, p⟩ => ⟨I, β, M, env, s, en, by
    rw [toB_or] at p
    exact Post.imp (Post.seq (R := RB) p) fun c H1 ⟨I1, β1, M1, k, s1, e1, r1, p1⟩ => by
      cases r1
      cases c with
      | false => rw [if_neg Bool.false_ne_true]; exact ⟨I1, β1, M1, env, s1, en.mono e1.toEx0, p1⟩
      | true => rw [if_pos rfl]; exact p1 I1 H1 β1 true s1 Ext.refl rfl⟩
theorem ptM_not (ha : PT X a (RT w W (toB ra))) : PT X (.UnaryOp .Not a pos) (RT w W (toB (ev1 notD ra))) :=
  pt_imp (pt_not ha) fun σ H Q ⟨I, β, M, env, s, en, p⟩ => ⟨I, β, M, env, s, en, by
    rw [toB_not] at p
    exact Post.imp (Post.seq (R := RB) p) fun c H1 ⟨I1, β1, M1, k, s1, e1, r1, p1⟩ => by
      cases r1
      exact p1 I1 H1 β1 _ s1 Ext.refl rfl⟩
theorem peM_not (ha : PE X a (RE w W ra)) : PE X (.UnaryOp .Not a pos) (RE w W (ev1 notD ra)) :=
  pe_imp (pe_not ha) fun σ H Q ⟨I, β, M, env, s, en, p⟩ => ⟨I, β, M, env, s, en, Post.imp (Post.seq p) fun v H1 ⟨I1, β1, M1, x, s1, e1, r1, p1⟩ => by
    refine Post.v1 (r := fun x H Q => ∃ c, x = .bl c ∧ Q (.bl (!c)) H) p1 (fun I H x d z Q sm vw e q => ?_) s1 r1
    cases d with
    | bool b =>
      cases e
      exact ⟨b, VW.bool vw, q I H _ (Grow.refl sm) (.bl _)⟩
    | _ => cases e⟩
theorem peM_and1 {op : BoolOp} (ha : PE X a (RE w W ra)) : PE X (.BoolOp op [a] pos) (RE w W ra) := pe_one ha
theorem peM_and {es : List Expr} {rs : List Sm} (ha : PE X a (RE w W ra)) (hb : PE X (.BoolOp .And (b :: es) pos) (RE w W (evAnd (rb :: rs)))) : PE X (.BoolOp .And (a :: b :: es) pos) (RE w W (evAnd (ra :: rb :: rs))) :=
  pe_imp (pe_and ha hb) fun σ H Q ⟨I, β, M, env, s, en, p⟩ => ⟨I, β, M, env, s, en, by
    rw [evAnd] at p
    exact Post.imp (Post.seq p) fun v H1 ⟨I1, β1, M1, x, s1, e1, r1, p1⟩ => by
      cases q : asB x with
      | none => rw [q] at p1; exact False.elim p1
      | some k =>
        rw [q] at p1
        rw [asB_eq q] at r1
        refine ⟨k, VR.bool r1, ?_⟩
        cases k with
        | true => rw [if_pos rfl]; exact ⟨I1, β1, M1, env, s1, en.mono e1.toEx0, p1⟩
        | false => rw [if_neg Bool.false_ne_true]; exact Post.dat0 p1 s1 (.bl _)⟩
theorem peM_or {es : List Expr} {rs : List Sm} (ha : PE X a (RE w W ra)) (hb : PE X (.BoolOp .Or (b :: es) pos) (RE w W (evOr (rb :: rs)))) : PE X (.BoolOp .Or (a :: b :: es) pos) (RE w W (evOr (ra :: rb :: rs))) :=
  pe_imp (pe_or ha hb) fun σ H Q ⟨I, β, M, env, s, en, p⟩ => ⟨I, β, M, env, s, en, by
    rw [evOr] at p
    exact Post.imp (Post.seq p) fun v H1 ⟨I1, β1, M1, x, s1, e1, r1, p1⟩ => by
      cases q : asB x with
      | none => rw [q] at p1; exact False.elim p1
      | some k =>
        rw [q] at p1
        rw [asB_eq q] at r1
        refine ⟨k, VR.bool r1, ?_⟩
        cases k with
        | false => rw [if_neg Bool.false_ne_true]; exact ⟨I1, β1, M1, env, s1, en.mono e1.toEx0, p1⟩
        | true => rw [if_pos rfl]; exact Post.dat0 p1 s1 (.bl _)⟩
theorem peM_if (hc : PT X c (RT w W (toB rc))) (ha : PE X a (RE w W ra)) (hb : PE X b (RE w W rb)) : PE X (.IfExp c a b pos) (RE w W (evIf rc ra rb)) :=
  pe_imp (pe_ifExp hc ha hb) fun σ H Q ⟨I, β, M, env, s, en, p⟩ => ⟨I, β, M, env, s, en, by
    unfold evIf at p
    exact Post.imp (Post.seq (R := RB) p) fun k H1 ⟨I1, β1, M1, x, s1, e1, r1, p1⟩ => by
      cases r1
      cases k with
      | true => rw [if_pos rfl]; exact ⟨I1, β1, M1, env, s1, en.mono e1.toEx0, p1⟩
      | false => rw [if_neg Bool.false_ne_true]; exact ⟨I1, β1, M1, env, s1, en.mono e1.toEx0, p1⟩⟩
/-! ### two comparisons -/
theorem chain_imp {r r' : R2} {f g : PyData → PyData → Option PyData} (ok : OkOp w.K r f) (ok' : OkOp w.K r' g) {H : Hp} {Q : VK} (h : RE w W (evCh f g ra rb rc) σ H Q) : tChain r r' (RE w W ra) (RE w W rb) (RE w W rc) σ H Q := by
  obtain ⟨I, β, M, env, s, en, p⟩ := h
  exact ⟨I, β, M, env, s, en, Post.imp (Post.seq p) fun v H1 ⟨I1, β1, M1, x, s1, e1, r1, p1⟩ => ⟨I1, β1, M1, env, s1, en.mono e1.toEx0, Post.imp (Post.seq p1) fun u H2 ⟨I2, β2, M2, y, s2, e2, r2, p2⟩ => by
    have en2 := (en.mono e1.toEx0).mono e2.toEx0
    have r1' := r1.mono e2.toEx0
    refine Post.v2 (Q := fun z H3 => ∃ k, z = .bl k ∧ if k = true then RE w W rc σ H3 (fun w' H4 => r' u w' H4 Q) else Q (.bl false) H3) (Post.imp (Post.seq p2) fun z H3 ⟨I3, β3, M3, t, s3, e3, r3, p3⟩ => ?_) ok s2 r1' r2
    cases q : asB t with
    | none => rw [q] at p3; exact False.elim p3
    | some k =>
      rw [q] at p3
      rw [asB_eq q] at r3
      refine ⟨k, VR.bool r3, ?_⟩
      cases k with
      | false => rw [if_neg Bool.false_ne_true]; exact Post.dat0 p3 s3 (.bl _)
      | true =>
        rw [if_pos rfl]
        exact ⟨I3, β3, M3, env, s3, en2.mono e3.toEx0, Post.imp (Post.seq p3) fun t4 H4 ⟨I4, β4, M4, x4, s4, e4, r4, p4⟩ => Post.v2 p4 ok' s4 ((r2.mono e3.toEx0).mono e4.toEx0) r4⟩⟩⟩
/-! ### arguments -/
theorem paM_nil : PA X [] (RA w W (evs [])) := pa_imp pa_nil fun σ H Q ⟨I, β, M, env, s, en, p⟩ => p I H β [] s Ext.refl .nil
theorem paM_cons {e : Expr} {es : List Expr} {r : Sm} {rs : List Sm} (he : PE X e (RE w W r)) (ht : PA X es (RA w W (evs rs))) (hs : starEach (e :: es) X.env = (false, eval e X.env) :: starEach es X.env) : PA X (e :: es) (RA w W (evs (r :: rs))) :=
  pa_imp (pa_cons he ht hs) fun σ H Q ⟨I, β, M, env, s, en, p⟩ => ⟨I, β, M, env, s, en, by
    unfold evs at p
    exact Post.imp (Post.seq p) fun v H1 ⟨I1, β1, M1, x, s1, e1, r1, p1⟩ => ⟨I1, β1, M1, env, s1, en.mono e1.toEx0, Post.imp (Post.seq (R := RVs w) p1) fun vs H2 ⟨I2, β2, M2, xs, s2, e2, r2, p2⟩ => p2 I2 H2 β2 _ s2 Ext.refl (.cons (r1.mono e2.toEx0) r2)⟩⟩
end
end MP
set_option Elab.async false
set_option linter.all false
set_option maxRecDepth 100000
set_option maxHeartbeats 1000000
/-! MP3: statements, loops, calls, a def's body. -/
namespace MP
open PySem PySem.Spec PyProof.Rows L2
/-- how a statement ends -/
inductive Fl where
  | nx (env : Env) | rt (x : Val) | bk (env : Env) | ct (env : Env) | rz (e : Exn) (env : Env)
abbrev Ss := Env → Mem → Res Fl
/-- an expression's value, or what it raises, in a statement -/
def ofE (r : Res Val) (env : Env) (k : Val → Mem → Res Fl) : Res Fl := match r with
  | .ok x M => k x M
  | .exc e M => .ok (.rz e env) M
  | .bad => .bad
def ofB (r : Res Bool) (env : Env) (k : Bool → Mem → Res Fl) : Res Fl := match r with
  | .ok x M => k x M
  | .exc e M => .ok (.rz e env) M
  | .bad => .bad
def ofEs (r : Res (List Val)) (env : Env) (k : List Val → Mem → Res Fl) : Res Fl := match r with
  | .ok x M => k x M
  | .exc e M => .ok (.rz e env) M
  | .bad => .bad
@[simp] theorem ofE_ok (x : Val) (M : Mem) (env : Env) (k : Val → Mem → Res Fl) : ofE (.ok x M) env k = k x M := rfl
@[simp] theorem ofE_exc (x : Exn) (M : Mem) (env : Env) (k : Val → Mem → Res Fl) : ofE (.exc x M) env k = .ok (.rz x env) M := rfl
@[simp] theorem ofB_ok (x : Bool) (M : Mem) (env : Env) (k : Bool → Mem → Res Fl) : ofB (.ok x M) env k = k x M := rfl
@[simp] theorem ofB_exc (x : Exn) (M : Mem) (env : Env) (k : Bool → Mem → Res Fl) : ofB (.exc x M) env k = .ok (.rz x env) M := rfl
@[simp] theorem ofEs_ok (x : List Val) (M : Mem) (env : Env) (k : List Val → Mem → Res Fl) : ofEs (.ok x M) env k = k x M := rfl
@[simp] theorem ofEs_exc (x : Exn) (M : Mem) (env : Env) (k : List Val → Mem → Res Fl) : ofEs (.exc x M) env k = .ok (.rz x env) M := rfl
/-- the next statement, if the one before went on -/
def andThen (r : Res Fl) (k : Env → Mem → Res Fl) : Res Fl := match r with
  | .ok (.nx env) M => k env M
  | r => r
@[simp] theorem andThen_nx (env : Env) (M : Mem) (k : Env → Mem → Res Fl) : andThen (.ok (.nx env) M) k = k env M := rfl
@[simp] theorem andThen_rt (x : Val) (M : Mem) (k : Env → Mem → Res Fl) : andThen (.ok (.rt x) M) k = .ok (.rt x) M := rfl
@[simp] theorem andThen_rz (e : Exn) (env : Env) (M : Mem) (k : Env → Mem → Res Fl) : andThen (.ok (.rz e env) M) k = .ok (.rz e env) M := rfl
@[simp] theorem andThen_bad (k : Env → Mem → Res Fl) : andThen .bad k = .bad := rfl
def exSeq (a b : Ss) : Ss := fun env M => andThen (a env M) b
def exNil : Ss := fun env M => .ok (.nx env) M
def exRet (a : Sm) : Ss := fun env M => ofE (a env M) env fun x M1 => .ok (.rt x) M1
def exEx (a : Sm) : Ss := fun env M => ofE (a env M) env fun _ M1 => .ok (.nx env) M1
def exIf (c : Sm) (a b : Ss) : Ss := fun env M => ofB (toB c env M) env fun k M1 => match k with
  | true => a env M1
  | false => b env M1
/-! ### targets -/
inductive Tg where
  | nm (i : Nat)
  | tup (ts : List Tg)
mutual
def Tg.put : Tg → PyData → Env → Option Env
  | .nm i, d, env => some (env.set i (some (.dat d)))
  | .tup ts, .tuple ds, env => Tg.puts ts ds env
  | .tup _, _, _ => none
def Tg.puts : List Tg → List PyData → Env → Option Env
  | [], [], env => some env
  | t :: ts, d :: ds, env => (t.put d env).bind fun env1 => Tg.puts ts ds env1
  | _, _, _ => none
end
/-- a value to a target: a name takes any, a tuple of targets takes data -/
def Tg.putV (t : Tg) (x : Val) (env : Env) : Option Env := match t, x with
  | .nm i, x => some (env.set i (some x))
  | t, .dat d => t.put d env
  | _, _ => none
def exSet (t : Tg) (a : Sm) : Ss := fun env M => ofE (a env M) env fun x M1 => match t.putV x env with
  | some env1 => .ok (.nx env1) M1
  | none => .bad
def setAll : List Nat → List Val → Env → Option Env
  | [], [], env => some env
  | i :: is, x :: xs, env => setAll is xs (env.set i (some x))
  | _, _, _ => none
def exPar (is : List Nat) (as : Sms) : Ss := fun env M => ofEs (as env M) env fun xs M1 => match setAll is xs env with
  | some env1 => .ok (.nx env1) M1
  | none => .bad
/-! ### loops -/
def forS (t : Tg) (body : Ss) : List PyData → Ss
  | [], env, M => .ok (.nx env) M
  | d :: ds, env, M => match t.put d env with
    | none => .bad
    | some env1 => match body env1 M with
      | .ok (.nx env2) M2 => forS t body ds env2 M2
      | .ok (.ct env2) M2 => forS t body ds env2 M2
      | .ok (.bk env2) M2 => .ok (.nx env2) M2
      | r => r
def whileS (c : Sm) (body : Ss) : Nat → Ss
  | 0, _, _ => .bad
  | n + 1, env, M => ofB (toB c env M) env fun k M1 => match k with
    | false => .ok (.nx env) M1
    | true => match body env M1 with
      | .ok (.nx env2) M2 => whileS c body n env2 M2
      | .ok (.ct env2) M2 => whileS c body n env2 M2
      | .ok (.bk env2) M2 => .ok (.nx env2) M2
      | r => r
section
variable (w : Mw) (W : WX)
def PostS (D : Ends) (I H : Hp) (β : List Addr) : Res Fl → Prop
  | .ok (.nx env) M => ∀ I' H' β' σ', Sit w.K w.ca I' H' β' M → Ext I H β I' H' β' → EnvR w.K I' β' σ' env → D.nx σ' H'
  | .ok (.rt x) M => ∀ I' H' β' v, Sit w.K w.ca I' H' β' M → Ext I H β I' H' β' → VR w.K I' β' v x → D.rt v H'
  | .ok (.bk env) M => ∀ I' H' β' σ', Sit w.K w.ca I' H' β' M → Ext I H β I' H' β' → EnvR w.K I' β' σ' env → D.bk σ' H'
  | .ok (.ct env) M => ∀ I' H' β' σ', Sit w.K w.ca I' H' β' M → Ext I H β I' H' β' → EnvR w.K I' β' σ' env → D.ct σ' H'
  | .ok (.rz e env) M => ∀ I' H' β' σ' cls d, Sit w.K w.ca I' H' β' M → Ext I H β I' H' β' → EnvR w.K I' β' σ' env → ExnR w.K w.ca H' cls d e → W cls d σ' H'
  | .exc _ _ => False
  | .bad => False
def RS (r : Ss) : TS := fun D σ H => ∃ I β M env, Sit w.K w.ca I H β M ∧ EnvR w.K I β σ env ∧ PostS w W D I H β (r env M)
end
section
variable {w : Mw} {W : WX} {X : Cx} {σ : St} {I H I1 H1 : Hp} {β β1 : List Addr} {M : Mem} {D : Ends} {env : Env} {pos : Pos}
theorem PostS.ext {r : Res Fl} (h : PostS w W D I H β r) (x : Ext I H β I1 H1 β1) : PostS w W D I1 H1 β1 r := by
  cases r with
  | ok a M => cases a with
    | nx env => exact fun I' H' β' v s e q => h I' H' β' v s (x.trans e) q
    | rt y => exact fun I' H' β' v s e q => h I' H' β' v s (x.trans e) q
    | bk env => exact fun I' H' β' v s e q => h I' H' β' v s (x.trans e) q
    | ct env => exact fun I' H' β' v s e q => h I' H' β' v s (x.trans e) q
    | rz e env => exact fun I' H' β' v c d s e q => h I' H' β' v c d s (x.trans e) q
  | exc e M => exact h
  | bad => exact h
/-- from an expression's result to what follows it in a statement -/
theorem PostS.ofE {r : Res Val} {k : Val → Mem → Res Fl} (h : PostS w W D I H β (MP.ofE r env k)) (en : EnvR w.K I β σ env) :
    Post w W (RV w) σ I H β (fun v H1 => ∃ I1 β1 M1 x, Sit w.K w.ca I1 H1 β1 M1 ∧ EnvR w.K I1 β1 σ env ∧ Ext I H β I1 H1 β1 ∧ VR w.K I1 β1 v x ∧ PostS w W D I1 H1 β1 (k x M1)) r := by
  cases r with
  | ok a M => exact fun I' H' β' v s e q => ⟨I', β', M, a, s, en.mono e.toEx0, e, q, PostS.ext h e⟩
  | exc e M => exact fun I' H' β' c d s x q => h I' H' β' σ c d s x (en.mono x.toEx0) q
  | bad => exact h
theorem PostS.ofB {r : Res Bool} {k : Bool → Mem → Res Fl} (h : PostS w W D I H β (MP.ofB r env k)) (en : EnvR w.K I β σ env) :
    Post w W RB σ I H β (fun v H1 => ∃ I1 β1 M1, Sit w.K w.ca I1 H1 β1 M1 ∧ EnvR w.K I1 β1 σ env ∧ Ext I H β I1 H1 β1 ∧ PostS w W D I1 H1 β1 (k v M1)) r := by
  cases r with
  | ok a M => exact fun I' H' β' v s e q => ⟨I', β', M, s, en.mono e.toEx0, e, by cases q; exact PostS.ext h e⟩
  | exc e M => exact fun I' H' β' c d s x q => h I' H' β' σ c d s x (en.mono x.toEx0) q
  | bad => exact h
theorem PostS.ofEs {r : Res (List Val)} {k : List Val → Mem → Res Fl} (h : PostS w W D I H β (MP.ofEs r env k)) (en : EnvR w.K I β σ env) :
    Post w W (RVs w) σ I H β (fun v H1 => ∃ I1 β1 M1 x, Sit w.K w.ca I1 H1 β1 M1 ∧ EnvR w.K I1 β1 σ env ∧ Ext I H β I1 H1 β1 ∧ VRs w.K I1 β1 v x ∧ PostS w W D I1 H1 β1 (k x M1)) r := by
  cases r with
  | ok a M => exact fun I' H' β' v s e q => ⟨I', β', M, a, s, en.mono e.toEx0, e, q, PostS.ext h e⟩
  | exc e M => exact fun I' H' β' c d s x q => h I' H' β' σ c d s x (en.mono x.toEx0) q
  | bad => exact h
/-- what a statement is to reach, then what follows -/
theorem PostS.andThen {r : Res Fl} {k : Env → Mem → Res Fl} (h : PostS w W D I H β (MP.andThen r k)) :
    PostS w W { D with nx := fun σ' H' => ∃ I1 β1 M1 env, Sit w.K w.ca I1 H' β1 M1 ∧ EnvR w.K I1 β1 σ' env ∧ Ext I H β I1 H' β1 ∧ PostS w W D I1 H' β1 (k env M1) } I H β r := by
  cases r with
  | ok a M => cases a with
    | nx env => exact fun I' H' β' v s e q => ⟨I', β', M, env, s, q, e, PostS.ext h e⟩
    | rt y => exact h
    | bk env => exact h
    | ct env => exact h
    | rz e env => exact h
  | exc e M => exact h
  | bad => exact h
theorem PostS.imp {D' : Ends} {r : Res Fl} (h : PostS w W D I H β r) (n : ∀ σ H, D.nx σ H → D'.nx σ H) (t : ∀ v H, D.rt v H → D'.rt v H) (b : ∀ σ H, D.bk σ H → D'.bk σ H) (c : ∀ σ H, D.ct σ H → D'.ct σ H) : PostS w W D' I H β r := by
  cases r with
  | ok a M => cases a with
    | nx env => exact fun I' H' β' v s e q => n _ _ (h I' H' β' v s e q)
    | rt y => exact fun I' H' β' v s e q => t _ _ (h I' H' β' v s e q)
    | bk env => exact fun I' H' β' v s e q => b _ _ (h I' H' β' v s e q)
    | ct env => exact fun I' H' β' v s e q => c _ _ (h I' H' β' v s e q)
    | rz e env => exact h
  | exc e M => exact h
  | bad => exact h
theorem EnvR.set {K : FrgT} {i : Nat} {v : V} {x : Val} (h : EnvR K I β σ env) (r : VR K I β v x) : EnvR K I β (σ.set i (some v)) (env.set i (some x)) := by
  refine ⟨by simp [h.1], fun j y hy => ?_⟩
  by_cases e : i = j
  · subst e
    have hi : i < env.length := by
      have := (List.getElem?_eq_some_iff.mp hy).1
      simpa using this
    rw [List.getElem?_set_self hi] at hy
    cases hy
    exact ⟨v, by rw [List.getElem?_set_self (by rw [← h.1]; exact hi)], r⟩
  · rw [List.getElem?_set_ne e] at hy ⊢
    exact h.2 j y hy
theorem pssM_nil : PSs X [] (RS w W exNil) := pss_imp pss_nil fun D σ H ⟨I, β, M, env, s, en, p⟩ => p I H β σ s Ext.refl en
theorem pssM_cons {st : Stmt} {sts : List Stmt} {a b : Ss} (ha : PS X st (RS w W a)) (hb : PSs X sts (RS w W b)) : PSs X (st :: sts) (RS w W (exSeq a b)) :=
  pss_imp (pss_cons ha hb) fun D σ H ⟨I, β, M, env, s, en, p⟩ => ⟨I, β, M, env, s, en, PostS.imp (PostS.andThen p) (fun σ H' ⟨I1, β1, M1, env1, s1, en1, e1, p1⟩ => ⟨I1, β1, M1, env1, s1, en1, p1⟩) (fun _ _ z => z) (fun _ _ z => z) (fun _ _ z => z)⟩
theorem psM_ret {e : Expr} {a : Sm} (he : PE X e (RE w W a)) : PS X (.Return (some e) pos) (RS w W (exRet a)) :=
  ps_imp (ps_ret he) fun D σ H ⟨I, β, M, env, s, en, p⟩ => ⟨I, β, M, env, s, en, Post.imp (PostS.ofE p en) fun v H1 ⟨I1, β1, M1, x, s1, en1, e1, r1, p1⟩ => p1 I1 H1 β1 v s1 Ext.refl r1⟩
theorem psM_ex {e : Expr} {a : Sm} (he : PE X e (RE w W a)) (hp : PS X (.Expr e pos) (tDrop (RE w W a))) : PS X (.Expr e pos) (RS w W (exEx a)) :=
  ps_imp hp fun D σ H ⟨I, β, M, env, s, en, p⟩ => ⟨I, β, M, env, s, en, Post.imp (PostS.ofE p en) fun v H1 ⟨I1, β1, M1, x, s1, en1, e1, r1, p1⟩ => p1 I1 H1 β1 σ s1 Ext.refl en1⟩
theorem psM_if {c : Expr} {a b : List Stmt} {rc : Sm} {ra rb : Ss} (hc : PT X c (RT w W (toB rc))) (ha : PSs X a (RS w W ra)) (hb : PSs X b (RS w W rb)) : PS X (.If c a b pos) (RS w W (exIf rc ra rb)) :=
  ps_imp (ps_if hc ha hb) fun D σ H ⟨I, β, M, env, s, en, p⟩ => ⟨I, β, M, env, s, en, Post.imp (PostS.ofB p en) fun k H1 ⟨I1, β1, M1, s1, en1, e1, p1⟩ => by
    cases k with
    | true => rw [if_pos rfl]; exact ⟨I1, β1, M1, env, s1, en1, p1⟩
    | false => rw [if_neg Bool.false_ne_true]; exact ⟨I1, β1, M1, env, s1, en1, p1⟩⟩
/-! ### targets -/
mutual
def Tg.slots : Tg → List Nat
  | .nm i => [i]
  | .tup ts => Tg.slotss ts
def Tg.slotss : List Tg → List Nat
  | [] => []
  | t :: ts => t.slots ++ Tg.slotss ts
end
/-- only these slots have changed -/
def Wip (l : List Nat) (σ σ' : St) : Prop := ∀ vs : List Nat, (∀ i ∈ l, i ∈ vs) → wipe σ' vs = wipe σ vs
theorem wipe_get (σ : St) (j : Nat) : ∀ vs : List Nat, (wipe σ vs)[j]? = if j ∈ vs then (if j < σ.length then some none else none) else σ[j]?
  | [] => by simp [wipe]
  | v :: vs => by
    unfold wipe
    by_cases e : v = j
    · subst e
      rw [if_pos List.mem_cons_self]
      by_cases hl : v < σ.length
      · rw [List.getElem?_set_self (by rw [wipe_length]; exact hl), if_pos hl]
      · rw [if_neg hl]
        exact List.getElem?_eq_none (by rw [List.length_set, wipe_length]; omega)
    · rw [List.getElem?_set_ne e, wipe_get σ j vs]
      have e' : ¬ j = v := fun q => e q.symm
      simp [e']
theorem wip_set {i : Nat} {σ : St} {x : Option V} : Wip [i] σ (σ.set i x) := fun vs h => by
  have hi : i ∈ vs := h i List.mem_cons_self
  apply List.ext_getElem?
  intro j
  rw [wipe_get, wipe_get, List.length_set]
  by_cases hj : j ∈ vs
  · rw [if_pos hj, if_pos hj]
  · rw [if_neg hj, if_neg hj, List.getElem?_set_ne (fun (e : i = j) => hj (by rw [← e]; exact hi))]
theorem Wip.refl {l : List Nat} {σ : St} : Wip l σ σ := fun _ _ => rfl
theorem Wip.trans {l : List Nat} {σ σ1 σ2 : St} (a : Wip l σ σ1) (b : Wip l σ1 σ2) : Wip l σ σ2 := fun vs h => (b vs h).trans (a vs h)
theorem Wip.mono {l l' : List Nat} {σ σ1 : St} (a : Wip l σ σ1) (h : ∀ i ∈ l, i ∈ l') : Wip l' σ σ1 := fun vs q => a vs fun i hi => q i (h i hi)
/-- a target's rule, over data -/
def OkTg (K : FrgT) (t : Tg) (g : TG) : Prop := ∀ (I H : Hp) (β : List Addr) (σ : St) (env env1 : Env) (v : V) (d : PyData) (Q : St → Hp → Prop), Same I H → EnvR K I β σ env → Dp K I v d → t.put d env = some env1 → (∀ σ', EnvR K I β σ' env1 → Wip t.slots σ σ' → Q σ' H) → g v σ H Q
def OkTgs (K : FrgT) (ts : List Tg) (g : TGs) : Prop := ∀ (I H : Hp) (β : List Addr) (σ : St) (env env1 : Env) (vs : List V) (ds : List PyData) (Q : St → Hp → Prop), Same I H → EnvR K I β σ env → DpAll K I vs ds → Tg.puts ts ds env = some env1 → (∀ σ', EnvR K I β σ' env1 → Wip (Tg.slotss ts) σ σ' → Q σ' H) → g vs σ H Q
theorem okTg_nm {K : FrgT} {i : Nat} : OkTg K (.nm i) (gName i) := fun I H β σ env env1 v d Q sm en dv e k => by
  simp only [Tg.put, Option.some.injEq] at e
  subst e
  exact k _ (en.set dv) (by simp only [Tg.slots]; exact wip_set)
theorem okTgs_nil {K : FrgT} : OkTgs K [] gNil := fun I H β σ env env1 vs ds Q sm en dv e k => by
  cases dv with
  | nil =>
    simp only [Tg.puts, Option.some.injEq] at e
    subst e
    exact ⟨rfl, k _ en Wip.refl⟩
  | cons _ _ => simp [Tg.puts] at e
theorem okTgs_cons {K : FrgT} {t : Tg} {ts : List Tg} {g : TG} {gs : TGs} (h : OkTg K t g) (hs : OkTgs K ts gs) : OkTgs K (t :: ts) (gCons g gs) := fun I H β σ env env1 vs ds Q sm en dv e k => by
  cases dv with
  | nil => simp [Tg.puts] at e
  | cons d1 d2 =>
    rename_i v vs d ds
    simp only [Tg.puts] at e
    cases q : t.put d env with
    | none => rw [q] at e; cases e
    | some env2 =>
      rw [q] at e
      exact ⟨v, vs, rfl, h I H β σ env env2 v d _ sm en d1 q fun σ' en' w1 => hs I H β σ' env2 env1 vs ds Q sm en' d2 e fun σ2 en2 w2 => k σ2 en2 (by
        simp only [Tg.slotss]
        exact (w1.mono fun i hi => List.mem_append_left _ hi).trans (w2.mono fun i hi => List.mem_append_right _ hi))⟩
theorem okTg_tup {K : FrgT} {ts : List Tg} {gs : TGs} {n : Nat} (hs : OkTgs K ts gs) (hn : ts.length = n) : OkTg K (.tup ts) (gTup K n gs) := fun I H β σ env env1 v d Q sm en dv e k => by
  cases d with
  | tuple ds =>
    simp only [Tg.put] at e
    cases dv with
    | tup hq ha =>
      rename_i a xs
      refine ⟨a, xs, rfl, Same.tupl sm hq, ?_, hs I H β σ env env1 xs ds Q sm en ha e fun σ' en' w1 => k σ' en' (by simp only [Tg.slots]; exact w1)⟩
      rw [← hn]
      have : ∀ (ts : List Tg) (ds : List PyData) (env env1 : Env) (xs : List V), Tg.puts ts ds env = some env1 → DpAll K I xs ds → xs.length = ts.length := by
        intro ts
        induction ts with
        | nil =>
          intro ds env env1 xs e d
          cases d with
          | nil => rfl
          | cons _ _ => simp [Tg.puts] at e
        | cons t ts ih =>
          intro ds env env1 xs e d
          cases d with
          | nil => simp [Tg.puts] at e
          | cons d1 d2 =>
            simp only [Tg.puts] at e
            rename_i v vs d ds
            cases q : t.put d env with
            | none => rw [q] at e; cases e
            | some env2 =>
              rw [q] at e
              simp [ih ds env2 env1 vs e d2]
      exact this ts ds env env1 xs e ha
  | _ => simp [Tg.put] at e
theorem psM_set {tg e : Expr} {t : Tg} {g : TG} {a : Sm} (he : PS X (.Assign [tg] e pos) (tAsg (RE w W a) g)) (hg : OkTg w.K t g) (hn : ∀ i, t = .nm i → g = gName i) : PS X (.Assign [tg] e pos) (RS w W (exSet t a)) :=
  ps_imp he fun D σ H ⟨I, β, M, env, s, en, p⟩ => ⟨I, β, M, env, s, en, Post.imp (PostS.ofE p en) fun v H1 ⟨I1, β1, M1, x, s1, en1, e1, r1, p1⟩ => by
    cases q : t.putV x env with
    | none => rw [q] at p1; exact False.elim p1
    | some env1 =>
      rw [q] at p1
      cases t with
      | nm i =>
        rw [hn i rfl]
        simp only [Tg.putV, Option.some.injEq] at q
        subst q
        exact p1 I1 H1 β1 _ s1 Ext.refl (en1.set r1)
      | tup ts =>
        cases x with
        | ob n => simp [Tg.putV] at q
        | dat d =>
          simp only [Tg.putV] at q
          exact hg I1 H1 β1 σ env env1 v d _ s1.sub en1 r1 q fun σ' en' _ => p1 I1 H1 β1 σ' s1 Ext.refl en'⟩
end
end MP
set_option Elab.async false
set_option linter.all false
set_option maxRecDepth 100000
set_option maxHeartbeats 1000000
/-! MP4: what is walked; for, while; comprehensions; calls of defs; bodies. -/
namespace MP
open PySem PySem.Spec PyProof.Rows L2
abbrev Si := Env → Mem → Res (List PyData)
/-- J yields these data, one a turn, whatever else goes on -/
def ItOk (K : FrgT) (I : Hp) (J : It) (items : List PyData) : Prop := ∀ I1 H1, Same I I1 → Same I1 H1 → ∀ i, (∀ d, items[i]? = some d → J.go i H1 ∧ ∀ x H', J.yld i H1 x H' → ∃ I2, Grow I1 H1 I2 H' ∧ Dp K I2 x d) ∧ (items.length = i → J.stop i H1)
theorem ItOk.mono {K : FrgT} {I I1 : Hp} {J : It} {items : List PyData} (h : ItOk K I J items) (s : Same I I1) : ItOk K I1 J items := fun I2 H2 a b => h I2 H2 (s.trans a) b
def exFor (t : Tg) (ri : Si) (rb : Ss) : Ss := fun env M => match ri env M with
  | .ok ds M1 => forS t rb ds env M1
  | .exc e M1 => .ok (.rz e env) M1
  | .bad => .bad
section
variable (w : Mw) (W : WX)
abbrev RIt (w : Mw) : Hp → Hp → List Addr → It → List PyData → Prop := fun I _ _ J items => ItOk w.K I J items
def RI (r : Si) : TI := fun σ H R => ∃ I β M env, Sit w.K w.ca I H β M ∧ EnvR w.K I β σ env ∧ Post w W (RIt w) σ I H β R (r env M)
end
section
variable {w : Mw} {W : WX} {X : Cx} {σ : St} {I H I1 H1 : Hp} {β β1 : List Addr} {M : Mem} {D : Ends} {env : Env} {pos : Pos}
theorem pi_imp {tg e : Expr} {t t' : TI} (h : PI X tg e t) (i : ∀ σ H R, t' σ H R → t σ H R) : PI X tg e t' := ⟨fun pins s σ H R I q => h.run pins s σ H R I (i σ H R q)⟩
/-! ### for -/
theorem psM_for {tg iter : Expr} {body : List Stmt} {ri : Si} {t : Tg} {g : TG} {rb : Ss} (hp : PassesOwn (model X.prog X.w) X.A X.env X.xe) (hc : X.calm = true) (hi : PI X tg iter (RI w W ri)) (hg : PG X tg g) (ht : OkTg w.K t g) (hb : PSs X body (RS w W rb)) (hs : ∀ x, foldedSetIterable iter X.env x = pure x) :
    PS X (.For tg iter body [] pos) (RS w W (exFor t ri rb)) :=
  ps_imp (ps_for hp hc hi hg hb hs) fun D σ H ⟨I, β, M, env, s, en, p⟩ => ⟨I, β, M, env, s, en, by
    unfold exFor at p
    cases q : ri env M with
    | bad => rw [q] at p; exact p
    | exc e M1 => rw [q] at p; exact fun I' H' β' c d s x z => p I' H' β' σ c d s x (en.mono x.toEx0) z
    | ok ds M1 =>
      rw [q] at p
      intro I1 H1 β1 J s1 e1 jo
      replace p : PostS w W D I1 H1 β1 (forS t rb ds env M1) := PostS.ext p e1
      -- the invariant: what is left of the walk gives what is wanted
      refine ⟨fun i m σ' H' => ∃ I2 β2 M2 env2, Sit w.K w.ca I2 H' β2 M2 ∧ EnvR w.K I2 β2 σ' env2 ∧ Ext I1 H1 β1 I2 H' β2 ∧ i + m = ds.length ∧ PostS w W D I2 H' β2 (forS t rb (ds.drop i) env2 M2), ⟨ds.length, I1, β1, M1, env, s1, en.mono e1.toEx0, Ext.refl, by omega, by simpa using p⟩, ?_⟩
      rintro i m σ' H' ⟨I2, β2, M2, env2, s2, en2, e2, hm, p2⟩
      obtain ⟨j1, j2⟩ := jo I2 H' e2.fro s2.sub i
      by_cases hlt : i < ds.length
      · right
        obtain ⟨g1, g2⟩ := j1 ds[i] (List.getElem?_eq_getElem hlt)
        refine ⟨g1, fun σ3 H3 => ∃ I3 β3 M3 env3, Sit w.K w.ca I3 H3 β3 M3 ∧ EnvR w.K I3 β3 σ3 env3 ∧ Ext I1 H1 β1 I3 H3 β3 ∧ PostS w W D I3 H3 β3 (forS t rb (ds.drop (i + 1)) env3 M3), ?_, ?_⟩
        · rintro σ3 H3 ⟨I3, β3, M3, env3, s3, en3, e3, p3⟩
          exact ⟨m - 1, by omega, I3, β3, M3, env3, s3, en3, e3, by omega, p3⟩
        · intro x H3 y
          obtain ⟨I3, gr, dx⟩ := g2 x H3 y
          have s3 := s2.grow gr
          have x3 : Ext I2 H' β2 I3 H3 β2 := gr.ext
          rw [List.drop_eq_getElem_cons hlt] at p2
          unfold forS at p2
          cases q2 : t.put ds[i] env2 with
          | none => rw [q2] at p2; exact False.elim p2
          | some env3 =>
            rw [q2] at p2
            refine ht I3 H3 β2 σ' env2 env3 x ds[i] _ s3.sub (en2.mono x3.toEx0) dx q2 fun σ3 en3 _ => ⟨I3, β2, M2, env3, s3, en3, ?_⟩
            replace p2 := PostS.ext p2 x3
            simp only at p2
            cases q3 : rb env3 M2 with
            | bad => rw [q3] at p2; exact False.elim p2
            | exc e M3 => rw [q3] at p2; exact False.elim p2
            | ok fl M3 =>
              rw [q3] at p2
              cases fl with
              | nx env4 =>
                intro I4 H4 β4 σ4 s4 e4 en4
                exact ⟨I4, β4, M3, env4, s4, en4, e2.trans (x3.trans e4), PostS.ext p2 e4⟩
              | ct env4 =>
                intro I4 H4 β4 σ4 s4 e4 en4
                exact ⟨I4, β4, M3, env4, s4, en4, e2.trans (x3.trans e4), PostS.ext p2 e4⟩
              | bk env4 =>
                intro I4 H4 β4 σ4 s4 e4 en4
                exact p2 I4 H4 β4 σ4 s4 e4 en4
              | rt v => exact p2
              | rz e env4 => exact p2
      · left
        have hl : ds.length = i := by omega
        refine ⟨j2 hl, ?_⟩
        rw [List.drop_eq_nil_of_le (by omega)] at p2
        exact p2 I2 H' β2 σ' s2 Ext.refl en2⟩
/-! ### while -/
theorem psM_while {c : Expr} {body : List Stmt} {rc : Sm} {rb : Ss} {n : Nat} (hp : PassesOwn (model X.prog X.w) X.A X.env X.xe) (hc : PT X c (RT w W (toB rc))) (hb : PSs X body (RS w W rb)) : PS X (.While c body [] pos) (RS w W (whileS rc rb n)) :=
  ps_imp (ps_while hp hc hb) fun D σ H ⟨I, β, M, env, s, en, p⟩ => by
    refine ⟨fun m σ' H' => ∃ I2 β2 M2 env2, Sit w.K w.ca I2 H' β2 M2 ∧ EnvR w.K I2 β2 σ' env2 ∧ PostS w W D I2 H' β2 (whileS rc rb m env2 M2), ⟨n, I, β, M, env, s, en, p⟩, ?_⟩
    rintro m σ' H' ⟨I2, β2, M2, env2, s2, en2, p2⟩
    cases m with
    | zero => exact False.elim p2
    | succ m =>
      unfold whileS at p2
      refine ⟨I2, β2, M2, env2, s2, en2, Post.imp (PostS.ofB p2 en2) fun k H1 ⟨I1, β1, M1, s1, en1, e1, p1⟩ => ?_⟩
      cases k with
      | false => rw [if_neg Bool.false_ne_true]; exact p1 I1 H1 β1 σ' s1 Ext.refl en1
      | true =>
        rw [if_pos rfl]
        refine ⟨fun σ3 H3 => ∃ I3 β3 M3 env3, Sit w.K w.ca I3 H3 β3 M3 ∧ EnvR w.K I3 β3 σ3 env3 ∧ PostS w W D I3 H3 β3 (whileS rc rb m env3 M3), ?_, I1, β1, M1, env2, s1, en1, ?_⟩
        · rintro σ3 H3 ⟨I3, β3, M3, env3, s3, en3, p3⟩
          exact ⟨m, by omega, I3, β3, M3, env3, s3, en3, p3⟩
        · simp only at p1
          cases q3 : rb env2 M1 with
          | bad => rw [q3] at p1; exact False.elim p1
          | exc e M3 => rw [q3] at p1; exact False.elim p1
          | ok fl M3 =>
            rw [q3] at p1
            cases fl with
            | nx env4 => exact fun I4 H4 β4 σ4 s4 e4 en4 => ⟨I4, β4, M3, env4, s4, en4, PostS.ext p1 e4⟩
            | ct env4 => exact fun I4 H4 β4 σ4 s4 e4 en4 => ⟨I4, β4, M3, env4, s4, en4, PostS.ext p1 e4⟩
            | bk env4 => exact fun I4 H4 β4 σ4 s4 e4 en4 => p1 I4 H4 β4 σ4 s4 e4 en4
            | rt v => exact p1
            | rz e env4 => exact p1
/-! ### what is walked: a list, a tuple, a text -/
def charsD (x : Str) : List PyData := x.cps.toList.map fun c => .str ⟨#[c]⟩
def seqD : PyData → Option (List PyData)
  | .list xs => some xs
  | .tuple xs => some xs
  | .str x => some (charsD x)
  | _ => none
/-- frozen data alone -/
def siSeq (a : Sm) : Si := fun env M => (a env M).bind fun x M1 => match x with
  | .dat d => (match seqD d with
    | some ds => .ok ds M1
    | none => .bad)
  | .ob _ => .bad
def iSeq (K : FrgT) (t : TE) : TI := fun σ H R => t σ H fun x H1 => (∃ a xs, x = .ref a ∧ SqL K H1 a xs ∧ R (Itl K a) H1) ∨ (∃ a xs, x = .ref a ∧ SqT K H1 a xs ∧ R (Itt K a) H1) ∨ ∃ z, x = .str z ∧ R (Its z) H1
theorem pi_seq {tg e : Expr} {t : TE} (he : PE X e t) : PI X tg e (iSeq X.K t) := by
  refine ⟨fun pins s σ H R I h => ?_⟩
  refine thn (he.run pins s σ H _ I h) fun v s1 ⟨x, H1, I1, r1, q1⟩ => ?_
  rcases q1 with ⟨a, xs, rfl, hq, q⟩ | ⟨a, xs, rfl, hq, q⟩ | ⟨z, rfl, q⟩
  · cases r1
    obtain ⟨its, rv, p, hz⟩ := I1.list hq
    refine wpAny_pyIter_list p.isList ?_
    refine ⟨s1.heap.objs.size, [s1.heap.objs.size], _, _, H1, rfl, I1.kept (t' := s1.toks) fun b o e => Heap.get?_push_of_some _ e, turn_list a _, ⟨_, Heap.get?_push_size _ rfl, rfl, rfl⟩, fun b hb => ?_, q⟩
    have e : b = s1.heap.objs.size := by simpa using hb
    subst e
    exact I1.fpOk (Nat.le_refl _) (I1.hok.fresh (Nat.le_refl _))
  · cases r1
    obtain ⟨its, rv, p, hz⟩ := I1.tuple hq
    refine wpAny_pyIter_tuple (show s1.heap.IsTuple a its.toArray from p) ?_
    refine ⟨s1.heap.objs.size, [s1.heap.objs.size], _, _, H1, rfl, I1.kept (t' := s1.toks) fun b o e => Heap.get?_push_of_some _ e, turn_tuple a _, ⟨_, Heap.get?_push_size _ rfl, rfl, rfl⟩, fun b hb => ?_, q⟩
    have e : b = s1.heap.objs.size := by simpa using hb
    subst e
    exact I1.fpOk (Nat.le_refl _) (I1.hok.fresh (Nat.le_refl _))
  · obtain ⟨t, rfl⟩ := r1
    cases ha : z.cps.all (· < 128)
    · exact wpAny_pyIter_wide ha (pi_one (tk := s1.toks) I1 _ (turn_str _ z t "str_iterator" (.inr rfl)) ⟨_, Heap.get?_push_size _ rfl, rfl, rfl⟩ q)
    · exact wpAny_pyIter_ascii ha (pi_one (tk := s1.toks) I1 _ (turn_str _ z t "str_ascii_iterator" (.inl rfl)) ⟨_, Heap.get?_push_size _ rfl, rfl, rfl⟩ q)
theorem dpAll_len {K : FrgT} : ∀ {vs : List V} {ds : List PyData}, DpAll K I vs ds → vs.length = ds.length
  | _, _, .nil => rfl
  | _, _, .cons _ t => by simp [dpAll_len t]
theorem dpAll_get {K : FrgT} : ∀ {vs : List V} {ds : List PyData} {i : Nat} {d : PyData}, DpAll K I vs ds → ds[i]? = some d → ∃ v, vs[i]? = some v ∧ Dp K I v d
  | _, _, _, _, .nil, h => by simp at h
  | _, _, 0, _, .cons r _, h => by simp at h; subst h; exact ⟨_, rfl, r⟩
  | _, _, i + 1, _, .cons _ t, h => by
    obtain ⟨v, h1, h2⟩ := dpAll_get (i := i) t (by simpa using h)
    exact ⟨v, by simpa using h1, h2⟩
theorem itOk_list {K : FrgT} {a : Addr} {vs : List V} {ds : List PyData} (h : SqL K I a vs) (d : DpAll K I vs ds) : ItOk K I (Itl K a) ds := fun I1 H1 s1 s2 i => by
  have h2 := s2.seq (s1.seq h)
  refine ⟨fun x e => ?_, fun hl => ⟨vs, h2, by rw [dpAll_len d]; exact Nat.le_of_eq hl⟩⟩
  obtain ⟨v, g1, g2⟩ := dpAll_get d e
  exact ⟨⟨vs, v, h2, g1⟩, fun y H' ⟨e1, e2⟩ => ⟨I1, by rw [e1]; exact Grow.refl s2, by
    have := (e2 vs (by exact h2)).symm.trans g1
    cases this
    exact g2.mono s1⟩⟩
theorem itOk_tuple {K : FrgT} {a : Addr} {vs : List V} {ds : List PyData} (h : SqT K I a vs) (d : DpAll K I vs ds) : ItOk K I (Itt K a) ds := fun I1 H1 s1 s2 i => by
  have h2 := Same.tupl s2 (Same.tupl s1 h)
  refine ⟨fun x e => ?_, fun hl => ⟨vs, h2, by rw [dpAll_len d]; exact Nat.le_of_eq hl⟩⟩
  obtain ⟨v, g1, g2⟩ := dpAll_get d e
  exact ⟨⟨vs, v, h2, g1⟩, fun y H' ⟨e1, e2⟩ => ⟨I1, by rw [e1]; exact Grow.refl s2, by
    have := (e2 vs (by exact h2)).symm.trans g1
    cases this
    exact g2.mono s1⟩⟩
theorem itOk_str {K : FrgT} {x : Str} : ItOk K I (Its x) (charsD x) := fun I1 H1 s1 s2 i => by
  refine ⟨fun d e => ?_, fun hl => by
    show x.cps.size ≤ i
    unfold charsD at hl
    have := Nat.le_of_eq hl
    simpa using this⟩
  unfold charsD at e
  rw [List.getElem?_map] at e
  cases q : x.cps.toList[i]? with
  | none => rw [q] at e; cases e
  | some c =>
    rw [q] at e
    cases e
    have q' : x.cps[i]? = some c := by simpa using q
    refine ⟨(Array.getElem?_eq_some_iff.mp q').1, fun y H' ⟨e1, c', e2, e3⟩ => ⟨I1, by rw [e1]; exact Grow.refl s2, ?_⟩⟩
    rw [q'] at e2
    cases e2
    rw [e3]
    exact .str _
theorem piM_seq (hK : X.K = w.K) {tg e : Expr} {a : Sm} (he : PE X e (RE w W a)) : PI X tg e (RI w W (siSeq a)) :=
  pi_imp (pi_seq he) fun σ H R ⟨I, β, M, env, s, en, p⟩ => ⟨I, β, M, env, s, en, Post.imp (Post.seq (R := RV w) p) fun v H1 ⟨I1, β1, M1, x, s1, e1, r1, p1⟩ => by
    rw [hK]
    cases x with
    | ob n => exact False.elim p1
    | dat d =>
      cases q : seqD d with
      | none => simp only [q] at p1; exact False.elim p1
      | some ds =>
        simp only [q] at p1
        cases d with
        | list xs =>
          cases q
          cases (show Dp w.K I1 v (.list _) from r1) with
          | lst hs ha => exact .inl ⟨_, _, rfl, s1.sub.seq hs, p1 I1 H1 β1 _ s1 Ext.refl (itOk_list hs ha)⟩
        | tuple xs =>
          cases q
          cases (show Dp w.K I1 v (.tuple _) from r1) with
          | tup hs ha => exact .inr (.inl ⟨_, _, rfl, Same.tupl s1.sub hs, p1 I1 H1 β1 _ s1 Ext.refl (itOk_tuple hs ha)⟩)
        | str x =>
          cases q
          cases (show Dp w.K I1 v (.str _) from r1)
          exact .inr (.inr ⟨_, rfl, p1 I1 H1 β1 _ s1 Ext.refl itOk_str⟩)
        | _ => cases q⟩
end
end MP
set_option Elab.async false
set_option linter.all false
set_option maxRecDepth 100000
set_option maxHeartbeats 1000000
/-! MP5: new lists (frozen at once, or made a cell); comprehensions. -/
namespace MP
open PySem PySem.Spec PyProof.Rows L2
section
variable (w : Mw) (W : WX)
/-- the value is a new list: H0 what stood at the start -/
abbrev RN (w : Mw) (H0 : Hp) : Hp → Hp → List Addr → V → List PyData → Prop := fun I H β v ds => ∃ p vs, v = .ref p ∧ H0 p = none ∧ H p = some (.lst vs) ∧ I p = none ∧ p ∉ β ∧ DpAll w.K I vs ds
def RF (r : Si) : TE := fun σ H Q => ∃ I β M env, Sit w.K w.ca I H β M ∧ EnvR w.K I β σ env ∧ Post w W (RN w H) σ I H β Q (r env M)
end
/-- the new list as data -/
def frz (r : Si) : Sm := fun env M => (r env M).bind fun ds M1 => .ok (.dat (.list ds)) M1
/-- the new list as a cell -/
def cel (r : Si) : Sm := fun env M => (r env M).bind fun ds M1 => .ok (.ob M1.length) (M1 ++ [.lst (ds.map .dat)])
section
variable {w : Mw} {W : WX} {X : Cx} {σ : St} {I H I1 H1 : Hp} {β β1 : List Addr} {M : Mem} {D : Ends} {env : Env} {pos : Pos} {K : FrgT} {ca : Str → Addr}
theorem CellR.frz {p q : Addr} {c : Cell} {o : HO} (h : CellR K ca I H β q c) (hi : I p = none) (ne : q ≠ p) : CellR K ca (upd I p o) H β q c := by
  have sI : Same I (upd I p o) := fun b u e => by rw [upd_ne (ne_of_none e hi)]; exact e
  cases c with
  | lst xs => obtain ⟨h1, vs, h2, h3⟩ := h; exact ⟨by rw [upd_ne ne]; exact h1, vs, h2, VRs.mono h3 ⟨sI, fun _ _ z => z⟩⟩
  | tup xs => obtain ⟨h1, vs, h2, h3⟩ := h; exact ⟨by rw [upd_ne ne]; exact h1, vs, h2, VRs.mono h3 ⟨sI, fun _ _ z => z⟩⟩
  | dct kvs => obtain ⟨h1, vs, h2, h3⟩ := h; exact ⟨by rw [upd_ne ne]; exact h1, vs, h2, PairR.mono h3 ⟨sI, fun _ _ z => z⟩⟩
  | ins C fs => obtain ⟨h1, dx, gs, h2, h3⟩ := h; exact ⟨by rw [upd_ne ne]; exact h1, dx, gs, h2, Paired.mapP h3 fun _ _ r => ⟨r.1, VR.mono r.2 ⟨sI, fun _ _ z => z⟩⟩⟩
  | dead => trivial
/-- a tracked thing of no one else is frozen -/
theorem Sit.frz {p : Addr} {o : HO} (s : Sit K ca I H β M) (h : H p = some o) (hi : I p = none) (hb : p ∉ β) : Sit K ca (upd I p o) H β M :=
  ⟨fun b u e => by
    by_cases q : b = p
    · subst q; rw [upd_same] at e; rw [← e]; exact h
    · rw [upd_ne q] at e; exact s.sub b u e, s.len, s.inj, s.trk, fun n c q h1 h2 => (s.cell n c q h1 h2).frz hi fun e => hb (e ▸ List.mem_of_getElem? h2)⟩
theorem Sit.adopt {p : Addr} {c : Cell} (s : Sit K ca I H β M) (h : H p ≠ none) (hb : p ∉ β) (hc : CellR K ca I H (β ++ [p]) p c) : Sit K ca I H (β ++ [p]) (M ++ [c]) := by
  refine ⟨s.sub, by simp [s.len], ?_, ?_, ?_⟩
  · rw [List.nodup_append]
    exact ⟨s.inj, by simp, fun a ha b hb' => by
      simp at hb'
      subst hb'
      exact fun e => hb (e ▸ ha)⟩
  · intro q hq
    rcases List.mem_append.mp hq with hq | hq
    · exact s.trk q hq
    · simp at hq
      subst hq
      exact h
  · intro n c' q h1 h2
    by_cases hn : n < M.length
    · rw [List.getElem?_append_left hn] at h1
      rw [List.getElem?_append_left (by rw [s.len]; exact hn)] at h2
      refine CellR.adr (s.cell n c' q h1 h2) fun k r e => ?_
      rw [List.getElem?_append_left (List.getElem?_eq_some_iff.mp e).1]
      exact e
    · have hn' : n = M.length := by
        have := (List.getElem?_eq_some_iff.mp h1).1
        simp at this
        omega
      subst hn'
      simp at h1
      rw [← s.len] at h2
      simp at h2
      subst h1 h2
      exact hc
/-- a tracked thing that is neither frozen nor a cell is changed, or comes new -/
theorem Sit.free {p : Addr} {o : HO} (s : Sit K ca I H β M) (hi : I p = none) (hb : p ∉ β) : Sit K ca I (upd H p o) β M :=
  ⟨same_upd_out s.sub hi, s.len, s.inj, fun q hq z => by
    rw [upd_ne (fun (e : q = p) => hb (by rw [← e]; exact hq))] at z
    exact s.trk q hq z, fun n c q h1 h2 => (s.cell n c q h1 h2).other fun e => hb (e ▸ List.mem_of_getElem? h2)⟩
theorem Ext.free {p : Addr} {o : HO} {I0 H0 : Hp} {β0 : List Addr} (e : Ext I0 H0 β0 I H β) (h : H0 p = none) : Ext I0 H0 β0 I (upd H p o) β := ⟨e.toEx0, fun a u h1 h2 h3 => by
  obtain ⟨g1, g2, g3⟩ := e.frm a u h1 h2 h3
  exact ⟨by rw [upd_ne (ne_of_none h1 h)]; exact g1, g2, g3⟩⟩
theorem Ext.frz {p : Addr} {o : HO} {I0 H0 : Hp} {β0 : List Addr} (e : Ext I0 H0 β0 I H β) (h : H0 p = none) (hi : I p = none) : Ext I0 H0 β0 (upd I p o) H β :=
  ⟨⟨e.fro.trans fun b u q => by rw [upd_ne (ne_of_none q hi)]; exact q, e.adr⟩, fun a u h1 h2 h3 => by
    obtain ⟨g1, g2, g3⟩ := e.frm a u h1 h2 h3
    exact ⟨g1, by rw [upd_ne (ne_of_none h1 h)]; exact g2, g3⟩⟩
theorem Ext.adopt {p : Addr} {I0 H0 : Hp} {β0 : List Addr} (e : Ext I0 H0 β0 I H β) (h : H0 p = none) : Ext I0 H0 β0 I H (β ++ [p]) :=
  ⟨⟨e.fro, fun n q z => by
    have z' := e.adr n q z
    rw [List.getElem?_append_left (List.getElem?_eq_some_iff.mp z').1]
    exact z'⟩, fun a u h1 h2 h3 => by
    obtain ⟨g1, g2, g3⟩ := e.frm a u h1 h2 h3
    exact ⟨g1, g2, by simp [g3, ne_of_none h1 h]⟩⟩
theorem rf_frz {r : Si} {Q : VK} (h : RE w W (frz r) σ H Q) : RF w W r σ H Q := by
  obtain ⟨I, β, M, env, s, en, p⟩ := h
  refine ⟨I, β, M, env, s, en, ?_⟩
  unfold frz at p
  cases q : r env M with
  | bad => rw [q] at p; exact p
  | exc e M1 => rw [q] at p; exact p
  | ok ds M1 =>
    rw [q] at p
    rintro I1 H1 β1 v s1 e1 ⟨a, vs, rfl, h0, h1, h2, h3, d⟩
    have sI : Same I1 (upd I1 a (.lst vs)) := fun b u e => by rw [upd_ne (ne_of_none e h2)]; exact e
    exact p (upd I1 a (.lst vs)) H1 β1 (.ref a) (s1.frz h1 h2 h3) (e1.frz h0 h2) (.lst (.inl (.inl upd_same)) (d.mono sI))
theorem rf_cel {r : Si} {Q : VK} (h : RE w W (cel r) σ H Q) : RF w W r σ H Q := by
  obtain ⟨I, β, M, env, s, en, p⟩ := h
  refine ⟨I, β, M, env, s, en, ?_⟩
  unfold cel at p
  cases q : r env M with
  | bad => rw [q] at p; exact p
  | exc e M1 => rw [q] at p; exact p
  | ok ds M1 =>
    rw [q] at p
    rintro I1 H1 β1 v s1 e1 ⟨a, vs, rfl, h0, h1, h2, h3, d⟩
    refine p I1 H1 (β1 ++ [a]) (.ref a) (s1.adopt (by rw [h1]; exact fun z => nomatch z) h3 ⟨h2, vs, h1, vrs_map d⟩) (e1.adopt h0) ⟨a, ?_, rfl⟩
    rw [← s1.len]
    simp
theorem peF_frz {e : Expr} {r : Si} (h : PE X e (RF w W r)) : PE X e (RE w W (frz r)) := pe_imp h fun _ _ _ q => rf_frz q
theorem peF_cel {e : Expr} {r : Si} (h : PE X e (RF w W r)) : PE X e (RE w W (cel r)) := pe_imp h fun _ _ _ q => rf_cel q
end
/-! ### comprehensions -/
def Res.nx {α : Type} : Res α → Res α
  | .exc _ _ => .bad
  | r => r
@[simp] theorem Res.nx_ok {α : Type} (a : α) (M : Mem) : (Res.ok a M).nx = .ok a M := rfl
def wipeE (env : Env) : List Nat → Env
  | [] => env
  | v :: vs => (wipeE env vs).set v none
def lcS (t : Tg) (c : Option Sm) (elt : Sm) : List PyData → Env → Mem → Res (List PyData)
  | [], _, M => .ok [] M
  | d :: ds, env, M => match t.put d env with
    | none => .bad
    | some env1 => (match c with
      | none => Res.ok true M
      | some c => (toB c env1 M).nx).bind fun k M1 => match k with
        | true => ((elt env1 M1).nx).bind fun y M2 => (match y with
          | .dat z => (lcS t c elt ds env M2).bind fun r M3 => .ok (z :: r) M3
          | .ob _ => .bad)
        | false => lcS t c elt ds env M1
def evLc (ri : Si) (t : Tg) (own : List Nat) (c : Option Sm) (elt : Sm) : Si := fun env M => (ri env M).bind fun ds M1 => match decide (ds.length ≤ 16777216) with
  | true => (lcS t c elt ds (wipeE env own) M1).nx
  | false => .bad
abbrev W0 : WX := fun _ _ _ _ => False
section
variable {w : Mw} {W : WX} {X : Cx} {σ : St} {I H I1 H1 : Hp} {β β1 : List Addr} {M : Mem} {D : Ends} {env : Env} {pos : Pos}
theorem EnvR.wipe {K : FrgT} (h : EnvR K I β σ env) : ∀ vs : List Nat, EnvR K I β (L2.wipe σ vs) (wipeE env vs)
  | [] => h
  | v :: vs => by
    have ih := EnvR.wipe h vs
    refine ⟨by unfold L2.wipe wipeE; simp [ih.1], fun i x hx => ?_⟩
    unfold wipeE at hx
    unfold L2.wipe
    by_cases e : v = i
    · subst e
      have hi : v < (wipeE env vs).length := by
        have := (List.getElem?_eq_some_iff.mp hx).1
        simpa using this
      rw [List.getElem?_set_self hi] at hx
      cases hx
    · rw [List.getElem?_set_ne e] at hx ⊢
      exact ih.2 i x hx
theorem nx_bind {α α' : Type} (r : Res α) (k : α → Mem → Res α') : (r.bind k).nx = r.nx.bind fun a M => (k a M).nx := by
  cases r <;> rfl
theorem nx_nx {α : Type} (r : Res α) : r.nx.nx = r.nx := by cases r <;> rfl
theorem bind_bind {α α' α'' : Type} (r : Res α) (k : α → Mem → Res α') (l : α' → Mem → Res α'') : (r.bind k).bind l = r.bind fun a M => (k a M).bind l := by
  cases r <;> rfl
/-- a result that lets nothing out, where nothing may be let out -/
theorem Post.nx {α γ α' γ' : Type} {R : Hp → Hp → List Addr → γ → α → Prop} {R' : Hp → Hp → List Addr → γ' → α' → Prop} {Q : γ' → Hp → Prop} {r : Res α} {k : α → Mem → Res α'} (h : Post w W R' σ I H β Q (r.nx.bind k)) {σ' : St} :
    Post w W0 R σ' I H β (fun v H1 => ∃ I1 β1 M1 x, Sit w.K w.ca I1 H1 β1 M1 ∧ Ext I H β I1 H1 β1 ∧ R I1 H1 β1 v x ∧ Post w W R' σ I1 H1 β1 Q (k x M1)) r := by
  cases r with
  | ok a M => exact fun I' H' β' v s e q => ⟨I', β', M, a, s, e, q, Post.ext h e⟩
  | exc e M => exact False.elim h
  | bad => exact h
/-- the same, what is wanted told at an earlier state -/
theorem Post.nxB {α γ α' γ' : Type} {R : Hp → Hp → List Addr → γ → α → Prop} {R' : Hp → Hp → List Addr → γ' → α' → Prop} {Q : γ' → Hp → Prop} {r : Res α} {k : α → Mem → Res α'} {I2 H2 : Hp} {β2 : List Addr} (h : Post w W R' σ I H β Q (r.nx.bind k)) {σ' : St} :
    Post w W0 R σ' I2 H2 β2 (fun v H1 => ∃ I1 β1 M1 x, Sit w.K w.ca I1 H1 β1 M1 ∧ Ext I2 H2 β2 I1 H1 β1 ∧ R I1 H1 β1 v x ∧ Post w W R' σ I H β Q (k x M1)) r := by
  cases r with
  | ok a M => exact fun I' H' β' v s e q => ⟨I', β', M, a, s, e, q, h⟩
  | exc e M => exact False.elim h
  | bad => exact h
theorem Ext.none {K : FrgT} {ca : Str → Addr} {a : Addr} {M1 : Mem} (e : Ext I H β I1 H1 β1) (s1 : Sit K ca I1 H1 β1 M1) (h : H1 a = none) : H a = none := by
  cases q : H a with
  | none => rfl
  | some o =>
    cases q2 : I a with
    | some u =>
      have h2 := s1.sub _ _ (e.fro _ _ q2)
      rw [h] at h2
      cases h2
    | none =>
      by_cases hb : a ∈ β
      · obtain ⟨n, hn⟩ := List.getElem?_of_mem hb
        exact absurd h (s1.trk a (List.mem_of_getElem? (e.adr n a hn)))
      · have h2 := (e.frm a o q q2 hb).1
        rw [h] at h2
        cases h2
/-- the tests of a clause -/
def condR (w : Mw) : Option Sm → TT
  | none => tYes
  | some c => RT w W0 (toB c)
theorem lc_imp {ri : Si} {t : Tg} {g : TG} {c : Option Sm} {re : Sm} {own : List (Str × Nat)} (ht : OkTg w.K t g) (hs : ∀ i ∈ t.slots, i ∈ own.map (·.2)) :
    ∀ σ H Q, RF w W (evLc ri t (own.map (·.2)) c re) σ H Q → tLc (RI w W ri) g (condR w c) (RE w W0 re) (own.map (·.2)) σ H Q := by
  refine fun σ H Q ⟨I, β, M, env, s, en, p⟩ => ⟨I, β, M, env, s, en, Post.imp (Post.seq p) fun J H1 ⟨I1, β1, M1, ds, s1, e1, jo, p1⟩ D hD => ?_⟩
  have hsz : sizeLine = 16777216 := sizeLine_eq
  cases hlen : decide (ds.length ≤ 16777216) with
  | false => rw [hlen] at p1; exact False.elim p1
  | true =>
    have hlen' : ds.length ≤ 16777216 := of_decide_eq_true hlen
    rw [hlen] at p1
    simp only at p1
    have hID : I1 D = none := s1.sub.free hD
    have hβD : D ∉ β1 := fun z => s1.trk D z hD
    generalize hwe : wipeE env (own.map (·.2)) = wenv at p1
    have enw : EnvR w.K I β (L2.wipe σ (own.map (·.2))) wenv := by rw [← hwe]; exact en.wipe _
    have p2 : Post w W (RN w H) σ I1 H1 β1 Q ((lcS t c re ds wenv M1).nx.bind fun r M3 => .ok ([] ++ r) M3) := by
      cases q : lcS t c re ds wenv M1 with
      | ok r M3 => rw [q] at p1; exact p1
      | exc e M3 => rw [q] at p1; exact p1
      | bad => rw [q] at p1; exact p1
    refine ⟨fun i m H' => ∃ I2 β2 M2 vs acc, Sit w.K w.ca I2 H' β2 M2 ∧ Ext I1 H1 β1 I2 H' β2 ∧ H' D = some (.lst vs) ∧ I2 D = none ∧ D ∉ β2 ∧ DpAll w.K I2 vs acc ∧ acc.length ≤ i ∧ i + m = ds.length ∧
        Post w W (RN w H) σ I1 H1 β1 Q ((lcS t c re (ds.drop i) wenv M2).nx.bind fun r M3 => .ok (acc ++ r) M3),
      ⟨ds.length, I1, β1, M1, [], [], s1.free hID hβD, Ext.refl.free hD, upd_same, hID, hβD, .nil, Nat.le_refl _, by omega, p2⟩, ?_⟩
    rintro i m H' ⟨I2, β2, M2, vs, acc, s2, e2, d1, d2, d3, da, hacc, hm, p3⟩
    obtain ⟨j1, j2⟩ := jo I2 H' e2.fro s2.sub i
    by_cases hlt : i < ds.length
    · right
      obtain ⟨g1, g2⟩ := j1 ds[i] (List.getElem?_eq_getElem hlt)
      refine ⟨g1, fun H3 => ∃ I3 β3 M3 vs acc, Sit w.K w.ca I3 H3 β3 M3 ∧ Ext I1 H1 β1 I3 H3 β3 ∧ H3 D = some (.lst vs) ∧ I3 D = none ∧ D ∉ β3 ∧ DpAll w.K I3 vs acc ∧ acc.length ≤ i + 1 ∧
          Post w W (RN w H) σ I1 H1 β1 Q ((lcS t c re (ds.drop (i + 1)) wenv M3).nx.bind fun r M3 => .ok (acc ++ r) M3), ?_, ?_⟩
      · rintro H3 ⟨I3, β3, M3, vs3, acc3, s3, e3, f1, f2, f3, fa, hacc3, p4⟩
        exact ⟨m - 1, by omega, I3, β3, M3, vs3, acc3, s3, e3, f1, f2, f3, fa, hacc3, by omega, p4⟩
      · intro x H3 y
        obtain ⟨I3, gr, dx⟩ := g2 x H3 y
        have s3 := s2.grow gr
        have x3 : Ext I2 H' β2 I3 H3 β2 := gr.ext
        have k1 : H3 D = some (.lst vs) := gr.all _ _ d1
        have k2 : I3 D = none := gr.keepN (by rw [d1]; exact fun z => nomatch z) d2
        rw [List.drop_eq_getElem_cons hlt] at p3
        unfold lcS at p3
        cases q2 : t.put ds[i] wenv with
        | none => rw [q2] at p3; exact False.elim p3
        | some env3 =>
          rw [q2] at p3
          refine ht I3 H3 β2 _ wenv env3 x ds[i] _ s3.sub ((enw.mono (e1.toEx0.trans e2.toEx0)).mono x3.toEx0) dx q2 fun σ3 en3 wp => ⟨?_, ?_⟩
          · have := wp (own.map (·.2)) hs
            rw [this]
            apply List.ext_getElem?
            intro j
            rw [wipe_get, wipe_get, wipe_length]
            split <;> rfl
          simp only [nx_bind, bind_bind] at p3
          -- the test
          have test : ∀ (Q' : Bool → Hp → Prop), (∀ k I4 H4 β4 M4, Sit w.K w.ca I4 H4 β4 M4 → Ext I3 H3 β2 I4 H4 β4 → Post w W (RN w H) σ I1 H1 β1 Q (match k with
              | true => ((re env3 M4).nx).bind fun y M5 => (match y with
                | .dat z => ((lcS t c re (ds.drop (i + 1)) wenv M5).nx).bind fun r M6 => .ok (acc ++ (z :: r)) M6
                | .ob _ => .bad)
              | false => ((lcS t c re (ds.drop (i + 1)) wenv M4).nx).bind fun r M5 => .ok (acc ++ r) M5) → Q' k H4) → condR w c σ3 H3 Q' := by
            intro Q' hQ'
            cases c with
            | none =>
              refine hQ' true I3 H3 β2 M2 s3 Ext.refl ?_
              simp only [Res.nx_ok, Res.bind_ok, nx_bind, bind_bind, nx_nx] at p3
              refine cast (congrArg _ ?_) p3
              congr 1
              funext y M5
              cases y with
              | ob n => rfl
              | dat z =>
                simp only [nx_bind, bind_bind, nx_nx]
                congr 1
            | some c =>
              refine ⟨I3, β2, M2, env3, s3, en3, ?_⟩
              simp only [nx_nx] at p3
              refine Post.imp (Post.nxB (R := RB) p3) fun k H4 ⟨I4, β4, M4, x4, s4, e4, r4, p4⟩ => ?_
              cases r4
              refine hQ' k I4 H4 β4 M4 s4 e4 ?_
              cases k with
              | false => exact p4
              | true =>
                simp only [nx_bind, bind_bind, nx_nx] at p4 ⊢
                refine cast (congrArg _ ?_) p4
                congr 1
                funext y M5
                cases y with
                | ob n => rfl
                | dat z =>
                  simp only [nx_bind, bind_bind, nx_nx]
                  congr 1
          refine test _ fun k I4 H4 β4 M4 s4 e4 p4 => ?_
          obtain ⟨m1, m2, m3⟩ := e4.frm D _ k1 k2 d3
          have e14 : Ext I1 H1 β1 I4 H4 β4 := e2.trans (x3.trans e4)
          cases k with
          | false =>
            rw [if_neg Bool.false_ne_true]
            exact ⟨I4, β4, M4, vs, acc, s4, e14, m1, m2, m3, (da.mono x3.fro).mono e4.fro, by omega, p4⟩
          | true =>
            rw [if_pos rfl]
            refine ⟨I4, β4, M4, env3, s4, en3.mono e4.toEx0, ?_⟩
            refine Post.imp (Post.nxB (R := RV w) p4) fun y H5 ⟨I5, β5, M5, z, s5, e5, r5, p5⟩ => ?_
            cases z with
            | ob n => exact False.elim p5
            | dat z =>
              obtain ⟨n1, n2, n3⟩ := e5.frm D _ m1 m2 m3
              refine ⟨vs, n1, by rw [hsz]; rw [dpAll_len da]; omega, I5, β5, M5, vs ++ [y], acc ++ [z], s5.free n2 n3, (e14.trans e5).free hD, upd_same, n2, n3, ?_, by simp; omega, ?_⟩
              · have : ∀ {vs ds}, DpAll w.K I5 vs ds → DpAll w.K I5 (vs ++ [y]) (ds ++ [z]) := by
                  intro vs ds h
                  induction vs generalizing ds with
                  | nil => cases h; exact .cons r5 .nil
                  | cons v vs ih => cases h with | cons h1 h2 => exact .cons h1 (ih h2)
                exact this (((da.mono x3.fro).mono e4.fro).mono e5.fro)
              · simpa [List.append_assoc] using p5
    · left
      have hl : ds.length ≤ i := by omega
      refine ⟨j2 (by omega), ?_⟩
      rw [List.drop_eq_nil_of_le hl] at p3
      simp only [lcS, Res.nx_ok, Res.bind_ok, List.append_nil] at p3
      exact p3 I2 H' β2 _ s2 e2 ⟨D, vs, rfl, e1.none s1 hD, d1, d2, d3, da⟩
end
end MP
set_option Elab.async false
set_option linter.all false
set_option maxRecDepth 100000
set_option maxHeartbeats 1000000
/-! MP6: calls of defs, bodies of defs, pure calls. -/
namespace MP
open PySem PySem.Spec PyProof.Rows L2
abbrev Cf := List Val → Mem → Res Val
def evCall (cf : Cf) (as : Sms) : Sm := fun env M => (as env M).bind fun xs M1 => cf xs M1
/-- what a def promises: what its semantic function says -/
def spF (w : Mw) (cf : Cf) : Sp := fun vs H Q E => ∃ I β M xs, Sit w.K w.ca I H β M ∧ VRs w.K I β vs xs ∧ Post w (fun c d _ H => E c d H) (RV w) [] I H β Q (cf xs M)
/-- a body as a function -/
def runB (np n : Nat) (rb : Ss) : Cf := fun xs M => match decide (xs.length = np) with
  | false => .bad
  | true => match rb (xs.map some ++ List.replicate (n - xs.length) none) M with
    | .ok (.nx _) M1 => .ok (.dat .none) M1
    | .ok (.rt x) M1 => .ok x M1
    | .ok (.rz e _) M1 => .exc e M1
    | _ => .bad
/-- plain data in, plain data out; nothing else is touched -/
def datas : List Val → Bool
  | [] => true
  | .dat _ :: xs => datas xs
  | .ob _ :: _ => false
def pureF (cf : Cf) : Cf := fun xs M => match datas xs with
  | false => .bad
  | true => match cf xs [] with
    | .ok (.dat d) _ => .ok (.dat d) M
    | .exc e _ => .exc e M
    | _ => .bad
section
variable {w : Mw} {W : WX} {X : Cx} {σ : St} {I H I1 H1 : Hp} {β β1 : List Addr} {M : Mem} {env : Env} {pos : Pos}
theorem Post.dropσ {α γ : Type} {R : Hp → Hp → List Addr → γ → α → Prop} {Q : γ → Hp → Prop} {r : Res α} (h : Post w W R σ I H β Q r) : Post w (fun c d _ H => WE W σ c d H) R [] I H β Q r := by
  cases r with
  | ok a M => exact h
  | exc e M => exact h
  | bad => exact h
theorem spF_of {cf : Cf} {Q : VK} {vs : List V} {xs : List Val} (s : Sit w.K w.ca I H β M) (r : VRs w.K I β vs xs) (p : Post w W (RV w) σ I H β Q (cf xs M)) : spF w cf (vs ++ []) H Q (WE W σ) := by
  rw [List.append_nil]
  exact ⟨I, β, M, xs, s, r, Post.dropσ p⟩
theorem peM_call {k : Nat} {f : Addr} {fd : FuncData} {ps : List Str} {cf : Cf} {x : Str} {p : Pos} {e : Expr} {es : List Expr} {as : Sms} (F : FnOk X.prog X.w X.K X.mg X.base (L2.CX X.prog X.w) k f fd ps (spF w cf)) (hr : Room k X.A) (hg : Gl X x) (hm : X.mg x = some (.ref f)) (hk : PySem.W.keepIn X.K (.ref f) = true)
    (hb : Binds X.K fd ps []) (tk : Takes X W) (ha : PA X (e :: es) (RA w W as)) (hdb : (x == ("__debug__" : Str)) = false) (he : starEach (e :: es) X.env = (false, eval e X.env) :: starEach es X.env) (hpl : (backTo pos (starEach es X.env)).any (·.1) = false) :
    PE X (.Call (.Name x p) (e :: es) [] pos) (RE w W (evCall cf as)) :=
  pe_imp (pe_callSD (E := WE W) F hr hg hm hk hb .nil (fun σ => passAt tk σ) ha hdb he hpl) fun σ H Q ⟨I, β, M, env, s, en, q⟩ => ⟨I, β, M, env, s, en, Post.imp (Post.seq (R := RVs w) q) fun vs H1 ⟨I1, β1, M1, xs, s1, e1, r1, p1⟩ => spF_of s1 r1 p1⟩
theorem peM_call0 {k : Nat} {f : Addr} {fd : FuncData} {ps : List Str} {cf : Cf} {x : Str} {p : Pos} (F : FnOk X.prog X.w X.K X.mg X.base (L2.CX X.prog X.w) k f fd ps (spF w cf)) (hr : Room k X.A) (hg : Gl X x) (hm : X.mg x = some (.ref f)) (hk : PySem.W.keepIn X.K (.ref f) = true)
    (hb : Binds X.K fd ps []) (tk : Takes X W) (hdb : (x == ("__debug__" : Str)) = false) : PE X (.Call (.Name x p) [] [] pos) (RE w W (evCall cf (evs []))) := by
  refine ⟨fun pins s σ H Q I h => ?_⟩
  refine wpAny_Call_Name_kw (ld_glob I hg hm ?_ hdb)
  obtain ⟨J, β, M, env, sit, en, q⟩ := h
  exact PySem.W.callWith_K0 I.kIn hk (run_fnSD (us := []) (dvs := []) (ds := []) (E := WE W) F hr hb .nil (passAt tk σ) I .nil (spF_of sit .nil q))
/-! ### pure calls -/
theorem vrs_datas {K : FrgT} : ∀ {vs : List V} {xs : List Val}, VRs K I β vs xs → datas xs = true → VRs K I β1 vs xs
  | _, _, .nil, _ => .nil
  | _, .dat d :: xs, .cons r t, h => .cons r (vrs_datas t h)
  | _, .ob n :: xs, .cons r t, h => by cases h
/-- what a stranger has done leaves our cells -/
theorem Sit.strange {K : FrgT} {ca : Str → Addr} (s : Sit K ca I H β M) (sub : Same I1 H1) (e : Ext I H [] I1 H1 []) : Sit K ca I1 H1 β M ∧ Ext I H β I1 H1 β := by
  have keep : ∀ a o, H a = some o → I a = none → H1 a = some o ∧ I1 a = none := fun a o h1 h2 => by
    obtain ⟨g1, g2, _⟩ := e.frm a o h1 h2 (by simp)
    exact ⟨g1, g2⟩
  refine ⟨⟨sub, s.len, s.inj, fun p hp z => ?_, fun n c p h1 h2 => ?_⟩, ⟨⟨e.fro, fun _ _ h => h⟩, fun a o h1 h2 h3 => ⟨(keep a o h1 h2).1, (keep a o h1 h2).2, h3⟩⟩⟩
  · cases q : H p with
    | none => exact s.trk p hp q
    | some o =>
      cases q2 : I p with
      | none => rw [(keep p o q q2).1] at z; cases z
      | some u =>
        have h3 := sub _ _ (e.fro _ _ q2)
        rw [z] at h3
        cases h3
  · have c0 := s.cell n c p h1 h2
    cases c with
    | lst xs =>
      obtain ⟨g1, vs, g2, g3⟩ := c0
      obtain ⟨k1, k2⟩ := keep p _ g2 g1
      exact ⟨k2, vs, k1, VRs.mono g3 ⟨e.fro, fun _ _ z => z⟩⟩
    | tup xs =>
      obtain ⟨g1, vs, g2, g3⟩ := c0
      obtain ⟨k1, k2⟩ := keep p _ g2 g1
      exact ⟨k2, vs, k1, VRs.mono g3 ⟨e.fro, fun _ _ z => z⟩⟩
    | dct kvs =>
      obtain ⟨g1, vs, g2, g3⟩ := c0
      obtain ⟨k1, k2⟩ := keep p _ g2 g1
      exact ⟨k2, vs, k1, PairR.mono g3 ⟨e.fro, fun _ _ z => z⟩⟩
    | ins C fs =>
      obtain ⟨g1, dx, gs, g2, g3⟩ := c0
      obtain ⟨k1, k2⟩ := keep p _ g2 g1
      exact ⟨k2, dx, gs, k1, Paired.mapP g3 fun _ _ r => ⟨r.1, VR.mono r.2 ⟨e.fro, fun _ _ z => z⟩⟩⟩
    | dead => trivial
/-- forget the cells of one who had none at first -/
theorem Ext.forget {β' : List Addr} (e : Ext I H [] I1 H1 β') : Ext I H [] I1 H1 [] := ⟨⟨e.fro, fun n p h => by simp at h⟩, fun a o h1 h2 h3 => by
  obtain ⟨g1, g2, g3⟩ := e.frm a o h1 h2 h3
  exact ⟨g1, g2, by simp⟩⟩
theorem spF_pure {cf : Cf} {vs : List V} {Q : VK} {E : XK} (h : spF w (pureF cf) vs H Q E) : spF w cf vs H Q E := by
  obtain ⟨I, β, M, xs, s, r, p⟩ := h
  unfold pureF at p
  cases hd : datas xs with
  | false => rw [hd] at p; exact False.elim p
  | true =>
    rw [hd] at p
    refine ⟨I, [], [], xs, ⟨s.sub, rfl, .nil, by simp, by simp⟩, vrs_datas r hd, ?_⟩
    simp only at p
    cases q : cf xs [] with
    | bad => rw [q] at p; exact False.elim p
    | exc e M1 =>
      rw [q] at p
      intro I1 H1 β1 cls d s1 e1 x
      obtain ⟨a1, a2⟩ := s.strange s1.sub e1.forget
      exact p I1 H1 β cls d a1 a2 x
    | ok v M1 =>
      rw [q] at p
      cases v with
      | ob n => exact False.elim p
      | dat d =>
        intro I1 H1 β1 u s1 e1 x
        obtain ⟨a1, a2⟩ := s.strange s1.sub e1.forget
        exact p I1 H1 β u a1 a2 x
/-! ### a def -/
theorem runB_len {np n : Nat} {rb : Ss} {vs : List V} {Q : VK} {E : XK} (h : spF w (runB np n rb) vs H Q E) : vs.length = np := by
  obtain ⟨I, β, M, xs, s, r, p⟩ := h
  unfold runB at p
  cases q : decide (xs.length = np) with
  | false => rw [q] at p; exact False.elim p
  | true => rw [r.length]; exact of_decide_eq_true q
theorem envR_start {K : FrgT} {N : List Str} : ∀ {vs : List V} {xs : List Val}, VRs K I β vs xs → EnvR K I β (L2.start N vs) (xs.map some ++ List.replicate (N.length - xs.length) none) := by
  intro vs xs r
  have hl := r.length
  refine ⟨by unfold L2.start; simp [hl], fun i x hx => ?_⟩
  by_cases hi : i < xs.length
  · rw [List.getElem?_append_left (by simpa using hi)] at hx
    have hx' : xs[i]? = some x := by
      rw [List.getElem?_map] at hx
      cases q : xs[i]? with
      | none => rw [q] at hx; cases hx
      | some y => rw [q] at hx; cases hx; rfl
    have : ∀ {vs : List V} {xs : List Val} {i : Nat}, VRs K I β vs xs → xs[i]? = some x → ∃ v, vs[i]? = some v ∧ VR K I β v x := by
      intro vs xs i r
      induction r generalizing i with
      | nil => intro h; simp at h
      | cons r t ih =>
        intro h
        cases i with
        | zero => simp at h; subst h; exact ⟨_, rfl, r⟩
        | succ i => simpa using ih (by simpa using h)
    obtain ⟨v, h1, h2⟩ := this r hx'
    refine ⟨v, ?_, h2⟩
    unfold L2.start
    rw [List.getElem?_append_left (by simp; omega), List.getElem?_map, h1]
    rfl
  · rw [List.getElem?_append_right (by simpa using hi)] at hx
    have := (List.getElem?_eq_some_iff.mp hx)
    obtain ⟨h1, h2⟩ := this
    simp at h2
theorem fn_body {P : Program} {wd : World} {mg : Str → Option Value} {base : Heap} {x qual : Str} {params : Arguments} {body : List Stmt} {scope : Scope} {dvs : List V} {kws : List (Str × V)} {f : Addr} {fd : FuncData} {N ps : List Str} {k : Nat} {rb : Ss}
    (F : FunD w.K x qual params body scope dvs kws f fd) (S : FnScope N ps scope)
    (hbody : ∀ (cdv : Value) (A : Around) (outer : List PySem.Env) (s : Shared) (H : Hp) (E : XK), Room k (A.deeper (envOfC qual scope s.heap.objs.size f cdv)) →
      PSs (cxOf (L2.CX P wd) P wd w.K mg base N qual scope f cdv A outer s H E) body (RS w (fun c d _ H => E c d H) rb)) : FnOk P wd w.K mg base (L2.CX P wd) (k + 1) f fd ps (spF w (runB ps.length N.length rb)) := by
  refine F.ok S (fun vs H Q E h => runB_len h) fun cdv A outer s H vs Q E hr h => ⟨_, hbody cdv A outer s H E hr, ?_⟩
  obtain ⟨I, β, M, xs, sit, r, p⟩ := h
  refine ⟨I, β, M, _, sit, envR_start (N := N) r, ?_⟩
  unfold runB at p
  cases hl : decide (xs.length = ps.length) with
  | false => rw [hl] at p; exact False.elim p
  | true =>
    rw [hl] at p
    simp only at p
    cases q : rb (xs.map some ++ List.replicate (N.length - xs.length) none) M with
    | bad => rw [q] at p; exact False.elim p
    | exc e M1 => rw [q] at p; exact False.elim p
    | ok fl M1 =>
      rw [q] at p
      cases fl with
      | nx env => exact fun I' H' β' v s e en => p I' H' β' .non s e .non
      | rt x => exact p
      | bk env => exact False.elim p
      | ct env => exact False.elim p
      | rz e env => exact fun I' H' β' v c d s e en => p I' H' β' c d s e
end
end MP
set_option Elab.async false
set_option linter.all false
set_option maxRecDepth 100000
set_option maxHeartbeats 1000000
/-! MP7: the operations over data. -/
namespace MP
open PySem PySem.Spec PyProof.Rows L2
/-! ### what they say -/
def addD : PyData → PyData → Option PyData
  | .int i, .int j => some (.int (i + j))
  | .str a, .str b => if a.length + b.length ≤ 16777216 then some (.str (a ++ b)) else none
  | .list xs, .list ys => if xs.length + ys.length ≤ 16777216 then some (.list (xs ++ ys)) else none
  | .tuple xs, .tuple ys => if xs.length + ys.length ≤ 16777216 then some (.tuple (xs ++ ys)) else none
  | _, _ => none
def subD : PyData → PyData → Option PyData
  | .int i, .int j => some (.int (i - j))
  | _, _ => none
def modD : PyData → PyData → Option PyData
  | .int i, .int j => if 0 < j then some (.int (i % j)) else none
  | _, _ => none
def fdivD : PyData → PyData → Option PyData
  | .int i, .int j => if 0 < j ∧ j < 1073741824 then some (.int (i / j)) else none
  | _, _ => none
def powD : PyData → PyData → Option PyData
  | .int i, .int j => if 0 ≤ j ∧ j ≤ 1000000 ∧ i.natAbs < 2 ^ 64 then some (.int (i ^ j.toNat)) else none
  | _, _ => none
def mulD : PyData → PyData → Option PyData
  | .int i, .int j => if (-(2 ^ 64) < i ∧ i < 2 ^ 64) ∨ (-(2 ^ 64) < j ∧ j < 2 ^ 64) then some (.int (i * j)) else none
  | .list xs, .int k => if -(2 ^ 63) ≤ k ∧ k < 2 ^ 63 ∧ xs.length * k.toNat ≤ 16777216 then some (.list (List.replicate k.toNat xs).flatten) else none
  | _, _ => none
def negD : PyData → Option PyData
  | .int i => some (.int (-i))
  | _ => none
def eqD : PyData → PyData → Option Bool
  | .int i, .int j => some (decide (i = j))
  | .str x, .str y => some (decide (x = y))
  | .bool x, .bool y => some (decide (x = y))
  | .none, .none => some true
  | d, e => if SeqAt.shaped d && SeqAt.shaped e then some (PyData.eqv d e) else none
def bD (o : Option Bool) : Option PyData := o.map .bool
def ltD : PyData → PyData → Option Bool
  | .int i, .int j => some (decide (i < j))
  | .str x, .str y => some (decide (x.cps.toList < y.cps.toList))
  | _, _ => none
def leD : PyData → PyData → Option Bool
  | .int i, .int j => some (decide (i ≤ j))
  | _, _ => none
def gtD : PyData → PyData → Option Bool
  | .int i, .int j => some (decide (j < i))
  | _, _ => none
def geD : PyData → PyData → Option Bool
  | .int i, .int j => some (decide (j ≤ i))
  | _, _ => none
def isN : PyData → Bool
  | .none => true
  | _ => false
def isNoneD : PyData → PyData → Option Bool
  | d, .none => some (isN d)
  | _, _ => none
section
variable {K : FrgT} {I H : Hp}
/-! ### small things -/
theorem vw_ref_int {v : V} {d : PyData} {i : Int} (h : VW K I H v d) (e : d = .int i) : v = .int i := by subst e; exact VW.int h
theorem dpAll_append : ∀ {vs us : List V} {ds es : List PyData}, DpAll K I vs ds → DpAll K I us es → DpAll K I (vs ++ us) (ds ++ es)
  | _, _, _, _, .nil, h => h
  | _, _, _, _, .cons r t, h => .cons r (dpAll_append t h)
theorem dpAll_rep {vs : List V} {ds : List PyData} (h : DpAll K I vs ds) : ∀ n : Nat, DpAll K I (List.replicate n vs).flatten (List.replicate n ds).flatten
  | 0 => .nil
  | n + 1 => by
    rw [List.replicate_succ, List.replicate_succ, List.flatten_cons, List.flatten_cons]
    exact dpAll_append h (dpAll_rep h n)
theorem dpAll_nil {vs : List V} {ds : List PyData} (h : DpAll K I vs ds) : vs = [] ↔ ds = [] := by
  cases h with
  | nil => simp
  | cons _ _ => simp
theorem new_lst {Q : VK} {ds : List PyData} {p : Addr} {vs : List V} (s : Same I H) (q : ∀ I' H' v, Grow I H I' H' → Dp K I' v (.list ds) → Q v H') (h : H p = none) (d : DpAll K I vs ds) : Q (.ref p) (upd H p (.lst vs)) :=
  q (upd I p (.lst vs)) _ _ (Grow.one s h) (.lst (.inl (.inl upd_same)) (d.mono (Grow.one (o := .lst vs) s h).fro))
theorem new_tup {Q : VK} {ds : List PyData} {p : Addr} {vs : List V} (s : Same I H) (q : ∀ I' H' v, Grow I H I' H' → Dp K I' v (.tuple ds) → Q v H') (h : H p = none) (d : DpAll K I vs ds) : Q (.ref p) (upd H p (.tup vs)) :=
  q (upd I p (.tup vs)) _ _ (Grow.one s h) (.tup (.inl (.inl upd_same)) (d.mono (Grow.one (o := .tup vs) s h).fro))
theorem old_val {Q : VK} {z : PyData} {v : V} (s : Same I H) (q : ∀ I' H' v, Grow I H I' H' → Dp K I' v z → Q v H') (d : Dp K I v z) : Q v H := q I H v (Grow.refl s) d
end
/-! ### list + list, of any that is read -/
def rCatL (K : FrgT) : R2 := fun x y H Q => ∃ l b xs zs, x = .ref l ∧ y = .ref b ∧ SqL K H l xs ∧ SqL K H b zs ∧ xs.length + zs.length ≤ sizeLine ∧ ∀ p, H p = none → Q (.ref p) (upd H p (.lst (xs ++ zs)))
section
variable {X : Cx} {K : FrgT}
theorem op_catL : OpR X (binaryOp .Add) (rCatL X.K) := by
  intro pins s σ H x y v u Q I rx ry h
  obtain ⟨l, b, xs, zs, rfl, rfl, hH, hB, hz, q⟩ := h
  cases rx
  cases ry
  obtain ⟨its, r, ⟨o, n, e, c, d, t⟩, z⟩ := I.list hH
  obtain ⟨its2, r2, ⟨o2, n2, e2, c2, d2, t2⟩, z2⟩ := I.list hB
  obtain ⟨cls, dd, data, sl⟩ := o
  obtain ⟨cls2, dd2, data2, sl2⟩ := o2
  simp only at c t c2 t2
  subst c t c2 t2
  have h1 := r.length
  have h2 := r2.length
  have ea : its.toArray ++ its2.toArray = (its ++ its2).toArray := by simp
  refine concat_meets ⟨_, e, rfl⟩ ⟨_, e2, rfl⟩ PySem.noFill_list_add PySem.seq_list_add PySem.F.slot_list_add PySem.F.entry_list_add (PySem.F.args_list_add_2 _ _) (list_addW l b its.toArray its2.toArray n n2 dd dd2 sl sl2 (by rw [List.size_toArray, List.size_toArray]; omega)) ⟨e, e2, ?_⟩
  rw [ea]
  exact ⟨.ref _, _, I.lnew (t' := s.toks) (r.append r2) (by rw [List.length_append]; omega), rfl, q _ I.fresh⟩
def rAddM (K : FrgT) : R2 := fun x y H Q => (((∃ i j, x = .int i ∧ y = .int j ∧ Q (.int (i + j)) H) ∨ (∃ i j, x = .str i ∧ y = .str j ∧ i.length + j.length ≤ sizeLine ∧ Q (.str (i ++ j)) H)) ∨ rCatL K x y H Q) ∨ rCatA K x y H Q
theorem op_addM : OpR X (binaryOp .Add) (rAddM X.K) := OpR.or (OpR.or (OpR.or op_add op_add_str) op_catL) op_catA
theorem ok_add : OkOp K (rAddM K) addD := fun I H x y d e z Q s hx hy f q => by
  have hsz : sizeLine = 16777216 := sizeLine_eq
  unfold addD at f
  split at f
  · cases f
    rw [VW.int hx, VW.int hy]
    exact .inl (.inl (.inl ⟨_, _, rfl, rfl, old_val s q (.int _)⟩))
  · split at f
    · rename_i hz
      cases f
      rw [VW.str hx, VW.str hy]
      exact .inl (.inl (.inr ⟨_, _, rfl, rfl, by rw [hsz]; exact hz, old_val s q (.str _)⟩))
    · cases f
  · split at f
    · rename_i hz
      cases f
      obtain ⟨a, vs, rfl, h1, h2⟩ := VW.list s hx
      obtain ⟨b, us, rfl, h3, h4⟩ := VW.list s hy
      exact .inl (.inr ⟨a, b, vs, us, rfl, rfl, h1, h3, by rw [hsz, dpAll_len h2, dpAll_len h4]; exact hz, fun p hp => new_lst s q hp (dpAll_append h2 h4)⟩)
    · cases f
  · split at f
    · rename_i hz
      cases f
      obtain ⟨a, vs, rfl, g1, h1, h2⟩ := VW.tuple s hx
      obtain ⟨b, us, rfl, g3, h3, h4⟩ := VW.tuple s hy
      refine .inr ⟨a, b, vs, us, rfl, rfl, h1, h3, by rw [hsz, dpAll_len h2, dpAll_len h4]; exact hz, fun e1 => ?_, fun e1 e2 => ?_, fun e1 e2 p hp => new_tup s q hp (dpAll_append h2 h4)⟩
      · rw [(dpAll_nil h2).mp e1] at q
        exact old_val s q (.tup g3 h4)
      · rw [(dpAll_nil h4).mp e2, List.append_nil] at q
        exact old_val s q (.tup g1 h2)
    · cases f
  · cases f
theorem ok_sub : OkOp K (rI0 fun i j => .int (i - j)) subD := fun I H x y d e z Q s hx hy f q => by
  unfold subD at f
  split at f
  · cases f
    rw [VW.int hx, VW.int hy]
    exact ⟨_, _, rfl, rfl, old_val s q (.int _)⟩
  · cases f
theorem ok_mod : OkOp K (rI (fun _ j => 0 < j) fun i j => .int (i % j)) modD := fun I H x y d e z Q s hx hy f q => by
  unfold modD at f
  split at f
  · split at f
    · rename_i hj
      cases f
      rw [VW.int hx, VW.int hy]
      exact ⟨_, _, rfl, rfl, hj, old_val s q (.int _)⟩
    · cases f
  · cases f
theorem ok_fdiv : OkOp K (rI CDiv fun i j => .int (i / j)) fdivD := fun I H x y d e z Q s hx hy f q => by
  unfold fdivD at f
  split at f
  · split at f
    · rename_i hj
      cases f
      rw [VW.int hx, VW.int hy]
      exact ⟨_, _, rfl, rfl, hj, old_val s q (.int _)⟩
    · cases f
  · cases f
theorem ok_pow : OkOp K (rI CPow fun i j => .int (i ^ j.toNat)) powD := fun I H x y d e z Q s hx hy f q => by
  unfold powD at f
  split at f
  · split at f
    · rename_i hj
      cases f
      rw [VW.int hx, VW.int hy]
      exact ⟨_, _, rfl, rfl, hj, old_val s q (.int _)⟩
    · cases f
  · cases f
theorem ok_neg : OkUn K (rU fun i => .int (-i)) negD := fun I H x d z Q s hx f q => by
  unfold negD at f
  split at f
  · cases f
    rw [VW.int hx]
    exact ⟨_, rfl, old_val s q (.int _)⟩
  · cases f
/-! ### == and != -/
def rEqM (K : FrgT) : R2 := fun x y H Q => rEq x y H Q ∨ rEqD K x y H Q
def rNeM (K : FrgT) : R2 := fun x y H Q => rNe x y H Q ∨ rNeD K x y H Q
theorem op_eqM (hu : X.A.units + 64 < cLine) : OpR X (compareOp .Eq) (rEqM X.K) := OpR.or op_eq (op_eqD hu)
theorem op_neM (hu : X.A.units + 64 < cLine) : OpR X (compareOp .NotEq) (rNeM X.K) := OpR.or op_ne (op_neD hu)
theorem shaped_dict {d : PyData} (h : SeqAt.shaped d = true) : ∀ kvs, d ≠ .dict kvs := fun kvs e => by
  subst e
  have := SeqAt.canLay_of_shaped h
  simp [PyData.canLay0] at this
theorem eqD_cases {d e : PyData} {b : Bool} (f : eqD d e = some b) : (∃ i j, d = .int i ∧ e = .int j ∧ b = decide (i = j)) ∨ (∃ i j, d = .str i ∧ e = .str j ∧ b = decide (i = j)) ∨ (∃ i j, d = .bool i ∧ e = .bool j ∧ b = decide (i = j)) ∨ (d = .none ∧ e = .none ∧ b = true) ∨
    (SeqAt.shaped d = true ∧ SeqAt.shaped e = true ∧ b = PyData.eqv d e) := by
  unfold eqD at f
  split at f
  · cases f; exact .inl ⟨_, _, rfl, rfl, rfl⟩
  · cases f; exact .inr (.inl ⟨_, _, rfl, rfl, rfl⟩)
  · cases f; exact .inr (.inr (.inl ⟨_, _, rfl, rfl, rfl⟩))
  · cases f; exact .inr (.inr (.inr (.inl ⟨rfl, rfl, rfl⟩)))
  · split at f
    · rename_i h
      cases f
      obtain ⟨h1, h2⟩ := Bool.and_eq_true_iff.mp h
      exact .inr (.inr (.inr (.inr ⟨h1, h2, rfl⟩)))
    · cases f
theorem bD_eq {o : Option Bool} {z : PyData} (h : bD o = some z) : ∃ b, o = some b ∧ z = .bool b := by
  cases o with
  | none => cases h
  | some b => cases h; exact ⟨b, rfl, rfl⟩
theorem dec_int {i j : Int} : decide (V.int i = V.int j) = decide (i = j) := by
  by_cases h : i = j
  · subst h; simp
  · simp [h]
theorem dec_str {i j : Str} : decide (V.str i = V.str j) = decide (i = j) := by
  by_cases h : i = j
  · subst h; simp
  · simp [h]
theorem dec_bl {i j : Bool} : decide (V.bl i = V.bl j) = decide (i = j) := by
  by_cases h : i = j
  · subst h; simp
  · simp [h]
theorem ok_eq : OkOp K (rEqM K) (fun d e => bD (eqD d e)) := fun I H x y d e z Q s hx hy f q => by
  obtain ⟨b, g, rfl⟩ := bD_eq f
  replace f := g
  rcases eqD_cases f with ⟨i, j, rfl, rfl, rfl⟩ | ⟨i, j, rfl, rfl, rfl⟩ | ⟨i, j, rfl, rfl, rfl⟩ | ⟨rfl, rfl, rfl⟩ | ⟨h1, h2, rfl⟩
  · rw [VW.int hx, VW.int hy]; exact .inl ⟨rfl, by rw [dec_int]; exact old_val s q (.bl _)⟩
  · rw [VW.str hx, VW.str hy]; exact .inl ⟨rfl, by rw [dec_str]; exact old_val s q (.bl _)⟩
  · rw [VW.bool hx, VW.bool hy]; exact .inl ⟨rfl, by rw [dec_bl]; exact old_val s q (.bl _)⟩
  · rw [VW.none hx, VW.none hy]; exact .inl ⟨rfl, old_val s q (.bl _)⟩
  · exact .inr ⟨d, e, hx.dp s, hy.dp s, h1, h2, old_val s q (.bl _)⟩
theorem ok_ne : OkOp K (rNeM K) (fun d e => bD ((eqD d e).map not)) := fun I H x y d e z Q s hx hy f q => by
  obtain ⟨b', g, rfl⟩ := bD_eq f
  replace f := g
  cases q2 : eqD d e with
  | none => rw [q2] at f; cases f
  | some b =>
    rw [q2] at f
    cases f
    rcases eqD_cases q2 with ⟨i, j, rfl, rfl, rfl⟩ | ⟨i, j, rfl, rfl, rfl⟩ | ⟨i, j, rfl, rfl, rfl⟩ | ⟨rfl, rfl, rfl⟩ | ⟨h1, h2, rfl⟩
    · rw [VW.int hx, VW.int hy]; exact .inl ⟨rfl, by rw [dec_int]; exact old_val s q (.bl _)⟩
    · rw [VW.str hx, VW.str hy]; exact .inl ⟨rfl, by rw [dec_str]; exact old_val s q (.bl _)⟩
    · rw [VW.bool hx, VW.bool hy]; exact .inl ⟨rfl, by rw [dec_bl]; exact old_val s q (.bl _)⟩
    · rw [VW.none hx, VW.none hy]; exact .inl ⟨rfl, old_val s q (.bl _)⟩
    · exact .inr ⟨d, e, hx.dp s, hy.dp s, h1, h2, old_val s q (.bl _)⟩
/-! ### <, <=, >, >= -/
def rLtM : R2 := fun x y H Q => (rI0 fun i j => .bl (decide (i < j))) x y H Q ∨ ∃ i j, x = .str i ∧ y = .str j ∧ Q (.bl (decide (i.cps.toList < j.cps.toList))) H
theorem op_ltM : OpR X (compareOp .Lt) rLtM := OpR.or op_lt op_lt_str
theorem ok_lt : OkOp K rLtM (fun d e => bD (ltD d e)) := fun I H x y d e z Q s hx hy f q => by
  obtain ⟨b, g, rfl⟩ := bD_eq f
  replace f := g
  unfold ltD at f
  split at f
  · cases f; rw [VW.int hx, VW.int hy]; exact .inl ⟨_, _, rfl, rfl, old_val s q (.bl _)⟩
  · cases f; rw [VW.str hx, VW.str hy]; exact .inr ⟨_, _, rfl, rfl, old_val s q (.bl _)⟩
  · cases f
theorem ok_le : OkOp K (rI0 fun i j => .bl (decide (i ≤ j))) (fun d e => bD (leD d e)) := fun I H x y d e z Q s hx hy f q => by
  obtain ⟨b, g, rfl⟩ := bD_eq f
  replace f := g
  unfold leD at f
  split at f
  · cases f; rw [VW.int hx, VW.int hy]; exact ⟨_, _, rfl, rfl, old_val s q (.bl _)⟩
  · cases f
theorem ok_gt : OkOp K (rI0 fun i j => .bl (decide (j < i))) (fun d e => bD (gtD d e)) := fun I H x y d e z Q s hx hy f q => by
  obtain ⟨b, g, rfl⟩ := bD_eq f
  replace f := g
  unfold gtD at f
  split at f
  · cases f; rw [VW.int hx, VW.int hy]; exact ⟨_, _, rfl, rfl, old_val s q (.bl _)⟩
  · cases f
theorem ok_ge : OkOp K (rI0 fun i j => .bl (decide (j ≤ i))) (fun d e => bD (geD d e)) := fun I H x y d e z Q s hx hy f q => by
  obtain ⟨b, g, rfl⟩ := bD_eq f
  replace f := g
  unfold geD at f
  split at f
  · cases f; rw [VW.int hx, VW.int hy]; exact ⟨_, _, rfl, rfl, old_val s q (.bl _)⟩
  · cases f
/-! ### is None -/
theorem vw_non {I H : Hp} {v : V} {d : PyData} (h : VW K I H v d) : decide (v = .non) = isN d := by
  cases h with
  | fro h => cases h <;> simp [isN]
  | lst _ _ => simp [isN]
theorem isNoneD_eq {d e : PyData} {b : Bool} (h : isNoneD d e = some b) : e = .none ∧ b = isN d := by
  cases e with
  | none => simp only [isNoneD, Option.some.injEq] at h; exact ⟨rfl, h.symm⟩
  | _ => simp [isNoneD] at h
theorem ok_isN : OkOp K (fun x y H Q => y = .non ∧ Q (.bl (decide (x = .non))) H) (fun d e => bD (isNoneD d e)) := fun I H x y d e z Q s hx hy f q => by
  obtain ⟨b, g, rfl⟩ := bD_eq f
  obtain ⟨rfl, rfl⟩ := isNoneD_eq g
  exact ⟨VW.none hy, by rw [vw_non hx]; exact old_val s q (.bl _)⟩
theorem ok_notN : OkOp K (fun x y H Q => y = .non ∧ Q (.bl (!decide (x = .non))) H) (fun d e => bD ((isNoneD d e).map not)) := fun I H x y d e z Q s hx hy f q => by
  obtain ⟨b', g, rfl⟩ := bD_eq f
  cases q2 : isNoneD d e with
  | none => rw [q2] at g; cases g
  | some b =>
    rw [q2] at g
    cases g
    obtain ⟨rfl, rfl⟩ := isNoneD_eq q2
    exact ⟨VW.none hy, by rw [vw_non hx]; exact old_val s q (.bl _)⟩
end
end MP
set_option Elab.async false
set_option linter.all false
set_option maxRecDepth 100000
set_option maxHeartbeats 1000000
/-! MP8: membership, products, calls of built-ins, methods, items, slices. -/
namespace MP
open PySem PySem.Spec PyProof.Rows L2
/-! ### in -/
def flatD : PyData → Bool
  | .none | .bool _ | .int _ | .str _ => true
  | _ => false
def anyEq (d : PyData) (ds : List PyData) : Bool := ds.any fun z => PyData.eqv z d
def inD : PyData → PyData → Option Bool
  | d, .list ds => if (flatD d && ds.all flatD) || (SeqAt.shaped d && SeqAt.shaped (.list ds)) then some (anyEq d ds) else none
  | d, .tuple ds => if (flatD d && ds.all flatD) || (SeqAt.shaped d && SeqAt.shaped (.tuple ds)) then some (anyEq d ds) else none
  | .str a, .str z => match a.cps.toList with
    | [c] => some (decide (c ∈ z.cps.toList))
    | _ => none
  | _, _ => none
section
variable {X : Cx} {K : FrgT}
theorem dp_flat {I : Hp} {v : V} {d : PyData} (h : Dp K I v d) (f : flatD d = true) : flatV v = true := by
  cases h <;> first | rfl | cases f
theorem dp_eqV {I : Hp} {v u : V} {d e : PyData} (h : Dp K I v d) (g : Dp K I u e) (f1 : flatD d = true) (f2 : flatD e = true) : eqV v u = PyData.eqv d e := by
  cases h <;> cases g <;> first | rfl | cases f1 | cases f2 | simp [eqV, PyData.eqv]
theorem dpAll_flat {I : Hp} : ∀ {vs : List V} {ds : List PyData}, DpAll K I vs ds → ds.all flatD = true → vs.all flatV = true
  | _, _, .nil, _ => rfl
  | _, _, .cons r t, h => by
    rw [List.all_cons, Bool.and_eq_true] at h ⊢
    exact ⟨dp_flat r h.1, dpAll_flat t h.2⟩
theorem dpAll_inV {I : Hp} {v : V} {d : PyData} (h : Dp K I v d) (f : flatD d = true) : ∀ {vs : List V} {ds : List PyData}, DpAll K I vs ds → ds.all flatD = true → inV v vs = anyEq d ds
  | _, _, .nil, _ => rfl
  | _, _, .cons r t, g => by
    rw [List.all_cons, Bool.and_eq_true] at g
    unfold inV anyEq
    rw [List.any_cons, List.any_cons, dp_eqV r h g.1 f]
    have := dpAll_inV h f t g.2
    unfold inV anyEq at this
    rw [this]
def rInS (K : FrgT) (neg : Bool) : R2 := fun x y H Q => ∃ d ds, Dp K H x d ∧ (Dp K H y (.list ds) ∨ Dp K H y (.tuple ds)) ∧ SeqAt.shaped d = true ∧ PyData.canLayAll0 ds = true ∧ Q (.bl (if neg then !anyEq d ds else anyEq d ds)) H
theorem op_inS2 (hu : X.A.units + 65 < cLine) : OpR X (compareOp .In) (rInS X.K false) := by
  intro pins s σ H x y v u Q I rx ry h
  obtain ⟨d, ds, hd, he, sd, se, q⟩ := h
  obtain ⟨as, r1⟩ := Dp.reads I d x v hd rx
  rcases he with he | he
  · obtain ⟨bs, r2⟩ := Dp.reads I (.list ds) y u he ry
    exact SeqAt.in_list_reads r2 r1 se (SeqAt.canLay_of_shaped sd) (room_in_shaped sd hu) ⟨.bl _, H, I, rfl, q⟩
  · obtain ⟨bs, r2⟩ := Dp.reads I (.tuple ds) y u he ry
    exact SeqAt.in_tuple_reads r2 r1 se (SeqAt.canLay_of_shaped sd) (room_in_shaped sd hu) ⟨.bl _, H, I, rfl, q⟩
theorem op_notInS2 (hu : X.A.units + 65 < cLine) : OpR X (compareOp .NotIn) (rInS X.K true) := by
  intro pins s σ H x y v u Q I rx ry h
  obtain ⟨d, ds, hd, he, sd, se, q⟩ := h
  obtain ⟨as, r1⟩ := Dp.reads I d x v hd rx
  rcases he with he | he
  · obtain ⟨bs, r2⟩ := Dp.reads I (.list ds) y u he ry
    exact SeqAt.notIn_list_reads r2 r1 se (SeqAt.canLay_of_shaped sd) (room_in_shaped sd hu) ⟨.bl _, H, I, rfl, q⟩
  · obtain ⟨bs, r2⟩ := Dp.reads I (.tuple ds) y u he ry
    exact SeqAt.notIn_tuple_reads r2 r1 se (SeqAt.canLay_of_shaped sd) (room_in_shaped sd hu) ⟨.bl _, H, I, rfl, q⟩
def rInM (K : FrgT) (neg : Bool) : R2 := fun x y H Q => (rIn K neg x y H Q ∨ rInS K neg x y H Q) ∨ ∃ (c : Nat) (z : Str), x = .str ⟨#[c]⟩ ∧ y = .str z ∧ Q (.bl (if neg then !decide (c ∈ z.cps.toList) else decide (c ∈ z.cps.toList))) H
theorem op_inM (hu : X.A.units + 65 < cLine) : OpR X (compareOp .In) (rInM X.K false) := OpR.or (OpR.or op_in_seq (op_inS2 hu)) op_in_sign
theorem op_notInM (hu : X.A.units + 65 < cLine) : OpR X (compareOp .NotIn) (rInM X.K true) := OpR.or (OpR.or op_notIn_seq (op_notInS2 hu)) op_notIn_sign
theorem ok_in_gen {neg : Bool} : OkOp K (rInM K neg) (fun d e => bD ((inD d e).map fun b => if neg then !b else b)) := fun I H x y d e z Q s hx hy f q => by
  obtain ⟨b', g, rfl⟩ := bD_eq f
  cases q2 : inD d e with
  | none => rw [q2] at g; cases g
  | some b =>
    rw [q2] at g
    have eb : (if neg then !b else b) = b' := Option.some.inj g
    subst eb
    have seq : ∀ ds : List PyData, (e = .list ds ∨ e = .tuple ds) → ((flatD d && ds.all flatD) || (SeqAt.shaped d && SeqAt.shaped e)) = true → b = anyEq d ds → rInM K neg x y H Q := by
      intro ds he hc hb
      subst hb
      rw [Bool.or_eq_true, Bool.and_eq_true, Bool.and_eq_true] at hc
      rcases hc with ⟨f1, f2⟩ | ⟨f1, f2⟩
      · have dx : Dp K H x d := hx.dp s
        rcases he with rfl | rfl
        · obtain ⟨a, vs, rfl, h1, h2⟩ := VW.list s hy
          exact .inl (.inl ⟨a, vs, rfl, .inl h1, dp_flat dx f1, dpAll_flat h2 f2, by rw [dpAll_inV dx f1 (h2.mono s) f2]; exact old_val s q (.bl _)⟩)
        · obtain ⟨a, vs, rfl, _, h1, h2⟩ := VW.tuple s hy
          exact .inl (.inl ⟨a, vs, rfl, .inr h1, dp_flat dx f1, dpAll_flat h2 f2, by rw [dpAll_inV dx f1 (h2.mono s) f2]; exact old_val s q (.bl _)⟩)
      · have dx : Dp K H x d := hx.dp s
        have dy : Dp K H y e := hy.dp s
        have hl := SeqAt.canLay_of_shaped f2
        rcases he with rfl | rfl
        · exact .inl (.inr ⟨d, ds, dx, .inl dy, f1, by simpa [PyData.canLay0] using hl, old_val s q (.bl _)⟩)
        · exact .inl (.inr ⟨d, ds, dx, .inr dy, f1, by simpa [PyData.canLay0] using hl, old_val s q (.bl _)⟩)
    unfold inD at q2
    split at q2
    · split at q2
      · rename_i hc
        cases q2
        exact seq _ (.inl rfl) hc rfl
      · cases q2
    · split at q2
      · rename_i hc
        cases q2
        exact seq _ (.inr rfl) hc rfl
      · cases q2
    · rename_i a z'
      split at q2
      · rename_i c hc
        cases q2
        rw [VW.str hx, VW.str hy]
        have ea : a = ⟨#[c]⟩ := by
          obtain ⟨⟨l⟩⟩ := a
          simp only at hc
          subst hc
          rfl
        rw [ea]
        exact .inr ⟨c, _, rfl, rfl, old_val s q (.bl _)⟩
      · cases q2
    · cases q2
/-! ### list * n -/
def rRepL (K : FrgT) : R2 := rRep
theorem mulI_ok {i j : Int} (h : (-(2 ^ 64) < i ∧ i < 2 ^ 64) ∨ (-(2 ^ 64) < j ∧ j < 2 ^ 64)) : CMul i j := h
/-! ### is True, is False -/
def isBD : PyData → PyData → Option Bool
  | .bool a, .bool b => some (decide (a = b))
  | _, _ => none
def rIsM : R2 := fun x y H Q => (y = .non ∧ Q (.bl (decide (x = .non))) H) ∨ ∃ a b : Bool, x = .bl a ∧ y = .bl b ∧ Q (.bl (decide (a = b))) H
/-! ### len -/
def lenD : List PyData → Option PyData
  | [.list xs] => some (.int xs.length)
  | [.tuple xs] => some (.int xs.length)
  | [.str x] => if x.length ≤ 16777216 then some (.int x.length) else none
  | _ => none
def rLenM (K : FrgT) : List V → Hp → VK → Prop := fun xs H Q => (∃ p ys, xs = [.ref p] ∧ (SqL K H p ys ∨ SqT K H p ys) ∧ Q (.int ys.length) H) ∨ ∃ z, xs = [.str z] ∧ z.length ≤ sizeLine ∧ Q (.int z.length) H
theorem CallR.or {f : Value} {r r' : List V → Hp → VK → Prop} (h : CallR X f r) (h' : CallR X f r') : CallR X f (fun xs H Q => r xs H Q ∨ r' xs H Q) := by
  intro pins s σ H xs us Q I rs q
  rcases q with q | q
  · exact h pins s σ H xs us Q I rs q
  · exact h' pins s σ H xs us Q I rs q
theorem call_lenM : CallR X (.builtin "len") (rLenM X.K) := CallR.or call_len_seq call_len_str
theorem vws1 {I H : Hp} {xs : List V} {d : PyData} (h : VWs K I H xs [d]) : ∃ x, xs = [x] ∧ VW K I H x d := by
  cases h with
  | cons r t => cases t; exact ⟨_, rfl, r⟩
theorem vws2 {I H : Hp} {xs : List V} {d e : PyData} (h : VWs K I H xs [d, e]) : ∃ x y, xs = [x, y] ∧ VW K I H x d ∧ VW K I H y e := by
  cases h with
  | cons r t =>
    cases t with
    | cons r2 t => cases t; exact ⟨_, _, rfl, r, r2⟩
theorem ok_len : OkCall K (rLenM K) lenD := fun I H xs ds z Q s hx f q => by
  have hsz : sizeLine = 16777216 := sizeLine_eq
  unfold lenD at f
  split at f
  · cases f
    obtain ⟨x, rfl, hy⟩ := vws1 hx
    replace hx := hy
    obtain ⟨a, vs, rfl, h1, h2⟩ := VW.list s hx
    exact .inl ⟨a, vs, rfl, .inl h1, by rw [dpAll_len h2]; exact old_val s q (.int _)⟩
  · cases f
    obtain ⟨x, rfl, hy⟩ := vws1 hx
    replace hx := hy
    obtain ⟨a, vs, rfl, _, h1, h2⟩ := VW.tuple s hx
    exact .inl ⟨a, vs, rfl, .inr h1, by rw [dpAll_len h2]; exact old_val s q (.int _)⟩
  · split at f
    · rename_i hz
      cases f
      obtain ⟨x, rfl, hy⟩ := vws1 hx
      replace hx := hy
      rw [VW.str hx]
      exact .inr ⟨_, rfl, by rw [hsz]; exact hz, old_val s q (.int _)⟩
    · cases f
  · cases f
/-! ### any, all, sum of lists -/
def boolsD : List PyData → Option (List Bool)
  | [] => some []
  | .bool b :: r => (boolsD r).map (b :: ·)
  | _ :: _ => none
def intsD : List PyData → Option (List Int)
  | [] => some []
  | .int b :: r => (intsD r).map (b :: ·)
  | _ :: _ => none
theorem bools_of {I : Hp} : ∀ {vs : List V} {ds : List PyData} {bs : List Bool}, DpAll K I vs ds → boolsD ds = some bs → vs = bs.map V.bl
  | _, _, _, .nil, e => by cases e; rfl
  | _, d :: ds, _, .cons r t, e => by
    cases d with
    | bool b =>
      cases r
      simp only [boolsD] at e
      cases q : boolsD ds with
      | none => rw [q] at e; cases e
      | some bs => rw [q] at e; cases e; rw [bools_of t q]; rfl
    | _ => cases e
theorem ints_of {I : Hp} : ∀ {vs : List V} {ds : List PyData} {bs : List Int}, DpAll K I vs ds → intsD ds = some bs → vs = bs.map V.int
  | _, _, _, .nil, e => by cases e; rfl
  | _, d :: ds, _, .cons r t, e => by
    cases d with
    | int b =>
      cases r
      simp only [intsD] at e
      cases q : intsD ds with
      | none => rw [q] at e; cases e
      | some bs => rw [q] at e; cases e; rw [ints_of t q]; rfl
    | _ => cases e
def allD : List PyData → Option PyData
  | [.list xs] => (boolsD xs).map fun bs => .bool (bs.all id)
  | _ => none
def anyD : List PyData → Option PyData
  | [.list xs] => (boolsD xs).map fun bs => .bool (bs.any id)
  | _ => none
def sumD : List PyData → Option PyData
  | [.list xs] => (intsD xs).map fun bs => .int bs.sum
  | _ => none
theorem ok_all : OkCall K (rAll K) allD := fun I H xs ds z Q s hx f q => by
  unfold allD at f
  split at f
  · rename_i xs'
    cases q2 : boolsD xs' with
    | none => rw [q2] at f; cases f
    | some bs =>
      rw [q2] at f; cases f
      obtain ⟨x, rfl, hy⟩ := vws1 hx
      replace hx := hy
      obtain ⟨a, vs, rfl, h1, h2⟩ := VW.list s hx
      exact ⟨a, bs, rfl, by rw [← bools_of h2 q2]; exact h1, old_val s q (.bl _)⟩
  · cases f
theorem ok_any : OkCall K (rAny K) anyD := fun I H xs ds z Q s hx f q => by
  unfold anyD at f
  split at f
  · rename_i xs'
    cases q2 : boolsD xs' with
    | none => rw [q2] at f; cases f
    | some bs =>
      rw [q2] at f; cases f
      obtain ⟨x, rfl, hy⟩ := vws1 hx
      replace hx := hy
      obtain ⟨a, vs, rfl, h1, h2⟩ := VW.list s hx
      exact ⟨a, bs, rfl, by rw [← bools_of h2 q2]; exact h1, old_val s q (.bl _)⟩
  · cases f
theorem ok_sum : OkCall K (rSum K) sumD := fun I H xs ds z Q s hx f q => by
  unfold sumD at f
  split at f
  · rename_i xs'
    cases q2 : intsD xs' with
    | none => rw [q2] at f; cases f
    | some bs =>
      rw [q2] at f; cases f
      obtain ⟨x, rfl, hy⟩ := vws1 hx
      replace hx := hy
      obtain ⟨a, vs, rfl, h1, h2⟩ := VW.list s hx
      exact ⟨a, bs, rfl, by rw [← ints_of h2 q2]; exact h1, old_val s q (.int _)⟩
  · cases f
/-! ### int, tuple, list -/
def intD : List PyData → Option PyData
  | [.int i] => some (.int i)
  | [.bool b] => some (.int (if b then 1 else 0))
  | _ => none
theorem ok_int : OkCall K (fun xs H Q => (∃ i, xs = [V.int i] ∧ Q (.int i) H) ∨ ∃ k, xs = [V.bl k] ∧ Q (.int (if k then 1 else 0)) H) intD := fun I H xs ds z Q s hx f q => by
  unfold intD at f
  split at f
  · cases f
    obtain ⟨x, rfl, hy⟩ := vws1 hx
    replace hx := hy
    rw [VW.int hx]
    exact .inl ⟨_, rfl, old_val s q (.int _)⟩
  · cases f
    obtain ⟨x, rfl, hy⟩ := vws1 hx
    replace hx := hy
    rw [VW.bool hx]
    exact .inr ⟨_, rfl, old_val s q (.int _)⟩
  · cases f
def tupleD : List PyData → Option PyData
  | [.list xs] => some (.tuple xs)
  | [.tuple xs] => some (.tuple xs)
  | _ => none
theorem ok_tuple : OkCall K (fun xs H Q => ∃ p ys, xs = [V.ref p] ∧ ((SqL K H p ys ∧ ∀ l, H l = none → Q (.ref l) (upd H l (.tup ys))) ∨ (SqT K H p ys ∧ Q (.ref p) H))) tupleD := fun I H xs ds z Q s hx f q => by
  unfold tupleD at f
  split at f
  · cases f
    obtain ⟨x, rfl, hy⟩ := vws1 hx
    replace hx := hy
    obtain ⟨a, vs, rfl, h1, h2⟩ := VW.list s hx
    exact ⟨a, vs, rfl, .inl ⟨h1, fun l hl => new_tup s q hl h2⟩⟩
  · cases f
    obtain ⟨x, rfl, hy⟩ := vws1 hx
    replace hx := hy
    obtain ⟨a, vs, rfl, g1, h1, h2⟩ := VW.tuple s hx
    exact ⟨a, vs, rfl, .inr ⟨h1, old_val s q (.tup g1 h2)⟩⟩
  · cases f
/-! ### new lists by calls and operators: their readings say where the new list is -/
/-- what a rule that makes a new list gives -/
def OkNew (K : FrgT) (r : List V → Hp → VK → Prop) (f : List PyData → Option (List PyData)) : Prop := ∀ (I H : Hp) (xs : List V) (ds zs : List PyData) (Q : VK), Same I H → VWs K I H xs ds → f ds = some zs → (∀ p vs, H p = none → DpAll K I vs zs → Q (.ref p) (upd H p (.lst vs))) → r xs H Q
def listD : List PyData → Option (List PyData)
  | [.list xs] => some xs
  | [.tuple xs] => some xs
  | _ => none
theorem ok_list : OkNew K (fun xs H Q => ∃ p ys, xs = [V.ref p] ∧ (SqL K H p ys ∨ SqT K H p ys) ∧ ∀ l, H l = none → Q (.ref l) (upd H l (.lst ys))) listD := fun I H xs ds z Q s hx f q => by
  unfold listD at f
  split at f
  · cases f
    obtain ⟨x, rfl, hy⟩ := vws1 hx
    replace hx := hy
    obtain ⟨a, vs, rfl, h1, h2⟩ := VW.list s hx
    exact ⟨a, vs, rfl, .inl h1, fun l hl => q l vs hl h2⟩
  · cases f
    obtain ⟨x, rfl, hy⟩ := vws1 hx
    replace hx := hy
    obtain ⟨a, vs, rfl, g1, h1, h2⟩ := VW.tuple s hx
    exact ⟨a, vs, rfl, .inr h1, fun l hl => q l vs hl h2⟩
  · cases f
end
end MP
set_option Elab.async false
set_option linter.all false
set_option maxRecDepth 100000
set_option maxHeartbeats 1000000
/-! MP9: isinstance, methods of texts, items, slices, displays. -/
namespace MP
open PySem PySem.Spec PyProof.Rows L2
/-! ### isinstance of built-in types -/
inductive Ty where
  | str | tup | int | bool | lst
  deriving DecidableEq
def Ty.nm : Ty → String
  | .str => "str"
  | .tup => "tuple"
  | .int => "int"
  | .bool => "bool"
  | .lst => "list"
def isT : Ty → PyData → Bool
  | .str, .str _ => true
  | .tup, .tuple _ => true
  | .int, .int _ => true
  | .int, .bool _ => true
  | .bool, .bool _ => true
  | .lst, .list _ => true
  | _, _ => false
def tyD : PyData → String
  | .none => "NoneType"
  | .bool _ => "bool"
  | .int _ => "int"
  | .str _ => "str"
  | .list _ => "list"
  | .tuple _ => "tuple"
  | .dict _ => "dict"
section
variable {X : Cx} {K : FrgT} {w : Mw} {W : WX} {pos : Pos}
theorem kit_isT (T : Ty) (d : PyData) : PySem.W.kitOne K (.type (tyD d)) (.type T.nm) = some (isT T d) := by
  refine kit_ty ?_
  cases T <;> cases d <;> (simp only [tyD, Ty.nm, isT]; decide +kernel)
theorem tyx_of {I H : Hp} {v : V} {d : PyData} (s : Same I H) (h : VW K I H v d) : TyX K H v (.type (tyD d)) := by
  have dp := h.dp s
  cases dp with
  | non => exact .base .non
  | bl b => exact .base (.bl b)
  | int i => exact .base (.int i)
  | str x => exact .base (.str x)
  | lst hs _ =>
    rcases hs with (e | ⟨o, e⟩) | ⟨o, its, n, e, c, _⟩
    · exact .base (.lst e)
    · exact .base (.frz e)
    · exact .kList e c
  | tup hs _ =>
    rcases hs with (e | ⟨o, e⟩) | ⟨o, its, n, e, c, _⟩
    · exact .base (.tup e)
    · exact .fTuple e
    · exact .kTuple e c
def isiD (T : Ty) (d : PyData) : Option PyData := some (.bool (isT T d))
theorem peM_isi {T : Ty} {p pT : Pos} {e : Expr} {a : Sm} (hg : Gl X "isinstance") (hm : X.mg "isinstance" = none) (hgT : Gl X (Str.ofString T.nm)) (hmT : X.mg (Str.ofString T.nm) = none) (he : PE X e (RE w W a)) (hK : X.K = w.K)
    (h1 : starEach [e, .Name (Str.ofString T.nm) pT] X.env = (false, eval e X.env) :: starEach [.Name (Str.ofString T.nm) pT] X.env) : PE X (.Call (.Name "isinstance" p) [e, .Name (Str.ofString T.nm) pT] [] pos) (RE w W (ev1 (isiD T) a)) := by
  have hT : PE X (.Name (Str.ofString T.nm) pT) (tC (.ty T.nm)) := by
    cases T
    · exact pe_bltn hgT hmT (v := .ty "str") (by decide +kernel) rfl
    · exact pe_bltn hgT hmT (v := .ty "tuple") (by decide +kernel) rfl
    · exact pe_bltn hgT hmT (v := .ty "int") (by decide +kernel) rfl
    · exact pe_bltn hgT hmT (v := .ty "bool") (by decide +kernel) rfl
    · exact pe_bltn hgT hmT (v := .ty "list") (by decide +kernel) rfl
  refine pe_imp (pe_callB call_isi hg hm (by decide +kernel) (pa_cons he (pa_cons hT pa_nil) h1) (he := h1)) fun σ H Q ⟨I, β, M, env, s, en, p⟩ => ⟨I, β, M, env, s, en, Post.imp (Post.seq p) fun v H1 ⟨I1, β1, M1, x, s1, e1, r1, p1⟩ => ?_⟩
  rw [hK]
  refine Post.v1 (r := fun x H Q => rIsi w.K [x, .ty T.nm] H Q) p1 (fun I H x d z Q sm vw f q => ?_) s1 r1
  cases f
  exact ⟨x, .ty T.nm, _, _, _, rfl, .ty _, tyx_of sm vw, kit_isT T d, old_val sm q (.bl _)⟩
/-! ### methods of texts -/
def lowerD : PyData → Option PyData
  | .str a => if a.length ≤ 5592405 then some (.str (Txt.lower a)) else none
  | _ => none
def upperD : PyData → Option PyData
  | .str a => if a.length ≤ 5592405 then some (.str (Txt.upper a)) else none
  | _ => none
theorem peM_lower {o : Expr} {a : Sm} {apos cpos : Pos} {t : TE} (hp : PE X (.Call (.Attribute o "lower" apos) [] [] cpos) t)
    (ht : t = tM0 (fun x xs H Q => ∃ a, x = .str a ∧ xs = [] ∧ a.length ≤ 5592405 ∧ Q (.str (Txt.lower a)) H) (RE w W a)) : PE X (.Call (.Attribute o "lower" apos) [] [] cpos) (RE w W (ev1 lowerD a)) := by
  subst ht
  refine pe_imp hp fun σ H Q ⟨I, β, M, env, s, en, p⟩ => ⟨I, β, M, env, s, en, Post.imp (Post.seq p) fun v H1 ⟨I1, β1, M1, x, s1, e1, r1, p1⟩ => ?_⟩
  refine Post.v1 (r := fun x H Q => (∃ a, x = .str a) ∧ ∃ a, x = .str a ∧ ([] : List V) = [] ∧ a.length ≤ 5592405 ∧ Q (.str (Txt.lower a)) H) p1 (fun I H x d z Q sm vw f q => ?_) s1 r1
  unfold lowerD at f
  split at f
  · split at f
    · rename_i hz
      cases f
      rw [VW.str vw]
      exact ⟨⟨_, rfl⟩, _, rfl, rfl, hz, old_val sm q (.str _)⟩
    · cases f
  · cases f
theorem peM_upper {o : Expr} {a : Sm} {apos cpos : Pos} {t : TE} (hp : PE X (.Call (.Attribute o "upper" apos) [] [] cpos) t)
    (ht : t = tM0 (fun x xs H Q => ∃ a, x = .str a ∧ xs = [] ∧ a.length ≤ 5592405 ∧ Q (.str (Txt.upper a)) H) (RE w W a)) : PE X (.Call (.Attribute o "upper" apos) [] [] cpos) (RE w W (ev1 upperD a)) := by
  subst ht
  refine pe_imp hp fun σ H Q ⟨I, β, M, env, s, en, p⟩ => ⟨I, β, M, env, s, en, Post.imp (Post.seq p) fun v H1 ⟨I1, β1, M1, x, s1, e1, r1, p1⟩ => ?_⟩
  refine Post.v1 (r := fun x H Q => (∃ a, x = .str a) ∧ ∃ a, x = .str a ∧ ([] : List V) = [] ∧ a.length ≤ 5592405 ∧ Q (.str (Txt.upper a)) H) p1 (fun I H x d z Q sm vw f q => ?_) s1 r1
  unfold upperD at f
  split at f
  · split at f
    · rename_i hz
      cases f
      rw [VW.str vw]
      exact ⟨⟨_, rfl⟩, _, rfl, rfl, hz, old_val sm q (.str _)⟩
    · cases f
  · cases f
def strsD : List PyData → Option (List Str)
  | [] => some []
  | .str b :: r => (strsD r).map (b :: ·)
  | _ :: _ => none
theorem strs_of {I : Hp} : ∀ {vs : List V} {ds : List PyData} {bs : List Str}, DpAll K I vs ds → strsD ds = some bs → vs = bs.map V.str
  | _, _, _, .nil, e => by cases e; rfl
  | _, d :: ds, _, .cons r t, e => by
    cases d with
    | str b =>
      cases r
      simp only [strsD] at e
      cases q : strsD ds with
      | none => rw [q] at e; cases e
      | some bs => rw [q] at e; cases e; rw [strs_of t q]; rfl
    | _ => cases e
theorem dpAll_strs {I : Hp} : ∀ bs : List Str, DpAll K I (bs.map V.str) (bs.map PyData.str)
  | [] => .nil
  | b :: bs => .cons (.str b) (dpAll_strs bs)
def joinD : PyData → PyData → Option PyData
  | .str a, d => (match d with
    | .list xs => strsD xs
    | .tuple xs => strsD xs
    | _ => none).bind fun (ys : List Str) => if (ys.map fun y : Str => y.length).sum + ys.length * a.length ≤ 16777216 then some (.str (Txt.join a ys)) else none
  | _, _ => none
theorem peM_join {o e : Expr} {a b : Sm} {apos cpos : Pos} {t : TE} (hp : PE X (.Call (.Attribute o "join" apos) [e] [] cpos) t) (hK : X.K = w.K)
    (ht : t = tM1 (fun x xs H Q => ∃ a p, ∃ ys : List Str, x = .str a ∧ xs = [.ref p] ∧ (SqL X.K H p (ys.map V.str) ∨ SqT X.K H p (ys.map V.str)) ∧ (ys.map fun y : Str => y.length).sum + ys.length * a.length ≤ 16777216 ∧ Q (.str (Txt.join a ys)) H) (RE w W a) (RE w W b)) :
    PE X (.Call (.Attribute o "join" apos) [e] [] cpos) (RE w W fun env M => (a env M).bind fun x M1 => match x with
      | .dat (.str z) => (b env M1).bind fun y M2 => v2 joinD x y M2
      | _ => .bad) := by
  subst ht
  refine pe_imp hp fun σ H Q ⟨I, β, M, env, s, en, p⟩ => ⟨I, β, M, env, s, en, Post.imp (Post.seq p) fun v H1 ⟨I1, β1, M1, x, s1, e1, r1, p1⟩ => ?_⟩
  cases x with
  | ob n => exact False.elim p1
  | dat d => cases d with
    | str z =>
      have ev : v = .str z := by cases (show Dp w.K I1 v (.str z) from r1); rfl
      refine ⟨⟨z, ev⟩, I1, β1, M1, env, s1, en.mono e1.toEx0, Post.imp (Post.seq p1) fun u H2 ⟨I2, β2, M2, y, s2, e2, r2, p2⟩ => ?_⟩
      rw [hK]
      refine Post.v2 (r := fun x y H Q => ∃ a p, ∃ ys : List Str, x = V.str a ∧ [y] = [V.ref p] ∧ (SqL w.K H p (ys.map V.str) ∨ SqT w.K H p (ys.map V.str)) ∧ (ys.map fun y : Str => y.length).sum + ys.length * a.length ≤ 16777216 ∧ Q (.str (Txt.join a ys)) H) p2 (fun I H x y d e z Q sm hx hy f q => ?_) s2 (VR.mono r1 e2.toEx0) r2
      cases d with
      | str a' =>
        simp only [joinD] at f
        cases e with
        | list xs =>
          cases q2 : strsD xs with
          | none => simp only [q2] at f; cases f
          | some ys =>
            simp only [q2, Option.bind_some] at f
            split at f
            · rename_i hz
              cases f
              obtain ⟨p, vs, rfl, h1, h2⟩ := VW.list sm hy
              exact ⟨_, p, ys, VW.str hx, rfl, .inl (by rw [← strs_of h2 q2]; exact h1), hz, old_val sm q (.str _)⟩
            · cases f
        | tuple xs =>
          cases q2 : strsD xs with
          | none => simp only [q2] at f; cases f
          | some ys =>
            simp only [q2, Option.bind_some] at f
            split at f
            · rename_i hz
              cases f
              obtain ⟨p, vs, rfl, _, h1, h2⟩ := VW.tuple sm hy
              exact ⟨_, p, ys, VW.str hx, rfl, .inr (by rw [← strs_of h2 q2]; exact h1), hz, old_val sm q (.str _)⟩
            · cases f
        | _ => cases f
      | _ => cases f
    | _ => exact False.elim p1
/-! ### items -/
def idxD : PyData → PyData → Option PyData
  | .list xs, .int i => atI xs i
  | .tuple xs, .int i => atI xs i
  | .str z, .int i => if z.length ≤ 16777216 then (atI z.cps.toList i).map fun c => .str ⟨#[c]⟩ else none
  | _, _ => none
theorem atI_dp {I : Hp} {vs : List V} {ds : List PyData} {i : Int} {d : PyData} (h : DpAll K I vs ds) (e : atI ds i = some d) : ∃ v, atI vs i = some v ∧ Dp K I v d := by
  unfold atI at e ⊢
  rw [dpAll_len h]
  cases q : ixN ds.length i with
  | none => rw [q] at e; cases e
  | some j =>
    rw [q] at e
    obtain ⟨v, h1, h2⟩ := dpAll_get h (show ds[j]? = some d from e)
    exact ⟨v, h1, h2⟩
theorem ok_idx : OkOp K (rIx K) idxD := fun I H x y d e z Q s hx hy f q => by
  have hsz : sizeLine = 16777216 := sizeLine_eq
  unfold idxD at f
  split at f
  · obtain ⟨a, vs, rfl, h1, h2⟩ := VW.list s hx
    obtain ⟨v, h3, h4⟩ := atI_dp h2 f
    exact .inl ⟨a, vs, _, v, rfl, VW.int hy, h1, h3, old_val s q h4⟩
  · obtain ⟨a, vs, rfl, _, h1, h2⟩ := VW.tuple s hx
    obtain ⟨v, h3, h4⟩ := atI_dp h2 f
    exact .inr (.inl ⟨a, vs, _, v, rfl, VW.int hy, h1, h3, old_val s q h4⟩)
  · split at f
    · rename_i z' i hz
      cases q2 : atI z'.cps.toList i with
      | none => rw [q2] at f; cases f
      | some c =>
        rw [q2] at f
        cases f
        exact .inr (.inr ⟨z', _, c, VW.str hx, VW.int hy, by rw [hsz]; exact hz, q2, old_val s q (.str _)⟩)
    · cases f
  · cases f
theorem peM_idx {a b : Expr} {ra rb : Sm} (hs : PlainIx b) (ha : PE X a (RE w W ra)) (hb : PE X b (RE w W rb)) (hK : X.K = w.K) : PE X (.Subscript a b pos) (RE w W (ev2 idxD ra rb)) :=
  pe_imp (pe_ix ix_seq ha hb hs) fun σ H Q ⟨I, β, M, env, s, en, p⟩ => ⟨I, β, M, env, s, en, Post.imp (Post.seq p) fun v H1 ⟨I1, β1, M1, x, s1, e1, r1, p1⟩ => ⟨I1, β1, M1, env, s1, en.mono e1.toEx0, Post.imp (Post.seq p1) fun u H2 ⟨I2, β2, M2, y, s2, e2, r2, p2⟩ => by
    rw [hK]
    exact Post.v2 p2 ok_idx s2 (r1.mono e2.toEx0) r2⟩⟩
/-! ### displays -/
def evTup (as : Sms) : Sm := fun env M => (as env M).bind fun xs M1 => match datsOf xs with
  | some ds => (match decide (ds.length ≤ 16777216) with
    | true => .ok (.dat (.tuple ds)) M1
    | false => .bad)
  | none => .bad
def evLst (as : Sms) : Si := fun env M => (as env M).bind fun xs M1 => match datsOf xs with
  | some ds => (match decide (ds.length ≤ 16777216) with
    | true => .ok ds M1
    | false => .bad)
  | none => .bad
theorem peM_tup {es : List Expr} {k : Nat} {as : Sms} (hp : PE X (.Tuple es k pos) (tTup (RA w W as))) : PE X (.Tuple es k pos) (RE w W (evTup as)) :=
  pe_imp hp fun σ H Q ⟨I, β, M, env, s, en, p⟩ => ⟨I, β, M, env, s, en, Post.imp (Post.seq (R := RVs w) p) fun vs H1 ⟨I1, β1, M1, xs, s1, e1, r1, p1⟩ => by
    have hsz : sizeLine = 16777216 := sizeLine_eq
    cases q : datsOf xs with
    | none => rw [q] at p1; exact False.elim p1
    | some ds =>
      rw [q] at p1
      simp only at p1
      cases hl : decide (ds.length ≤ 16777216) with
      | false => rw [hl] at p1; exact False.elim p1
      | true =>
        rw [hl] at p1
        have d := dats_of r1 q
        exact ⟨by rw [hsz, dpAll_len d]; exact of_decide_eq_true hl, fun a ha => new_tup s1.sub (Post.dat p1 s1) ha d⟩⟩
theorem peF_lst {es : List Expr} {as : Sms} (hp : PE X (.List es pos) (tLst (RA w W as))) : PE X (.List es pos) (RF w W (evLst as)) :=
  pe_imp hp fun σ H Q ⟨I, β, M, env, s, en, p⟩ => ⟨I, β, M, env, s, en, Post.imp (Post.seq (R := RVs w) p) fun vs H1 ⟨I1, β1, M1, xs, s1, e1, r1, p1⟩ => by
    have hsz : sizeLine = 16777216 := sizeLine_eq
    cases q : datsOf xs with
    | none => rw [q] at p1; exact False.elim p1
    | some ds =>
      rw [q] at p1
      simp only at p1
      cases hl : decide (ds.length ≤ 16777216) with
      | false => rw [hl] at p1; exact False.elim p1
      | true =>
        rw [hl] at p1
        have d := dats_of r1 q
        refine ⟨by rw [hsz, dpAll_len d]; exact of_decide_eq_true hl, fun a ha => ?_⟩
        have hI := s1.sub.free ha
        have hb : a ∉ β1 := fun z => s1.trk a z ha
        exact p1 I1 _ β1 _ (s1.free hI hb) (Ext.refl.free ha) ⟨a, vs, rfl, e1.none s1 ha, upd_same, hI, hb, d⟩⟩
/-! ### slices -/
def cutD (xs : List PyData) (lo hi : Option Int) : List PyData := (xs.drop (HT.sIx xs.length 0 lo)).take (HT.sIx xs.length xs.length hi - HT.sIx xs.length 0 lo)
theorem dpAll_cut {I : Hp} {vs : List V} {ds : List PyData} (lo hi : Option Int) (h : DpAll K I vs ds) : DpAll K I (cutV vs lo hi) (cutD ds lo hi) := by
  unfold cutV cutD
  rw [dpAll_len h]
  have dr : ∀ (n : Nat) {vs : List V} {ds : List PyData}, DpAll K I vs ds → DpAll K I (vs.drop n) (ds.drop n) := by
    intro n
    induction n with
    | zero => intro vs ds h; simpa using h
    | succ n ih => intro vs ds h; cases h with
      | nil => simpa using DpAll.nil
      | cons r t => simpa using ih t
  have tk : ∀ (n : Nat) {vs : List V} {ds : List PyData}, DpAll K I vs ds → DpAll K I (vs.take n) (ds.take n) := by
    intro n
    induction n with
    | zero => intro vs ds h; simpa using DpAll.nil
    | succ n ih => intro vs ds h; cases h with
      | nil => simpa using DpAll.nil
      | cons r t => simpa using DpAll.cons r (ih t)
  exact tk _ (dr _ h)
def sliceD (lo hi : Option Int) : PyData → Option PyData
  | .list xs => some (.list (cutD xs lo hi))
  | .tuple xs => some (.tuple (cutD xs lo hi))
  | .str z => if z.length ≤ 16777216 then some (.str (cutS z lo hi)) else none
  | _ => none
def evPart (a : Option Sm) : Env → Mem → Res (Option Int) := match a with
  | none => fun _ M => .ok none M
  | some a => fun env M => (a env M).bind fun x M1 => match x with
    | .dat (.int i) => .ok (some i) M1
    | _ => .bad
def evSl (a : Sm) (lo hi : Option Sm) : Sm := fun env M => (a env M).bind fun x M1 => (evPart lo env M1).bind fun l M2 => (evPart hi env M2).bind fun h M3 => v1 (sliceD l h) x M3
abbrev ROI : Hp → Hp → List Addr → Option Int → Option Int → Prop := fun _ _ _ b x => b = x
def RO (w : Mw) (W : WX) (r : Env → Mem → Res (Option Int)) : TO := fun σ H Q => ∃ I β M env, Sit w.K w.ca I H β M ∧ EnvR w.K I β σ env ∧ Post w W ROI σ I H β Q (r env M)
theorem poM_none : PO X none (RO w W (evPart none)) := ⟨fun pins s σ H Q I ⟨J, β, M, env, sit, en, p⟩ => po_none.run pins s σ H Q I (p J H β none sit Ext.refl rfl)⟩
theorem poM_some {e : Expr} {a : Sm} (he : PE X e (RE w W a)) : PO X (some e) (RO w W (evPart (some a))) := ⟨fun pins s σ H Q I ⟨J, β, M, env, sit, en, p⟩ => (po_some he).run pins s σ H Q I ⟨J, β, M, env, sit, en, Post.imp (Post.seq (R := RV w) p) fun v H1 ⟨I1, β1, M1, x, s1, e1, r1, p1⟩ => by
  cases x with
  | ob n => exact False.elim p1
  | dat d => cases d with
    | int i =>
      cases (show Dp w.K I1 v (.int i) from r1)
      exact ⟨i, rfl, p1 I1 H1 β1 (some i) s1 Ext.refl rfl⟩
    | _ => exact False.elim p1⟩⟩
def rSlM (K : FrgT) : V → Option Int → Option Int → Hp → VK → Prop := fun x lo hi H Q => (rSlL K x lo hi H Q ∨ rSlA K x lo hi H Q) ∨ rSlS x lo hi H Q
theorem sl_M : SlR X (rSlM X.K) := SlR.or (SlR.or sl_list sl_tupA) sl_str
theorem cutD_all {xs : List PyData} {lo hi : Option Int} (h1 : HT.sIx xs.length 0 lo = 0) (h2 : HT.sIx xs.length xs.length hi = xs.length) : cutD xs lo hi = xs := by
  unfold cutD
  rw [h1, h2]
  simp
theorem peM_sl {e : Expr} {lo hi : Option Expr} {p2 : Pos} {a : Sm} {l h : Option Sm} (he : PE X e (RE w W a)) (hl : PO X lo (RO w W (evPart l))) (hh : PO X hi (RO w W (evPart h))) (hK : X.K = w.K)
    (hp : PE X (.Subscript e (.Slice lo hi none p2) pos) (tSl (rSlM X.K) (RE w W a) (RO w W (evPart l)) (RO w W (evPart h)))) : PE X (.Subscript e (.Slice lo hi none p2) pos) (RE w W (evSl a l h)) :=
  pe_imp hp fun σ H Q ⟨I, β, M, env, s, en, p⟩ => ⟨I, β, M, env, s, en, Post.imp (Post.seq p) fun v H1 ⟨I1, β1, M1, x, s1, e1, r1, p1⟩ => ⟨I1, β1, M1, env, s1, en.mono e1.toEx0, Post.imp (Post.seq (R := ROI) p1) fun l' H2 ⟨I2, β2, M2, l2, s2, e2, r2, p2⟩ =>
    ⟨I2, β2, M2, env, s2, (en.mono e1.toEx0).mono e2.toEx0, Post.imp (Post.seq (R := ROI) p2) fun h' H3 ⟨I3, β3, M3, h3, s3, e3, r3, p3⟩ => by
    cases r2
    cases r3
    rw [hK]
    refine Post.v1 (r := fun x H Q => rSlM w.K x l' h' H Q) p3 (fun I H x d z Q sm vw f q => ?_) s3 ((r1.mono e2.toEx0).mono e3.toEx0)
    have hsz : sizeLine = 16777216 := sizeLine_eq
    unfold sliceD at f
    split at f
    · cases f
      obtain ⟨a, vs, rfl, h1, h2⟩ := VW.list sm vw
      exact .inl (.inl ⟨a, vs, rfl, h1, fun p hp => new_lst sm q hp (dpAll_cut _ _ h2)⟩)
    · cases f
      obtain ⟨a, vs, rfl, g1, h1, h2⟩ := VW.tuple sm vw
      refine .inl (.inr ⟨a, vs, rfl, h1, fun ⟨z1, z2⟩ => ?_, fun _ p hp => new_tup sm q hp (dpAll_cut _ _ h2)⟩)
      rw [dpAll_len h2] at z1 z2
      rw [cutD_all z1 z2] at q
      exact old_val sm q (.tup g1 h2)
    · split at f
      · rename_i hz
        cases f
        exact .inr ⟨_, VW.str vw, by rw [hsz]; exact hz, old_val sm q (.str _)⟩
      · cases f
    · cases f⟩⟩⟩
end
end MP
set_option Elab.async false
set_option linter.all false
set_option maxRecDepth 100000
set_option maxHeartbeats 2000000
/-! MQ1: zip over lists, tuples and texts in any mix; range. -/
namespace MP
open PySem PySem.Spec PyProof.Rows L2
inductive Src where
  | l (a : Addr) | t (a : Addr) | s (x : Str)
def chV (x : Str) : List V := x.cps.toList.map fun c => V.str ⟨#[c]⟩
def Src.at (K : FrgT) : Src → Hp → List V → Prop
  | .l a, H, xs => SqL K H a xs
  | .t a, H, xs => SqT K H a xs
  | .s x, _, xs => xs = chV x
def Src.v : Src → V
  | .l a => .ref a
  | .t a => .ref a
  | .s x => .str x
def Src.fpL : Src → List Addr
  | .l a => [a]
  | .t a => [a]
  | .s _ => []
def Src.it : Src → Tok → Addr → Nat → Heap → Prop
  | .l a, _, it, i, h => h.IsListIter it a i
  | .t a, _, it, i, h => h.IsTupleIter it a i
  | .s x, k, it, i, h => h.IsStrIter it (strIterType x) x k i
theorem Src.it_obj {s : Src} {t : Tok} {it : Addr} {i : Nat} {h : Heap} (st : s.it t it i h) : ∃ o, h.get? it = some o ∧ ∃ vs, o.data = .fields vs := by
  cases s with
  | l a => obtain ⟨o, e, _, d⟩ := st; exact ⟨o, e, _, d⟩
  | t a => obtain ⟨o, e, _, d⟩ := st; exact ⟨o, e, _, d⟩
  | s x => obtain ⟨o, e, _, d⟩ := st; exact ⟨o, e, _, d⟩
theorem Src.it_keep {s : Src} {t : Tok} {it : Addr} {i : Nat} {h h' : Heap} (st : s.it t it i h) (k : ∀ o, h.get? it = some o → h'.get? it = some o) : s.it t it i h' := by
  cases s with
  | l a => obtain ⟨o, e, r⟩ := st; exact ⟨o, k o e, r⟩
  | t a => obtain ⟨o, e, r⟩ := st; exact ⟨o, k o e, r⟩
  | s x => obtain ⟨o, e, r⟩ := st; exact ⟨o, k o e, r⟩
section
variable {X : Cx} {pins : List (Addr × Obj)} {σ : St} {H : Hp} {s : Shared}
theorem Src.inj {S : Src} {xs ys : List V} (I : Inv X pins σ H s) (h : S.at X.K H xs) (h' : S.at X.K H ys) : xs = ys := by
  cases S with
  | l a => exact I.list_inj h h'
  | t a => exact I.tuple_inj h h'
  | s x => exact (show xs = chV x from h).trans (show ys = chV x from h').symm
theorem Src.lt {S : Src} {xs : List V} (I : Inv X pins σ H s) (h : S.at X.K H xs) : ∀ b ∈ S.fpL, b < s.heap.objs.size := by
  intro b hb
  cases S with
  | l a =>
    have e : b = a := by simpa [Src.fpL] using hb
    obtain ⟨its, rv, p, _⟩ := I.list h
    rw [e]; exact p.lt
  | t a =>
    have e : b = a := by simpa [Src.fpL] using hb
    obtain ⟨its, rv, p, _⟩ := I.tuple h
    obtain ⟨o, ho, _⟩ := id p
    rw [e]; exact Heap.lt_size ho
  | s x => simp [Src.fpL] at hb
theorem Src.draws {S : Src} {xs : List V} {t : Tok} {it : Addr} {A : Around} (hh : A.handled = none) (I : Inv X pins σ H s) (h : S.at X.K H xs) (hne : it ∉ S.fpL) :
    ∃ (P : Nat → Value → Prop) (Sa : Nat → Heap → Prop), Draws X.prog X.w A it (it :: S.fpL) xs.length P Sa ∧ (∀ i, S.it t it i s.heap → Sa i s.heap) ∧ (∀ i x, P i x → ∃ v, xs[i]? = some v ∧ RelV v x) ∧ ∀ i h, Sa i h → S.it t it i h := by
  cases S with
  | l a =>
    have ne : a ≠ it := fun e => hne (by simp [Src.fpL, e])
    obtain ⟨its, rv, p, _⟩ := I.list h
    have hl := rv.length
    have D := Draws.list (prog := X.prog) (w := X.w) hh it a ne its.toArray
    rw [List.size_toArray, ← hl] at D
    refine ⟨_, _, D, fun i st => ⟨st, p.isList⟩, fun i x hx => ?_, fun i h st => st.1⟩
    have hx' : its[i]? = some x := by simpa using hx
    have hi : i < xs.length := by rw [hl]; exact (List.getElem?_eq_some_iff.mp hx').1
    obtain ⟨u, hu, ru⟩ := rv.get (List.getElem?_eq_getElem hi)
    rw [hx'] at hu
    cases hu
    exact ⟨_, List.getElem?_eq_getElem hi, ru⟩
  | t a =>
    have ne : a ≠ it := fun e => hne (by simp [Src.fpL, e])
    obtain ⟨its, rv, p, _⟩ := I.tuple h
    have hl := rv.length
    have D := Draws.tuple (prog := X.prog) (w := X.w) hh it a ne its.toArray
    rw [List.size_toArray, ← hl] at D
    refine ⟨_, _, D, fun i st => ⟨st, p⟩, fun i x hx => ?_, fun i h st => st.1⟩
    have hx' : its[i]? = some x := by simpa using hx
    have hi : i < xs.length := by rw [hl]; exact (List.getElem?_eq_some_iff.mp hx').1
    obtain ⟨u, hu, ru⟩ := rv.get (List.getElem?_eq_getElem hi)
    rw [hx'] at hu
    cases hu
    exact ⟨_, List.getElem?_eq_getElem hi, ru⟩
  | s x =>
    have e : xs = chV x := h
    subst e
    have D := Draws.text (prog := X.prog) (w := X.w) hh it x t
    have hl : (chV x).length = x.cps.size := by simp [chV]
    rw [← hl] at D
    refine ⟨_, _, D, fun i st => st, fun i v hx => ?_, fun i h st => st⟩
    obtain ⟨c, u, hc, rfl⟩ := hx
    refine ⟨.str ⟨#[c]⟩, ?_, ⟨u, rfl⟩⟩
    unfold chV
    rw [List.getElem?_map]
    have : x.cps.toList[i]? = some c := by simpa using hc
    rw [this]
    rfl
end
def ItzG (K : FrgT) (s1 s2 : Src) : It :=
  ⟨fun i H => ∃ (xs ys : List V) (x y : V), s1.at K H xs ∧ s2.at K H ys ∧ xs[i]? = some x ∧ ys[i]? = some y,
    fun i H v H' => ∃ T x y, v = .ref T ∧ H T = none ∧ H' = upd H T (.tup [x, y]) ∧ (∀ xs, s1.at K H xs → xs[i]? = some x) ∧ ∀ ys, s2.at K H ys → ys[i]? = some y,
    fun i H => ∃ xs ys : List V, s1.at K H xs ∧ s2.at K H ys ∧ (xs.length = i ∨ ys.length = i) ∧ i ≤ xs.length ∧ i ≤ ys.length⟩
theorem turn_zipG {P : Program} {w : World} {K : FrgT} {elts : List Expr} {kk : Nat} {tpos : Pos} {s1 s2 : Src} {t1 t2 : Tok} {z TI TO i1 i2 : Addr} (D : ZipSep2 z TI TO i1 i2 (i1 :: s1.fpL) (i2 :: s2.fpL)) (n1 : i1 ∉ s1.fpL) (n2 : i2 ∉ s2.fpL) :
    Turn P w K (.Tuple elts kk tpos) (ItzG K s1 s2) [z, TI, TO, i1, i2] z (fun i h => IsZip h z TI TO .none ∧ IsTupOf2 h TI (.ref i1) (.ref i2) ∧ (∃ x y, IsTupOf2 h TO x y) ∧ s1.it t1 i1 i h ∧ s2.it t2 i2 i h) where
  mem := by simp
  obj := fun i h st c hc => by
    obtain ⟨hz, hTI, ⟨x, y, hTO⟩, h1, h2⟩ := st
    obtain ⟨o1, e1, _, d1⟩ := Src.it_obj h1
    obtain ⟨o2, e2, _, d2⟩ := Src.it_obj h2
    have e' : c = z ∨ c = TI ∨ c = TO ∨ c = i1 ∨ c = i2 := by simpa using hc
    rcases e' with q | q | q | q | q
    · rw [q]; exact ⟨_, hz, fun v q => nomatch q⟩
    · rw [q]; exact ⟨_, hTI, fun v q => nomatch q⟩
    · rw [q]; exact ⟨_, hTO, fun v q => nomatch q⟩
    · rw [q]; exact ⟨o1, e1, fun v q => by rw [d1] at q; cases q⟩
    · rw [q]; exact ⟨o2, e2, fun v q => by rw [d2] at q; cases q⟩
  keep := fun i h h' st k => by
    obtain ⟨hz, hTI, ⟨x, y, hTO⟩, h1, h2⟩ := st
    exact ⟨k z (by simp) _ hz, k TI (by simp) _ hTI, ⟨x, y, k TO (by simp) _ hTO⟩, Src.it_keep h1 fun o q => k i1 (by simp) o q, Src.it_keep h2 fun o q => k i2 (by simp) o q⟩
  item := by
    intro X hP hw hK hc i pins s σ H E I hf st hg
    subst hP hw hK
    obtain ⟨hz, hTI, ⟨x0, y0, hTO⟩, h1, h2⟩ := st
    obtain ⟨xs, ys, x, y, hqx, hqy, hx, hy⟩ := hg
    obtain ⟨P1, S1, D1, a1, b1, c1⟩ := Src.draws (t := t1) (A := X.A.in1) (show X.A.in1.handled = none from I.ok.hd hc) I hqx n1
    obtain ⟨P2, S2, D2, a2, b2, c2⟩ := Src.draws (t := t2) (A := X.A.in1) (show X.A.in1.handled = none from I.ok.hd hc) I hqy n2
    have hzl : z < s.heap.objs.size := Heap.lt_size hz
    refine wpAny_pyNext_zipD2_item D D1 D2 hz hTI hTO (a1 _ h1) (a2 _ h2) (List.getElem?_eq_some_iff.mp hx).1 (List.getElem?_eq_some_iff.mp hy).1 fun u u2 h' tk p1 p2 z' TO' h1' h2' hT hsz hk => ?_
    obtain ⟨v1, g1, ru⟩ := b1 i u p1
    obtain ⟨v2, g2, ru2⟩ := b2 i u2 p2
    rw [hx] at g1
    rw [hy] at g2
    cases g1
    cases g2
    refine ⟨_, rfl, wpAny_letOwnedTupleGo_zip (s := { s with heap := h', toks := tk }) z' fun h'' z'' sb => ?_⟩
    have hT2 : h''.get? s.heap.objs.size = some { cls := .type "tuple", data := .seq #[u, u2] } := (sb.2 _ (Nat.ne_of_gt hzl)).trans hT
    have new : ObjOk X.prog X.w (upd H s.heap.objs.size (.tup [x, y])) h'' s.heap.objs.size (.tup [x, y]) :=
      ⟨by show 2 ≤ sizeLine; decide, [u, u2], .cons ru (.cons ru2 .nil), ⟨_, hT2, rfl, _, rfl⟩⟩
    have I1 : Inv X pins σ (upd H s.heap.objs.size (.tup [x, y])) { s with heap := h'', toks := tk } :=
      I.turnedNew (t' := tk) (ch := [z, TI, TO, i1, i2]) (fun c o hb q => (sb.2 c (fun q' => hb (by simp [q']))).trans (hk c o (fun q' => hb (by simp [q'])) (fun q' => hb (by simp [q'])) (fun q' => hb (by simp [q'])) (fun q' => hb (by simp [q'])) q)) hf (Nat.le_refl _) new
    refine ⟨.ref s.heap.objs.size, _, I1, rfl, ⟨_, x, y, rfl, I.hok.fresh (Nat.le_refl _), rfl, fun l hl => by rw [Src.inj I hl hqx]; exact hx, fun l hl => by rw [Src.inj I hl hqy]; exact hy⟩, ⟨z'', ?_, ⟨u, u2, ?_⟩, ?_, ?_⟩, fun c hcm => ?_⟩
    · exact (sb.2 _ D.TIz).trans (hk _ _ D.TIz D.TITO D.TIi1 D.TIi2 hTI)
    · exact (sb.2 _ D.TOz).trans TO'
    · exact Src.it_keep (c1 _ _ h1') fun o q => (sb.2 _ (Ne.symm D.zi1)).trans q
    · exact Src.it_keep (c2 _ _ h2') fun o q => (sb.2 _ (Ne.symm D.zi2)).trans q
    · have hlt : c < s.heap.objs.size := by
        have e' : c = z ∨ c = TI ∨ c = TO ∨ c = i1 ∨ c = i2 := by simpa using hcm
        rcases e' with q | q | q | q | q
        · rw [q]; exact hzl
        · rw [q]; exact Heap.lt_size hTI
        · rw [q]; exact Heap.lt_size hTO
        · rw [q]; obtain ⟨_, e1, _⟩ := Src.it_obj h1; exact Heap.lt_size e1
        · rw [q]; obtain ⟨_, e2, _⟩ := Src.it_obj h2; exact Heap.lt_size e2
      rw [upd_ne (Nat.ne_of_lt hlt)]
      exact (hf c hcm).1
  done := by
    intro X hP hw hK hc i pins s σ H E I hf st hg
    subst hP hw hK
    obtain ⟨hz, hTI, ⟨x0, y0, hTO⟩, h1, h2⟩ := st
    obtain ⟨xs, ys, hqx, hqy, hend, l1, l2⟩ := hg
    obtain ⟨P1, S1, D1, a1, b1, c1⟩ := Src.draws (t := t1) (A := X.A.in1) (show X.A.in1.handled = none from I.ok.hd hc) I hqx n1
    obtain ⟨P2, S2, D2, a2, b2, c2⟩ := Src.draws (t := t2) (A := X.A.in1) (show X.A.in1.handled = none from I.ok.hd hc) I hqy n2
    refine wpAny_pyNext_zipD2_end D D1 D2 hz hTI hTO (a1 _ h1) (a2 _ h2) l1 l2 (hend.imp Eq.symm Eq.symm) fun h' tk hk => ⟨rfl, I.turnedL (t' := tk) (ch := [z, TI, TO, i1, i2]) (fun c o hb q =>
      hk c o (fun q' => hb (by simp [q'])) (fun q' => hb (by simp [q'])) (fun q' => hb (by simp [q'])) (fun q' => hb (by simp [q'])) q) hf⟩
  self := fun A i s Q E st h => wpAny_pyIter_zip st.1 h
def iZipG (K : FrgT) (ta : TA) : TI := fun σ H R => ta σ H fun vs H1 => ∃ (s1 s2 : Src) (xs ys : List V), vs = [s1.v, s2.v] ∧ s1.at K H1 xs ∧ s2.at K H1 ys ∧ R (ItzG K s1 s2) H1
section
variable {X : Cx}
theorem Src.begins {pins : List (Addr × Obj)} {σ : St} {H : Hp} {s : Shared} {S : Src} {xs : List V} {u : Value} (I : Inv X pins σ H s) (h : S.at X.K H xs) (r : RelV S.v u) :
    ∃ (o : Obj) (Hs : Heap → Prop) (t : Tok), Begins u o Hs ∧ Hs s.heap ∧ ∀ (h' : Heap) it, h'.get? it = some o → S.it t it 0 h' := by
  cases S with
  | l a =>
    cases r
    obtain ⟨its, rv, p, _⟩ := I.list h
    exact ⟨_, _, 0, begins_list a its.toArray, p.isList, fun h' it e => ⟨_, e, rfl, rfl⟩⟩
  | t a =>
    cases r
    obtain ⟨its, rv, p, _⟩ := I.tuple h
    exact ⟨_, _, 0, begins_tuple a its.toArray, p, fun h' it e => ⟨_, e, rfl, rfl⟩⟩
  | s x =>
    obtain ⟨t, rfl⟩ := r
    exact ⟨_, _, t, begins_text x t, trivial, fun h' it e => ⟨_, e, rfl, rfl⟩⟩
theorem pi_zipG {e e2 : Expr} {ta : TA} {p pos tpos : Pos} {elts : List Expr} {kk : Nat} (hg : Gl X "zip") (hm : X.mg "zip" = none) (ha : PA X [e, e2] ta)
    (hs : starEach [e, e2] X.env = (false, eval e X.env) :: starEach [e2] X.env) (hpl : (backTo pos (starEach [e2] X.env)).any (·.1) = false) :
    PI X (.Tuple elts kk tpos) (.Call (.Name "zip" p) [e, e2] [] pos) (iZipG X.K ta) := by
  refine ⟨fun pins s σ H R I h => ?_⟩
  refine Call_ (ld_blt I hg hm PyProof.Rows.boot_zip (PyProof.Rows.callWith_type1 (thn (ha.run pos pins s σ H _ I h) fun us s1 ⟨vs, H1, I1, r1, q1⟩ => ?_) hs hpl))
  obtain ⟨S1, S2, xs, ys, ex, hqx, hqy, q⟩ := q1
  subst ex
  cases r1 with
  | cons r rr =>
    cases rr with
    | cons r' rr =>
      cases rr
      obtain ⟨o1, H1s, t1, B1, w1, k1⟩ := Src.begins I1 hqx r
      obtain ⟨o2, H2s, t2, B2, w2, k2⟩ := Src.begins I1 hqy r'
      have l1 := Src.lt I1 hqx
      have l2 := Src.lt I1 hqy
      refine zip_begins2 B1 B2 w1 w2 fun h' hz hTI hTO h1 h2 hsz hk => wpAny_pyIter_zip hz ?_
      have I2 : Inv X pins σ H1 { s1 with heap := h' } := I1.kept (t' := s1.toks) hk
      refine ⟨s1.heap.objs.size + 4, [s1.heap.objs.size + 4, s1.heap.objs.size + 2, s1.heap.objs.size + 3, s1.heap.objs.size, s1.heap.objs.size + 1], _, _, H1, rfl, I2, turn_zipG (t1 := t1) (t2 := t2) (zip_sep2 l1 l2) (fun z => Nat.lt_irrefl _ (l1 _ z)) (fun z => by
        have := l2 _ z
        exact absurd this (by show ¬ (s1.heap.objs.size + 1 < s1.heap.objs.size); omega)), ⟨hz, hTI, ⟨_, _, hTO⟩, k1 _ _ h1, k2 _ _ h2⟩, fun c hcm => ?_, q⟩
      have e' : c = s1.heap.objs.size + 4 ∨ c = s1.heap.objs.size + 2 ∨ c = s1.heap.objs.size + 3 ∨ c = s1.heap.objs.size ∨ c = s1.heap.objs.size + 1 := by simpa using hcm
      have hle : s1.heap.objs.size ≤ c := by
        rcases e' with z | z | z | z | z
        · rw [z]; exact Nat.le_add_right _ _
        · rw [z]; exact Nat.le_add_right _ _
        · rw [z]; exact Nat.le_add_right _ _
        · rw [z]; exact Nat.le_refl _
        · rw [z]; exact Nat.le_add_right _ _
      exact I1.fpOk hle (I1.hok.fresh hle)
end
/-! ### what the walk says -/
def zipD (xs ys : List PyData) : List PyData := List.zipWith (fun a b => PyData.tuple [a, b]) xs ys
/-- the datum may be walked: where it is -/
theorem srcOf {K : FrgT} {I : Hp} {v : V} {d : PyData} {ds : List PyData} (h : Dp K I v d) (e : seqD d = some ds) : ∃ (S : Src) (vs : List V), v = S.v ∧ DpAll K I vs ds ∧ ∀ H, Same I H → S.at K H vs := by
  cases d with
  | list xs =>
    cases e
    cases h with
    | lst hs ha => exact ⟨.l _, _, rfl, ha, fun H s => s.seq hs⟩
  | tuple xs =>
    cases e
    cases h with
    | tup hs ha => exact ⟨.t _, _, rfl, ha, fun H s => Same.tupl s hs⟩
  | str x =>
    cases e
    cases h
    refine ⟨.s x, chV x, rfl, ?_, fun H s => rfl⟩
    unfold chV charsD
    have : ∀ l : List Nat, DpAll K I (l.map fun c => V.str ⟨#[c]⟩) (l.map fun c => PyData.str ⟨#[c]⟩) := by
      intro l
      induction l with
      | nil => exact .nil
      | cons c l ih => exact .cons (.str _) ih
    exact this _
  | _ => cases e
theorem itOk_zip {K : FrgT} {I : Hp} {s1 s2 : Src} {vs us : List V} {ds es : List PyData} (h1 : ∀ H, Same I H → s1.at K H vs) (h2 : ∀ H, Same I H → s2.at K H us) (d1 : DpAll K I vs ds) (d2 : DpAll K I us es) : ItOk K I (ItzG K s1 s2) (zipD ds es) := fun I1 H1 sa sb i => by
  have g1 := h1 H1 (sa.trans sb)
  have g2 := h2 H1 (sa.trans sb)
  refine ⟨fun x e => ?_, fun hle => ?_⟩
  · unfold zipD at e
    rw [List.getElem?_zipWith] at e
    cases q1 : ds[i]? with
    | none => rw [q1] at e; cases e
    | some a =>
      cases q2 : es[i]? with
      | none => rw [q1, q2] at e; cases e
      | some b =>
        rw [q1, q2] at e
        cases e
        obtain ⟨v, k1, k2⟩ := dpAll_get d1 q1
        obtain ⟨u, k3, k4⟩ := dpAll_get d2 q2
        refine ⟨⟨vs, us, v, u, g1, g2, k1, k3⟩, ?_⟩
        rintro y H' ⟨T, x', y', rfl, hT, rfl, e1, e2⟩
        have e1 := (e1 vs g1).symm.trans k1
        have e2 := (e2 us g2).symm.trans k3
        cases e1
        cases e2
        have gr := Grow.one (o := .tup [v, u]) sb hT
        exact ⟨_, gr, .tup (.inl (.inl upd_same)) (.cons ((k2.mono sa).mono gr.fro) (.cons ((k4.mono sa).mono gr.fro) .nil))⟩
  · refine ⟨vs, us, g1, g2, ?_⟩
    have l1 := dpAll_len d1
    have l2 := dpAll_len d2
    unfold zipD at hle
    rw [List.length_zipWith] at hle
    omega
def siZip (as : Sms) : Si := fun env M => (as env M).bind fun xs M1 => match xs with
  | [.dat d, .dat e] => (match seqD d, seqD e with
    | some ds, some es => .ok (zipD ds es) M1
    | _, _ => .bad)
  | _ => .bad
section
variable {w : Mw} {W : WX} {X : Cx}
theorem piM_zip (hK : X.K = w.K) {e e2 : Expr} {p pos tpos : Pos} {elts : List Expr} {kk : Nat} {as : Sms} (hg : Gl X "zip") (hm : X.mg "zip" = none) (ha : PA X [e, e2] (RA w W as))
    (hs : starEach [e, e2] X.env = (false, eval e X.env) :: starEach [e2] X.env) (hpl : (backTo pos (starEach [e2] X.env)).any (·.1) = false) : PI X (.Tuple elts kk tpos) (.Call (.Name "zip" p) [e, e2] [] pos) (RI w W (siZip as)) :=
  pi_imp (pi_zipG hg hm ha hs hpl) fun σ H R ⟨I, β, M, env, s, en, q⟩ => ⟨I, β, M, env, s, en, Post.imp (Post.seq (R := RVs w) q) fun vs H1 ⟨I1, β1, M1, xs, s1, e1, r1, p1⟩ => by
    rw [hK]
    split at p1
    · rename_i d e
      cases r1 with
      | cons r1 t1 =>
        cases t1 with
        | cons r2 t2 =>
          cases t2
          cases q1 : seqD d with
          | none => rw [q1] at p1; exact False.elim p1
          | some ds =>
            cases q2 : seqD e with
            | none => rw [q1, q2] at p1; exact False.elim p1
            | some es =>
              rw [q1, q2] at p1
              obtain ⟨S1, v1, rfl, a1, b1⟩ := srcOf (show Dp w.K I1 _ d from r1) q1
              obtain ⟨S2, v2, rfl, a2, b2⟩ := srcOf (show Dp w.K I1 _ e from r2) q2
              exact ⟨S1, S2, v1, v2, rfl, b1 _ s1.sub, b2 _ s1.sub, p1 I1 H1 β1 _ s1 Ext.refl (itOk_zip b1 b2 a1 a2)⟩
    · exact False.elim p1⟩
/-! ### range -/
def rngD (a : Int) : Nat → List PyData
  | 0 => []
  | n + 1 => .int a :: rngD (a + 1) n
theorem rngD_len (a : Int) : ∀ n, (rngD a n).length = n
  | 0 => rfl
  | n + 1 => by rw [rngD, List.length_cons, rngD_len (a + 1) n]
theorem rngD_get : ∀ (n i : Nat) (a : Int), i < n → (rngD a n)[i]? = some (.int (a + i))
  | 0, _, _, h => absurd h (Nat.not_lt_zero _)
  | n + 1, 0, a, _ => by simp [rngD]
  | n + 1, i + 1, a, h => by
    rw [rngD, List.getElem?_cons_succ, rngD_get n i (a + 1) (by omega)]
    have : a + 1 + (i : Int) = a + ((i + 1 : Nat) : Int) := by omega
    rw [this]
def siRng (as : Sms) : Si := fun env M => (as env M).bind fun xs M1 => match xs with
  | [.dat (.int j)] => (match decide (-(2 ^ 62) ≤ j ∧ j < 2 ^ 62) with
    | true => .ok (rngD 0 j.toNat) M1
    | false => .bad)
  | _ => .bad
def siRng2 (as : Sms) : Si := fun env M => (as env M).bind fun xs M1 => match xs with
  | [.dat (.int i), .dat (.int j)] => (match decide (-(2 ^ 62) ≤ i ∧ i < 2 ^ 62 ∧ -(2 ^ 62) ≤ j ∧ j < 2 ^ 62) with
    | true => .ok (rngD i (j - i).toNat) M1
    | false => .bad)
  | _ => .bad
theorem itOk_rng {K : FrgT} {I : Hp} (a : Int) (n : Nat) : ItOk K I (Itr a n) (rngD a n) := fun I1 H1 sa sb i => by
  refine ⟨fun x e => ?_, fun hle => by rw [rngD_len] at hle; exact Nat.le_of_eq hle⟩
  by_cases h : i < n
  · rw [rngD_get n i a h] at e
    cases e
    exact ⟨h, fun y H' ⟨e1, e2⟩ => ⟨I1, by rw [e1]; exact Grow.refl sb, by rw [e2]; exact .int _⟩⟩
  · rw [List.getElem?_eq_none (by rw [rngD_len]; omega)] at e
    cases e
theorem dp_intV {K : FrgT} {I : Hp} {v : V} {i : Int} (h : Dp K I v (.int i)) : v = .int i := by cases h; rfl
theorem piM_rng1 {tg a : Expr} {p pos : Pos} {as : Sms} (hg : Gl X "range") (hm : X.mg "range" = none) (ha : PA X [a] (RA w W as)) (hs : starEach [a] X.env = [(false, eval a X.env)]) : PI X tg (.Call (.Name "range" p) [a] [] pos) (RI w W (siRng as)) :=
  pi_imp (pi_range1 hg hm ha hs) fun σ H R ⟨I, β, M, env, s, en, q⟩ => ⟨I, β, M, env, s, en, Post.imp (Post.seq (R := RVs w) q) fun vs H1 ⟨I1, β1, M1, xs, s1, e1, r1, p1⟩ => by
    split at p1
    · rename_i j
      cases q1 : decide (-(2 ^ 62) ≤ j ∧ j < 2 ^ 62) with
      | false => rw [q1] at p1; exact False.elim p1
      | true =>
        rw [q1] at p1
        cases r1 with
        | cons r1 t1 =>
          cases t1
          have := of_decide_eq_true q1
          exact ⟨j, by rw [dp_intV (show Dp w.K I1 _ (.int j) from r1)], this.1, this.2, p1 I1 H1 β1 _ s1 Ext.refl (itOk_rng 0 _)⟩
    · exact False.elim p1⟩
theorem piM_rng2 {tg a b : Expr} {p pos : Pos} {as : Sms} (hg : Gl X "range") (hm : X.mg "range" = none) (ha : PA X [a, b] (RA w W as)) (hs : starEach [a, b] X.env = [(false, eval a X.env), (false, eval b X.env)]) (hs2 : starEach [b] X.env = [(false, eval b X.env)]) : PI X tg (.Call (.Name "range" p) [a, b] [] pos) (RI w W (siRng2 as)) :=
  pi_imp (pi_range2 hg hm ha hs hs2) fun σ H R ⟨I, β, M, env, s, en, q⟩ => ⟨I, β, M, env, s, en, Post.imp (Post.seq (R := RVs w) q) fun vs H1 ⟨I1, β1, M1, xs, s1, e1, r1, p1⟩ => by
    split at p1
    · rename_i i j
      cases q1 : decide (-(2 ^ 62) ≤ i ∧ i < 2 ^ 62 ∧ -(2 ^ 62) ≤ j ∧ j < 2 ^ 62) with
      | false => rw [q1] at p1; exact False.elim p1
      | true =>
        rw [q1] at p1
        cases r1 with
        | cons r1 t1 =>
          cases t1 with
          | cons r2 t2 =>
            cases t2
            exact ⟨i, j, by rw [dp_intV (show Dp w.K I1 _ (.int i) from r1), dp_intV (show Dp w.K I1 _ (.int j) from r2)], of_decide_eq_true q1, p1 I1 H1 β1 _ s1 Ext.refl (itOk_rng i _)⟩
    · exact False.elim p1⟩
end
end MP
set_option Elab.async false
set_option linter.all false
set_option maxRecDepth 100000
set_option maxHeartbeats 2000000
/-! MQ2: dicts as cells, o[i] = v, append. -/
namespace MP
open PySem PySem.Spec PyProof.Rows L2
def keyOf : PyData → Option Key
  | .int i => some (.inl i)
  | .str x => some (.inr x)
  | _ => none
def asKey : Val → Option Key
  | .dat d => keyOf d
  | _ => none
def dGet {α : Type} (kvs : List (Key × α)) (k : Key) : Option α := (kvs.find? fun kv => decide (kv.1 = k)).map (·.2)
def dPut {α : Type} (kvs : List (Key × α)) (k : Key) (v : α) : List (Key × α) :=
  if (kvs.any fun kv => decide (kv.1 = k)) = true then kvs.map (fun kv => if kv.1 = k then (kv.1, v) else kv) else kvs ++ [(k, v)]
def dDrop {α : Type} (kvs : List (Key × α)) (k : Key) : List (Key × α) := kvs.filter fun kv => decide (kv.1 ≠ k)
def dctOf (M : Mem) : Val → Option (List (Key × Val))
  | .ob n => match M[n]? with
    | some (.dct kvs) => some kvs
    | _ => none
  | _ => none
section
variable {K : FrgT} {ca : Str → Addr} {I H : Hp} {β : List Addr} {M : Mem}
theorem key_of {v : V} {y : Val} {k : Key} (r : VR K I β v y) (e : asKey y = some k) : v = kV k := by
  cases y with
  | ob n => cases e
  | dat d =>
    cases d with
    | int i => cases e; cases (show Dp K I v (.int i) from r); rfl
    | str i => cases e; cases (show Dp K I v (.str i) from r); rfl
    | _ => cases e
theorem pairR_get {ks : List (Key × V)} {kvs : List (Key × Val)} (r : PairR K I β ks kvs) (k : Key) : (∀ x, dGet kvs k = some x → ∃ v, valV ks k = some v ∧ VR K I β v x) ∧ (dGet kvs k = none → valV ks k = none) := by
  induction r with
  | nil => exact ⟨fun x h => by simp [dGet] at h, fun _ => rfl⟩
  | @cons a b as bs h t ih =>
    obtain ⟨h1, h2⟩ := h
    by_cases e : a.1 = k
    · have e' : b.1 = k := h1 ▸ e
      rw [valV_pos e]
      have : dGet (b :: bs) k = some b.2 := by simp [dGet, List.find?_cons, e']
      rw [this]
      exact ⟨fun x hx => by cases hx; exact ⟨_, rfl, h2⟩, fun hx => by cases hx⟩
    · have e' : ¬ b.1 = k := fun z => e (h1.trans z)
      rw [valV_neg e]
      have : dGet (b :: bs) k = dGet bs k := by simp [dGet, List.find?_cons, e']
      rw [this]
      exact ih
theorem pairR_isSome {ks : List (Key × V)} {kvs : List (Key × Val)} (r : PairR K I β ks kvs) (k : Key) : (valV ks k).isSome = (dGet kvs k).isSome := by
  obtain ⟨h1, h2⟩ := pairR_get r k
  cases q : dGet kvs k with
  | none => rw [h2 q]; rfl
  | some x => obtain ⟨v, h3, _⟩ := h1 x q; rw [h3]; rfl
theorem pairR_any {ks : List (Key × V)} {kvs : List (Key × Val)} (r : PairR K I β ks kvs) (k : Key) : (ks.any fun kv => decide (kv.1 = k)) = kvs.any fun kv => decide (kv.1 = k) := by
  induction r with
  | nil => rfl
  | cons h t ih => rw [List.any_cons, List.any_cons, ih, h.1]
theorem paired_snoc {α β' : Type} {R : α → β' → Prop} {as : List α} {bs : List β'} (h : Paired R as bs) {a : α} {b : β'} (r : R a b) : Paired R (as ++ [a]) (bs ++ [b]) := by
  induction h with
  | nil => exact .cons r .nil
  | cons h t ih => exact .cons h ih
theorem pairR_map {ks : List (Key × V)} {kvs : List (Key × Val)} (r : PairR K I β ks kvs) {k : Key} {v : V} {x : Val} (h : VR K I β v x) : PairR K I β (ks.map fun kv => if kv.1 = k then (kv.1, v) else kv) (kvs.map fun kv => if kv.1 = k then (kv.1, x) else kv) := by
  induction r with
  | nil => exact .nil
  | @cons a b as bs h' t ih =>
    rw [List.map_cons, List.map_cons]
    refine .cons ?_ ih
    obtain ⟨h1, h2⟩ := h'
    by_cases e : a.1 = k
    · rw [if_pos e, if_pos (h1 ▸ e)]; exact ⟨h1, h⟩
    · rw [if_neg e, if_neg (fun z => e (h1.trans z))]; exact ⟨h1, h2⟩
theorem pairR_put {ks : List (Key × V)} {kvs : List (Key × Val)} (r : PairR K I β ks kvs) {k : Key} {v : V} {x : Val} (h : VR K I β v x) : PairR K I β (putK ks k v) (dPut kvs k x) := by
  unfold putK dPut
  rw [pairR_any r]
  split
  · exact pairR_map r h
  · exact paired_snoc r ⟨rfl, h⟩
theorem pairR_len {ks : List (Key × V)} {kvs : List (Key × Val)} (r : PairR K I β ks kvs) : ks.length = kvs.length := Paired.length r
theorem Sit.dct {v : V} {x : Val} {kvs : List (Key × Val)} (s : Sit K ca I H β M) (r : VR K I β v x) (e : dctOf M x = some kvs) :
    ∃ n p ks, x = .ob n ∧ β[n]? = some p ∧ v = .ref p ∧ M[n]? = some (.dct kvs) ∧ I p = none ∧ H p = some (.dK ks) ∧ PairR K I β ks kvs := by
  cases x with
  | dat d => cases e
  | ob n =>
    obtain ⟨p, h1, rfl⟩ := r
    simp only [dctOf] at e
    split at e
    · rename_i kvs' hM
      cases e
      obtain ⟨h2, ks, h3, h4⟩ := s.cell n _ p hM h1
      exact ⟨n, p, ks, rfl, h1, rfl, hM, h2, h3, h4⟩
    · cases e
end
def evDget (a b : Sm) : Sm := fun env M => (a env M).bind fun x M1 => (b env M1).bind fun y M2 => match dctOf M2 x, asKey y with
  | some kvs, some k => (match dGet kvs k with
    | some v => .ok v M2
    | none => .bad)
  | _, _ => .bad
def evDin (neg : Bool) (a b : Sm) : Sm := fun env M => (a env M).bind fun y M1 => (b env M1).bind fun x M2 => match dctOf M2 x, asKey y with
  | some kvs, some k => .ok (.dat (.bool (if neg then !(dGet kvs k).isSome else (dGet kvs k).isSome))) M2
  | _, _ => .bad
def evDget2 (a k d : Sm) : Sm := fun env M => (a env M).bind fun x M1 => match dctOf M1 x with
  | none => .bad
  | some _ => (k env M1).bind fun y M2 => (d env M2).bind fun z M3 => match dctOf M3 x, asKey y with
    | some kvs, some q => .ok ((dGet kvs q).getD z) M3
    | _, _ => .bad
section
variable {w : Mw} {W : WX} {X : Cx} {a b c : Expr} {ra rb rc : Sm} {pos apos cpos : Pos} {σ : St} {I H : Hp} {β : List Addr} {M : Mem}
theorem peM_dget (hu : X.A.units + 1 < cLine) (ha : PE X a (RE w W ra)) (hb : PE X b (RE w W rb)) (hs : NoSl b) : PE X (.Subscript a b pos) (RE w W (evDget ra rb)) :=
  pe_imp (pe_dget hu ha hb hs) fun σ H Q ⟨I, β, M, env, s, en, p⟩ => ⟨I, β, M, env, s, en, Post.imp (Post.seq p) fun v H1 ⟨I1, β1, M1, x, s1, e1, r1, p1⟩ => ⟨I1, β1, M1, env, s1, en.mono e1.toEx0, Post.imp (Post.seq p1) fun u H2 ⟨I2, β2, M2, y, s2, e2, r2, p2⟩ => by
    cases q1 : dctOf M2 x with
    | none => rw [q1] at p2; exact False.elim p2
    | some kvs =>
      cases q2 : asKey y with
      | none => rw [q1, q2] at p2; exact False.elim p2
      | some k =>
        rw [q1, q2] at p2
        cases q3 : dGet kvs k with
        | none => simp only [q3] at p2; exact False.elim p2
        | some z =>
          simp only [q3] at p2
          obtain ⟨n, pp, ks, rfl, h1, rfl, h2, h3, h4, h5⟩ := s2.dct (r1.mono e2.toEx0) q1
          obtain ⟨zv, g1, g2⟩ := (pairR_get h5 k).1 z q3
          exact ⟨pp, zv, rfl, .inl ⟨ks, k, .inl h4, key_of r2 q2, g1.symm⟩, p2 I2 H2 β2 zv s2 Ext.refl g2⟩⟩⟩
theorem peM_din (hu : X.A.units + 1 < cLine) (ha : PE X a (RE w W ra)) (hb : PE X b (RE w W rb)) (h1 : behindInMarks .In b = false) : PE X (.Compare a [.In] [b] pos) (RE w W (evDin false ra rb)) ∧ PT X (.Compare a [.In] [b] pos) (RT w W (toB (evDin false ra rb))) := by
  have key : ∀ σ H Q, RE w W (evDin false ra rb) σ H Q → tDIn (RE w W ra) (RE w W rb) σ H Q := fun σ H Q ⟨I, β, M, env, s, en, p⟩ => ⟨I, β, M, env, s, en, Post.imp (Post.seq p) fun v H1 ⟨I1, β1, M1, y, s1, e1, r1, p1⟩ => ⟨I1, β1, M1, env, s1, en.mono e1.toEx0, Post.imp (Post.seq p1) fun u H2 ⟨I2, β2, M2, x, s2, e2, r2, p2⟩ => by
    cases q1 : dctOf M2 x with
    | none => rw [q1] at p2; exact False.elim p2
    | some kvs =>
      cases q2 : asKey y with
      | none => rw [q1, q2] at p2; exact False.elim p2
      | some k =>
        rw [q1, q2] at p2
        obtain ⟨n, pp, ks, rfl, h1, rfl, h2, h3, h4, h5⟩ := s2.dct r2 q1
        refine ⟨pp, valV ks k, rfl, .inl ⟨ks, k, .inl h4, key_of (r1.mono e2.toEx0) q2, rfl⟩, ?_⟩
        rw [pairR_isSome h5]
        exact Post.dat0 p2 s2 (.bl _)⟩⟩
  exact ⟨pe_imp (pe_cmp (pc_din hu ha hb) h1) key, ptM_tB (pt_cmp (pc_din hu ha hb) h1) key⟩
theorem peM_dnin (hu : X.A.units + 1 < cLine) (ha : PE X a (RE w W ra)) (hb : PE X b (RE w W rb)) (h1 : behindInMarks .NotIn b = false) : PE X (.Compare a [.NotIn] [b] pos) (RE w W (evDin true ra rb)) ∧ PT X (.Compare a [.NotIn] [b] pos) (RT w W (toB (evDin true ra rb))) := by
  have key : ∀ σ H Q, RE w W (evDin true ra rb) σ H Q → tDNotIn (RE w W ra) (RE w W rb) σ H Q := fun σ H Q ⟨I, β, M, env, s, en, p⟩ => ⟨I, β, M, env, s, en, Post.imp (Post.seq p) fun v H1 ⟨I1, β1, M1, y, s1, e1, r1, p1⟩ => ⟨I1, β1, M1, env, s1, en.mono e1.toEx0, Post.imp (Post.seq p1) fun u H2 ⟨I2, β2, M2, x, s2, e2, r2, p2⟩ => by
    cases q1 : dctOf M2 x with
    | none => rw [q1] at p2; exact False.elim p2
    | some kvs =>
      cases q2 : asKey y with
      | none => rw [q1, q2] at p2; exact False.elim p2
      | some k =>
        rw [q1, q2] at p2
        obtain ⟨n, pp, ks, rfl, h1, rfl, h2, h3, h4, h5⟩ := s2.dct r2 q1
        refine ⟨pp, valV ks k, rfl, .inl ⟨ks, k, .inl h4, key_of (r1.mono e2.toEx0) q2, rfl⟩, ?_⟩
        rw [pairR_isSome h5]
        exact Post.dat0 p2 s2 (.bl _)⟩⟩
  exact ⟨pe_imp (pe_cmp (pc_dnotin hu ha hb) h1) key, ptM_tB (pt_cmp (pc_dnotin hu ha hb) h1) key⟩
theorem peM_dget2 (hu : X.A.units + 1 < cLine) (ha : PE X a (RE w W ra)) (hb : PE X b (RE w W rb)) (hc : PE X c (RE w W rc)) (m : M2 X a "get" apos b c cpos) : PE X (.Call (.Attribute a "get" apos) [b, c] [] cpos) (RE w W (evDget2 ra rb rc)) :=
  pe_imp (pe_dget2 hu ha hb hc m) fun σ H Q ⟨I, β, M, env, s, en, p⟩ => ⟨I, β, M, env, s, en, Post.imp (Post.seq p) fun v H1 ⟨I1, β1, M1, x, s1, e1, r1, p1⟩ => by
    cases q0 : dctOf M1 x with
    | none => rw [q0] at p1; exact False.elim p1
    | some kvs0 =>
      rw [q0] at p1
      simp only at p1
      obtain ⟨n0, pp0, ks0, ex0, _, ev0, _, _, h40, _⟩ := s1.dct r1 q0
      refine ⟨pp0, ev0, .inl ⟨ks0, .inl h40⟩, I1, β1, M1, env, s1, en.mono e1.toEx0, Post.imp (Post.seq p1) fun u H2 ⟨I2, β2, M2, y, s2, e2, r2, p2⟩ => ⟨I2, β2, M2, env, s2, (en.mono e1.toEx0).mono e2.toEx0, Post.imp (Post.seq p2) fun t H3 ⟨I3, β3, M3, z, s3, e3, r3, p3⟩ => ?_⟩⟩
      cases q1 : dctOf M3 x with
      | none => rw [q1] at p3; exact False.elim p3
      | some kvs =>
        cases q2 : asKey y with
        | none => rw [q1, q2] at p3; exact False.elim p3
        | some k =>
          rw [q1, q2] at p3
          simp only at p3
          obtain ⟨n, pp, ks, ex, h1, ev, h2, h3, h4, h5⟩ := s3.dct ((r1.mono e2.toEx0).mono e3.toEx0) q1
          rw [ev0] at ev
          cases ev
          refine ⟨valV ks k, .inl ⟨ks, k, .inl h4, key_of (r2.mono e3.toEx0) q2, rfl⟩, ?_⟩
          cases q3 : dGet kvs k with
          | none =>
            rw [(pairR_get h5 k).2 q3]
            rw [q3] at p3
            exact p3 I3 H3 β3 t s3 Ext.refl r3
          | some z' =>
            obtain ⟨zv, g1, g2⟩ := (pairR_get h5 k).1 z' q3
            rw [g1]
            rw [q3] at p3
            exact p3 I3 H3 β3 zv s3 Ext.refl g2⟩
/-! ### displays -/
def evPs : List Sm → Env → Mem → Res (List (Val × Val))
  | a :: b :: r => fun env M => (a env M).bind fun x M1 => (b env M1).bind fun y M2 => (evPs r env M2).bind fun ps M3 => .ok ((x, y) :: ps) M3
  | _ => fun _ M => .ok [] M
def pairK : List (Val × Val) → Option (List (Key × Val))
  | [] => some []
  | (k, v) :: r => match asKey k, pairK r with
    | some q, some t => some ((q, v) :: t)
    | _, _ => none
def mergeD {α : Type} (kvs more : List (Key × α)) : List (Key × α) := more.foldl (fun acc kv => dPut acc kv.1 kv.2) kvs
def evDisp (as : List Sm) : Sm := fun env M => (evPs as env M).bind fun xs M1 => match pairK xs with
  | some kvs => (match decide (kvs.length ≤ 15) with
    | true => .ok (.ob M1.length) (M1 ++ [.dct (mergeD [] kvs)])
    | false => .bad)
  | none => .bad
abbrev RPs (w : Mw) : Hp → Hp → List Addr → List (V × V) → List (Val × Val) → Prop := fun I _ β => Paired fun a b => VR w.K I β a.1 b.1 ∧ VR w.K I β a.2 b.2
def pairsTE (w : Mw) (W : WX) : List Sm → List (TE × TE)
  | a :: b :: r => (RE w W a, RE w W b) :: pairsTE w W r
  | _ => []
theorem pairs_run : ∀ (as : List Sm) {σ : St} {I H : Hp} {β : List Addr} {M : Mem} {env : Env} {Q : List (V × V) → Hp → Prop}, Sit w.K w.ca I H β M → EnvR w.K I β σ env → Post w W (RPs w) σ I H β Q (evPs as env M) → tPairs (pairsTE w W as) σ H Q
  | [], σ, I, H, β, M, env, Q, s, en, p => p I H β [] s Ext.refl .nil
  | [_], σ, I, H, β, M, env, Q, s, en, p => p I H β [] s Ext.refl .nil
  | a :: b :: r, σ, I, H, β, M, env, Q, s, en, p => ⟨I, β, M, env, s, en, Post.imp (Post.seq p) fun v H1 ⟨I1, β1, M1, x, s1, e1, r1, p1⟩ => ⟨I1, β1, M1, env, s1, en.mono e1.toEx0, Post.imp (Post.seq p1) fun u H2 ⟨I2, β2, M2, y, s2, e2, r2, p2⟩ =>
      pairs_run r s2 ((en.mono e1.toEx0).mono e2.toEx0) (Post.imp (Post.seq (R := RPs w) p2) fun ps H3 ⟨I3, β3, M3, xs, s3, e3, r3, p3⟩ => p3 I3 H3 β3 _ s3 Ext.refl (.cons ⟨(r1.mono e2.toEx0).mono e3.toEx0, r2.mono e3.toEx0⟩ r3))⟩⟩
theorem pairK_of {K : FrgT} {I : Hp} {β : List Addr} : ∀ {ps : List (V × V)} {xs : List (Val × Val)} {kvs : List (Key × Val)}, (Paired (fun (a : V × V) (b : Val × Val) => VR K I β a.1 b.1 ∧ VR K I β a.2 b.2) ps xs) → pairK xs = some kvs → ∃ ks : List (Key × V), ps = ks.map (fun kv => (kV kv.1, kv.2)) ∧ PairR K I β ks kvs
  | _, _, _, .nil, e => by cases e; exact ⟨[], rfl, .nil⟩
  | (v, u) :: _, (x, y) :: xs, _, .cons h t, e => by
    unfold pairK at e
    cases q1 : asKey x with
    | none => rw [q1] at e; cases e
    | some k =>
      cases q2 : pairK xs with
      | none => rw [q1, q2] at e; cases e
      | some r =>
        rw [q1, q2] at e
        cases e
        obtain ⟨ks, h1, h2⟩ := pairK_of t q2
        exact ⟨(k, u) :: ks, by rw [List.map_cons, ← h1, ← key_of h.1 q1], .cons ⟨rfl, h.2⟩ h2⟩
theorem pairR_merge {K : FrgT} {I : Hp} {β : List Addr} {more : List (Key × V)} {mre : List (Key × Val)} (r : PairR K I β more mre) : ∀ {ks : List (Key × V)} {kvs : List (Key × Val)}, PairR K I β ks kvs → PairR K I β (mergeK ks more) (mergeD kvs mre) := by
  induction r with
  | nil => exact fun h => h
  | @cons a b as bs h t ih =>
    intro ks kvs r0
    have := pairR_put r0 (k := a.1) h.2
    unfold mergeK mergeD
    rw [List.foldl_cons, List.foldl_cons, ← h.1]
    exact ih this
theorem Post.seq1 {α γ α' γ' : Type} {R : Hp → Hp → List Addr → γ → α → Prop} {R' : Hp → Hp → List Addr → γ' → α' → Prop} {Q : γ' → Hp → Prop} {r : Res α} {k : α → Mem → Res α'} {I0 H0 : Hp} {β0 : List Addr} (h : Post w W R' σ I H β Q (r.bind k)) (x : Ext I H β I0 H0 β0) :
    Post w W R σ I0 H0 β0 (fun v H1 => ∃ I1 β1 M1 y, Sit w.K w.ca I1 H1 β1 M1 ∧ Ext I0 H0 β0 I1 H1 β1 ∧ R I1 H1 β1 v y ∧ Post w W R' σ I H β Q (k y M1)) r := by
  cases r with
  | ok a M => exact fun I' H' β' v s e q => ⟨I', β', M, a, s, e, q, h⟩
  | exc e M => exact fun I' H' β' c d s y q => h I' H' β' c d s (x.trans y) q
  | bad => exact h
theorem peM_disp {keys : List (Option Expr)} {values : List Expr} {as : List Sm} (h : PPs X pos keys values (pairsTE w W as)) (hall : keys.all (·.isSome) = true) (hl : keys.length = values.length) (h0 : keys ≠ []) (h15 : keys.length ≤ 15) : PE X (.Dict keys values pos) (RE w W (evDisp as)) :=
  pe_imp (pe_disp h hall hl h0 h15) fun σ H Q ⟨I, β, M, env, s, en, p⟩ q hq => by
    have hI := s.sub.free hq
    have hb : q ∉ β := fun z => s.trk q z hq
    refine pairs_run as (s.free (o := .dK []) hI hb) en (Post.imp (Post.seq1 (R := RPs w) p (Ext.refl.free hq)) fun ps H2 ⟨I2, β2, M2, xs, s2, e2, r2, p2⟩ => ?_)
    obtain ⟨f1, f2, f3⟩ := e2.frm q (.dK []) upd_same hI hb
    refine ⟨f1, ?_⟩
    cases q1 : pairK xs with
    | none => rw [q1] at p2; exact False.elim p2
    | some kvs =>
      rw [q1] at p2
      simp only at p2
      cases q2 : decide (kvs.length ≤ 15) with
      | false => rw [q2] at p2; exact False.elim p2
      | true =>
        rw [q2] at p2
        obtain ⟨ks, h1, h2⟩ := pairK_of r2 q1
        refine ⟨ks, h1, by rw [pairR_len h2]; exact of_decide_eq_true q2, ?_⟩
        have s3 := s2.free (o := .dK (mergeK [] ks)) f2 f3
        have x3 : Ext I H β I2 (upd H2 q (.dK (mergeK [] ks))) (β2 ++ [q]) := (((Ext.refl.free hq).trans e2).free hq).adopt hq
        refine p2 I2 _ (β2 ++ [q]) (.ref q) (s3.adopt (by rw [upd_same]; exact fun z => nomatch z) f3 ⟨f2, _, upd_same, (pairR_merge h2 .nil).mono ⟨Same.refl _, fun n a z => by rw [List.getElem?_append_left (List.getElem?_eq_some_iff.mp z).1]; exact z⟩⟩) x3 ⟨q, ?_, rfl⟩
        rw [← s2.len]
        simp
/-! ### o[i] = v -/
def putC (x y z : Val) (M : Mem) : Option Mem := match x with
  | .ob n => (match M[n]? with
    | some (.lst xs) => (match y with
      | .dat (.int k) => (match ixN xs.length k with
        | some j => some (M.set n (.lst (xs.set j z)))
        | none => none)
      | _ => none)
    | some (.dct kvs) => (match asKey y, decide (kvs.length < 16777216) with
      | some k, true => some (M.set n (.dct (dPut kvs k z)))
      | _, _ => none)
    | _ => none)
  | _ => none
def exPut (o i v : Sm) : Ss := fun env M => ofE (v env M) env fun z M1 => ofE (o env M1) env fun x M2 => ofE (i env M2) env fun y M3 => match putC x y z M3 with
  | some M4 => .ok (.nx env) M4
  | none => .bad
def rSetLD : TSet := fun o i v H Q => rSetL o i v H Q ∨ rSetD o i v H Q
theorem set_LD (hu : X.A.units + 1 < cLine) : PSet X rSetLD := by
  intro pins s σ H o i v ov iv u Q I ro ri rv h
  rcases h with h | h
  · exact set_list pins s σ H o i v ov iv u Q I ro ri rv h
  · exact set_dict hu pins s σ H o i v ov iv u Q I ro ri rv h
theorem vrs_set {K : FrgT} {I : Hp} {β : List Addr} {v : V} {x : Val} (h : VR K I β v x) : ∀ {vs : List V} {xs : List Val} (j : Nat), VRs K I β vs xs → VRs K I β (vs.set j v) (xs.set j x)
  | _, _, _, .nil => .nil
  | _, _, 0, .cons _ t => .cons h t
  | _, _, j + 1, .cons r t => .cons r (vrs_set h j t)
theorem putC_ok {I H : Hp} {β : List Addr} {M M1 : Mem} {x y z : Val} {o i v : V} {Q : Hp → Prop} (s : Sit w.K w.ca I H β M) (rx : VR w.K I β o x) (ry : VR w.K I β i y) (rz : VR w.K I β v z) (e : putC x y z M = some M1)
    (q : ∀ H', Sit w.K w.ca I H' β M1 → Ext I H β I H' β → Q H') : rSetLD o i v H Q := by
  cases x with
  | dat d => cases e
  | ob n =>
    obtain ⟨p, h1, rfl⟩ := rx
    simp only [putC] at e
    have hp : p ∈ β := List.mem_of_getElem? h1
    split at e
    · rename_i xs hM
      obtain ⟨hi, vs, h2, h3⟩ := s.cell n _ p hM h1
      split at e
      · rename_i k
        split at e
        · rename_i j hj
          cases e
          cases (show Dp w.K I i (.int k) from ry)
          refine .inl ⟨p, vs, k, j, rfl, rfl, h2, by rw [Paired.length h3]; exact hj, q _ (s.put h1 hi ?_) (Ext.put hp)⟩
          exact ⟨hi, _, upd_same, vrs_set rz j h3⟩
        · cases e
      · cases e
    · rename_i kvs hM
      obtain ⟨hi, ks, h2, h3⟩ := s.cell n _ p hM h1
      split at e
      · rename_i k q1 q2
        cases e
        have hsz : sizeLine = 16777216 := sizeLine_eq
        refine .inr ⟨p, _, rfl, .inl ⟨ks, k, h2, key_of ry q1, by rw [pairR_len h3, hsz]; exact of_decide_eq_true q2, rfl⟩, q _ (s.put h1 hi ?_) (Ext.put hp)⟩
        exact ⟨hi, _, upd_same, pairR_put h3 rz⟩
      · cases e
    · cases e
theorem psM_put {o i e : Expr} {p2 : Pos} {ro ri rv : Sm} (hu : X.A.units + 1 < cLine) (ho : PE X o (RE w W ro)) (hi : PE X i (RE w W ri)) (he : PE X e (RE w W rv)) (hg : PG X (.Subscript o i p2) (gSub (RE w W ro) (RE w W ri) rSetLD))
    (hs : swapsWithSole [.Subscript o i p2] e pos.line X.env = pure false) : PS X (.Assign [.Subscript o i p2] e pos) (RS w W (exPut ro ri rv)) :=
  ps_imp (ps_asg he hg hs) fun D σ H ⟨I, β, M, env, s, en, p⟩ => ⟨I, β, M, env, s, en, Post.imp (PostS.ofE p en) fun v H1 ⟨I1, β1, M1, z, s1, en1, e1, r1, p1⟩ => ⟨I1, β1, M1, env, s1, en1, Post.imp (PostS.ofE p1 en1) fun x' H2 ⟨I2, β2, M2, x, s2, en2, e2, r2, p2⟩ =>
    ⟨I2, β2, M2, env, s2, en2, Post.imp (PostS.ofE p2 en2) fun y' H3 ⟨I3, β3, M3, y, s3, en3, e3, r3, p3⟩ => by
      cases q : putC x y z M3 with
      | none => rw [q] at p3; exact False.elim p3
      | some M4 =>
        rw [q] at p3
        exact putC_ok s3 (r2.mono e3.toEx0) r3 ((r1.mono e2.toEx0).mono e3.toEx0) q fun H' s4 x4 => p3 I3 H' β3 σ s4 x4 en3⟩⟩⟩
/-! ### o.append(v) -/
def lstOf (M : Mem) : Val → Option (List Val)
  | .ob n => match M[n]? with
    | some (.lst xs) => some xs
    | _ => none
  | _ => none
def appC (x z : Val) (M : Mem) : Option Mem := match x with
  | .ob n => (match M[n]? with
    | some (.lst xs) => (match decide (xs.length < 16777216) with
      | true => some (M.set n (.lst (xs ++ [z])))
      | false => none)
    | _ => none)
  | _ => none
def exApp (o v : Sm) : Ss := fun env M => ofE (o env M) env fun x M1 => match lstOf M1 x with
  | none => .bad
  | some _ => ofE (v env M1) env fun z M2 => match appC x z M2 with
    | some M3 => .ok (.nx env) M3
    | none => .bad
theorem Sit.lst {K : FrgT} {ca : Str → Addr} {I H : Hp} {β : List Addr} {M : Mem} {v : V} {x : Val} {xs : List Val} (s : Sit K ca I H β M) (r : VR K I β v x) (e : lstOf M x = some xs) :
    ∃ n p vs, x = .ob n ∧ β[n]? = some p ∧ v = .ref p ∧ M[n]? = some (.lst xs) ∧ I p = none ∧ H p = some (.lst vs) ∧ VRs K I β vs xs := by
  cases x with
  | dat d => cases e
  | ob n =>
    obtain ⟨p, h1, rfl⟩ := r
    simp only [lstOf] at e
    split at e
    · rename_i xs' hM
      cases e
      obtain ⟨h2, ks, h3, h4⟩ := s.cell n _ p hM h1
      exact ⟨n, p, ks, rfl, h1, rfl, hM, h2, h3, h4⟩
    · cases e
theorem appC_of {x z : Val} {M M1 : Mem} (e : appC x z M = some M1) : ∃ n xs, x = .ob n ∧ M[n]? = some (.lst xs) ∧ xs.length < 16777216 ∧ M1 = M.set n (.lst (xs ++ [z])) := by
  cases x with
  | dat d => cases e
  | ob n =>
    simp only [appC] at e
    split at e
    · rename_i xs hM
      split at e
      · rename_i h
        cases e
        exact ⟨n, xs, rfl, hM, of_decide_eq_true h, rfl⟩
      · cases e
    · cases e
theorem psM_app {o v : Expr} {ro rv : Sm} (hp : PS X (.Expr (.Call (.Attribute o "append" apos) [v] [] cpos) pos) (tDrop (tBM X.K "list" rAppend (RE w W ro) (RA w W (evs [rv]))))) :
    PS X (.Expr (.Call (.Attribute o "append" apos) [v] [] cpos) pos) (RS w W (exApp ro rv)) :=
  ps_imp hp fun D σ H ⟨I, β, M, env, s, en, p⟩ => ⟨I, β, M, env, s, en, Post.imp (PostS.ofE p en) fun x' H1 ⟨I1, β1, M1, x, s1, en1, e1, r1, p1⟩ => by
    cases q : lstOf M1 x with
    | none => rw [q] at p1; exact False.elim p1
    | some xs0 =>
      rw [q] at p1
      simp only at p1
      obtain ⟨n, pp, vs, rfl, h1, rfl, h2, h3, h4, h5⟩ := s1.lst r1 q
      refine ⟨.inl ⟨rfl, vs, .inl (.inl h4)⟩, I1, β1, M1, env, s1, en1, ?_⟩
      cases q2 : rv env M1 with
      | bad => rw [q2] at p1; exact False.elim p1
      | exc ex M2 =>
        rw [q2] at p1
        simp only [evs, q2, Res.bind_exc]
        exact fun I' H' β' c d s' x' y' => p1 I' H' β' σ c d s' x' (en1.mono x'.toEx0) y'
      | ok z M2 =>
        rw [q2] at p1
        simp only [evs, q2, Res.bind_ok]
        intro I' H' β' us s' x' ru
        simp only [ofE_ok] at p1
        cases q3 : appC (.ob n) z M2 with
        | none => rw [q3] at p1; exact False.elim p1
        | some M3 =>
          rw [q3] at p1
          obtain ⟨n', xs, e0, hM, hl, rfl⟩ := appC_of q3
          cases e0
          have hb := x'.adr n pp h1
          obtain ⟨hi, vs', g1, g2⟩ := s'.cell n _ pp hM hb
          cases ru with
          | cons ru t =>
            cases t
            have hsz : sizeLine = 16777216 := sizeLine_eq
            refine ⟨pp, vs', _, rfl, rfl, g1, by rw [Paired.length g2, hsz]; exact hl, ?_⟩
            exact p1 I' _ β' σ (s'.put hb hi ⟨hi, _, upd_same, paired_snoc g2 ru⟩) (x'.trans (Ext.put (List.mem_of_getElem? hb))) (en1.mono x'.toEx0)⟩
end
end MP
set_option Elab.async false
set_option linter.all false
set_option maxRecDepth 100000
set_option maxHeartbeats 2000000
/-! MQ3: list + list as a cell, split, find, index. -/
namespace MP
open PySem PySem.Spec PyProof.Rows L2
def OkNew2 (K : FrgT) (r : R2) (f : PyData → PyData → Option (List PyData)) : Prop := ∀ (I H : Hp) (x y : V) (d e : PyData) (zs : List PyData) (Q : VK), Same I H → VW K I H x d → VW K I H y e → f d e = some zs → (∀ p vs, H p = none → DpAll K I vs zs → Q (.ref p) (upd H p (.lst vs))) → r x y H Q
def siNew2 (f : PyData → PyData → Option (List PyData)) (a b : Sm) : Si := fun env M => (a env M).bind fun x M1 => (b env M1).bind fun y M2 => match view M2 x, view M2 y with
  | some d, some e => (match f d e with
    | some zs => .ok zs M2
    | none => .bad)
  | _, _ => .bad
def catD : PyData → PyData → Option (List PyData)
  | .list xs, .list ys => if xs.length + ys.length ≤ 16777216 then some (xs ++ ys) else none
  | _, _ => none
def siSplit (a b : Sm) : Si := fun env M => (a env M).bind fun x M1 => match x with
  | .dat (.str z) => (b env M1).bind fun y M2 => match y with
    | .dat (.str t) => (match decide ((t.length == 0) = false ∧ z.length + 2 ≤ 16777216) with
      | true => .ok ((Txt.split z t).map .str) M2
      | false => .bad)
    | _ => .bad
  | _ => .bad
def evFind (a b : Sm) : Sm := fun env M => (a env M).bind fun x M1 => match x with
  | .dat (.str z) => (b env M1).bind fun y M2 => match y with
    | .dat (.str t) => .ok (.dat (.int (Txt.find z t))) M2
    | _ => .bad
  | _ => .bad
def isLst (M : Mem) (x : Val) : Bool := match view M x with
  | some (.list _) => true
  | _ => false
/-- the first place of an equal -/
def findIx (d : PyData) : List PyData → Nat → Option Nat
  | [], _ => none
  | x :: xs, i => if PyData.eqv x d = true then some i else findIx d xs (i + 1)
def indexD : PyData → PyData → Option PyData
  | .list xs, d => if (flatD d && xs.all flatD) = true then (findIx d xs 0).map fun i => .int (i : Nat) else none
  | _, _ => none
def evIndex (a b : Sm) : Sm := fun env M => (a env M).bind fun x M1 => match isLst M1 x with
  | true => (b env M1).bind fun y M2 => v2 indexD x y M2
  | false => .bad
section
variable {w : Mw} {W : WX} {X : Cx} {a b : Expr} {ra rb : Sm} {pos apos cpos : Pos} {σ : St} {I H : Hp} {β : List Addr} {M : Mem}
theorem new2_post {H0 I1 H1 : Hp} {β1 : List Addr} {M1 : Mem} {Q : VK} {x y : V} {u v : Val} {r : R2} {f : PyData → PyData → Option (List PyData)} (ok : OkNew2 w.K r f) (s : Sit w.K w.ca I1 H1 β1 M1) (ru : VR w.K I1 β1 x u) (rv : VR w.K I1 β1 y v) (e0 : ∀ a, H1 a = none → H0 a = none)
    (h : Post w W (RN w H0) σ I1 H1 β1 Q (match view M1 u, view M1 v with
      | some d, some e => (match f d e with
        | some zs => .ok zs M1
        | none => .bad)
      | _, _ => .bad)) : r x y H1 Q := by
  cases q1 : view M1 u with
  | none => rw [q1] at h; exact False.elim h
  | some d =>
    cases q2 : view M1 v with
    | none => rw [q1, q2] at h; exact False.elim h
    | some e =>
      rw [q1, q2] at h
      cases q3 : f d e with
      | none => simp only [q3] at h; exact False.elim h
      | some zs =>
        simp only [q3] at h
        refine ok I1 H1 x y d e zs Q s.sub (s.view ru q1) (s.view rv q2) q3 fun a us ha dd => ?_
        have hI := s.sub.free ha
        have hb : a ∉ β1 := fun z => s.trk a z ha
        exact h I1 _ β1 _ (s.free hI hb) (Ext.refl.free ha) ⟨a, us, rfl, e0 a ha, upd_same, hI, hb, dd⟩
theorem peF_op2 {op : Operator} {r : R2} {f : PyData → PyData → Option (List PyData)} (hr : OpR X (binaryOp op) r) (ok : OkNew2 w.K r f) (ha : PE X a (RE w W ra)) (hb : PE X b (RE w W rb)) : PE X (.BinOp a op b pos) (RF w W (siNew2 f ra rb)) :=
  pe_imp (pe_op hr ha hb) fun σ H Q ⟨I, β, M, env, s, en, p⟩ => ⟨I, β, M, env, s, en, Post.imp (Post.seq (R := RV w) p) fun v H1 ⟨I1, β1, M1, x, s1, e1, r1, p1⟩ => ⟨I1, β1, M1, env, s1, en.mono e1.toEx0, Post.imp (Post.seq (R := RV w) p1) fun u H2 ⟨I2, β2, M2, y, s2, e2, r2, p2⟩ =>
    new2_post ok s2 (r1.mono e2.toEx0) r2 (fun a h => e1.none s1 (e2.none s2 h)) p2⟩⟩
theorem ok_cat {K : FrgT} : OkNew2 K (rCatL K) catD := fun I H x y d e zs Q s hx hy f q => by
  have hsz : sizeLine = 16777216 := sizeLine_eq
  unfold catD at f
  split at f
  · split at f
    · rename_i hl
      cases f
      obtain ⟨a, vs, rfl, h1, h2⟩ := VW.list s hx
      obtain ⟨b, us, rfl, h3, h4⟩ := VW.list s hy
      exact ⟨a, b, vs, us, rfl, rfl, h1, h3, by rw [dpAll_len h2, dpAll_len h4, hsz]; exact hl, fun p hp => q p _ hp (dpAll_append h2 h4)⟩
    · cases f
  · cases f
theorem peF_cat (hK : X.K = w.K) (ha : PE X a (RE w W ra)) (hb : PE X b (RE w W rb)) : PE X (.BinOp a .Add b pos) (RF w W (siNew2 catD ra rb)) := peF_op2 op_catL (by rw [hK]; exact ok_cat) ha hb
theorem peF_split (ha : PE X a (RE w W ra)) (hb : PE X b (RE w W rb)) (hs : starEach [b] X.env = [(false, eval b X.env)]) (hbase : attributeBase a "split" X.env (eval a X.env) = eval a X.env) (hline : (apos.endLine == pos.line) = true) :
    PE X (.Call (.Attribute a "split" apos) [b] [] pos) (RF w W (siSplit ra rb)) :=
  pe_imp (pe_split ha hb hs hbase hline) fun σ H Q ⟨I, β, M, env, s, en, p⟩ => ⟨I, β, M, env, s, en, Post.imp (Post.seq (R := RV w) p) fun v H1 ⟨I1, β1, M1, x, s1, e1, r1, p1⟩ => by
    have hsz : sizeLine = 16777216 := sizeLine_eq
    split at p1
    · rename_i z
      cases (show Dp w.K I1 v (.str z) from r1)
      refine ⟨⟨z, rfl⟩, I1, β1, M1, env, s1, en.mono e1.toEx0, Post.imp (Post.seq (R := RV w) p1) fun u H2 ⟨I2, β2, M2, y, s2, e2, r2, p2⟩ => ?_⟩
      split at p2
      · rename_i t
        cases (show Dp w.K I2 u (.str t) from r2)
        split at p2
        · rename_i hc
          have hc := of_decide_eq_true hc
          refine ⟨z, t, rfl, rfl, hc.1, by rw [hsz]; exact hc.2, fun q hq => ?_⟩
          have hI := s2.sub.free hq
          have hb : q ∉ β2 := fun z => s2.trk q z hq
          exact p2 I2 _ β2 _ (s2.free hI hb) (Ext.refl.free hq) ⟨q, _, rfl, e1.none s1 (e2.none s2 hq), upd_same, hI, hb, dpAll_strs _⟩
        · exact False.elim p2
      · exact False.elim p2
    · exact False.elim p1⟩
theorem peM_find (ha : PE X a (RE w W ra)) (hb : PE X b (RE w W rb)) (hs : starEach [b] X.env = [(false, eval b X.env)]) (hbase : attributeBase a "find" X.env (eval a X.env) = eval a X.env) (hline : (apos.endLine == pos.line) = true) :
    PE X (.Call (.Attribute a "find" apos) [b] [] pos) (RE w W (evFind ra rb)) :=
  pe_imp (pe_m1 F.slot_str_find F.type_str_find mt_find ha hb hs hbase hline) fun σ H Q ⟨I, β, M, env, s, en, p⟩ => ⟨I, β, M, env, s, en, Post.imp (Post.seq (R := RV w) p) fun v H1 ⟨I1, β1, M1, x, s1, e1, r1, p1⟩ => by
    split at p1
    · rename_i z
      cases (show Dp w.K I1 v (.str z) from r1)
      refine ⟨⟨z, rfl⟩, I1, β1, M1, env, s1, en.mono e1.toEx0, Post.imp (Post.seq (R := RV w) p1) fun u H2 ⟨I2, β2, M2, y, s2, e2, r2, p2⟩ => ?_⟩
      split at p2
      · rename_i t
        cases (show Dp w.K I2 u (.str t) from r2)
        exact ⟨z, t, rfl, rfl, Post.dat0 p2 s2 (.int _)⟩
      · exact False.elim p2
    · exact False.elim p1⟩
theorem findIx_ok {K : FrgT} {I : Hp} {v : V} {d : PyData} (hv : Dp K I v d) (fd : flatD d = true) : ∀ (vs : List V) (ds : List PyData) (k j : Nat), DpAll K I vs ds → ds.all flatD = true → findIx d ds k = some j → ∃ i z, j = k + i ∧ vs[i]? = some z ∧ eqV z v = true ∧ ∀ (m : Nat) (z' : V), m < i → vs[m]? = some z' → eqV z' v = false
  | _, [], k, j, h, _, e => by simp [findIx] at e
  | _, d0 :: ds, k, j, .cons r t, fa, e => by
    rw [List.all_cons, Bool.and_eq_true] at fa
    unfold findIx at e
    split at e
    · rename_i hq
      cases e
      exact ⟨0, _, rfl, rfl, by rw [dp_eqV r hv fa.1 fd]; exact hq, fun m z' h => absurd h (Nat.not_lt_zero _)⟩
    · rename_i hq
      obtain ⟨i, z, h1, h2, h3, h4⟩ := findIx_ok hv fd _ ds (k + 1) j t fa.2 e
      refine ⟨i + 1, z, by omega, by simpa using h2, h3, fun m z' hm hz => ?_⟩
      cases m with
      | zero =>
        simp at hz
        subst hz
        rw [dp_eqV r hv fa.1 fd]
        exact Bool.eq_false_iff.mpr hq
      | succ m => exact h4 m z' (by omega) (by simpa using hz)
theorem peM_index (hK : X.K = w.K) (hp : PE X (.Call (.Attribute a "index" apos) [b] [] pos) (tBM X.K "list" (rIndex X.K) (RE w W ra) (RA w W (evs [rb])))) : PE X (.Call (.Attribute a "index" apos) [b] [] pos) (RE w W (evIndex ra rb)) :=
  pe_imp hp fun σ H Q ⟨I, β, M, env, s, en, p⟩ => ⟨I, β, M, env, s, en, Post.imp (Post.seq (R := RV w) p) fun v H1 ⟨I1, β1, M1, x, s1, e1, r1, p1⟩ => by
    split at p1
    · rename_i hl
      have hv : ∃ xs, view M1 x = some (.list xs) := by
        unfold isLst at hl
        split at hl
        · exact ⟨_, by assumption⟩
        · cases hl
      obtain ⟨xs0, hv⟩ := hv
      obtain ⟨a0, vs0, rfl, g1, g2⟩ := VW.list s1.sub (s1.view r1 hv)
      refine ⟨.inl ⟨rfl, vs0, by rw [hK]; exact g1⟩, I1, β1, M1, env, s1, en.mono e1.toEx0, ?_⟩
      have key : ∀ u H2, (∃ I2 β2 M2 y, Sit w.K w.ca I2 H2 β2 M2 ∧ Ext I1 H1 β1 I2 H2 β2 ∧ VR w.K I2 β2 u y ∧ Post w W (RV w) σ I2 H2 β2 Q (v2 indexD x y M2)) → rIndex X.K (.ref a0) [u] H2 Q := by
        rintro u H2 ⟨I2, β2, M2, y, s2, e2, r2, p2⟩
        rw [hK]
        refine Post.v2 (r := fun x y H Q => rIndex w.K x [y] H Q) p2 (fun I H x y d e z Q sm hx hy f q => ?_) s2 (r1.mono e2.toEx0) r2
        unfold indexD at f
        split at f
        · rename_i xs
          split at f
          · rename_i hf
            rw [Bool.and_eq_true] at hf
            cases q5 : findIx e xs 0 with
            | none => rw [q5] at f; cases f
            | some j =>
              rw [q5] at f
              cases f
              obtain ⟨a, vs, rfl, h1, h2⟩ := VW.list sm hx
              have dy : Dp w.K H y e := hy.dp sm
              obtain ⟨i, zz, k1, k2, k3, k4⟩ := findIx_ok dy hf.1 vs xs 0 j (h2.mono sm) hf.2 q5
              rw [Nat.zero_add] at k1
              subst k1
              exact ⟨a, vs, y, j, zz, rfl, rfl, h1, dp_flat dy hf.1, dpAll_flat h2 hf.2, k2, k3, k4, old_val sm q (.int _)⟩
          · cases f
        · cases f
      cases q2 : rb env M1 with
      | bad => rw [q2] at p1; exact False.elim p1
      | exc ex M2 =>
        rw [q2] at p1
        simp only [evs, q2, Res.bind_exc]
        exact p1
      | ok z M2 =>
        rw [q2] at p1
        simp only [evs, q2, Res.bind_ok]
        simp only [Res.bind_ok] at p1
        intro I' H' β' us s' x' ru
        cases ru with
        | cons ru t =>
          cases t
          exact key _ _ ⟨I', β', M2, z, s', x', ru, Post.ext p1 x'⟩
    · exact False.elim p1⟩
end
end MP
set_option Elab.async false
set_option linter.all false
set_option maxRecDepth 100000
set_option maxHeartbeats 4000000
/-! MP10: the small language: expressions as terms, what they say, the check against the text, soundness. -/
namespace MP
open PySem PySem.Spec PyProof.Rows L2
inductive Bin where
  | add | sub | mod | fdiv | pow | mul
inductive Cmp where
  | eq | ne | lt | le | gt | ge | isin | nin | is | nis
inductive Bf where
  | len | all | any | sum | int | tup
inductive Bn where
  | list
inductive ItK where
  | seq | zip | rng1 | rng2
inductive E where
  | var (i : Nat)
  | lit (d : PyData)
  | con (x : Str)
  | bin (o : Bin) (a b : E)
  | cmp (o : Cmp) (a b : E)
  | chain (o o' : Cmp) (a b c : E)
  | neg (a : E)
  | not (a : E)
  | and (es : List E)
  | or (es : List E)
  | ite (c a b : E)
  | tup (es : List E)
  | lst (c : Bool) (es : List E)
  | bf (f : Bf) (es : List E)
  | bn (c : Bool) (f : Bn) (es : List E)
  | isi (T : Ty) (a : E)
  | lower (a : E)
  | upper (a : E)
  | join (a b : E)
  | idx (a b : E)
  | sl (a : E) (lo hi : List E)
  | call (f : Str) (es : List E)
  | cat (c : Bool) (a b : E)
  | split (c : Bool) (a b : E)
  | find (a b : E)
  | index (a b : E)
  | dget (a b : E)
  | din (neg : Bool) (a b : E)
  | dget2 (a k d : E)
  | disp (es : List E)
  | lc (c : Bool) (k : ItK) (ies : List E) (t : Tg) (own : List (Str × Nat)) (ifs : List E) (elt : E)
/-! ### what they say -/
def mulTD : PyData → PyData → Option PyData
  | .int i, .int j => mulD (.int i) (.int j)
  | .tuple (x :: xs), .int k => if 2 ≤ k ∧ k ≤ 1000 ∧ (x :: xs).length ≤ 1000 then some (.tuple (List.replicate k.toNat (x :: xs)).flatten) else none
  | _, _ => none
def Bin.f : Bin → PyData → PyData → Option PyData
  | .add => addD
  | .sub => subD
  | .mod => modD
  | .fdiv => fdivD
  | .pow => powD
  | .mul => mulTD
def isD : PyData → PyData → Option Bool
  | d, .none => some (isN d)
  | .bool a, .bool b => some (decide (a = b))
  | _, _ => none
def Cmp.f : Cmp → PyData → PyData → Option PyData
  | .eq => fun d e => bD (eqD d e)
  | .ne => fun d e => bD ((eqD d e).map not)
  | .lt => fun d e => bD (ltD d e)
  | .le => fun d e => bD (leD d e)
  | .gt => fun d e => bD (gtD d e)
  | .ge => fun d e => bD (geD d e)
  | .isin => fun d e => bD ((inD d e).map fun b => if false then !b else b)
  | .nin => fun d e => bD ((inD d e).map fun b => if true then !b else b)
  | .is => fun d e => bD (isD d e)
  | .nis => fun d e => bD ((isD d e).map not)
def Bf.f : Bf → List PyData → Option PyData
  | .len => lenD
  | .all => allD
  | .any => anyD
  | .sum => sumD
  | .int => intD
  | .tup => tupleD
def Bn.f : Bn → List PyData → Option (List PyData)
  | .list => listD
def evJoin (a b : Sm) : Sm := fun env M => (a env M).bind fun x M1 => match x with
  | .dat (.str z) => (b env M1).bind fun y M2 => v2 joinD x y M2
  | _ => .bad
def newK (c : Bool) (r : Si) : Sm := match c with
  | true => cel r
  | false => frz r
def siNew (f : List PyData → Option (List PyData)) (as : Sms) : Si := fun env M => (as env M).bind fun xs M1 => match views M1 xs with
  | some ds => (match f ds with
    | some zs => .ok zs M1
    | none => .bad)
  | none => .bad
def evIt : ItK → List Sm → Si
  | .seq, [a] => siSeq a
  | .zip, as => siZip (evs as)
  | .rng1, as => siRng (evs as)
  | .rng2, as => siRng2 (evs as)
  | _, _ => fun _ _ => .bad
def part : List Sm → Option Sm
  | [] => none
  | a :: _ => some a
structure Cfg where
  w : Mw
  cf : Str → Cf
  gl : Str → Option PyData
  known : Str → Bool
  n : Nat
def evCon : Option PyData → Sm
  | some d => evLit d
  | none => fun _ _ => .bad
mutual
def evE (C : Cfg) : E → Sm
  | .var i => evVar i
  | .lit d => evLit d
  | .con x => evCon (C.gl x)
  | .bin o a b => ev2 o.f (evE C a) (evE C b)
  | .cmp o a b => ev2 o.f (evE C a) (evE C b)
  | .chain o o' a b c => evCh o.f o'.f (evE C a) (evE C b) (evE C c)
  | .neg a => ev1 negD (evE C a)
  | .not a => ev1 notD (evE C a)
  | .and es => evAnd (evEs C es)
  | .or es => evOr (evEs C es)
  | .ite c a b => evIf (evE C c) (evE C a) (evE C b)
  | .tup es => evTup (evs (evEs C es))
  | .lst c es => newK c (evLst (evs (evEs C es)))
  | .bf f es => evn f.f (evs (evEs C es))
  | .bn c f es => newK c (siNew f.f (evs (evEs C es)))
  | .isi T a => ev1 (isiD T) (evE C a)
  | .lower a => ev1 lowerD (evE C a)
  | .upper a => ev1 upperD (evE C a)
  | .join a b => evJoin (evE C a) (evE C b)
  | .idx a b => ev2 idxD (evE C a) (evE C b)
  | .sl a lo hi => evSl (evE C a) (part (evEs C lo)) (part (evEs C hi))
  | .call f es => evCall (C.cf f) (evs (evEs C es))
  | .cat c a b => newK c (siNew2 catD (evE C a) (evE C b))
  | .split c a b => newK c (siSplit (evE C a) (evE C b))
  | .find a b => evFind (evE C a) (evE C b)
  | .index a b => evIndex (evE C a) (evE C b)
  | .dget a b => evDget (evE C a) (evE C b)
  | .din neg a b => evDin neg (evE C a) (evE C b)
  | .dget2 a k d => evDget2 (evE C a) (evE C k) (evE C d)
  | .disp es => evDisp (evEs C es)
  | .lc c k ies t own ifs elt => newK c (evLc (evIt k (evEs C ies)) t (own.map (·.2)) (part (evEs C ifs)) (evE C elt))
def evEs (C : Cfg) : List E → List Sm
  | [] => []
  | e :: es => evE C e :: evEs C es
end
/-- may stand as a test -/
def E.isTest : E → Bool
  | .var _ | .lit _ | .cmp _ _ _ | .chain _ _ _ _ _ | .not _ | .and _ | .or _ | .bf _ _ | .isi _ _ | .idx _ _ | .call _ _ | .dget _ _ | .din _ _ _ => true
  | _ => false
/-! ### the text it stands for -/
def Bin.op : Bin → Operator
  | .add => .Add
  | .sub => .Sub
  | .mod => .Mod
  | .fdiv => .FloorDiv
  | .pow => .Pow
  | .mul => .Mult
def Cmp.op : Cmp → CmpOp
  | .eq => .Eq
  | .ne => .NotEq
  | .lt => .Lt
  | .le => .LtE
  | .gt => .Gt
  | .ge => .GtE
  | .isin => .In
  | .nin => .NotIn
  | .is => .Is
  | .nis => .IsNot
def Bf.nm : Bf → Str
  | .len => "len"
  | .all => "all"
  | .any => "any"
  | .sum => "sum"
  | .int => "int"
  | .tup => "tuple"
def Bn.nm : Bn → Str
  | .list => "list"
/-- where a text is read: the names by slot, the scope, the names whose cells were made here -/
structure Pl where
  N : List Str
  sc : Scope
  fb : Str → Bool
def Pl.vis (P : Pl) (x : Str) : Bool := match P.sc.names.lookup x with
  | some .local => true
  | some .cell => true
  | some .free => true
  | _ => false
/-- a name to store -/
def Pl.sto (P : Pl) (x : Str) : Bool := match P.sc.names.lookup x with
  | some .local => true
  | some .cell => P.fb x
  | _ => false
def Pl.glo (P : Pl) (x : Str) : Bool := (match P.sc.names.lookup x with
  | some .globalImplicit => true
  | _ => false) && !(x == ("__debug__" : Str))
def Pl.blk (P : Pl) (scope : Scope) : Pl := ⟨P.N, relS scope P.sc, fun x => scope.names.lookup x == some .cell⟩
def opEq (a b : Operator) : Bool := decide (a = b)
def cmpEq (a b : CmpOp) : Bool := decide (a = b)
def litOk : PyData → Const → Bool
  | .int i, .int j => decide (i = j)
  | .bool a, .bool b => decide (a = b)
  | .str x, .str y => decide (x = y)
  | .none, .none => true
  | _, _ => false
mutual
def chkT (P : Pl) : Tg → Expr → Bool
  | .nm i, .Name x _ => decide (P.N[i]? = some x) && P.sto x
  | .tup ts, .Tuple es _ _ => chkTs P ts es
  | _, _ => false
def chkTs (P : Pl) : List Tg → List Expr → Bool
  | [], [] => true
  | t :: ts, e :: es => chkT P t e && chkTs P ts es
  | _, _ => false
end
/-- a name without a place of its own meaning -/
def plainNm (x : Str) : Bool := !(x == ("__debug__" : Str)) && !(x == ("__classdict__" : Str))
/-- no call of super, written without arguments -/
def okBase : Expr → Bool
  | .Call (.Name _ _) [] [] _ => false
  | _ => true
mutual
def chkE (C : Cfg) (P : Pl) : E → Expr → Bool
  | .var i, e => (match e with
    | .Name x _ => decide (P.N[i]? = some x) && (P.vis x && plainNm x)
    | _ => false)
  | .lit d, e => (match e with
    | .Constant c _ _ => litOk d c
    | _ => false)
  | .con x, e => (match e with
    | .Name y _ => decide (y = x) && (P.glo y && (C.gl x).isSome)
    | _ => false)
  | .bin o a b, e => (match e with
    | .BinOp l p r _ => opEq p o.op && (chkE C P a l && chkE C P b r)
    | _ => false)
  | .cmp o a b, e => (match e with
    | .Compare l [p] [r] _ => cmpEq p o.op && (chkE C P a l && chkE C P b r)
    | _ => false)
  | .chain o o' a b c, e => (match e with
    | .Compare l [p, p'] [r, s] _ => (cmpEq p o.op && cmpEq p' o'.op) && (chkE C P a l && (chkE C P b r && chkE C P c s))
    | _ => false)
  | .neg a, e => (match e with
    | .UnaryOp .USub l _ => chkE C P a l
    | _ => false)
  | .not a, e => (match e with
    | .UnaryOp .Not l _ => a.isTest && chkE C P a l
    | _ => false)
  | .and es, e => (match e with
    | .BoolOp .And ls _ => es.all E.isTest && (!es.isEmpty && chkEs C P es ls)
    | _ => false)
  | .or es, e => (match e with
    | .BoolOp .Or ls _ => es.all E.isTest && (!es.isEmpty && chkEs C P es ls)
    | _ => false)
  | .ite c a b, e => (match e with
    | .IfExp t l r _ => (c.isTest && chkE C P c t) && (chkE C P a l && chkE C P b r)
    | _ => false)
  | .tup es, e => (match e with
    | .Tuple ls _ _ => chkEs C P es ls
    | _ => false)
  | .lst _ es, e => (match e with
    | .List ls _ => chkEs C P es ls
    | _ => false)
  | .bf f es, e => (match e with
    | .Call (.Name x _) (l :: ls) [] _ => decide (x = f.nm) && (P.glo x && chkEs C P es (l :: ls))
    | _ => false)
  | .bn _ f es, e => (match e with
    | .Call (.Name x _) (l :: ls) [] _ => decide (x = f.nm) && (P.glo x && chkEs C P es (l :: ls))
    | _ => false)
  | .isi T a, e => (match e with
    | .Call (.Name x _) [l, .Name y _] [] _ => (decide (x = ("isinstance" : Str)) && decide (y = Str.ofString T.nm)) && ((P.glo x && P.glo y) && chkE C P a l)
    | _ => false)
  | .lower a, e => (match e with
    | .Call (.Attribute o m ap) [] [] cp => decide (m = ("lower" : Str)) && ((okBase o && (ap.endLine == cp.line)) && chkE C P a o)
    | _ => false)
  | .upper a, e => (match e with
    | .Call (.Attribute o m ap) [] [] cp => decide (m = ("upper" : Str)) && ((okBase o && (ap.endLine == cp.line)) && chkE C P a o)
    | _ => false)
  | .join a b, e => (match e with
    | .Call (.Attribute o m ap) [l] [] cp => decide (m = ("join" : Str)) && ((okBase o && (ap.endLine == cp.line)) && (chkE C P a o && chkE C P b l))
    | _ => false)
  | .idx a b, e => (match e with
    | .Subscript o i _ => chkE C P a o && chkE C P b i
    | _ => false)
  | .sl a lo hi, e => (match e with
    | .Subscript o (.Slice l h none _) _ => chkE C P a o && (chkO C P lo l && chkO C P hi h)
    | _ => false)
  | .call f es, e => (match e with
    | .Call (.Name x _) ls [] _ => decide (x = f) && ((P.glo x && C.known f) && chkEs C P es ls)
    | _ => false)
  | .cat _ a b, e => (match e with
    | .BinOp l p r _ => opEq p .Add && (chkE C P a l && chkE C P b r)
    | _ => false)
  | .split _ a b, e => (match e with
    | .Call (.Attribute o m ap) [l] [] cp => decide (m = ("split" : Str)) && ((okBase o && (ap.endLine == cp.line)) && (chkE C P a o && chkE C P b l))
    | _ => false)
  | .find a b, e => (match e with
    | .Call (.Attribute o m ap) [l] [] cp => decide (m = ("find" : Str)) && ((okBase o && (ap.endLine == cp.line)) && (chkE C P a o && chkE C P b l))
    | _ => false)
  | .index a b, e => (match e with
    | .Call (.Attribute o m ap) [l] [] cp => decide (m = ("index" : Str)) && ((okBase o && (ap.endLine == cp.line)) && (chkE C P a o && chkE C P b l))
    | _ => false)
  | .dget a b, e => (match e with
    | .Subscript o i _ => chkE C P a o && chkE C P b i
    | _ => false)
  | .din neg a b, e => (match e with
    | .Compare l [p] [r] _ => cmpEq p (if neg then .NotIn else .In) && (chkE C P a l && chkE C P b r)
    | _ => false)
  | .dget2 a k d, e => (match e with
    | .Call (.Attribute o m ap) [x, y] [] cp => decide (m = ("get" : Str)) && ((okBase o && (ap.endLine == cp.line)) && (chkE C P a o && (chkE C P k x && chkE C P d y)))
    | _ => false)
  | .disp es, e => (match e with
    | .Dict keys values _ => decide (keys.length ≤ 15) && chkPs C P es keys values
    | _ => false)
  | .lc _ k ies t own ifs elt, e => (match e with
    | .ListComp el [⟨tg, iter, fs, 0⟩] scope _ => (blkC P.N P.sc scope own && decide (∀ i ∈ t.slots, i ∈ own.map (·.2))) && (chkIt C P k ies tg iter && (chkT (P.blk scope) t tg && (chkEs C (P.blk scope) ifs fs && (decide (ifs.length ≤ 1 ∧ ifs.all E.isTest) && chkE C (P.blk scope) elt el))))
    | _ => false)
def chkEs (C : Cfg) (P : Pl) : List E → List Expr → Bool
  | [], [] => true
  | e :: es, x :: xs => chkE C P e x && chkEs C P es xs
  | _, _ => false
def chkPs (C : Cfg) (P : Pl) : List E → List (Option Expr) → List Expr → Bool
  | [], [], [] => true
  | k :: v :: r, some x :: ks, y :: ys => chkE C P k x && (chkE C P v y && chkPs C P r ks ys)
  | _, _, _ => false
/-- what is walked, and the target for it -/
def chkIt (C : Cfg) (P : Pl) (k : ItK) : List E → Expr → Expr → Bool
  | [], _, _ => false
  | a :: r, tg, iter => match k with
    | .seq => r.isEmpty && chkE C P a iter
    | .zip => (match tg, iter with
      | .Tuple _ _ _, .Call (.Name x _) [l, m] [] _ => (decide (x = ("zip" : Str)) && P.glo x) && (chkE C P a l && chkEs C P r [m])
      | _, _ => false)
    | .rng1 => (match iter with
      | .Call (.Name x _) [l] [] _ => (decide (x = ("range" : Str)) && P.glo x) && (chkE C P a l && chkEs C P r [])
      | _ => false)
    | .rng2 => (match iter with
      | .Call (.Name x _) [l, m] [] _ => (decide (x = ("range" : Str)) && P.glo x) && (chkE C P a l && chkEs C P r [m])
      | _ => false)
def chkO (C : Cfg) (P : Pl) : List E → Option Expr → Bool
  | [], none => true
  | [e], some x => chkE C P e x
  | _, _ => false
end
end MP
set_option Elab.async false
set_option linter.all false
set_option maxRecDepth 100000
set_option maxHeartbeats 4000000
/-! MP11: soundness of expressions. -/
namespace MP
open PySem PySem.Spec PyProof.Rows L2
structure FnFact (C : Cfg) (X : Cx) (f : Str) : Prop where
  ex : ∃ fa fd ps, X.mg f = some (.ref fa) ∧ PySem.W.keepIn X.K (.ref fa) = true ∧ Binds X.K fd ps [] ∧ FnOk X.prog X.w X.K X.mg X.base (L2.CX X.prog X.w) C.n fa fd ps (spF C.w (C.cf f))
def bltNames : List Str := ["len", "all", "any", "sum", "int", "tuple", "list", "isinstance", "str", "bool", "sorted", "set", "zip", "enumerate", "range", "dict", "max", "min", "reversed"]
structure Gd (C : Cfg) (P : Pl) (X : Cx) (W : WX) : Prop where
  K : X.K = C.w.K
  calm : X.calm = true
  N : X.N = P.N
  nd : P.N.Nodup
  sc : X.env.scope = P.sc
  fb : X.fn = P.fb
  room : Room C.n X.A
  tk : Takes X W
  blt : ∀ x ∈ bltNames, X.mg x = none
  fns : ∀ f, C.known f = true → FnFact C X f
  con : ∀ x d, C.gl x = some d → ∃ v u, X.mg x = some u ∧ RelV v u ∧ ∀ I, Dp C.w.K I v d
section
variable {C : Cfg} {P : Pl} {X : Cx} {W : WX}
theorem Gd.blk (g : Gd C P X W) (s : Shared) (H : Hp) (scope : Scope) (D : Addr) (cl : List (Str × Addr)) (fp : List Addr) : Gd C (P.blk scope) (X.blk s H scope (compEnvC scope cl D X.env) fp) W0 where
  K := g.K
  calm := g.calm
  N := g.N
  nd := g.nd
  sc := by show relS scope X.env.scope = relS scope P.sc; rw [g.sc]
  fb := rfl
  room := g.room
  tk := takes0
  blt := g.blt
  fns := fun f h => ⟨(g.fns f h).ex⟩
  con := g.con
theorem Gd.hu (g : Gd C P X W) : X.A.units + 65 < cLine := by have := g.room.un; omega
theorem Gd.hu64 (g : Gd C P X W) : X.A.units + 64 < cLine := by have := g.room.un; omega
theorem Gd.vis (g : Gd C P X W) {x : Str} (h : P.vis x = true) : Vis X.env.scope x := by
  unfold Pl.vis at h
  unfold Vis
  rw [g.sc]
  split at h
  · rename_i e; exact .inl e
  · rename_i e; exact .inr (.inl e)
  · rename_i e; exact .inr (.inr e)
  · cases h
theorem Gd.sto (g : Gd C P X W) {x : Str} (h : P.sto x = true) : L2.Loc X.env.scope x ∧ (X.fn x = true ∨ X.env.scope.names.lookup x = some .local) := by
  unfold Pl.sto at h
  unfold L2.Loc
  rw [g.sc, g.fb]
  split at h
  · rename_i e; exact ⟨.inl e, .inr e⟩
  · rename_i e; exact ⟨.inr e, .inl h⟩
  · cases h
theorem Gd.glo (g : Gd C P X W) {x : Str} (h : P.glo x = true) : Gl X x ∧ (x == ("__debug__" : Str)) = false := by
  unfold Pl.glo at h
  obtain ⟨h1, h2⟩ := Bool.and_eq_true_iff.mp h
  refine ⟨?_, by simpa using h2⟩
  unfold Gl PySem.Env.kindOf
  rw [g.sc]
  split at h1
  · assumption
  · cases h1
/-! ### what the texts are not -/
def okX : Expr → Bool
  | .Starred .. => false
  | .Set .. => false
  | .Slice .. => false
  | _ => true
theorem chk_ok {e : E} {x : Expr} (h : chkE C P e x = true) : okX x = true := by
  cases x <;> first
    | rfl
    | (exfalso
       cases e <;> exact Bool.false_ne_true h)
theorem star_ok {x : Expr} {xs : List Expr} {env : PySem.Env} (h : okX x = true) : starEach (x :: xs) env = (false, eval x env) :: starEach xs env := by
  cases x <;> first | rfl | cases h
theorem marks_ok {x : Expr} {op : CmpOp} (h : okX x = true) : behindInMarks op x = false := by
  cases x <;> first | rfl | cases h
theorem plain_ok {x : Expr} (h : okX x = true) : PlainIx x := by
  intro o i
  cases x <;> first | rfl | cases h
theorem fold_ok {x : Expr} {env : PySem.Env} (h : okX x = true) : ∀ v, foldedSetIterable x env v = pure v := by
  intro v
  cases x <;> first | rfl | cases h
theorem base_ok {o : Expr} {f : Str} {env : PySem.Env} {whole : Sem Value} (h : okBase o = true) : attributeBase o f env whole = whole := by
  cases o <;> try rfl
  rename_i fn as ks p
  cases fn <;> try rfl
  rcases as with _ | ⟨_, _⟩ <;> try rfl
  rcases ks with _ | ⟨_, _⟩ <;> try rfl
  cases h
theorem stars_ok {env : PySem.Env} {pos : Pos} : ∀ {es : List E} {xs : List Expr}, chkEs C P es xs = true → (backTo pos (starEach xs env)).any (·.1) = false
  | [], [], _ => rfl
  | [], _ :: _, h => by simp [chkEs] at h
  | _ :: _, [], h => by simp [chkEs] at h
  | e :: es, x :: xs, h => by
    simp only [chkEs, Bool.and_eq_true] at h
    rw [star_ok (chk_ok h.1)]
    have := stars_ok (env := env) (pos := pos) h.2
    simpa [backTo] using this
theorem tail_ok {env : PySem.Env} {pos : Pos} {es : List E} {x : Expr} {xs : List Expr} (h : chkEs C P es (x :: xs) = true) : (backTo pos (starEach xs env)).any (·.1) = false := by
  cases es with
  | nil => simp [chkEs] at h
  | cons e es =>
    simp only [chkEs, Bool.and_eq_true] at h
    exact stars_ok h.2
theorem head_ok {env : PySem.Env} {es : List E} {x : Expr} {xs : List Expr} (h : chkEs C P es (x :: xs) = true) : starEach (x :: xs) env = (false, eval x env) :: starEach xs env := by
  cases es with
  | nil => simp [chkEs] at h
  | cons e es =>
    simp only [chkEs, Bool.and_eq_true] at h
    exact star_ok (chk_ok h.1)
theorem nosl_ok {x : Expr} (h : okX x = true) : NoSl x := by
  intro o i
  cases x <;> first | rfl | cases h
/-! ### operators by name -/
theorem ok_mulT {K : FrgT} : OkOp K (fun x y H Q => rI CMul (fun i j => .int (i * j)) x y H Q ∨ rRepT K x y H Q) mulTD := fun I H x y d e z Q s hx hy f q => by
  unfold mulTD at f
  split at f
  · simp only [mulD] at f
    split at f
    · rename_i i j hc
      cases f
      rw [VW.int hx, VW.int hy]
      exact .inl ⟨i, j, rfl, rfl, hc, old_val s q (.int _)⟩
    · cases f
  · split at f
    · rename_i x0 xs k hc
      cases f
      obtain ⟨a, vs, rfl, _, h1, h2⟩ := VW.tuple s hx
      refine .inr ⟨a, k, vs, rfl, VW.int hy, h1, fun e => by (rw [e] at h2; cases h2), hc.1, hc.2.1, by rw [dpAll_len h2]; exact hc.2.2, fun p hp => new_tup s q hp (dpAll_rep h2 _)⟩
    · cases f
  · cases f
theorem bin_rule (g : Gd C P X W) (o : Bin) : ∃ r, OpR X (binaryOp o.op) r ∧ OkOp C.w.K r o.f := by
  rw [← g.K]
  cases o
  · exact ⟨_, op_addM, ok_add⟩
  · exact ⟨_, op_sub, ok_sub⟩
  · exact ⟨_, op_mod, ok_mod⟩
  · exact ⟨_, op_fdiv, ok_fdiv⟩
  · exact ⟨_, op_pow, ok_pow⟩
  · exact ⟨_, OpR.or op_mul op_repT, ok_mulT⟩
theorem ok_is {K : FrgT} : OkOp K (fun x y H Q => (y = V.non ∧ Q (.bl (decide (x = V.non))) H) ∨ ∃ a b : Bool, x = .bl a ∧ y = .bl b ∧ Q (.bl (decide (a = b))) H) (fun d e => bD (isD d e)) := fun I H x y d e z Q s hx hy f q => by
  obtain ⟨b, h, rfl⟩ := bD_eq f
  cases e with
  | none =>
    cases d <;> (simp only [isD, Option.some.injEq] at h; subst h; exact .inl ⟨VW.none hy, by rw [vw_non hx]; exact old_val s q (.bl _)⟩)
  | bool c =>
    cases d with
    | bool a => simp only [isD, Option.some.injEq] at h; subst h; exact .inr ⟨a, c, VW.bool hx, VW.bool hy, old_val s q (.bl _)⟩
    | _ => simp [isD] at h
  | _ => cases d <;> simp [isD] at h
theorem ok_nis {K : FrgT} : OkOp K (fun x y H Q => (y = V.non ∧ Q (.bl (!decide (x = V.non))) H) ∨ ∃ a b : Bool, x = .bl a ∧ y = .bl b ∧ Q (.bl (!decide (a = b))) H) (fun d e => bD ((isD d e).map not)) := fun I H x y d e z Q s hx hy f q => by
  obtain ⟨b, h, rfl⟩ := bD_eq f
  cases e with
  | none =>
    cases d <;> (simp only [isD, Option.map_some, Option.some.injEq] at h; subst h; exact .inl ⟨VW.none hy, by rw [vw_non hx]; exact old_val s q (.bl _)⟩)
  | bool c =>
    cases d with
    | bool a => simp only [isD, Option.map_some, Option.some.injEq] at h; subst h; exact .inr ⟨a, c, VW.bool hx, VW.bool hy, old_val s q (.bl _)⟩
    | _ => simp [isD] at h
  | _ => cases d <;> simp [isD] at h
theorem cmp_rule (g : Gd C P X W) (o : Cmp) : ∃ r, OpR X (compareOp o.op) r ∧ OkOp C.w.K r o.f := by
  rw [← g.K]
  cases o
  · exact ⟨_, op_eqM g.hu64, ok_eq⟩
  · exact ⟨_, op_neM g.hu64, ok_ne⟩
  · exact ⟨_, op_ltM, ok_lt⟩
  · exact ⟨_, op_le, ok_le⟩
  · exact ⟨_, op_gt, ok_gt⟩
  · exact ⟨_, op_ge, ok_ge⟩
  · exact ⟨_, op_inM g.hu, ok_in_gen⟩
  · exact ⟨_, op_notInM g.hu, ok_in_gen⟩
  · exact ⟨_, OpR.or op_isN op_is_bl, ok_is⟩
  · exact ⟨_, OpR.or op_notN op_isnot_bl, ok_nis⟩
/-! ### calls of built-ins -/
theorem bf_pe (g : Gd C P X W) (f : Bf) {p pos : Pos} {e : Expr} {es : List Expr} {as : Sms} (hg : Gl X f.nm) (ha : PA X (e :: es) (RA C.w W as)) (h1 : starEach (e :: es) X.env = (false, eval e X.env) :: starEach es X.env) (h2 : (backTo pos (starEach es X.env)).any (·.1) = false) :
    PE X (.Call (.Name f.nm p) (e :: es) [] pos) (RE C.w W (evn f.f as)) := by
  have hb : X.mg f.nm = none := g.blt _ (by cases f <;> decide +kernel)
  have fin : ∀ {r : List V → Hp → VK → Prop} {ff}, OkCall C.w.K r ff → ∀ (σ : St) (H : Hp) (Q : VK), RE C.w W (evn ff as) σ H Q → tCB r (RA C.w W as) σ H Q := by
    rintro r ff ok σ H Q ⟨I, β, M, env, s, en, p⟩
    exact ⟨I, β, M, env, s, en, Post.imp (Post.seq (R := RVs C.w) p) fun vs H1 ⟨I1, β1, M1, xs, s1, e1, r1, p1⟩ => Post.vn p1 ok s1 r1⟩
  have hK := g.K
  cases f
  · exact pe_imp (pe_callB call_lenM hg hb PySem.boot_len ha (he := h1) (hpl := h2)) (by rw [hK]; exact fin ok_len)
  · exact pe_imp (pe_callB (cr_all g.calm) hg hb (by decide +kernel) ha (he := h1) (hpl := h2)) (by rw [hK]; exact fin ok_all)
  · exact pe_imp (pe_callB (cr_any g.calm) hg hb (by decide +kernel) ha (he := h1) (hpl := h2)) (by rw [hK]; exact fin ok_any)
  · exact pe_imp (pe_callB (cr_sum g.calm) hg hb (by decide +kernel) ha (he := h1) (hpl := h2)) (by rw [hK]; exact fin ok_sum)
  · exact pe_imp (pe_callTy call_int1 hg hb (by decide +kernel) ha (he := h1) (hpl := h2)) (fin ok_int)
  · exact pe_imp (pe_callTy call_tuple_of hg hb (by decide +kernel) ha (he := h1) (hpl := h2)) (by rw [hK]; exact fin ok_tuple)
theorem bn_pe (g : Gd C P X W) (f : Bn) {p pos : Pos} {e : Expr} {es : List Expr} {as : Sms} (hg : Gl X f.nm) (ha : PA X (e :: es) (RA C.w W as)) (h1 : starEach (e :: es) X.env = (false, eval e X.env) :: starEach es X.env) (h2 : (backTo pos (starEach es X.env)).any (·.1) = false) :
    PE X (.Call (.Name f.nm p) (e :: es) [] pos) (RF C.w W (siNew f.f as)) := by
  have hb : X.mg f.nm = none := g.blt _ (by cases f <;> decide +kernel)
  have fin : ∀ {r : List V → Hp → VK → Prop} {ff}, OkNew C.w.K r ff → ∀ (σ : St) (H : Hp) (Q : VK), RF C.w W (siNew ff as) σ H Q → tCB r (RA C.w W as) σ H Q := by
    rintro r ff ok σ H Q ⟨I, β, M, env, s, en, p⟩
    refine ⟨I, β, M, env, s, en, Post.imp (Post.seq (R := RVs C.w) p) fun vs H1 ⟨I1, β1, M1, xs, s1, e1, r1, p1⟩ => ?_⟩
    cases q1 : views M1 xs with
    | none => rw [q1] at p1; exact False.elim p1
    | some ds =>
      rw [q1] at p1
      cases q2 : ff ds with
      | none => simp only [q2] at p1; exact False.elim p1
      | some zs =>
        simp only [q2] at p1
        refine ok I1 H1 vs ds zs Q s1.sub (s1.views r1 q1) q2 fun a us ha d => ?_
        have hI := s1.sub.free ha
        have hb : a ∉ β1 := fun z => s1.trk a z ha
        exact p1 I1 _ β1 _ (s1.free hI hb) (Ext.refl.free ha) ⟨a, us, rfl, e1.none s1 ha, upd_same, hI, hb, d⟩
  have hK := g.K
  cases f
  · exact pe_imp (pe_callTy call_list_of hg hb (by decide +kernel) ha (he := h1) (hpl := h2)) (by rw [hK]; exact fin ok_list)
theorem new_pe {c : Bool} {e : Expr} {r : Si} {w : Mw} (h : PE X e (RF w W r)) : PE X e (RE w W (newK c r)) := by
  cases c
  · exact peF_frz h
  · exact peF_cel h
theorem lit_pe {d : PyData} {c : Const} {k : Nat} {pos : Pos} (h : litOk d c = true) : PE X (.Constant c k pos) (RE C.w W (evLit d)) := by
  cases c with
  | none => cases d <;> first | exact peM_const pe_non fun _ => .non | cases h
  | bool b => cases d <;> first | cases h | (have e := of_decide_eq_true h; subst e; exact peM_const pe_bl fun _ => .bl _)
  | int b => cases d <;> first | cases h | (have e := of_decide_eq_true h; subst e; exact peM_const pe_int fun _ => .int _)
  | str b => cases d <;> first | cases h | (have e := of_decide_eq_true h; subst e; exact peM_const pe_str fun _ => .str _)
  | _ => cases d <;> cases h
/-! ### targets -/
mutual
def tgG (K : FrgT) : Tg → TG
  | .nm i => gName i
  | .tup ts => gTup K ts.length (tgGs K ts)
def tgGs (K : FrgT) : List Tg → TGs
  | [] => gNil
  | t :: ts => gCons (tgG K t) (tgGs K ts)
end
mutual
theorem okTgG (K : FrgT) : ∀ t : Tg, OkTg K t (tgG K t)
  | .nm i => by rw [tgG]; exact okTg_nm
  | .tup ts => by rw [tgG]; exact okTg_tup (okTgGs K ts) rfl
theorem okTgGs (K : FrgT) : ∀ ts : List Tg, OkTgs K ts (tgGs K ts)
  | [] => by rw [tgGs]; exact okTgs_nil
  | t :: ts => by rw [tgGs]; exact okTgs_cons (okTgG K t) (okTgGs K ts)
end
mutual
theorem tgt (g : Gd C P X W) : ∀ (t : Tg) (x : Expr), chkT P t x = true → PG X x (tgG C.w.K t)
  | .nm i, x, h => by
    cases x with
    | Name y p =>
      simp only [chkT, Bool.and_eq_true, decide_eq_true_eq] at h
      obtain ⟨h1, h2⟩ := g.sto h.2
      rw [tgG]
      exact pg_name (i := i) (by rw [g.N]; exact g.nd) (by rw [g.N]; exact h.1) h1 h2
    | _ => simp [chkT] at h
  | .tup ts, x, h => by
    cases x with
    | Tuple es k p =>
      simp only [chkT] at h
      obtain ⟨h1, h3, h4⟩ := tgts g ts es h
      rw [tgG, h3, ← g.K]
      rw [← g.K] at h1
      exact pg_tup g.calm h1 (by rw [h4]; simp) (by rw [h4]; simp)
    | _ => simp [chkT] at h
theorem tgts (g : Gd C P X W) : ∀ (ts : List Tg) (xs : List Expr), chkTs P ts xs = true → PGs X xs (tgGs C.w.K ts) ∧ ts.length = xs.length ∧ assignEach xs X.env = xs.map fun x => (false, assign x X.env)
  | [], [], _ => by rw [tgGs]; exact ⟨pgs_nil, rfl, rfl⟩
  | [], _ :: _, h => by simp [chkTs] at h
  | _ :: _, [], h => by simp [chkTs] at h
  | t :: ts, x :: xs, h => by
    simp only [chkTs, Bool.and_eq_true] at h
    have h1 := tgt g t x h.1
    obtain ⟨k1, k3, k4⟩ := tgts g ts xs h.2
    have hx : assignEach (x :: xs) X.env = (false, assign x X.env) :: assignEach xs X.env := by
      cases x with
      | Starred v p => cases t <;> simp [chkT] at h
      | _ => rfl
    rw [tgGs]
    exact ⟨pgs_cons h1 k1 (by rw [hx]; rfl), by simp [k3], by rw [hx, k4]; rfl⟩
end
/-! ### expressions -/
/-- what is shown of an expression -/
def SndE (C : Cfg) (e : E) : Prop := ∀ (P : Pl) (X : Cx) (W : WX) (x : Expr), Gd C P X W → chkE C P e x = true → PE X x (RE C.w W (evE C e)) ∧ (e.isTest = true → PT X x (RT C.w W (toB (evE C e))))
structure SndL (C : Cfg) (es : List E) : Prop where
  args : ∀ (P : Pl) (X : Cx) (W : WX) (xs : List Expr), Gd C P X W → chkEs C P es xs = true → PA X xs (RA C.w W (evs (evEs C es)))
  and : ∀ (P : Pl) (X : Cx) (W : WX) (xs : List Expr) (pos : Pos), es ≠ [] → Gd C P X W → chkEs C P es xs = true → PE X (.BoolOp .And xs pos) (RE C.w W (evAnd (evEs C es))) ∧ (es.all E.isTest = true → PW X (.BoolOp .And xs pos) (RT C.w W (toB (evAnd (evEs C es)))))
  or : ∀ (P : Pl) (X : Cx) (W : WX) (xs : List Expr) (pos : Pos), es ≠ [] → Gd C P X W → chkEs C P es xs = true → PE X (.BoolOp .Or xs pos) (RE C.w W (evOr (evEs C es))) ∧ (es.all E.isTest = true → PW X (.BoolOp .Or xs pos) (RT C.w W (toB (evOr (evEs C es)))))
  opt : ∀ (P : Pl) (X : Cx) (W : WX) (x : Option Expr), Gd C P X W → chkO C P es x = true → PO X x (RO C.w W (evPart (part (evEs C es))))
  one : ∀ e, es = [e] → SndE C e
  all : ∀ e ∈ es, SndE C e
  it : ∀ (P : Pl) (X : Cx) (W : WX) (k : ItK) (tg iter : Expr), Gd C P X W → chkIt C P k es tg iter = true → PI X tg iter (RI C.w W (evIt k (evEs C es))) ∧ okX iter = true
theorem chkEs_cons {e : E} {es : List E} {xs : List Expr} (h : chkEs C P (e :: es) xs = true) : ∃ y ys, xs = y :: ys ∧ chkE C P e y = true ∧ chkEs C P es ys = true := by
  cases xs with
  | nil => simp [chkEs] at h
  | cons y ys => simp only [chkEs, Bool.and_eq_true] at h; exact ⟨y, ys, rfl, h.1, h.2⟩
theorem chkEs_cons' {es : List E} {x : Expr} {xs : List Expr} (h : chkEs C P es (x :: xs) = true) : ∃ e es', es = e :: es' ∧ chkE C P e x = true ∧ chkEs C P es' xs = true := by
  cases es with
  | nil => simp [chkEs] at h
  | cons e es => simp only [chkEs, Bool.and_eq_true] at h; exact ⟨e, es, rfl, h.1, h.2⟩
theorem chkPs_cases {k : E} {es : List E} {keys : List (Option Expr)} {values : List Expr} (h : chkPs C P (k :: es) keys values = true) : ∃ v r x y ks ys, es = v :: r ∧ keys = some x :: ks ∧ values = y :: ys ∧ chkE C P k x = true ∧ chkE C P v y = true ∧ chkPs C P r ks ys = true := by
  cases es with
  | nil => simp [chkPs] at h
  | cons v r =>
    rcases keys with _ | ⟨_ | x, ks⟩
    · simp [chkPs] at h
    · simp [chkPs] at h
    · cases values with
      | nil => simp [chkPs] at h
      | cons y ys =>
        simp only [chkPs, Bool.and_eq_true] at h
        exact ⟨v, r, x, y, ks, ys, rfl, rfl, rfl, h.1, h.2.1, h.2.2⟩
theorem snd_pairs {W : WX} (g : Gd C P X W) {pos : Pos} : ∀ (n : Nat) (es : List E) (keys : List (Option Expr)) (values : List Expr), es.length ≤ n → (∀ e ∈ es, SndE C e) → chkPs C P es keys values = true →
    PPs X pos keys values (pairsTE C.w W (evEs C es)) ∧ keys.all (·.isSome) = true ∧ keys.length = values.length ∧ (keys = [] → es = [] ∧ values = [])
  | _, [], keys, values, _, _, h => by
    cases keys with
    | cons _ _ => simp [chkPs] at h
    | nil =>
      cases values with
      | cons _ _ => simp [chkPs] at h
      | nil => simp only [evEs, pairsTE]; exact ⟨pps_nil, rfl, rfl, by simp⟩
  | 0, _ :: _, _, _, hl, _, _ => by simp at hl
  | n + 1, k :: es, keys, values, hl, ha, h => by
    obtain ⟨v, r, x, y, ks, ys, rfl, rfl, rfl, h1, h2, h3⟩ := chkPs_cases h
    obtain ⟨a, b, c, _⟩ := snd_pairs (W := W) g n r ks ys (by simp at hl; omega) (fun e he => ha e (by simp [he])) h3
    simp only [evEs, pairsTE]
    exact ⟨pps_cons (ha k (by simp) P X W x g h1).1 (ha v (by simp) P X W y g h2).1 a, by simpa using b, by simp [c], fun e => nomatch e⟩
theorem peM_disp0 {w : Mw} {W : WX} {pos : Pos} : PE X (.Dict [] [] pos) (RE w W (evDisp [])) := pe_imp pe_dnewK fun σ H Q ⟨I, β, M, env, s, en, p⟩ q hq => by
  have hI := s.sub.free hq
  have hb : q ∉ β := fun z => s.trk q z hq
  have s3 := s.free (o := .dK []) hI hb
  refine p I _ (β ++ [q]) (.ref q) (s3.adopt (by rw [upd_same]; exact fun z => nomatch z) hb ⟨hI, [], upd_same, .nil⟩) ((Ext.refl.free hq).adopt hq) ⟨q, ?_, rfl⟩
  rw [← s.len]
  simp
theorem m2_ok {o a b : Expr} {m : Str} {apos cpos : Pos} (h0 : okBase o = true) (hl : (apos.endLine == cpos.line) = true) (ha : okX a = true) (hb : okX b = true) : M2 X o m apos a b cpos where
  base := base_ok h0
  few := by rw [star_ok ha, star_ok hb]; rfl
  line := hl
  trees := by rw [star_ok ha, star_ok hb]; rfl
theorem sndL_nil (C : Cfg) : SndL C [] where
  args := fun P X W xs g h => by
    cases xs with
    | nil => simp only [evEs]; exact paM_nil
    | cons _ _ => simp [chkEs] at h
  and := fun P X W xs pos h => absurd rfl h
  or := fun P X W xs pos h => absurd rfl h
  opt := fun P X W x g h => by
    cases x with
    | none => simp only [evEs, part]; exact poM_none
    | some _ => simp [chkO] at h
  one := fun e h => by cases h
  all := fun e h => by cases h
  it := fun P X W k tg iter g h => by simp [chkIt] at h
theorem sndL_cons {C : Cfg} {e : E} {es : List E} (he : SndE C e) (hs : SndL C es) : SndL C (e :: es) where
  args := fun P X W xs g h => by
    obtain ⟨y, ys, rfl, h1, h2⟩ := chkEs_cons h
    simp only [evEs]
    exact paM_cons (he P X W y g h1).1 (hs.args P X W ys g h2) (star_ok (chk_ok h1))
  and := fun P X W xs pos _ g h => by
    obtain ⟨y, ys, rfl, h1, h2⟩ := chkEs_cons h
    obtain ⟨p1, p2⟩ := he P X W y g h1
    simp only [evEs]
    cases es with
    | nil =>
      cases ys with
      | nil => exact ⟨peM_and1 p1, fun t => by simp only [List.all_cons, List.all_nil, Bool.and_true] at t; exact pwM_and1 (p2 t)⟩
      | cons _ _ => simp [chkEs] at h2
    | cons e2 es =>
      obtain ⟨z, zs, rfl, h3, h4⟩ := chkEs_cons h2
      obtain ⟨q1, q2⟩ := hs.and P X W (z :: zs) pos (by simp) g h2
      simp only [evEs] at q1 q2 ⊢
      exact ⟨peM_and p1 q1, fun t => by
        rw [List.all_cons, Bool.and_eq_true] at t
        exact pwM_and (p2 t.1) (q2 t.2)⟩
  or := fun P X W xs pos _ g h => by
    obtain ⟨y, ys, rfl, h1, h2⟩ := chkEs_cons h
    obtain ⟨p1, p2⟩ := he P X W y g h1
    simp only [evEs]
    cases es with
    | nil =>
      cases ys with
      | nil => exact ⟨peM_and1 p1, fun t => by simp only [List.all_cons, List.all_nil, Bool.and_true] at t; exact pwM_or1 (p2 t)⟩
      | cons _ _ => simp [chkEs] at h2
    | cons e2 es =>
      obtain ⟨z, zs, rfl, h3, h4⟩ := chkEs_cons h2
      obtain ⟨q1, q2⟩ := hs.or P X W (z :: zs) pos (by simp) g h2
      simp only [evEs] at q1 q2 ⊢
      exact ⟨peM_or p1 q1, fun t => by
        rw [List.all_cons, Bool.and_eq_true] at t
        exact pwM_or (p2 t.1) (q2 t.2)⟩
  opt := fun P X W x g h => by
    cases es with
    | nil =>
      cases x with
      | none => simp [chkO] at h
      | some x =>
        simp only [chkO] at h
        simp only [evEs, part]
        exact poM_some (he P X W x g h).1
    | cons _ _ => cases x <;> simp [chkO] at h
  one := fun e' h => by cases h; exact he
  all := fun e' h => by
    rcases List.mem_cons.mp h with h | h
    · rw [h]; exact he
    · exact hs.all e' h
  it := fun P X W k tg iter g h => by
    unfold chkIt at h
    cases k with
    | seq =>
      simp only [Bool.and_eq_true] at h
      cases es with
      | cons _ _ => simp at h
      | nil =>
        simp only [evEs, evIt]
        exact ⟨piM_seq g.K (he P X W iter g h.2).1, chk_ok h.2⟩
    | zip =>
      simp only at h
      split at h
      · rename_i y p l m q
        simp only [Bool.and_eq_true, decide_eq_true_eq] at h
        obtain ⟨⟨rfl, h1⟩, h2, h3⟩ := h
        have ha : PA X [l, m] (RA C.w W (evs (evEs C (e :: es)))) := by
          simp only [evEs]
          exact paM_cons (he P X W l g h2).1 (hs.args P X W [m] g h3) (star_ok (chk_ok h2))
        exact ⟨piM_zip g.K (g.glo h1).1 (g.blt _ (by decide +kernel)) ha (star_ok (chk_ok h2)) (stars_ok h3), rfl⟩
      · cases h
    | rng1 =>
      simp only at h
      split at h
      · rename_i y p l q
        simp only [Bool.and_eq_true, decide_eq_true_eq] at h
        obtain ⟨⟨rfl, h1⟩, h2, h3⟩ := h
        have ha : PA X [l] (RA C.w W (evs (evEs C (e :: es)))) := by
          simp only [evEs]
          exact paM_cons (he P X W l g h2).1 (hs.args P X W [] g h3) (star_ok (chk_ok h2))
        exact ⟨piM_rng1 (g.glo h1).1 (g.blt _ (by decide +kernel)) ha (star_ok (chk_ok h2)), rfl⟩
      · cases h
    | rng2 =>
      simp only at h
      split at h
      · rename_i y p l m q
        simp only [Bool.and_eq_true, decide_eq_true_eq] at h
        obtain ⟨⟨rfl, h1⟩, h2, h3⟩ := h
        have ha : PA X [l, m] (RA C.w W (evs (evEs C (e :: es)))) := by
          simp only [evEs]
          exact paM_cons (he P X W l g h2).1 (hs.args P X W [m] g h3) (star_ok (chk_ok h2))
        obtain ⟨_, _, e1, h4, _⟩ := chkEs_cons' h3
        cases e1
        exact ⟨piM_rng2 (g.glo h1).1 (g.blt _ (by decide +kernel)) ha (by rw [star_ok (chk_ok h2), star_ok (chk_ok h4)]; rfl) (star_ok (chk_ok h4)), rfl⟩
      · cases h
/-- a value that may be tested as it stands -/
theorem snd_val {x : Expr} {r : Sm} {w : Mw} {b : Bool} (h : PE X x (RE w W r)) (he : ∀ whole, isTrue x X.env whole = (do let v ← whole; standAt x.pos; holding [v] (truthy v)) := by intro _; rfl) : PE X x (RE w W r) ∧ (b = true → PT X x (RT w W (toB r))) := ⟨h, fun _ => ptM_val h he⟩
theorem snd_no {x : Expr} {r : Sm} {w : Mw} (h : PE X x (RE w W r)) : PE X x (RE w W r) ∧ (false = true → PT X x (RT w W (toB r))) := ⟨h, fun e => nomatch e⟩
theorem blkC_ok {N : List Str} {sc scope : Scope} {own : List (Str × Nat)} (h : blkC N sc scope own = true) : BlkOk N sc scope own := blkOk_by h
theorem new_imp {c : Bool} {w : Mw} {W : WX} {r : Si} : ∀ σ H Q, RE w W (newK c r) σ H Q → RF w W r σ H Q := by
  cases c
  · exact fun σ H Q q => rf_frz q
  · exact fun σ H Q q => rf_cel q
theorem lc_parts {C : Cfg} {c : Bool} {k : ItK} {ies : List E} {t : Tg} {own : List (Str × Nat)} {ifs : List E} {elt : E} (hi : SndL C ies) (hf : SndL C ifs) (he : SndE C elt)
    {P : Pl} {X : Cx} {W : WX} {x : Expr} (g : Gd C P X W) (h : chkE C P (.lc c k ies t own ifs elt) x = true) :
    ∃ el tg iter fs scope pos wi gg tt te, x = .ListComp el [⟨tg, iter, fs, 0⟩] scope pos ∧ PI X tg iter wi ∧ BlkOk X.N X.env.scope scope own ∧
      (∀ (s : Shared) (H : Hp) (D : Addr) (cl : List (Str × Addr)) (fp : List Addr), PG (X.blk s H scope (compEnvC scope cl D X.env) fp) tg gg) ∧
      (∀ (s : Shared) (H : Hp) (D : Addr) (cl : List (Str × Addr)) (fp : List Addr), PTs (X.blk s H scope (compEnvC scope cl D X.env) fp) fs tt) ∧
      (∀ (s : Shared) (H : Hp) (D : Addr) (cl : List (Str × Addr)) (fp : List Addr), PE (X.blk s H scope (compEnvC scope cl D X.env) fp) el te) ∧
      (∀ v, foldedSetIterable iter X.env v = pure v) ∧
      ∀ σ H Q, RE C.w W (evE C (.lc c k ies t own ifs elt)) σ H Q → tLc wi gg tt te (own.map (·.2)) σ H Q := by
  cases x with
  | ListComp el gens scope pos =>
    cases gens with
    | nil => simp [chkE] at h
    | cons gen rest =>
      obtain ⟨tg, iter, fs, as⟩ := gen
      cases rest with
      | cons _ _ => simp [chkE] at h
      | nil =>
        by_cases has : as = 0
        · subst has
          unfold chkE at h
          simp only [Bool.and_eq_true, decide_eq_true_eq] at h
          obtain ⟨⟨hb, hsl⟩, h1, h2, h3, ⟨h4, h4'⟩, h5⟩ := h
          have ok : BlkOk X.N X.env.scope scope own := by rw [g.N, g.sc]; exact blkC_ok hb
          obtain ⟨hPI, hok⟩ := hi.it P X W k tg iter g h1
          have hq : ∀ (s : Shared) (H : Hp) (D : Addr) (cl : List (Str × Addr)) (fp : List Addr), PTs (X.blk s H scope (compEnvC scope cl D X.env) fp) fs (condR C.w (part (evEs C ifs))) := fun s H D cl fp => ?_
          · refine ⟨el, tg, iter, fs, scope, pos, _, _, _, _, rfl, hPI, ok, fun s H D cl fp => tgt (g.blk s H scope D cl fp) t tg h2, hq, fun s H D cl fp => (he (P.blk scope) _ W0 el (g.blk s H scope D cl fp) h5).1, fold_ok hok, fun σ H Q q => ?_⟩
            simp only [evE] at q
            exact lc_imp (okTgG _ t) hsl σ H Q (new_imp σ H Q q)
          cases ifs with
          | nil =>
            cases fs with
            | nil => simp only [evEs, part, condR]; exact pts_nil
            | cons _ _ => simp [chkEs] at h3
          | cons c0 r =>
            cases r with
            | cons _ _ => simp at h4
            | nil =>
              obtain ⟨y, ys, rfl, h6, h7⟩ := chkEs_cons h3
              cases ys with
              | cons _ _ => simp [chkEs] at h7
              | nil =>
                simp only [evEs, part, condR]
                simp only [List.all_cons, List.all_nil, Bool.and_true] at h4'
                exact pts_one (((hf.one c0 rfl) (P.blk scope) _ W0 y (g.blk s H scope D cl fp) h6).2 h4')
        · have : chkE C P (.lc c k ies t own ifs elt) (.ListComp el [⟨tg, iter, fs, as⟩] scope pos) = false := by
            unfold chkE
            split
            · rename_i e
              simp only [Expr.ListComp.injEq, List.cons.injEq, Comprehension.mk.injEq] at e
              omega
            · rfl
          rw [this] at h
          cases h
  | _ => exact (Bool.false_ne_true h).elim
theorem snd_lc {C : Cfg} {c : Bool} {k : ItK} {ies : List E} {t : Tg} {own : List (Str × Nat)} {ifs : List E} {elt : E} (hi : SndL C ies) (hf : SndL C ifs) (he : SndE C elt) : SndE C (.lc c k ies t own ifs elt) := by
  intro P X W x g h
  refine ⟨?_, fun e => nomatch e⟩
  obtain ⟨el, tg, iter, fs, scope, pos, wi, gg, tt, te, rfl, h1, h2, h3, h4, h5, h6, h7⟩ := lc_parts hi hf he g h
  exact pe_imp (pe_lc g.calm (by rw [g.N]; exact g.nd) h1 h2 h3 h4 h5 h6) h7
mutual
theorem sndE (C : Cfg) : ∀ e : E, SndE C e
  | .var i => fun P X W x g h => by
    cases x with
    | Name y p =>
      simp only [chkE, Bool.and_eq_true, decide_eq_true_eq, plainNm, Bool.not_eq_true'] at h
      simp only [evE]
      exact snd_val (peM_var (by rw [g.N]; exact h.1) (g.vis h.2.1) h.2.2.1 h.2.2.2)
    | _ => exact (Bool.false_ne_true h).elim
  | .lit d => fun P X W x g h => by
    cases x with
    | Constant c k p => simp only [chkE] at h; simp only [evE]; exact snd_val (lit_pe h)
    | _ => exact (Bool.false_ne_true h).elim
  | .con z => fun P X W x g h => by
    cases x with
    | Name y p =>
      simp only [chkE, Bool.and_eq_true, decide_eq_true_eq] at h
      obtain ⟨rfl, h2, h3⟩ := h
      simp only [evE]
      cases q : C.gl y with
      | none => rw [q] at h3; cases h3
      | some d =>
        obtain ⟨v, u, e1, e2, e3⟩ := g.con y d q
        obtain ⟨g1, g2⟩ := g.glo h2
        exact snd_no (peM_const (pe_glob g1 e1 e2 g2) e3)
    | _ => exact (Bool.false_ne_true h).elim
  | .bin o a b => fun P X W x g h => by
    cases x with
    | BinOp l p r pos =>
      simp only [chkE, Bool.and_eq_true, opEq, decide_eq_true_eq] at h
      obtain ⟨rfl, h1, h2⟩ := h
      obtain ⟨r, k1, k2⟩ := bin_rule g o
      simp only [evE]
      exact snd_no (peM_op k1 k2 (sndE C a P X W _ g h1).1 (sndE C b P X W _ g h2).1)
    | _ => exact (Bool.false_ne_true h).elim
  | .cmp o a b => fun P X W x g h => by
    cases x with
    | Compare l ps rs pos =>
      cases ps with
      | nil => exact (Bool.false_ne_true h).elim
      | cons p ps =>
        cases ps with
        | cons _ _ => exact (Bool.false_ne_true h).elim
        | nil =>
          cases rs with
          | nil => exact (Bool.false_ne_true h).elim
          | cons r rs =>
            cases rs with
            | cons _ _ => exact (Bool.false_ne_true h).elim
            | nil =>
              simp only [chkE, Bool.and_eq_true, cmpEq, decide_eq_true_eq] at h
              obtain ⟨rfl, h1, h2⟩ := h
              obtain ⟨r, k1, k2⟩ := cmp_rule g o
              have e1 := (sndE C a P X W _ g h1).1
              have e2 := (sndE C b P X W _ g h2).1
              simp only [evE]
              exact ⟨peM_cmp k1 k2 (marks_ok (chk_ok h2)) e1 e2, fun _ => ptM_cmp k1 k2 (marks_ok (chk_ok h2)) e1 e2⟩
    | _ => exact (Bool.false_ne_true h).elim
  | .chain o o' a b c => fun P X W x g h => by
    cases x with
    | Compare l ps rs pos =>
      rcases ps with _ | ⟨p, _ | ⟨p', _ | ⟨_, _⟩⟩⟩ <;> try exact (Bool.false_ne_true h).elim
      rcases rs with _ | ⟨r, _ | ⟨s, _ | ⟨_, _⟩⟩⟩ <;> try exact (Bool.false_ne_true h).elim
      simp only [chkE, Bool.and_eq_true, cmpEq, decide_eq_true_eq] at h
      obtain ⟨⟨rfl, rfl⟩, h1, h2, h3⟩ := h
      obtain ⟨r1, k1, k2⟩ := cmp_rule g o
      obtain ⟨r2, k3, k4⟩ := cmp_rule g o'
      have e1 := (sndE C a P X W _ g h1).1
      have e2 := (sndE C b P X W _ g h2).1
      have e3 := (sndE C c P X W _ g h3).1
      simp only [evE]
      exact ⟨pe_imp (pe_chain k1 k3 e1 e2 e3 (marks_ok (chk_ok h3))) fun σ H Q q => chain_imp k2 k4 q, fun _ => ptM_tB (pt_chain k1 k3 e1 e2 e3 (marks_ok (chk_ok h3))) fun σ H Q q => chain_imp k2 k4 q⟩
    | _ => exact (Bool.false_ne_true h).elim
  | .neg a => fun P X W x g h => by
    cases x with
    | UnaryOp p l pos =>
      cases p <;> try exact (Bool.false_ne_true h).elim
      simp only [chkE] at h
      simp only [evE]
      refine snd_no (pe_imp (pe_un un_neg (sndE C a P X W _ g h).1) fun σ H Q ⟨I, β, M, env, s, en, p⟩ => ⟨I, β, M, env, s, en, Post.imp (Post.seq p) fun v H1 ⟨I1, β1, M1, x, s1, e1, r1, p1⟩ => Post.v1 p1 ok_neg s1 r1⟩)
    | _ => exact (Bool.false_ne_true h).elim
  | .not a => fun P X W x g h => by
    cases x with
    | UnaryOp p l pos =>
      cases p <;> try exact (Bool.false_ne_true h).elim
      simp only [chkE, Bool.and_eq_true] at h
      obtain ⟨e1, e2⟩ := sndE C a P X W _ g h.2
      simp only [evE]
      exact ⟨peM_not e1, fun _ => ptM_not (e2 h.1)⟩
    | _ => exact (Bool.false_ne_true h).elim
  | .and es => fun P X W x g h => by
    cases x with
    | BoolOp p ls pos =>
      cases p <;> try exact (Bool.false_ne_true h).elim
      simp only [chkE, Bool.and_eq_true, Bool.not_eq_true'] at h
      obtain ⟨e1, e2⟩ := (sndL C es).and P X W ls pos (by rintro rfl; simp at h) g h.2.2
      simp only [evE]
      exact ⟨e1, fun _ => (e2 h.1).pt⟩
    | _ => exact (Bool.false_ne_true h).elim
  | .or es => fun P X W x g h => by
    cases x with
    | BoolOp p ls pos =>
      cases p <;> try exact (Bool.false_ne_true h).elim
      simp only [chkE, Bool.and_eq_true, Bool.not_eq_true'] at h
      obtain ⟨e1, e2⟩ := (sndL C es).or P X W ls pos (by rintro rfl; simp at h) g h.2.2
      simp only [evE]
      exact ⟨e1, fun _ => (e2 h.1).pt⟩
    | _ => exact (Bool.false_ne_true h).elim
  | .ite c a b => fun P X W x g h => by
    cases x with
    | IfExp t l r pos =>
      simp only [chkE, Bool.and_eq_true] at h
      obtain ⟨⟨h0, h1⟩, h2, h3⟩ := h
      simp only [evE]
      exact snd_no (peM_if ((sndE C c P X W _ g h1).2 h0) (sndE C a P X W _ g h2).1 (sndE C b P X W _ g h3).1)
    | _ => exact (Bool.false_ne_true h).elim
  | .tup es => fun P X W x g h => by
    cases x with
    | Tuple ls k pos =>
      simp only [chkE] at h
      simp only [evE]
      exact snd_no (peM_tup (pe_tup ((sndL C es).args P X W ls g h)))
    | _ => exact (Bool.false_ne_true h).elim
  | .lst c es => fun P X W x g h => by
    cases x with
    | List ls pos =>
      simp only [chkE] at h
      simp only [evE]
      exact snd_no (new_pe (peF_lst (pe_lst ((sndL C es).args P X W ls g h))))
    | _ => exact (Bool.false_ne_true h).elim
  | .bf f es => fun P X W x g h => by
    cases x with
    | Call fn ls ks pos =>
      cases fn <;> try exact (Bool.false_ne_true h).elim
      rename_i y p
      cases ls with
      | nil => exact (Bool.false_ne_true h).elim
      | cons l ls =>
        cases ks with
        | cons _ _ => exact (Bool.false_ne_true h).elim
        | nil =>
          simp only [chkE, Bool.and_eq_true, decide_eq_true_eq] at h
          obtain ⟨rfl, h1, h2⟩ := h
          simp only [evE]
          exact snd_val (bf_pe g f (g.glo h1).1 ((sndL C es).args P X W _ g h2) (head_ok h2) (tail_ok h2))
    | _ => exact (Bool.false_ne_true h).elim
  | .bn c f es => fun P X W x g h => by
    cases x with
    | Call fn ls ks pos =>
      cases fn <;> try exact (Bool.false_ne_true h).elim
      rename_i y p
      cases ls with
      | nil => exact (Bool.false_ne_true h).elim
      | cons l ls =>
        cases ks with
        | cons _ _ => exact (Bool.false_ne_true h).elim
        | nil =>
          simp only [chkE, Bool.and_eq_true, decide_eq_true_eq] at h
          obtain ⟨rfl, h1, h2⟩ := h
          simp only [evE]
          exact snd_no (new_pe (bn_pe g f (g.glo h1).1 ((sndL C es).args P X W _ g h2) (head_ok h2) (tail_ok h2)))
    | _ => exact (Bool.false_ne_true h).elim
  | .isi T a => fun P X W x g h => by
    cases x with
    | Call fn ls ks pos =>
      cases fn <;> try exact (Bool.false_ne_true h).elim
      rename_i y p
      rcases ls with _ | ⟨l, _ | ⟨m, rest⟩⟩ <;> try exact (Bool.false_ne_true h).elim
      cases m <;> try exact (Bool.false_ne_true h).elim
      rename_i z pz
      cases rest with
      | cons _ _ => exact (Bool.false_ne_true h).elim
      | nil =>
        cases ks with
        | cons _ _ => exact (Bool.false_ne_true h).elim
        | nil =>
          simp only [chkE, Bool.and_eq_true, decide_eq_true_eq] at h
          obtain ⟨⟨rfl, rfl⟩, ⟨h1, h2⟩, h3⟩ := h
          simp only [evE]
          exact snd_val (peM_isi (g.glo h1).1 (g.blt _ (by decide +kernel)) (g.glo h2).1 (g.blt _ (by cases T <;> decide +kernel)) (sndE C a P X W _ g h3).1 g.K (star_ok (chk_ok h3)))
    | _ => exact (Bool.false_ne_true h).elim
  | .lower a => fun P X W x g h => by
    cases x with
    | Call fn ls ks pos =>
      cases fn <;> try exact (Bool.false_ne_true h).elim
      rename_i o m p
      cases ls with
      | cons _ _ => exact (Bool.false_ne_true h).elim
      | nil =>
        cases ks with
        | cons _ _ => exact (Bool.false_ne_true h).elim
        | nil =>
          simp only [chkE, Bool.and_eq_true, decide_eq_true_eq] at h
          obtain ⟨rfl, ⟨h0, hl⟩, h1⟩ := h
          simp only [evE]
          exact snd_no (peM_lower (pe_lower (sndE C a P X W _ g h1).1 (base_ok h0) hl) rfl)
    | _ => exact (Bool.false_ne_true h).elim
  | .upper a => fun P X W x g h => by
    cases x with
    | Call fn ls ks pos =>
      cases fn <;> try exact (Bool.false_ne_true h).elim
      rename_i o m p
      cases ls with
      | cons _ _ => exact (Bool.false_ne_true h).elim
      | nil =>
        cases ks with
        | cons _ _ => exact (Bool.false_ne_true h).elim
        | nil =>
          simp only [chkE, Bool.and_eq_true, decide_eq_true_eq] at h
          obtain ⟨rfl, ⟨h0, hl⟩, h1⟩ := h
          simp only [evE]
          exact snd_no (peM_upper (pe_upper (sndE C a P X W _ g h1).1 (base_ok h0) hl) rfl)
    | _ => exact (Bool.false_ne_true h).elim
  | .join a b => fun P X W x g h => by
    cases x with
    | Call fn ls ks pos =>
      cases fn <;> try exact (Bool.false_ne_true h).elim
      rename_i o m p
      rcases ls with _ | ⟨l, _ | ⟨_, _⟩⟩ <;> try exact (Bool.false_ne_true h).elim
      cases ks with
      | cons _ _ => exact (Bool.false_ne_true h).elim
      | nil =>
        simp only [chkE, Bool.and_eq_true, decide_eq_true_eq] at h
        obtain ⟨rfl, ⟨h0, hl⟩, h1, h2⟩ := h
        simp only [evE]
        exact snd_no (peM_join (pe_join (sndE C a P X W _ g h1).1 (sndE C b P X W _ g h2).1 (star_ok (chk_ok h2)) (base_ok h0) hl) g.K rfl)
    | _ => exact (Bool.false_ne_true h).elim
  | .idx a b => fun P X W x g h => by
    cases x with
    | Subscript o i pos =>
      simp only [chkE, Bool.and_eq_true] at h
      simp only [evE]
      exact snd_val (peM_idx (plain_ok (chk_ok h.2)) (sndE C a P X W _ g h.1).1 (sndE C b P X W _ g h.2).1 g.K)
    | _ => exact (Bool.false_ne_true h).elim
  | .sl a lo hi => fun P X W x g h => by
    cases x with
    | Subscript o i pos =>
      cases i <;> try exact (Bool.false_ne_true h).elim
      rename_i l u st p2
      cases st with
      | some _ => exact (Bool.false_ne_true h).elim
      | none =>
        simp only [chkE, Bool.and_eq_true] at h
        have e1 := (sndE C a P X W _ g h.1).1
        have e2 := (sndL C lo).opt P X W _ g h.2.1
        have e3 := (sndL C hi).opt P X W _ g h.2.2
        simp only [evE]
        exact snd_no (peM_sl e1 e2 e3 g.K (pe_slice sl_M e1 e2 e3))
    | _ => exact (Bool.false_ne_true h).elim
  | .call f es => fun P X W x g h => by
    cases x with
    | Call fn ls ks pos =>
      cases fn <;> try exact (Bool.false_ne_true h).elim
      rename_i y p
      cases ks with
      | cons _ _ => exact (Bool.false_ne_true h).elim
      | nil =>
        simp only [chkE, Bool.and_eq_true, decide_eq_true_eq] at h
        obtain ⟨rfl, ⟨h1, h2⟩, h3⟩ := h
        obtain ⟨fa, fd, ps, f1, f2, f3, f4⟩ := (g.fns _ h2).ex
        obtain ⟨g1, g2⟩ := g.glo h1
        have ar := (sndL C es).args P X W _ g h3
        simp only [evE]
        cases ls with
        | nil =>
          cases es with
          | cons _ _ => simp [chkEs] at h3
          | nil => simp only [evEs]; exact snd_val (peM_call0 f4 g.room g1 f1 f2 f3 g.tk g2)
        | cons l ls => exact snd_val (peM_call f4 g.room g1 f1 f2 f3 g.tk ar g2 (head_ok h3) (tail_ok h3))
    | _ => exact (Bool.false_ne_true h).elim
  | .cat c a b => fun P X W x g h => by
    cases x with
    | BinOp l p r pos =>
      simp only [chkE, Bool.and_eq_true, opEq, decide_eq_true_eq] at h
      obtain ⟨rfl, h1, h2⟩ := h
      simp only [evE]
      exact snd_no (new_pe (peF_cat g.K (sndE C a P X W _ g h1).1 (sndE C b P X W _ g h2).1))
    | _ => exact (Bool.false_ne_true h).elim
  | .split c a b => fun P X W x g h => by
    cases x with
    | Call fn ls ks pos =>
      cases fn <;> try exact (Bool.false_ne_true h).elim
      rename_i o m p
      rcases ls with _ | ⟨l, _ | ⟨_, _⟩⟩ <;> try exact (Bool.false_ne_true h).elim
      cases ks with
      | cons _ _ => exact (Bool.false_ne_true h).elim
      | nil =>
        simp only [chkE, Bool.and_eq_true, decide_eq_true_eq] at h
        obtain ⟨rfl, ⟨h0, hl⟩, h1, h2⟩ := h
        have e1 := (sndE C a P X W _ g h1).1
        have e2 := (sndE C b P X W _ g h2).1
        have hv := star_ok (xs := []) (env := X.env) (chk_ok h2)
        simp only [evE]
        exact snd_no (new_pe (peF_split e1 e2 hv (base_ok h0) hl))
    | _ => exact (Bool.false_ne_true h).elim
  | .find a b => fun P X W x g h => by
    cases x with
    | Call fn ls ks pos =>
      cases fn <;> try exact (Bool.false_ne_true h).elim
      rename_i o m p
      rcases ls with _ | ⟨l, _ | ⟨_, _⟩⟩ <;> try exact (Bool.false_ne_true h).elim
      cases ks with
      | cons _ _ => exact (Bool.false_ne_true h).elim
      | nil =>
        simp only [chkE, Bool.and_eq_true, decide_eq_true_eq] at h
        obtain ⟨rfl, ⟨h0, hl⟩, h1, h2⟩ := h
        have e1 := (sndE C a P X W _ g h1).1
        have e2 := (sndE C b P X W _ g h2).1
        have hv := star_ok (xs := []) (env := X.env) (chk_ok h2)
        simp only [evE]
        exact snd_no (peM_find e1 e2 hv (base_ok h0) hl)
    | _ => exact (Bool.false_ne_true h).elim
  | .index a b => fun P X W x g h => by
    cases x with
    | Call fn ls ks pos =>
      cases fn <;> try exact (Bool.false_ne_true h).elim
      rename_i o m p
      rcases ls with _ | ⟨l, _ | ⟨_, _⟩⟩ <;> try exact (Bool.false_ne_true h).elim
      cases ks with
      | cons _ _ => exact (Bool.false_ne_true h).elim
      | nil =>
        simp only [chkE, Bool.and_eq_true, decide_eq_true_eq] at h
        obtain ⟨rfl, ⟨h0, hl⟩, h1, h2⟩ := h
        have e1 := (sndE C a P X W _ g h1).1
        have e2 := (sndE C b P X W _ g h2).1
        have hv := star_ok (xs := []) (env := X.env) (chk_ok h2)
        simp only [evE]
        exact snd_no (peM_index g.K (pe_bm PySem.F.plainAttrs_list PySem.F.slot_list_index PySem.F.type_list_index mt_index e1 (paM_cons e2 paM_nil hv) (base_ok h0) (by rw [hv]; rfl) hl hv rfl))
    | _ => exact (Bool.false_ne_true h).elim
  | .dget a b => fun P X W x g h => by
    cases x with
    | Subscript o i pos =>
      simp only [chkE, Bool.and_eq_true] at h
      simp only [evE]
      exact snd_val (peM_dget (by have := g.hu; omega) (sndE C a P X W _ g h.1).1 (sndE C b P X W _ g h.2).1 (nosl_ok (chk_ok h.2)))
    | _ => exact (Bool.false_ne_true h).elim
  | .din neg a b => fun P X W x g h => by
    cases x with
    | Compare l ps rs pos =>
      rcases ps with _ | ⟨p, _ | ⟨_, _⟩⟩ <;> try exact (Bool.false_ne_true h).elim
      rcases rs with _ | ⟨r, _ | ⟨_, _⟩⟩ <;> try exact (Bool.false_ne_true h).elim
      simp only [chkE, Bool.and_eq_true, cmpEq, decide_eq_true_eq] at h
      obtain ⟨rfl, h1, h2⟩ := h
      have e1 := (sndE C a P X W _ g h1).1
      have e2 := (sndE C b P X W _ g h2).1
      simp only [evE]
      cases neg with
      | false => obtain ⟨k1, k2⟩ := peM_din (pos := pos) (by have := g.hu; omega) e1 e2 (marks_ok (chk_ok h2)); exact ⟨k1, fun _ => k2⟩
      | true => obtain ⟨k1, k2⟩ := peM_dnin (pos := pos) (by have := g.hu; omega) e1 e2 (marks_ok (chk_ok h2)); exact ⟨k1, fun _ => k2⟩
    | _ => exact (Bool.false_ne_true h).elim
  | .dget2 a k d => fun P X W x g h => by
    cases x with
    | Call fn ls ks pos =>
      cases fn <;> try exact (Bool.false_ne_true h).elim
      rename_i o m p
      rcases ls with _ | ⟨l, _ | ⟨l2, _ | ⟨_, _⟩⟩⟩ <;> try exact (Bool.false_ne_true h).elim
      cases ks with
      | cons _ _ => exact (Bool.false_ne_true h).elim
      | nil =>
        simp only [chkE, Bool.and_eq_true, decide_eq_true_eq] at h
        obtain ⟨rfl, ⟨h0, hl⟩, h1, h2, h3⟩ := h
        simp only [evE]
        exact snd_no (peM_dget2 (by have := g.hu; omega) (sndE C a P X W _ g h1).1 (sndE C k P X W _ g h2).1 (sndE C d P X W _ g h3).1 (m2_ok h0 hl (chk_ok h2) (chk_ok h3)))
    | _ => exact (Bool.false_ne_true h).elim
  | .disp es => fun P X W x g h => by
    cases x with
    | Dict keys values pos =>
      simp only [chkE, Bool.and_eq_true, decide_eq_true_eq] at h
      obtain ⟨a, b, c, d⟩ := snd_pairs (W := W) (pos := pos) g es.length es keys values (Nat.le_refl _) (sndL C es).all h.2
      simp only [evE]
      by_cases hk : keys = []
      · obtain ⟨rfl, rfl⟩ := d hk
        subst hk
        simp only [evEs]
        exact snd_no peM_disp0
      · exact snd_no (peM_disp a b c hk h.1)
    | _ => exact (Bool.false_ne_true h).elim
  | .lc c k ies t own ifs elt => snd_lc (sndL C ies) (sndL C ifs) (sndE C elt)
theorem sndL (C : Cfg) : ∀ es : List E, SndL C es
  | [] => sndL_nil C
  | e :: es => sndL_cons (sndE C e) (sndL C es)
end
end
end MP
set_option Elab.async false
set_option linter.all false
set_option maxRecDepth 100000
set_option maxHeartbeats 4000000
/-! MP12: statements as terms, what they say, the check, soundness. -/
namespace MP
open PySem PySem.Spec PyProof.Rows L2
inductive S where
  | pass | brk | cnt | never
  | frz (i : Nat)
  | ret (e : List E)
  | ex (e : E)
  | set (t : Tg) (e : E)
  | par (is : List Nat) (es : List E)
  | app (o v : E)
  | put (o i v : E)
  | aug (i : Nat) (o : Bin) (e : E)
  | ife (c : E) (a b : List S)
  | for (t : Tg) (k : ItK) (ies : List E) (b : List S)
  | while (n : Nat) (c : E) (b : List S)
def augD : Bin → PyData → PyData → Option PyData
  | .add, .int i, .int j => some (.int (i + j))
  | .sub, .int i, .int j => some (.int (i - j))
  | _, _, _ => none
def exAug (i : Nat) (f : PyData → PyData → Option PyData) (a : Sm) : Ss := fun env M => match env[i]? with
  | some (some x) => ofE (a env M) env fun y M1 => ofE (v2 f x y M1) env fun z M2 => .ok (.nx (env.set i (some z))) M2
  | _ => .bad
/-- the list in slot i is data from now on (nothing is done) -/
def exFrz (i : Nat) : Ss := fun env M => match env[i]? with
  | some (some (.dat _)) => .ok (.nx env) M
  | some (some (.ob n)) => (match M[n]? with
    | some (.lst xs) => (match datsOf xs with
      | some ds => .ok (.nx (env.set i (some (.dat (.list ds))))) (M.set n .dead)
      | none => .bad)
    | _ => .bad)
  | _ => .bad
def isFrz : S → Bool
  | .frz _ => true
  | _ => false
mutual
def exS (C : Cfg) : S → Ss
  | .pass => exNil
  | .brk => fun env M => .ok (.bk env) M
  | .cnt => fun env M => .ok (.ct env) M
  | .never => fun _ _ => .bad
  | .frz i => exFrz i
  | .ret es => (match es with
    | [] => fun _ M => .ok (.rt (.dat .none)) M
    | e :: _ => exRet (evE C e))
  | .ex e => exEx (evE C e)
  | .set t e => exSet t (evE C e)
  | .par is es => exPar is (evs (evEs C es))
  | .app o v => exApp (evE C o) (evE C v)
  | .put o i v => exPut (evE C o) (evE C i) (evE C v)
  | .aug i o e => exAug i (augD o) (evE C e)
  | .ife c a b => exIf (evE C c) (exSs C a) (exSs C b)
  | .for t k ies b => exFor t (evIt k (evEs C ies)) (exSs C b)
  | .while n c b => whileS (evE C c) (exSs C b) n
def exSs (C : Cfg) : List S → Ss
  | [] => exNil
  | s :: ss => exSeq (exS C s) (exSs C ss)
end
/-! ### the check -/
/-- does a comprehension go to the name before its block goes -/
def swB (sc : Scope) (x : Str) (p : Pos) : Expr → Bool
  | .ListComp _ _ s pos | .SetComp _ _ s pos | .DictComp _ _ _ s pos => (sc.names.lookup x == some .local && p.line == pos.line) && !(s.names.any fun (n, k) => n == x && (k == .local || k == .cell))
  | _ => false
def noComp : Expr → Bool
  | .ListComp .. | .SetComp .. | .DictComp .. => false
  | _ => true
def isLc : E → Bool
  | .lc .. => true
  | _ => false
def locB (P : Pl) (i : Nat) (x : Str) : Bool := decide (P.N[i]? = some x) && (P.sc.names.lookup x == some .local)
/-- a, b = .. with a right side that is no display of as many -/
def noSw : List Expr → Expr → Bool
  | ts, .Tuple _ _ _ => !(ts.length == 2 || ts.length == 3)
  | _, _ => true
def parOk (xs : List Str) (ls : List Nat) (vs : List Expr) : Bool := decide (xs.eraseDups.length = xs.length) && (ls.all (fun l => l == ls.headD 0) && (!(vs.all (foldedForSure 8)) && !(vs.all (constantsAlone 8))))
def nmP : Expr → Option (Str × Pos)
  | .Name x p => some (x, p)
  | _ => none
def chkNm (P : Pl) : List Nat → List Expr → Bool
  | [], [] => true
  | i :: is, e :: es => (match e with
    | .Name x _ => decide (P.N[i]? = some x) && P.sto x
    | _ => false) && chkNm P is es
  | _, _ => false
mutual
def chkS (C : Cfg) (P : Pl) : S → Stmt → Bool
  | .pass, s => (match s with
    | .Pass _ => true
    | _ => false)
  | .brk, s => (match s with
    | .Break _ => true
    | _ => false)
  | .cnt, s => (match s with
    | .Continue _ => true
    | _ => false)
  | .never, _ => true
  | .frz _, _ => false
  | .ret es, s => (match s with
    | .Return none _ => es.isEmpty
    | .Return (some x) _ => (match es with
      | [e] => chkE C P e x
      | _ => false)
    | _ => false)
  | .ex e, s => (match s with
    | .Expr x _ => noComp x && chkE C P e x
    | _ => false)
  | .set t e, s => (match s with
    | .Assign [tg] v _ => (chkT P t tg && chkE C P e v) && (match tg with
      | .Name x p => (match swB P.sc x p v with
        | true => isLc e
        | false => true)
      | .Tuple ts _ _ => noSw ts v
      | _ => false)
    | _ => false)
  | .par is es, s => (match s with
    | .Assign [.Tuple [.Name x p, .Name y q] _ _] (.Tuple [a, b] _ _) _ => (match is with
      | [i, j] => (locB P i x && locB P j y) && (parOk [x, y] [p.line, q.line] [a, b] && chkEs C P es [a, b])
      | _ => false)
    | .Assign [.Tuple [.Name x p, .Name y q, .Name z r] _ _] (.Tuple [a, b, c] _ _) _ => (match is with
      | [i, j, l] => (locB P i x && (locB P j y && locB P l z)) && (parOk [x, y, z] [p.line, q.line, r.line] [a, b, c] && chkEs C P es [a, b, c])
      | _ => false)
    | .Assign [.Tuple ts _ _] (.Tuple vs k p) _ => noSw ts (.Tuple vs k p) && (decide (is.length ≤ 30) && (chkNm P is ts && chkEs C P es vs))
    | _ => false)
  | .app o v, s => (match s with
    | .Expr (.Call (.Attribute ox m ap) [vx] [] cp) _ => decide (m = ("append" : Str)) && ((okBase ox && (ap.endLine == cp.line)) && (chkE C P o ox && chkE C P v vx))
    | _ => false)
  | .put o i v, s => (match s with
    | .Assign [.Subscript ox ix _] vx _ => chkE C P o ox && (chkE C P i ix && chkE C P v vx)
    | _ => false)
  | .aug i o e, s => (match s with
    | .AugAssign (.Name x _) op v _ => (decide (P.N[i]? = some x) && P.sto x) && ((match o with
        | .add => opEq op .Add
        | .sub => opEq op .Sub
        | _ => false) && chkE C P e v)
    | _ => false)
  | .ife c a b, s => (match s with
    | .If cx ax bx _ => (c.isTest && chkE C P c cx) && (chkSs C P a ax && chkSs C P b bx)
    | _ => false)
  | .for t k ies b, s => (match s with
    | .For tg iter body [] _ => (chkIt C P k ies tg iter && chkT P t tg) && chkSs C P b body
    | _ => false)
  | .while _ c b, s => (match s with
    | .While cx body [] _ => (c.isTest && chkE C P c cx) && chkSs C P b body
    | _ => false)
def chkSs (C : Cfg) (P : Pl) : List S → List Stmt → Bool
  | [], sts => (match sts with
    | [] => true
    | _ => false)
  | s :: ss, sts => (match isFrz s with
    | true => chkSs C P ss sts
    | false => (match sts with
      | [] => false
      | t :: ts => chkS C P s t && chkSs C P ss ts))
end
/-! ### soundness -/
structure GdS (C : Cfg) (P : Pl) (X : Cx) (W : WX) : Prop extends Gd C P X W where
  own : PassesOwn (model X.prog X.w) X.A X.env X.xe
  kind : P.sc.kind = .function
section
variable {C : Cfg} {P : Pl} {X : Cx} {W : WX}
theorem GdS.blockKind (g : GdS C P X W) : X.env.blockKind = .function := by
  unfold PySem.Env.blockKind
  rw [g.sc, g.kind]
  rfl
theorem sw_name (g : GdS C P X W) {x : Str} {p : Pos} {v : Expr} {n : Nat} : swapsWith v (some (.Name x p)) n X.env = pure (swB P.sc x p v) := by
  cases v <;> first
    | rfl
    | (show pure _ = pure _
       unfold swB PySem.Env.kindOf
       rw [g.blockKind, g.sc]
       rfl)
theorem sw_tup {ts : List Expr} {k : Nat} {p : Pos} {v : Expr} {n : Nat} {env : PySem.Env} : swapsWithSole [.Tuple ts k p] v n env = pure false := by
  cases v <;> rfl
theorem sw_sub {o i : Expr} {p : Pos} {v : Expr} {n : Nat} {env : PySem.Env} : swapsWithSole [.Subscript o i p] v n env = pure false := by
  cases v <;> rfl
theorem sw_none {v : Expr} {n : Nat} {env : PySem.Env} (h : noComp v = true) : swapsWith v none n env = pure false := by
  cases v <;> first | rfl | cases h
theorem nosw_ok {ts : List Expr} {k : Nat} {p : Pos} {v : Expr} {env : PySem.Env} (h : noSw ts v = true) : swappedStores [.Tuple ts k p] v env = pure none := by
  cases v with
  | Tuple vs k2 p2 =>
    unfold swappedStores
    simp only [noSw] at h
    simp only [h, Bool.true_or, if_true]
  | _ => rfl
def SndS (C : Cfg) (s : S) : Prop := ∀ (P : Pl) (X : Cx) (W : WX) (st : Stmt), GdS C P X W → chkS C P s st = true → PS X st (RS C.w W (exS C s))
def SndSs (C : Cfg) (ss : List S) : Prop := ∀ (P : Pl) (X : Cx) (W : WX) (sts : List Stmt), GdS C P X W → chkSs C P ss sts = true → PSs X sts (RS C.w W (exSs C ss))
theorem psM_bad {w : Mw} {st : Stmt} : PS X st (RS w W fun _ _ => .bad) := ⟨fun pins s σ H D I ⟨J, β, M, env, sit, en, p⟩ => False.elim p⟩
theorem psM_set1 {w : Mw} {t : Tg} {x : Str} {p pos : Pos} {i : Nat} {e : Expr} {a : Sm} {te : TE} (h : PS X (.Assign [.Name x p] e pos) (tAsg te (gName i))) (k : ∀ σ H Q, RE w W a σ H Q → te σ H Q) : PS X (.Assign [.Name x p] e pos) (RS w W (exSet (.nm i) a)) := by
  refine ps_imp h fun D σ H ⟨I, β, M, env, s, en, p⟩ => k σ H _ ⟨I, β, M, env, s, en, Post.imp (PostS.ofE p en) fun v H1 ⟨I1, β1, M1, x, s1, en1, e1, r1, p1⟩ => ?_⟩
  simp only [Tg.putV] at p1
  exact p1 I1 H1 β1 _ s1 Ext.refl (en1.set r1)
theorem snd_set (g : GdS C P X W) {t : Tg} {e : E} {st : Stmt} (h : chkS C P (.set t e) st = true) : PS X st (RS C.w W (exS C (.set t e))) := by
  unfold chkS at h
  split at h
  · rename_i tg v pos
    simp only [Bool.and_eq_true] at h
    obtain ⟨⟨h1, h2⟩, h3⟩ := h
    simp only [exS]
    have hE := (sndE C e P X W v g.toGd h2).1
    split at h3
    · rename_i x p
      cases t with
      | tup ts => simp [chkT] at h1
      | nm i =>
        simp only [chkT, Bool.and_eq_true, decide_eq_true_eq] at h1
        obtain ⟨k1, k2⟩ := g.sto h1.2
        have hi : X.N[i]? = some x := by rw [g.N]; exact h1.1
        have hN : X.N.Nodup := by rw [g.N]; exact g.nd
        cases q : swB P.sc x p v with
        | false => exact psM_set1 (t := .nm i) (ps_set hN hi k1 hE (by rw [sw_name g, q]) k2) fun _ _ _ z => z
        | true =>
          rw [q] at h3
          cases e with
          | lc c k ies t own ifs elt =>
            obtain ⟨el, tg, iter, fs, scope, pos', wi, gg, tt, te, rfl, e1, e2, e3, e4, e5, e6, e7⟩ := lc_parts (sndL C ies) (sndL C ifs) (sndE C elt) g.toGd h2
            have hl : X.env.scope.names.lookup x = some .local := by
              unfold swB at q
              simp only [Bool.and_eq_true, beq_iff_eq] at q
              rw [g.sc]
              exact q.1.1
            exact psM_set1 (t := .nm i) (ps_setLc g.calm hN hi hl (by rw [sw_name g, q]) e1 e2 e3 e4 e5 e6) e7
          | _ => cases h3
    · rename_i ts k p
      cases t with
      | nm i => simp [chkT] at h1
      | tup tgs =>
        exact psM_set (ps_asg hE (tgt g.toGd (.tup tgs) _ h1) sw_tup (nosw_ok h3)) (okTgG _ _) (fun i e => by cases e)
    · cases h3
  · cases h
theorem psM_par2 {w : Mw} {st : Stmt} {i j : Nat} {as : Sms} (h : PS X st (tPar i j (RA w W as))) : PS X st (RS w W (exPar [i, j] as)) :=
  ps_imp h fun D σ H ⟨I, β, M, env, s, en, p⟩ => ⟨I, β, M, env, s, en, Post.imp (PostS.ofEs p en) fun vs H1 ⟨I1, β1, M1, xs, s1, en1, e1, r1, p1⟩ => by
    cases r1 with
    | nil => exact False.elim p1
    | cons r1 t1 =>
      cases t1 with
      | nil => exact False.elim p1
      | cons r2 t2 =>
        cases t2 with
        | nil => exact ⟨_, _, rfl, p1 I1 H1 β1 _ s1 Ext.refl ((en1.set r1).set r2)⟩
        | cons _ _ => exact False.elim p1⟩
theorem psM_par3 {w : Mw} {st : Stmt} {i j l : Nat} {as : Sms} (h : PS X st (tPar3 i j l (RA w W as))) : PS X st (RS w W (exPar [i, j, l] as)) :=
  ps_imp h fun D σ H ⟨I, β, M, env, s, en, p⟩ => ⟨I, β, M, env, s, en, Post.imp (PostS.ofEs p en) fun vs H1 ⟨I1, β1, M1, xs, s1, en1, e1, r1, p1⟩ => by
    cases r1 with
    | nil => exact False.elim p1
    | cons r1 t1 =>
      cases t1 with
      | nil => exact False.elim p1
      | cons r2 t2 =>
        cases t2 with
        | nil => exact False.elim p1
        | cons r3 t3 =>
          cases t3 with
          | nil => exact ⟨_, _, _, rfl, p1 I1 H1 β1 _ s1 Ext.refl (((en1.set r1).set r2).set r3)⟩
          | cons _ _ => exact False.elim p1⟩
theorem star_any {vs : List Expr} (h : ∀ v ∈ vs, okX v = true) : (vs.any fun | .Starred .. => true | _ => false) = false := by
  rw [List.any_eq_false]
  intro v hv
  have := h v hv
  cases v <;> first | exact Bool.false_ne_true | cases this
theorem sw_par2 (g : GdS C P X W) {x y : Str} {p q pt pt2 : Pos} {kt k2 : Nat} {a b : Expr} (hx : P.sc.names.lookup x = some .local) (hy : P.sc.names.lookup y = some .local) (h : parOk [x, y] [p.line, q.line] [a, b] = true) (oa : okX a = true) (ob : okX b = true) :
    swappedStores [.Tuple [.Name x p, .Name y q] kt pt] (.Tuple [a, b] k2 pt2) X.env = pure (some [x, y]) := by
  unfold parOk at h
  simp only [Bool.and_eq_true, decide_eq_true_eq, Bool.not_eq_true'] at h
  obtain ⟨h1, h2, h3, h4⟩ := h
  have hs := star_any (vs := [a, b]) (by simp [oa, ob])
  have hl : q.line = p.line := by simpa using h2
  unfold swappedStores
  simp only [g.blockKind]
  refine (if_neg (by simp)).trans ((if_neg (fun z => Bool.false_ne_true (hs.symm.trans z))).trans ?_)
  have e1 : (X.env.kindOf x == some NameKind.local) = true := by unfold PySem.Env.kindOf; rw [g.sc, hx]; rfl
  have e2 : (X.env.kindOf y == some NameKind.local) = true := by unfold PySem.Env.kindOf; rw [g.sc, hy]; rfl
  have e3 : ((Expr.Name x p).pos.line) = p.line := rfl
  simp only [List.filterMap_cons, List.filterMap_nil, List.head?_cons, Option.map_some, Option.getD_some, e1, e2, e3, hl, beq_self_eq_true, Bool.and_self, if_true, h1, h3, h4, Bool.and_true]
  rfl
theorem sw_par3 (g : GdS C P X W) {x y z : Str} {p q r pt pt2 : Pos} {kt k2 : Nat} {a b c : Expr} (hx : P.sc.names.lookup x = some .local) (hy : P.sc.names.lookup y = some .local) (hz : P.sc.names.lookup z = some .local) (h : parOk [x, y, z] [p.line, q.line, r.line] [a, b, c] = true) (oa : okX a = true) (ob : okX b = true) (oc : okX c = true) :
    swappedStores [.Tuple [.Name x p, .Name y q, .Name z r] kt pt] (.Tuple [a, b, c] k2 pt2) X.env = pure (some [x, y, z]) := by
  unfold parOk at h
  simp only [Bool.and_eq_true, decide_eq_true_eq, Bool.not_eq_true'] at h
  obtain ⟨h1, h2, h3, h4⟩ := h
  have hs := star_any (vs := [a, b, c]) (by simp [oa, ob, oc])
  have hl : q.line = p.line ∧ r.line = p.line := by simpa using h2
  unfold swappedStores
  simp only [g.blockKind]
  refine (if_neg (by simp)).trans ((if_neg (fun z => Bool.false_ne_true (hs.symm.trans z))).trans ?_)
  have e1 : (X.env.kindOf x == some NameKind.local) = true := by unfold PySem.Env.kindOf; rw [g.sc, hx]; rfl
  have e2 : (X.env.kindOf y == some NameKind.local) = true := by unfold PySem.Env.kindOf; rw [g.sc, hy]; rfl
  have e4 : (X.env.kindOf z == some NameKind.local) = true := by unfold PySem.Env.kindOf; rw [g.sc, hz]; rfl
  have e3 : ((Expr.Name x p).pos.line) = p.line := rfl
  simp only [List.filterMap_cons, List.filterMap_nil, List.head?_cons, Option.map_some, Option.getD_some, e1, e2, e3, e4, hl.1, hl.2, beq_self_eq_true, Bool.and_self, if_true, h1, h3, h4, Bool.and_true]
  rfl
theorem locB_ok {i : Nat} {x : Str} (h : locB P i x = true) : P.N[i]? = some x ∧ P.sc.names.lookup x = some .local := by
  unfold locB at h
  simpa using h
theorem nodup_ne {N : List Str} (h : N.Nodup) {i j : Nat} {x y : Str} (hi : N[i]? = some x) (hj : N[j]? = some y) (e : x ≠ y) : i ≠ j := fun z => by
  subst z
  rw [hi] at hj
  cases hj
  exact e rfl
theorem erase_ne2 {x y : Str} (h : [x, y].eraseDups.length = [x, y].length) : x ≠ y := fun e => by
  subst e
  simp [List.eraseDups_cons] at h
theorem erase_ne3 {x y z : Str} (h : [x, y, z].eraseDups.length = [x, y, z].length) : x ≠ y ∧ x ≠ z ∧ y ≠ z := by
  refine ⟨fun e => ?_, fun e => ?_, fun e => ?_⟩
  · subst e
    rw [List.eraseDups_cons] at h
    simp [List.filter_cons] at h
    by_cases q : z = x
    · subst q; simp at h
    · simp [q, List.eraseDups_cons] at h
  · subst e
    rw [List.eraseDups_cons] at h
    simp [List.filter_cons] at h
    by_cases q : y = x
    · subst q; simp at h
    · simp [q, List.eraseDups_cons] at h
  · subst e
    rw [List.eraseDups_cons] at h
    simp [List.filter_cons] at h
    by_cases q : y = x
    · subst q; simp at h
    · simp [q, List.eraseDups_cons] at h
def gNms : List Nat → TGs
  | [] => gNil
  | i :: is => gCons (gName i) (gNms is)
theorem nms_ok (g : GdS C P X W) : ∀ (is : List Nat) (ts : List Expr), chkNm P is ts = true → PGs X ts (gNms is) ∧ assignEach ts X.env = ts.map (fun x => (false, assign x X.env)) ∧ is.length = ts.length
  | [], [], _ => ⟨pgs_nil, rfl, rfl⟩
  | [], _ :: _, h => by simp [chkNm] at h
  | _ :: _, [], h => by simp [chkNm] at h
  | i :: is, t :: ts, h => by
    simp only [chkNm, Bool.and_eq_true] at h
    obtain ⟨k1, k2, k3⟩ := nms_ok g is ts h.2
    cases t with
    | Name x p =>
      simp only [Bool.and_eq_true, decide_eq_true_eq] at h
      obtain ⟨h1, h2⟩ := g.sto h.1.2
      have hx : assignEach (.Name x p :: ts) X.env = (false, assign (.Name x p) X.env) :: assignEach ts X.env := rfl
      exact ⟨pgs_cons (pg_name (i := i) (by rw [g.N]; exact g.nd) (by rw [g.N]; exact h.1.1) h1 h2) k1 (by rw [hx]; rfl), by rw [hx, k2]; rfl, by simp [k3]⟩
    | _ => simp at h
theorem gNms_run {w : Mw} {I H : Hp} {β : List Addr} {Q : St → Hp → Prop} : ∀ (is : List Nat) (vs : List V) (xs : List Val) (σ : St) (env env1 : Env), EnvR w.K I β σ env → VRs w.K I β vs xs → setAll is xs env = some env1 → (∀ σ', EnvR w.K I β σ' env1 → Q σ' H) → gNms is vs σ H Q
  | [], _, _, σ, env, env1, en, .nil, e, k => by cases e; exact ⟨rfl, k σ en⟩
  | [], _, _, σ, env, env1, en, .cons _ _, e, k => by simp [setAll] at e
  | _ :: _, _, _, σ, env, env1, en, .nil, e, k => by simp [setAll] at e
  | i :: is, _, _, σ, env, env1, en, .cons r t, e, k => ⟨_, _, rfl, gNms_run is _ _ _ _ env1 (en.set r) t e k⟩
theorem psM_parN {w : Mw} {is : List Nat} {ts vs : List Expr} {kt k2 : Nat} {pt p2 pos : Pos} {as : Sms} (hK : X.K = w.K) (ha : PA X vs (RA w W as)) (hg : PG X (.Tuple ts kt pt) (gTup X.K ts.length (gNms is))) (hl : is.length = ts.length) (h30 : is.length ≤ 30) (hw : swappedStores [.Tuple ts kt pt] (.Tuple vs k2 p2) X.env = pure none) :
    PS X (.Assign [.Tuple ts kt pt] (.Tuple vs k2 p2) pos) (RS w W (exPar is as)) :=
  ps_imp (ps_asg (pe_tup ha) hg sw_tup hw) fun D σ H ⟨I, β, M, env, s, en, p⟩ => ⟨I, β, M, env, s, en, Post.imp (PostS.ofEs p en) fun us H1 ⟨I1, β1, M1, xs, s1, en1, e1, r1, p1⟩ => by
    cases q : setAll is xs env with
    | none => rw [q] at p1; exact False.elim p1
    | some env1 =>
      rw [q] at p1
      have hlen : ∀ (is : List Nat) (xs : List Val) (env env1 : Env), setAll is xs env = some env1 → xs.length = is.length := by
        intro is
        induction is with
        | nil => intro xs env env1 h; cases xs with
          | nil => rfl
          | cons _ _ => simp [setAll] at h
        | cons i is ih => intro xs env env1 h; cases xs with
          | nil => simp [setAll] at h
          | cons x xs => simp only [setAll] at h; simp [ih _ _ _ h]
      have l1 := hlen is xs env env1 q
      have l2 : us.length = xs.length := Paired.length r1
      refine ⟨?_, fun a ha => ?_⟩
      · have := sizeLine_eq; omega
      · have hI := s1.sub.free ha
        have hb : a ∉ β1 := fun z => s1.trk a z ha
        refine ⟨a, us, rfl, .inl (.inl upd_same), by rw [l2, l1, hl], gNms_run (w := w) (I := I1) (β := β1) is us xs σ env env1 en1 r1 q fun σ' en' => p1 I1 _ β1 σ' (s1.free hI hb) (Ext.refl.free ha) en'⟩⟩
theorem snd_par (g : GdS C P X W) {is : List Nat} {es : List E} {st : Stmt} (h : chkS C P (.par is es) st = true) : PS X st (RS C.w W (exS C (.par is es))) := by
  have hN : X.N.Nodup := by rw [g.N]; exact g.nd
  have nm : ∀ {i : Nat} {x : Str}, P.N[i]? = some x → X.N[i]? = some x := fun h => by rw [g.N]; exact h
  have lc : ∀ {x : Str}, P.sc.names.lookup x = some .local → X.env.scope.names.lookup x = some .local := fun h => by rw [g.sc]; exact h
  unfold chkS at h
  simp only [exS]
  split at h
  · rename_i x p y q kt pt a b k2 pt2 pos
    split at h
    · rename_i i j
      simp only [Bool.and_eq_true] at h
      obtain ⟨⟨h1, h2⟩, h3, h4⟩ := h
      obtain ⟨a1, b1⟩ := locB_ok h1
      obtain ⟨a2, b2⟩ := locB_ok h2
      have ar := (sndL C es).args P X W _ g.toGd h4
      obtain ⟨e1, r1, _, c1, d1⟩ := chkEs_cons' h4
      obtain ⟨e2, r2, _, c2, d2⟩ := chkEs_cons' d1
      have hd := h3
      unfold parOk at hd
      simp only [Bool.and_eq_true, decide_eq_true_eq] at hd
      exact psM_par2 (ps_par g.calm hN (nm a1) (nm a2) (nodup_ne g.nd a1 a2 (erase_ne2 hd.1)) (lc b1) (lc b2) ar (sw_par2 g b1 b2 h3 (chk_ok c1) (chk_ok c2)) sw_tup)
    · cases h
  · rename_i x p y q z r kt pt a b c k2 pt2 pos
    split at h
    · rename_i i j l
      simp only [Bool.and_eq_true] at h
      obtain ⟨⟨h1, h2, h2'⟩, h3, h4⟩ := h
      obtain ⟨a1, b1⟩ := locB_ok h1
      obtain ⟨a2, b2⟩ := locB_ok h2
      obtain ⟨a3, b3⟩ := locB_ok h2'
      have ar := (sndL C es).args P X W _ g.toGd h4
      obtain ⟨e1, r1, _, c1, d1⟩ := chkEs_cons' h4
      obtain ⟨e2, r2, _, c2, d2⟩ := chkEs_cons' d1
      obtain ⟨e3, r3, _, c3, d3⟩ := chkEs_cons' d2
      have hd := h3
      unfold parOk at hd
      simp only [Bool.and_eq_true, decide_eq_true_eq] at hd
      obtain ⟨n1, n2, n3⟩ := erase_ne3 hd.1
      exact psM_par3 (ps_par3 g.calm hN (nm a1) (nm a2) (nm a3) (nodup_ne g.nd a1 a2 n1) (nodup_ne g.nd a1 a3 n2) (nodup_ne g.nd a2 a3 n3) (lc b1) (lc b2) (lc b3) ar (sw_par3 g b1 b2 b3 h3 (chk_ok c1) (chk_ok c2) (chk_ok c3)) sw_tup)
    · cases h
  · rename_i ts kt pt vs k2 p2 pos x1 x2
    simp only [Bool.and_eq_true, decide_eq_true_eq] at h
    obtain ⟨h1, h30, h2, h3⟩ := h
    obtain ⟨k1, k2', k3⟩ := nms_ok g is ts h2
    exact psM_parN g.K ((sndL C es).args P X W _ g.toGd h3) (pg_tup g.calm k1 (by rw [k2']; simp) (by rw [k2']; simp)) k3 h30 (nosw_ok h1)
  · cases h
theorem asg_sub {i o : Expr} {pos : Pos} {env : PySem.Env} (h : okX i = true) : ∀ v, assign (.Subscript o i pos) env v = (do
      let ov ← holding [v] (eval o env)
      let iv ← holding [v, ov] (eval i env)
      standAt pos
      holding [v, ov, iv] (setItem ov iv v)
      release [v, ov, iv] []) := by
  intro v
  cases i <;> first | rfl | cases h
theorem snd_put (g : GdS C P X W) {o i v : E} {st : Stmt} (h : chkS C P (.put o i v) st = true) : PS X st (RS C.w W (exS C (.put o i v))) := by
  have hu : X.A.units + 1 < cLine := by have := g.hu; omega
  unfold chkS at h
  simp only [exS]
  split at h
  · rename_i ox ix p2 vx pos
    simp only [Bool.and_eq_true] at h
    obtain ⟨h1, h2, h3⟩ := h
    have e1 := (sndE C o P X W _ g.toGd h1).1
    have e2 := (sndE C i P X W _ g.toGd h2).1
    have e3 := (sndE C v P X W _ g.toGd h3).1
    exact psM_put hu e1 e2 e3 (pg_sub e1 e2 (set_LD hu) (asg_sub (chk_ok h2))) sw_sub
  · cases h
theorem snd_app (g : GdS C P X W) {o v : E} {st : Stmt} (h : chkS C P (.app o v) st = true) : PS X st (RS C.w W (exS C (.app o v))) := by
  unfold chkS at h
  simp only [exS]
  split at h
  · rename_i ox m ap vx cp pos
    simp only [Bool.and_eq_true, decide_eq_true_eq] at h
    obtain ⟨rfl, ⟨h0, hl⟩, h1, h2⟩ := h
    have e1 := (sndE C o P X W _ g.toGd h1).1
    have e2 := (sndE C v P X W _ g.toGd h2).1
    have hv := star_ok (xs := []) (env := X.env) (chk_ok h2)
    exact psM_app (ps_expr (pe_bm PySem.F.plainAttrs_list PySem.F.slot_list_append PySem.F.type_list_append mt_append e1 (paM_cons e2 paM_nil hv) (base_ok h0) (by rw [hv]; rfl) hl hv rfl) rfl)
  · cases h
theorem snd_aug (g : GdS C P X W) {i : Nat} {o : Bin} {e : E} {st : Stmt} (h : chkS C P (.aug i o e) st = true) : PS X st (RS C.w W (exS C (.aug i o e))) := by
  unfold chkS at h
  simp only [exS]
  split at h
  · rename_i x p op v pos
    simp only [Bool.and_eq_true, decide_eq_true_eq] at h
    obtain ⟨⟨h1, h2⟩, h3, h4⟩ := h
    obtain ⟨k1, k2⟩ := g.sto h2
    have hi : X.N[i]? = some x := by rw [g.N]; exact h1
    have hN : X.N.Nodup := by rw [g.N]; exact g.nd
    have e1 := (sndE C e P X W _ g.toGd h4).1
    have key : ∀ (ti : TIp) (f : PyData → PyData → Option PyData), PIp X op ti → OkOp C.w.K ti f → PS X (.AugAssign (.Name x p) op v pos) (RS C.w W (exAug i f (evE C e))) := fun ti f hp ok =>
      ps_imp (ps_aug hN hi k1 e1 hp k2) fun D σ H ⟨I, β, M, env, s, en, q⟩ => by
        unfold exAug at q
        split at q
        · rename_i xv hx
          obtain ⟨u, hu, ru⟩ := en.2 i xv hx
          refine ⟨u, hu, I, β, M, env, s, en, Post.imp (PostS.ofE q en) fun w2 H1 ⟨I1, β1, M1, y, s1, en1, e1, r1, p1⟩ => ?_⟩
          exact Post.v2 (W := W) (σ := σ) (Post.imp (PostS.ofE p1 en1) fun zv H2 ⟨I2, β2, M2, z, s2, en2, e2, r2, p2⟩ => p2 I2 H2 β2 _ s2 Ext.refl (en2.set r2)) ok s1 (ru.mono e1.toEx0) r1
        · exact False.elim q
    cases o with
    | add =>
      simp only [opEq, decide_eq_true_eq] at h3
      subst h3
      refine key _ _ ip_add fun I H x y d e z Q s hx hy f q => ?_
      cases d with
      | int i' =>
        cases e with
        | int j' => cases f; exact ⟨i', j', VW.int hx, VW.int hy, old_val s q (.int _)⟩
        | _ => cases f
      | _ => cases f
    | sub =>
      simp only [opEq, decide_eq_true_eq] at h3
      subst h3
      refine key _ _ ip_sub fun I H x y d e z Q s hx hy f q => ?_
      cases d with
      | int i' =>
        cases e with
        | int j' => cases f; exact ⟨i', j', VW.int hx, VW.int hy, old_val s q (.int _)⟩
        | _ => cases f
      | _ => cases f
    | _ => cases h3
  · cases h
theorem snd_ret (g : GdS C P X W) {es : List E} {st : Stmt} (h : chkS C P (.ret es) st = true) : PS X st (RS C.w W (exS C (.ret es))) := by
  unfold chkS at h
  split at h
  · cases es with
    | nil =>
      simp only [exS]
      exact ps_imp ps_retN fun D σ H ⟨I, β, M, env, s, en, p⟩ => p I H β .non s Ext.refl .non
    | cons _ _ => cases h
  · split at h
    · simp only [exS]
      exact psM_ret (sndE C _ P X W _ g.toGd h).1
    · cases h
  · cases h
theorem snd_ex (g : GdS C P X W) {e : E} {st : Stmt} (h : chkS C P (.ex e) st = true) : PS X st (RS C.w W (exS C (.ex e))) := by
  unfold chkS at h
  split at h
  · rename_i x pos
    simp only [Bool.and_eq_true] at h
    simp only [exS]
    have e1 := (sndE C e P X W x g.toGd h.2).1
    exact psM_ex e1 (ps_expr e1 (sw_none h.1))
  · cases h
theorem sit_freeze {K : FrgT} {ca : Str → Addr} {I H : Hp} {β : List Addr} {M : Mem} {n : Nat} {p : Addr} {xs : List Val} {ds : List PyData} (s : Sit K ca I H β M) (hp : β[n]? = some p) (hM : M[n]? = some (.lst xs)) (hd : datsOf xs = some ds) :
    ∃ I1, Ext I H β I1 H β ∧ Sit K ca I1 H β (M.set n .dead) ∧ Dp K I1 (.ref p) (.list ds) := by
  obtain ⟨hi, vs, h1, h2⟩ := s.cell n _ p hM hp
  have d := dats_of h2 hd
  have sI : Same I (upd I p (.lst vs)) := fun b u e => by rw [upd_ne (ne_of_none e hi)]; exact e
  have hb : p ∈ β := List.mem_of_getElem? hp
  refine ⟨upd I p (.lst vs), ⟨⟨sI, fun _ _ z => z⟩, fun a o g1 g2 g3 => ⟨g1, by rw [upd_ne (fun (e : a = p) => g3 (by rw [e]; exact hb))]; exact g2, g3⟩⟩, ⟨fun b u e => ?_, by simp [s.len], s.inj, s.trk, fun m c q e1 e2 => ?_⟩, .lst (.inl (.inl upd_same)) (d.mono sI)⟩
  · by_cases q : b = p
    · subst q; rw [upd_same] at e; rw [← e]; exact h1
    · rw [upd_ne q] at e; exact s.sub b u e
  · by_cases e : n = m
    · subst e
      have hn : n < M.length := (List.getElem?_eq_some_iff.mp hM).1
      rw [List.getElem?_set_self hn] at e1
      cases e1
      trivial
    · rw [List.getElem?_set_ne e] at e1
      have ne : q ≠ p := fun z => by
        subst z
        obtain ⟨a1, a2⟩ := List.getElem?_eq_some_iff.mp hp
        obtain ⟨b1, b2⟩ := List.getElem?_eq_some_iff.mp e2
        exact e ((List.getElem_inj s.inj).mp (a2.trans b2.symm))
      exact (s.cell m c q e1 e2).frz hi ne
theorem envR_re {K : FrgT} {I : Hp} {β : List Addr} {σ : St} {env : Env} {i : Nat} {v : V} {x : Val} (en : EnvR K I β σ env) (hv : σ[i]? = some (some v)) (r : VR K I β v x) : EnvR K I β σ (env.set i (some x)) := by
  refine ⟨by simp [en.1], fun j y hy => ?_⟩
  by_cases e : i = j
  · subst e
    have hi : i < env.length := by
      have := (List.getElem?_eq_some_iff.mp hy).1
      simpa using this
    rw [List.getElem?_set_self hi] at hy
    cases hy
    exact ⟨v, hv, r⟩
  · rw [List.getElem?_set_ne e] at hy
    exact en.2 j y hy
theorem pssM_frz {w : Mw} {sts : List Stmt} {i : Nat} {b : Ss} (h : PSs X sts (RS w W b)) : PSs X sts (RS w W (exSeq (exFrz i) b)) :=
  pss_imp h fun D σ H ⟨I, β, M, env, s, en, p⟩ => by
    unfold exSeq exFrz at p
    split at p
    · exact ⟨I, β, M, env, s, en, p⟩
    · rename_i n hx
      split at p
      · rename_i xs hM
        split at p
        · rename_i ds hd
          obtain ⟨v, hv, q, hq, rfl⟩ := en.2 i _ hx
          obtain ⟨I1, e1, s1, d1⟩ := sit_freeze s hq hM hd
          exact ⟨I1, β, _, _, s1, envR_re (x := .dat (.list ds)) (en.mono e1.toEx0) hv d1, PostS.ext p e1⟩
        · exact False.elim p
      · exact False.elim p
    · exact False.elim p
mutual
theorem sndS (C : Cfg) : ∀ s : S, SndS C s
  | .pass => fun P X W st g h => by
    cases st with
    | Pass _ => simp only [exS]; exact ps_imp ps_pass fun D σ H ⟨I, β, M, env, s, en, p⟩ => p I H β σ s Ext.refl en
    | _ => exact (Bool.false_ne_true h).elim
  | .brk => fun P X W st g h => by
    cases st with
    | Break _ => simp only [exS]; exact ps_imp ps_break fun D σ H ⟨I, β, M, env, s, en, p⟩ => p I H β σ s Ext.refl en
    | _ => exact (Bool.false_ne_true h).elim
  | .cnt => fun P X W st g h => by
    cases st with
    | Continue _ => simp only [exS]; exact ps_imp ps_continue fun D σ H ⟨I, β, M, env, s, en, p⟩ => p I H β σ s Ext.refl en
    | _ => exact (Bool.false_ne_true h).elim
  | .never => fun P X W st g h => by simp only [exS]; exact psM_bad
  | .frz i => fun P X W st g h => by simp [chkS] at h
  | .ret es => fun P X W st g h => snd_ret g h
  | .ex e => fun P X W st g h => snd_ex g h
  | .set t e => fun P X W st g h => snd_set g h
  | .par is es => fun P X W st g h => snd_par g h
  | .app o v => fun P X W st g h => snd_app g h
  | .put o i v => fun P X W st g h => snd_put g h
  | .aug i o e => fun P X W st g h => snd_aug g h
  | .ife c a b => fun P X W st g h => by
    cases st with
    | If cx ax bx pos =>
      simp only [chkS, Bool.and_eq_true] at h
      simp only [exS]
      exact psM_if ((sndE C c P X W cx g.toGd h.1.2).2 h.1.1) (sndSs C a P X W ax g h.2.1) (sndSs C b P X W bx g h.2.2)
    | _ => exact (Bool.false_ne_true h).elim
  | .for t k ies b => fun P X W st g h => by
    cases st with
    | For tg iter body orelse pos =>
      cases orelse with
      | cons _ _ => exact (Bool.false_ne_true h).elim
      | nil =>
        simp only [chkS, Bool.and_eq_true] at h
        simp only [exS]
        obtain ⟨h1, h2⟩ := (sndL C ies).it P X W k tg iter g.toGd h.1.1
        exact psM_for g.own g.calm h1 (tgt g.toGd t tg h.1.2) (okTgG _ t) (sndSs C b P X W body g h.2) (fold_ok h2)
    | _ => exact (Bool.false_ne_true h).elim
  | .while n c b => fun P X W st g h => by
    cases st with
    | While cx body orelse pos =>
      cases orelse with
      | cons _ _ => exact (Bool.false_ne_true h).elim
      | nil =>
        simp only [chkS, Bool.and_eq_true] at h
        simp only [exS]
        exact psM_while g.own ((sndE C c P X W cx g.toGd h.1.2).2 h.1.1) (sndSs C b P X W body g h.2)
    | _ => exact (Bool.false_ne_true h).elim
theorem sndSs (C : Cfg) : ∀ ss : List S, SndSs C ss
  | [] => fun P X W sts g h => by
    cases sts with
    | nil => simp only [exSs]; exact pssM_nil
    | cons _ _ => simp [chkSs] at h
  | s :: ss => fun P X W sts g h => by
    unfold chkSs at h
    simp only [exSs]
    split at h
    · rename_i hf
      cases s <;> first
        | (exfalso; exact Bool.false_ne_true hf)
        | (simp only [exS]; exact pssM_frz (sndSs C ss P X W sts g h))
    · split at h
      · cases h
      · rename_i t ts
        simp only [Bool.and_eq_true] at h
        exact pssM_cons (sndS C s P X W t g h.1) (sndSs C ss P X W ts g h.2)
end
end
end MP
set_option Elab.async false
set_option linter.all false
set_option maxRecDepth 100000
set_option maxHeartbeats 4000000
/-! MP13: a table of functions, the head's facts, the law's end. -/
namespace MP
open PySem PySem.Spec PyProof.Rows L2
/-! ### constants of the module -/
mutual
def conV (K : FrgT) : Value → PyData → Bool
  | .none, .none => true
  | .bool a, .bool b => decide (a = b)
  | .int a _, .int b => decide (a = b)
  | .str a _, .str b => decide (a = b)
  | .ref a, .tuple ds => (match K.lookup a with
    | some ⟨.type "tuple", _, .seq its _, _⟩ => decide (its.size ≤ sizeLine) && conVs K its.toList ds
    | _ => false)
  | _, _ => false
def conVs (K : FrgT) : List Value → List PyData → Bool
  | [], [] => true
  | v :: vs, d :: ds => conV K v d && conVs K vs ds
  | _, _ => false
end
mutual
theorem conV_ok {K : FrgT} : ∀ (d : PyData) (v : Value), conV K v d = true → ∃ u, RelV u v ∧ ∀ I, Dp K I u d
  | .none, v, h => by
    cases v <;> first | exact ⟨.non, rfl, fun _ => .non⟩ | (exfalso; exact Bool.false_ne_true h)
  | .bool b, v, h => by
    cases v <;> first | (exfalso; exact Bool.false_ne_true h) | skip
    rename_i a
    have e : a = b := of_decide_eq_true h
    subst e
    exact ⟨.bl a, rfl, fun _ => .bl a⟩
  | .int b, v, h => by
    cases v <;> first | (exfalso; exact Bool.false_ne_true h) | skip
    rename_i a t
    have e : a = b := of_decide_eq_true h
    subst e
    exact ⟨.int a, ⟨t, rfl⟩, fun _ => .int a⟩
  | .str b, v, h => by
    cases v <;> first | (exfalso; exact Bool.false_ne_true h) | skip
    rename_i a t
    have e : a = b := of_decide_eq_true h
    subst e
    exact ⟨.str a, ⟨t, rfl⟩, fun _ => .str a⟩
  | .tuple ds, v, h => by
    cases v <;> first | (exfalso; exact Bool.false_ne_true h) | skip
    rename_i a
    simp only [conV] at h
    split at h
    · rename_i o1 its o2 o3 hk
      simp only [Bool.and_eq_true, decide_eq_true_eq] at h
      obtain ⟨us, h1, h2⟩ := conVs_ok ds its.toList h.2
      exact ⟨.ref a, rfl, fun I => .tup (.inr ⟨_, its, _, hk, rfl, rfl, h.1, h1⟩) (h2 I)⟩
    · cases h
  | .list ds, v, h => by cases v <;> (exfalso; exact Bool.false_ne_true h)
  | .dict ds, v, h => by cases v <;> (exfalso; exact Bool.false_ne_true h)
theorem conVs_ok {K : FrgT} : ∀ (ds : List PyData) (vs : List Value), conVs K vs ds = true → ∃ us, Vals us vs ∧ ∀ I, DpAll K I us ds
  | [], vs, h => by
    cases vs with
    | nil => exact ⟨[], .nil, fun _ => .nil⟩
    | cons _ _ => simp [conVs] at h
  | d :: ds, vs, h => by
    cases vs with
    | nil => simp [conVs] at h
    | cons v vs =>
      simp only [conVs, Bool.and_eq_true] at h
      obtain ⟨u, h1, h2⟩ := conV_ok d v h.1
      obtain ⟨us, h3, h4⟩ := conVs_ok ds vs h.2
      exact ⟨u :: us, .cons h1 h3, fun I => .cons (h2 I) (h4 I)⟩
end
def conB (K : FrgT) (p : Str × PyData) : Bool := match PySem.W.nsIn K mainGlobals p.1 with
  | some (some v) => conV K v p.2
  | _ => false
/-! ### the hook -/
abbrev AlM : Type := He.AlD × Bool
def obsM (fa : List He.Fa) (fn : List He.DefD) (cs : List (Str × PyData)) (K : FrgT) : AlM := (He.obsD fa fn K, cs.all (conB K))
def obsMG (n : Nat) (fa : List He.Fa) (fn : List He.DefD) (cs : List (Str × PyData)) (g : Addr → Option Obj) : AlM := obsM fa fn cs (He.frG g (He.asD g n))
structure SaysM (fa : List He.Fa) (fn : List He.DefD) (cs : List (Str × PyData)) (K : FrgT) : Prop where
  d : He.SaysD fa fn K
  con : ∀ p ∈ cs, conB K p = true
def hookM (n : Nat) (fa : List He.Fa) (fn : List He.DefD) (cs : List (Str × PyData)) : PySem.W.Hook where
  α := AlM
  obs := fun s => obsMG n fa fn cs s.heap.get?
  val := fun _ => (He.valD fn, true)
  says := fun _ h => ∃ K : FrgT, K.In h ∧ SaysM fa fn cs K
  of := fun _ _ e => ⟨_, He.frG_in, ⟨congrArg (fun z : AlM => z.1) e, fun p hp => List.all_eq_true.mp (congrArg (fun z : AlM => z.2) e) p hp⟩⟩
  keeps := fun _ _ _ ⟨K, hK, c⟩ k => ⟨K, PySem.W.Frag.In.keeps hK k, c⟩
theorem obsMG_eq {n : Nat} {fa : List He.Fa} {fn : List He.DefD} {cs : List (Str × PyData)} {g : Addr → Option Obj} {s : Shared} (h : ∀ a, g a = s.heap.get? a) : obsMG n fa fn cs g = (hookM n fa fn cs).obs s := by
  have e : g = s.heap.get? := funext h
  rw [e] <;> rfl
/-! ### functions -/
structure Df where
  nm : Str
  ps : List Str
  N : List Str
  dd : He.DefD
  ir : List S
  pur : Bool
structure Tab where
  fs : List Df
  cs : List (Str × PyData)
def Tab.fn (T : Tab) (f : Str) : Option Df := T.fs.find? fun d => d.nm == f
def Tab.gl (T : Tab) (x : Str) : Option PyData := (T.cs.find? fun p => p.1 == x).map (·.2)
def Df.wrap (d : Df) (c : Cf) : Cf := match d.pur with
  | true => pureF c
  | false => c
def callF (w : Mw) (T : Tab) : Nat → Str → Cf
  | 0, _ => fun _ _ => .bad
  | n + 1, f => match T.fn f with
    | none => fun _ _ => .bad
    | some d => d.wrap (runB d.ps.length d.N.length (exSs ⟨w, callF w T n, T.gl, fun f => (T.fn f).isSome, n⟩ d.ir))
abbrev Tab.cfg (T : Tab) (w : Mw) (n : Nat) : Cfg := ⟨w, callF w T n, T.gl, fun f => (T.fn f).isSome, n⟩
/-- what is seen of a def's text -/
structure DfOk (T : Tab) (d : Df) : Prop where
  sc : FnScope d.N d.ps d.dd.scope
  chk : ∀ w cf n, chkSs ⟨w, cf, T.gl, fun f => (T.fn f).isSome, n⟩ ⟨d.N, d.dd.scope, fun _ => true⟩ d.ir d.dd.body = true
  at_ : d.dd.at_ = (d.nm, none)
  dfl : d.dd.dfl = []
  kwd : d.dd.kwd = []
  bind : ∀ (kV doc pm : Value) (an : Option Addr) (cdv ct : Value) (us : List Value), us.length = d.ps.length → bindArgs (PySem.W.fnOf d.dd.name d.dd.qual d.dd.params d.dd.body d.dd.scope .none kV doc pm an cdv ct) ⟨us, []⟩ = pure (d.ps.zip us)
structure TabOk (T : Tab) (fa : List He.Fa) (fn : List He.DefD) : Prop where
  fs : ∀ d ∈ T.fs, DfOk T d
  ats : ∀ d ∈ T.fs, ∃ i : Nat, fn[i]? = some d.dd
  glo : ∀ d ∈ T.fs, He.Fa.glo d.nm ∈ fa
  blt : ∀ x ∈ bltNames, He.Fa.free x ∈ fa
section
variable {P : Program} {wd : World} {K : FrgT} {mg : Str → Option Value} {base : Heap} {T : Tab} {fa : List He.Fa} {fn : List He.DefD}
theorem saysD_fact {K : FrgT} (c : He.SaysD fa fn K) {f : He.Fa} (h : f ∈ fa) : f.ok K = true := by
  obtain ⟨i, hi, e⟩ := List.mem_iff_getElem.mp h
  exact c.fact i (f := f) (by rw [List.getElem?_eq_getElem hi, e])
theorem Tab.fn_mem {f : Str} {d : Df} (h : T.fn f = some d) : d ∈ T.fs ∧ d.nm = f := by
  unfold Tab.fn at h
  exact ⟨List.mem_of_find?_eq_some h, by simpa using List.find?_some h⟩
theorem con_ok {h : Heap} (X : K.In h) (G : h.Ns mainGlobals mg) {x : Str} {d : PyData} (c : SaysM fa fn T.cs K) (e : T.gl x = some d) : ∃ v u, mg x = some u ∧ RelV v u ∧ ∀ I, Dp K I v d := by
  unfold Tab.gl at e
  cases q : T.cs.find? fun p => p.1 == x with
  | none => rw [q] at e; cases e
  | some p =>
    rw [q] at e
    cases e
    have hm := List.mem_of_find?_eq_some q
    have hx : p.1 = x := by simpa using List.find?_some q
    have hc := c.con p hm
    unfold conB at hc
    split at hc
    · rename_i v hv
      obtain ⟨u, h1, h2⟩ := conV_ok _ _ hc
      exact ⟨u, v, by rw [← hx]; exact PySem.W.mg_of X G hv, h1, h2⟩
    · cases hc
theorem fnOk_bad {K : FrgT} {CX : CXT} {k : Nat} {f : Addr} {fd : FuncData} {ps : List Str} {w : Mw} : FnOk P wd K mg base CX k f fd ps (spF w fun _ _ => .bad) :=
  ⟨fun vs H Q E ⟨_, _, _, _, _, _, p⟩ => False.elim p, fun A outer s H args us vs Q E _ _ _ _ ⟨_, _, _, _, _, _, p⟩ => False.elim p⟩
/-- what one def's function object is -/
theorem fact_of (ok : TabOk T fa fn) (c : SaysM fa fn T.cs K) {d : Df} (hd : d ∈ T.fs) : ∃ fd, FunD K d.dd.name d.dd.qual d.dd.params d.dd.body d.dd.scope [] [] (He.ga K d.nm) fd ∧ Binds K fd d.ps [] := by
  have D := ok.fs d hd
  obtain ⟨i, hi⟩ := ok.ats d hd
  obtain ⟨fd, F⟩ := c.d.def_ i hi
  have e1 : d.dd.dvs K = [] := by unfold He.DefD.dvs; rw [D.dfl]; rfl
  have e2 : d.dd.kws K = [] := by unfold He.DefD.kws; rw [D.kwd]; rfl
  have e3 : He.fAd K d.dd.at_ = He.ga K d.nm := by rw [D.at_]; rfl
  rw [e1, e2, e3] at F
  exact ⟨fd, F, F.bindsN D.bind⟩
theorem all_ok (ok : TabOk T fa fn) (c : SaysM fa fn T.cs K) {h : Heap} (KX : K.In h) (G : h.Ns mainGlobals mg) (ca : Str → Addr) : ∀ (n : Nat) (d : Df), d ∈ T.fs → T.fn d.nm = some d → ∀ fd, FunD K d.dd.name d.dd.qual d.dd.params d.dd.body d.dd.scope [] [] (He.ga K d.nm) fd →
    FnOk P wd K mg base (L2.CX P wd) n (He.ga K d.nm) fd d.ps (spF ⟨K, ca⟩ (callF ⟨K, ca⟩ T n d.nm))
  | 0, d, hd, hf, fd, F => fnOk_bad
  | n + 1, d, hd, hf, fd, F => by
    have D := ok.fs d hd
    have key : FnOk P wd K mg base (L2.CX P wd) (n + 1) (He.ga K d.nm) fd d.ps (spF ⟨K, ca⟩ (runB d.ps.length d.N.length (exSs (T.cfg ⟨K, ca⟩ n) d.ir))) := by
      refine fn_body (w := ⟨K, ca⟩) F D.sc fun cdv A outer s H E hr => ?_
      refine sndSs (T.cfg ⟨K, ca⟩ n) d.ir ⟨d.N, d.dd.scope, fun _ => true⟩ _ _ _ ⟨⟨rfl, rfl, rfl, D.sc.nd, rfl, rfl, hr, takes_of rfl rfl rfl rfl, fun x hx => He.free_ok KX G (saysD_fact c.d (ok.blt x hx)), fun f hk => ?_, fun x e hx => con_ok KX G c hx⟩, passes_of (X := cxOf (L2.CX P wd) P wd K mg base d.N d.dd.qual d.dd.scope (He.ga K d.nm) cdv A outer s H E) rfl, D.sc.kind⟩ (D.chk _ _ _)
      have hk' : (T.fn f).isSome = true := hk
      cases q : T.fn f with
      | none => rw [q] at hk'; cases hk'
      | some e =>
        obtain ⟨m1, m2⟩ := Tab.fn_mem q
        obtain ⟨fd', F', B'⟩ := fact_of ok c m1
        refine ⟨He.ga K e.nm, fd', e.ps, ?_, F'.kp, B', ?_⟩
        · rw [← m2]; exact He.glo_ok KX G (saysD_fact c.d (ok.glo e m1))
        · have := all_ok ok c KX G ca n e m1 (by rw [m2]; exact q) fd' F'
          rw [m2] at this
          rw [m2]
          exact this
    unfold callF
    rw [hf]
    simp only [Df.wrap]
    cases d.pur with
    | false => exact key
    | true => exact key.imp fun vs H Q E q => spF_pure q
end
/-! ### the law's end -/
def lawData (ns : List Int) : PyData := .list (ns.map .int)
/-- at every script the law's def says True -/
def LawSays (T : Tab) (n m : Nat) : Prop := ∀ (w : Mw) (ns : List Int), ns.length ≤ m → ∃ M, callF w T n "law" [.dat (lawData ns)] [] = .ok (.dat (.bool true)) M
theorem dpAll_ints {K : FrgT} {I : Hp} : ∀ ns : List Int, DpAll K I (ns.map V.int) (ns.map PyData.int)
  | [] => .nil
  | n :: ns => .cons (.int n) (dpAll_ints ns)
theorem sqL_frz {K : FrgT} {H : Hp} {a : Addr} {xs : List V} (h : SqL K H a xs) : ∃ I : Hp, Same I H ∧ SqL K I a xs := ⟨H, fun _ _ e => e, h⟩
theorem fnOk_x0 {P : Program} {wd : World} {K : FrgT} {mg : Str → Option Value} {base : Heap} {k : Nat} {f : Addr} {fd : FuncData} {ps : List Str} {w : Mw} {cf : Cf} (F : FnOk P wd K mg base (L2.CX P wd) k f fd ps (spF w cf)) :
    FnOk P wd K mg base L2.CX0 k f fd ps (fun vs H Q E => spF w cf vs H Q fun _ _ _ => False) :=
  ⟨fun vs H Q E h => F.len vs H Q _ h, fun A outer s H args us vs Q E hr e0 hb hv hs => codeAny_mono (F.run A outer s H args us vs Q (fun _ _ _ => False) hr e0 hb hv hs) fun r s' h => by
    cases r with
    | ok fin => cases fin <;> exact h
    | error e => obtain ⟨_, _, _, _, _, _, _, _, _, _, _, _, hE⟩ := h; exact hE.elim⟩
theorem law_end {l : PySem.W.OpenLaw} {q : Program} {loose : List Str} {XP : (Str → Option Value) → Heap → Prop} {d : DefRec} {T : Tab} {fa : List He.Fa} {fn : List He.DefD} {ld : Df} {n m dep : Nat} (ok : TabOk T fa fn) (hn : l.most = some m) (hm : m ≤ sizeLine) (hdf : d.params.defaults = []) (hr : Room n callerA)
    (hl : T.fn "law" = some ld) (hps : ld.ps = [("script" : Str)]) (hdn : d.name = ("law" : Str)) (says : LawSays T n m) :
    PySem.W.WalkO q loose XP (fun w h => (hookM dep fa fn T.cs).says w h) l.row.toRowW d [] (fun f vs => PySem.call f vs) := by
  refine L2.walk_ofE (l := l) (n := m) (k := n) (x := "script") (CX := L2.CX0) hn hm hdf hr ?_ (fun _ _ _ _ z => z)
  intro w mg fa' h Y G hmg
  obtain ⟨K, KX, c⟩ := Y
  obtain ⟨hd, hnm⟩ := Tab.fn_mem hl
  obtain ⟨fd, F, _⟩ := fact_of ok c hd
  have D := ok.fs ld hd
  have hga : fa' = He.ga K ld.nm := by
    have e1 := He.glo_ok KX G (saysD_fact c.d (ok.glo ld hd))
    rw [hdn] at hmg
    rw [hnm] at e1 ⊢
    rw [hmg] at e1
    exact Value.ref.inj (Option.some.inj e1)
  subst hga
  refine ⟨K, fd, _, KX, fun s u => ?_, fun H a ns hlen hO hS => ?_, fun base KB GB => by
    have := fnOk_x0 (all_ok (P := l.prog) (wd := w) (base := base) ok c KX G (fun _ => 0) n ld hd (by rw [hnm]; exact hl) fd F)
    rw [hps] at this
    exact this⟩
  · have := FunD.bindsA F D.bind s [u] (by rw [hps]; rfl)
    rw [hps] at this
    exact this
  · rw [hnm]
    obtain ⟨M, e⟩ := says ⟨K, fun _ => 0⟩ ns hlen
    refine ⟨H, [], [], [.dat (lawData ns)], ⟨Same.refl _, rfl, .nil, by simp, by simp⟩, .cons (.lst hS (dpAll_ints ns)) .nil, ?_⟩
    rw [e]
    intro I' H' β' v s' x' r
    cases (show Dp K I' v (.bool true) from r)
    rfl
end MP
set_option Elab.async false
set_option linter.all false
set_option maxRecDepth 100000
set_option maxHeartbeats 0
namespace LawX
open PySem PySem.W PySem.Calls PyProof.Rows L2 MP
def top (i : Nat) : Stmt := PySem.Challenge.pw_casealone_k12_texts_there_and_back.main.body.getD i (.Pass ⟨0, 0, 0, 0⟩)
def dd_is_label : He.DefD := ⟨("is_label", none), "is_label", "is_label", defArgs (top 9), defBody (top 9), defScope (top 9), [], []⟩
def d_is_label : Df := ⟨"is_label", [("value" : Str)], [("value" : Str), ("letter" : Str)], dd_is_label, [(.ret [(.and [(.isi .str (.var 0)), (.chain .le .le (.lit (.int 1)) (.bf .len [(.var 0)]) (.lit (.int 8))), (.bf .all [(.lc false .seq [(.var 0)] (.nm 1) [("letter", 1)] [] (.cmp .isin (.var 1) (.con "SMALL")))])])])], true⟩
def dd_is_rising : He.DefD := ⟨("is_rising", none), "is_rising", "is_rising", defArgs (top 10), defBody (top 10), defScope (top 10), [], []⟩
def d_is_rising : Df := ⟨"is_rising", [("values" : Str)], [("values" : Str), ("one" : Str), ("other" : Str)], dd_is_rising, [(.ret [(.bf .all [(.lc false .zip [(.var 0), (.sl (.var 0) [(.lit (.int 1))] [])] (.tup [(.nm 1), (.nm 2)]) [("one", 1), ("other", 2)] [] (.cmp .lt (.var 1) (.var 2)))])])], true⟩
def dd_are_stores : He.DefD := ⟨("are_stores", none), "are_stores", "are_stores", defArgs (top 11), defBody (top 11), defScope (top 11), [], []⟩
def b_are_stores_0 : List S := [(.ife (.or [(.not (.isi .tup (.var 1))), (.cmp .ne (.bf .len [(.var 1)]) (.lit (.int 2))), (.not (.call "is_label" [(.idx (.var 1) (.lit (.int 0)))]))]) [(.ret [(.lit (.bool false))])] []), (.ife (.or [(.not (.isi .str (.idx (.var 1) (.lit (.int 1))))), (.cmp .nin (.idx (.var 1) (.lit (.int 1))) (.con "KINDS"))]) [(.ret [(.lit (.bool false))])] [])]
def d_are_stores : Df := ⟨"are_stores", [("value" : Str)], [("value" : Str), ("store" : Str)], dd_are_stores, [(.ife (.or [(.not (.isi .tup (.var 0))), (.not (.chain .le .le (.lit (.int 1)) (.bf .len [(.var 0)]) (.lit (.int 2))))]) [(.ret [(.lit (.bool false))])] []), (.for (.nm 1) .seq [(.var 0)] b_are_stores_0), (.ret [(.call "is_rising" [(.lc false .seq [(.var 0)] (.nm 1) [("store", 1)] [] (.idx (.var 1) (.lit (.int 0))))])])], true⟩
def dd_are_names : He.DefD := ⟨("are_names", none), "are_names", "are_names", defArgs (top 12), defBody (top 12), defScope (top 12), [], []⟩
def d_are_names : Df := ⟨"are_names", [("labels" : Str), ("value" : Str)], [("labels" : Str), ("value" : Str), ("name" : Str)], dd_are_names, [(.ife (.or [(.not (.isi .tup (.var 1))), (.not (.chain .le .le (.lit (.int 1)) (.bf .len [(.var 1)]) (.lit (.int 2)))), (.not (.bf .all [(.lc false .seq [(.var 1)] (.nm 2) [("name", 2)] [] (.call "is_label" [(.var 2)]))]))]) [(.ret [(.lit (.bool false))])] []), (.ret [(.and [(.call "is_rising" [(.var 1)]), (.not (.bf .any [(.lc false .seq [(.var 1)] (.nm 2) [("name", 2)] [] (.cmp .isin (.var 2) (.var 0)))]))])])], true⟩
def dd_inner : He.DefD := ⟨("inner", none), "inner", "inner", defArgs (top 13), defBody (top 13), defScope (top 13), [], []⟩
def d_inner : Df := ⟨"inner", [("item" : Str)], [("item" : Str)], dd_inner, [(.ret [(.ite (.cmp .isin (.idx (.var 0) (.lit (.int 0))) (.tup [(.lit (.str "if")), (.lit (.str "same")), (.lit (.str "near"))])) (.sl (.var 0) [(.lit (.int 3))] []) (.tup []))])], true⟩
def dd_shapes : He.DefD := ⟨("shapes", none), "shapes", "shapes", defArgs (top 14), defBody (top 14), defScope (top 14), [], []⟩
def d_shapes : Df := ⟨"shapes", [], [("found" : Str)], dd_shapes, [(.set (.nm 0) (.disp [(.lit (.str "write")), (.lit (.str "snc")), (.lit (.str "remove")), (.lit (.str "sn")), (.lit (.str "rename")), (.lit (.str "snn")), (.lit (.str "copy")), (.lit (.str "snsn")), (.lit (.str "all")), (.lit (.str "ss")), (.lit (.str "clear")), (.lit (.str "s")), (.lit (.str "read")), (.lit (.str "sn"))])), (.put (.var 0) (.lit (.str "list")) (.lit (.str "s"))), (.put (.var 0) (.lit (.str "if")) (.lit (.str "sn"))), (.put (.var 0) (.lit (.str "same")) (.lit (.str "nn"))), (.put (.var 0) (.lit (.str "near")) (.lit (.str "nn"))), (.ret [(.var 0)])], false⟩
def dd_fits : He.DefD := ⟨("fits", none), "fits", "fits", defArgs (top 15), defBody (top 15), defScope (top 15), [], []⟩
def d_fits : Df := ⟨"fits", [("sort" : Str), ("labels" : Str), ("names" : Str), ("value" : Str)], [("sort" : Str), ("labels" : Str), ("names" : Str), ("value" : Str)], dd_fits, [(.ife (.cmp .eq (.var 0) (.lit (.str "c"))) [(.ret [(.call "is_label" [(.var 3)])])] []), (.ret [(.and [(.isi .str (.var 3)), (.cmp .isin (.var 3) (.ite (.cmp .eq (.var 0) (.lit (.str "s"))) (.var 1) (.var 2)))])])], true⟩
def dd_size_of_item : He.DefD := ⟨("size_of_item", none), "size_of_item", "size_of_item", defArgs (top 16), defBody (top 16), defScope (top 16), [], []⟩
def b_size_of_item_0 : List S := [(.set (.nm 8) (.call "size_of" [(.var 0), (.var 1), (.var 5), (.bin .add (.var 3) (.lit (.int 1)))])), (.ife (.cmp .is (.var 8) (.lit .none)) [(.ret [(.lit .none)])] []), (.set (.nm 4) (.bin .add (.var 4) (.var 8)))]
def d_size_of_item : Df := ⟨"size_of_item", [("labels" : Str), ("names" : Str), ("item" : Str), ("deep" : Str)], [("labels" : Str), ("names" : Str), ("item" : Str), ("deep" : Str), ("found" : Str), ("part" : Str), ("sorts" : Str), ("bodies" : Str), ("more" : Str), ("sort" : Str), ("value" : Str)], dd_size_of_item, [(.ife (.or [(.not (.isi .tup (.var 2))), (.cmp .eq (.var 2) (.tup [])), (.not (.isi .str (.idx (.var 2) (.lit (.int 0))))), (.din true (.idx (.var 2) (.lit (.int 0))) (.call "shapes" []))]) [(.ret [(.lit .none)])] []), (.par [6, 7] [(.dget (.call "shapes" []) (.idx (.var 2) (.lit (.int 0)))), (.bin .mul (.lit (.int 2)) (.bf .int [(.cmp .isin (.idx (.var 2) (.lit (.int 0))) (.tup [(.lit (.str "if")), (.lit (.str "same")), (.lit (.str "near"))]))]))]), (.ife (.cmp .ne (.bf .len [(.var 2)]) (.bin .add (.bin .add (.lit (.int 1)) (.bf .len [(.var 6)])) (.var 7))) [(.ret [(.lit .none)])] []), (.ife (.not (.bf .all [(.lc false .zip [(.var 6), (.sl (.var 2) [(.lit (.int 1))] [])] (.tup [(.nm 9), (.nm 10)]) [("sort", 9), ("value", 10)] [] (.call "fits" [(.var 9), (.var 0), (.var 1), (.var 10)]))])) [(.ret [(.lit .none)])] []), (.ife (.or [(.and [(.cmp .isin (.idx (.var 2) (.lit (.int 0))) (.tup [(.lit (.str "all")), (.lit (.str "same")), (.lit (.str "near"))])), (.cmp .eq (.idx (.var 2) (.lit (.int 1))) (.idx (.var 2) (.lit (.int 2))))]), (.and [(.cmp .eq (.idx (.var 2) (.lit (.int 0))) (.lit (.str "rename"))), (.cmp .eq (.idx (.var 2) (.lit (.int 2))) (.idx (.var 2) (.lit (.int 3))))])]) [(.ret [(.lit .none)])] []), (.set (.nm 4) (.lit (.int 1))), (.for (.nm 5) .seq [(.call "inner" [(.var 2)])] b_size_of_item_0), (.ret [(.var 4)])], true⟩
def dd_size_of : He.DefD := ⟨("size_of", none), "size_of", "size_of", defArgs (top 17), defBody (top 17), defScope (top 17), [], []⟩
def b_size_of_0 : List S := [(.set (.nm 6) (.call "size_of_item" [(.var 0), (.var 1), (.var 5), (.var 3)])), (.ife (.cmp .is (.var 6) (.lit .none)) [(.ret [(.lit .none)])] []), (.set (.nm 4) (.bin .add (.var 4) (.var 6)))]
def d_size_of : Df := ⟨"size_of", [("labels" : Str), ("names" : Str), ("body" : Str), ("deep" : Str)], [("labels" : Str), ("names" : Str), ("body" : Str), ("deep" : Str), ("found" : Str), ("item" : Str), ("more" : Str)], dd_size_of, [(.ife (.or [(.not (.isi .tup (.var 2))), (.cmp .gt (.var 3) (.con "MOST_DEEP"))]) [(.ret [(.lit .none)])] []), (.set (.nm 4) (.lit (.int 0))), (.for (.nm 5) .seq [(.var 2)] b_size_of_0), (.ret [(.var 4)])], true⟩
def dd_is_program : He.DefD := ⟨("is_program", none), "is_program", "is_program", defArgs (top 18), defBody (top 18), defScope (top 18), [], []⟩
def d_is_program : Df := ⟨"is_program", [("value" : Str)], [("value" : Str), ("labels" : Str), ("found" : Str)], dd_is_program, [(.ife (.or [(.not (.isi .tup (.var 0))), (.cmp .ne (.bf .len [(.var 0)]) (.lit (.int 3))), (.not (.call "are_stores" [(.idx (.var 0) (.lit (.int 0)))]))]) [(.ret [(.lit (.bool false))])] []), (.set (.nm 1) (.call "labels_of" [(.var 0)])), (.ife (.not (.call "are_names" [(.var 1), (.idx (.var 0) (.lit (.int 1)))])) [(.ret [(.lit (.bool false))])] []), (.set (.nm 2) (.call "size_of" [(.var 1), (.idx (.var 0) (.lit (.int 1))), (.idx (.var 0) (.lit (.int 2))), (.lit (.int 1))])), (.ret [(.and [(.cmp .nis (.var 2) (.lit .none)), (.cmp .le (.var 2) (.con "MOST_STEPS"))])])], true⟩
def dd_labels_of : He.DefD := ⟨("labels_of", none), "labels_of", "labels_of", defArgs (top 19), defBody (top 19), defScope (top 19), [], []⟩
def d_labels_of : Df := ⟨"labels_of", [("program" : Str)], [("program" : Str), ("store" : Str)], dd_labels_of, [(.ret [(.lc false .seq [(.idx (.var 0) (.lit (.int 0)))] (.nm 1) [("store", 1)] [] (.idx (.var 1) (.lit (.int 0))))])], true⟩
def dd_need_program : He.DefD := ⟨("need_program", none), "need_program", "need_program", defArgs (top 20), defBody (top 20), defScope (top 20), [], []⟩
def d_need_program : Df := ⟨"need_program", [("program" : Str)], [("program" : Str)], dd_need_program, [(.ife (.not (.call "is_program" [(.var 0)])) [.never] [])], true⟩
def dd_item_text : He.DefD := ⟨("item_text", none), "item_text", "item_text", defArgs (top 22), defBody (top 22), defScope (top 22), [], []⟩
def d_item_text : Df := ⟨"item_text", [("item" : Str)], [("item" : Str), ("words" : Str), ("part" : Str)], dd_item_text, [(.set (.nm 1) (.join (.lit (.str " ")) (.sl (.var 0) [] [(.bin .sub (.bf .len [(.var 0)]) (.bf .len [(.call "inner" [(.var 0)])]))]))), (.ife (.cmp .eq (.call "inner" [(.var 0)]) (.tup [])) [(.ret [(.var 1)])] []), (.ret [(.bin .add (.bin .add (.bin .add (.var 1) (.lit (.str " ("))) (.join (.lit (.str " | ")) (.lc false .seq [(.call "inner" [(.var 0)])] (.nm 2) [("part", 2)] [] (.call "body_text" [(.var 2)])))) (.lit (.str ")")))])], true⟩
def dd_body_text : He.DefD := ⟨("body_text", none), "body_text", "body_text", defArgs (top 23), defBody (top 23), defScope (top 23), [], []⟩
def d_body_text : Df := ⟨"body_text", [("body" : Str)], [("body" : Str), ("item" : Str)], dd_body_text, [(.ret [(.join (.lit (.str "; ")) (.lc false .seq [(.var 0)] (.nm 1) [("item", 1)] [] (.call "item_text" [(.var 1)])))])], true⟩
def dd_text_of : He.DefD := ⟨("text_of", none), "text_of", "text_of", defArgs (top 24), defBody (top 24), defScope (top 24), [], []⟩
def d_text_of : Df := ⟨"text_of", [("program" : Str)], [("program" : Str), ("stores" : Str), ("label" : Str), ("kind" : Str)], dd_text_of, [(.set (.nm 1) (.join (.lit (.str ", ")) (.lc false .seq [(.idx (.var 0) (.lit (.int 0)))] (.tup [(.nm 2), (.nm 3)]) [("label", 2), ("kind", 3)] [] (.bin .add (.bin .add (.var 2) (.lit (.str " "))) (.var 3))))), (.ret [(.join (.lit (.str "\n")) (.lst false [(.var 1), (.join (.lit (.str " ")) (.idx (.var 0) (.lit (.int 1)))), (.call "body_text" [(.idx (.var 0) (.lit (.int 2)))])]))])], true⟩
def dd_cut_up : He.DefD := ⟨("cut_up", none), "cut_up", "cut_up", defArgs (top 25), defBody (top 25), defScope (top 25), [], []⟩
def b_cut_up_0 : List S := [(.app (.var 2) (.sl (.var 0) [(.var 4)] [(.var 5)])), (.set (.nm 4) (.bin .add (.var 5) (.bf .len [(.var 1)]))), (.set (.nm 5) (.var 4))]
def b_cut_up_1 : List S := [(.aug 5 .add (.lit (.int 1)))]
def b_cut_up_2 : List S := [(.aug 3 .add (.bin .sub (.bf .int [(.cmp .eq (.idx (.var 0) (.var 5)) (.lit (.str "(")))]) (.bf .int [(.cmp .eq (.idx (.var 0) (.var 5)) (.lit (.str ")")))]))), (.ife (.and [(.cmp .eq (.var 3) (.lit (.int 0))), (.cmp .eq (.sl (.var 0) [(.var 5)] [(.bin .add (.var 5) (.bf .len [(.var 1)]))]) (.var 1))]) b_cut_up_0 b_cut_up_1)]
def d_cut_up : Df := ⟨"cut_up", [("text" : Str), ("sign" : Str)], [("text" : Str), ("sign" : Str), ("found" : Str), ("deep" : Str), ("begin" : Str), ("at" : Str)], dd_cut_up, [(.par [2, 3, 4, 5] [(.lst true []), (.lit (.int 0)), (.lit (.int 0)), (.lit (.int 0))]), (.while 20000 (.cmp .lt (.var 5) (.bf .len [(.var 0)])) b_cut_up_2), (.ret [(.bin .add (.var 2) (.lst false [(.sl (.var 0) [(.var 4)] [])]))])], true⟩
def dd_item_in : He.DefD := ⟨("item_in", none), "item_in", "item_in", defArgs (top 26), defBody (top 26), defScope (top 26), [], []⟩
def d_item_in : Df := ⟨"item_in", [("text" : Str), ("deep" : Str)], [("text" : Str), ("deep" : Str), ("place" : Str), ("rest" : Str), ("part" : Str)], dd_item_in, [(.set (.nm 2) (.find (.var 0) (.lit (.str " (")))), (.ife (.or [(.cmp .lt (.var 2) (.lit (.int 0))), (.cmp .ne (.sl (.var 0) [(.neg (.lit (.int 1)))] []) (.lit (.str ")")))]) [(.ret [(.bf .tup [(.split false (.var 0) (.lit (.str " ")))])])] []), (.set (.nm 3) (.call "cut_up" [(.sl (.var 0) [(.bin .add (.var 2) (.lit (.int 2)))] [(.neg (.lit (.int 1)))]), (.lit (.str " | "))])), (.ret [(.bin .add (.bf .tup [(.split false (.sl (.var 0) [] [(.var 2)]) (.lit (.str " ")))]) (.bf .tup [(.lc false .seq [(.var 3)] (.nm 4) [("part", 4)] [] (.call "body_in" [(.var 4), (.bin .add (.var 1) (.lit (.int 1)))]))]))])], true⟩
def dd_body_in : He.DefD := ⟨("body_in", none), "body_in", "body_in", defArgs (top 27), defBody (top 27), defScope (top 27), [], []⟩
def d_body_in : Df := ⟨"body_in", [("text" : Str), ("deep" : Str)], [("text" : Str), ("deep" : Str), ("part" : Str)], dd_body_in, [(.ife (.cmp .gt (.var 1) (.con "MOST_DEEP")) [(.ret [(.lit .none)])] []), (.ret [(.ite (.cmp .eq (.var 0) (.lit (.str ""))) (.tup []) (.bf .tup [(.lc false .seq [(.call "cut_up" [(.var 0), (.lit (.str "; "))])] (.nm 2) [("part", 2)] [] (.call "item_in" [(.var 2), (.var 1)]))]))])], true⟩
def dd_program_text : He.DefD := ⟨("program_text", none), "program_text", "program_text", defArgs (top 28), defBody (top 28), defScope (top 28), [], []⟩
def d_program_text : Df := ⟨"program_text", [("program" : Str)], [("program" : Str)], dd_program_text, [(.ex (.call "need_program" [(.var 0)])), (.ret [(.call "text_of" [(.var 0)])])], true⟩
def dd_read_program : He.DefD := ⟨("read_program", none), "read_program", "read_program", defArgs (top 29), defBody (top 29), defScope (top 29), [], []⟩
def d_read_program : Df := ⟨"read_program", [("text" : Str)], [("text" : Str), ("lines" : Str), ("stores" : Str), ("found" : Str), ("part" : Str)], dd_read_program, [(.ife (.not (.isi .str (.var 0))) [.never] []), (.set (.nm 1) (.split false (.var 0) (.lit (.str "\n")))), (.ife (.cmp .ne (.bf .len [(.var 1)]) (.lit (.int 3))) [.never] []), (.set (.nm 2) (.bf .tup [(.lc false .seq [(.split false (.idx (.var 1) (.lit (.int 0))) (.lit (.str ", ")))] (.nm 4) [("part", 4)] [] (.bf .tup [(.split false (.var 4) (.lit (.str " ")))]))])), (.set (.nm 3) (.tup [(.var 2), (.bf .tup [(.split false (.idx (.var 1) (.lit (.int 1))) (.lit (.str " ")))]), (.call "body_in" [(.idx (.var 1) (.lit (.int 2))), (.lit (.int 1))])])), (.ife (.or [(.not (.call "is_program" [(.var 3)])), (.cmp .ne (.call "text_of" [(.var 3)]) (.var 0))]) [.never] []), (.ret [(.var 3)])], true⟩
def dd__law_deck : He.DefD := ⟨("_law_deck", none), "_law_deck", "_law_deck", defArgs (top 31), defBody (top 31), defScope (top 31), [], []⟩
def d__law_deck : Df := ⟨"_law_deck", [("cell" : Str), ("salt" : Str)], [("cell" : Str), ("salt" : Str), ("digits" : Str)], dd__law_deck, [(.set (.nm 2) (.ite (.cmp .ge (.var 0) (.bin .pow (.lit (.int 10)) (.lit (.int 18)))) (.var 0) (.lit (.int 0)))), (.ret [(.disp [(.lit (.str "digits")), (.var 2), (.lit (.str "seed")), (.bin .add (.bin .mod (.bf .int [(.var 0)]) (.lit (.int 999999937))) (.bin .mul (.lit (.int 3)) (.var 1))), (.lit (.str "count")), (.lit (.int 0))])])], false⟩
def dd__law_pick : He.DefD := ⟨("_law_pick", none), "_law_pick", "_law_pick", defArgs (top 32), defBody (top 32), defScope (top 32), [], []⟩
def b__law_pick_0 : List S := [(.set (.nm 4) (.bin .mod (.bf .int [(.dget (.var 0) (.lit (.str "digits")))]) (.var 1))), (.put (.var 0) (.lit (.str "digits")) (.bin .fdiv (.dget (.var 0) (.lit (.str "digits"))) (.var 1))), (.ret [(.var 4)])]
def d__law_pick : Df := ⟨"_law_pick", [("deck" : Str), ("limit" : Str)], [("deck" : Str), ("limit" : Str), ("once" : Str), ("twice" : Str), ("rest" : Str)], dd__law_pick, [(.ife (.cmp .gt (.dget (.var 0) (.lit (.str "digits"))) (.lit (.int 0))) b__law_pick_0 []), (.put (.var 0) (.lit (.str "count")) (.bin .add (.dget (.var 0) (.lit (.str "count"))) (.lit (.int 1)))), (.set (.nm 2) (.bin .pow (.bf .int [(.bin .add (.dget (.var 0) (.lit (.str "seed"))) (.bin .mul (.lit (.int 32452843)) (.dget (.var 0) (.lit (.str "count")))))]) (.lit (.int 2)))), (.set (.nm 3) (.bin .pow (.bf .int [(.bin .add (.bin .mod (.bf .int [(.var 2)]) (.lit (.int 2147483587))) (.lit (.int 179424673)))]) (.lit (.int 3)))), (.ret [(.bin .mod (.bf .int [(.bin .fdiv (.bin .mod (.bf .int [(.var 3)]) (.lit (.int 2147483549))) (.lit (.int 64)))]) (.var 1))])], false⟩
def dd__law_one : He.DefD := ⟨("_law_one", none), "_law_one", "_law_one", defArgs (top 33), defBody (top 33), defScope (top 33), [], []⟩
def d__law_one : Df := ⟨"_law_one", [("deck" : Str), ("some" : Str)], [("deck" : Str), ("some" : Str)], dd__law_one, [(.ret [(.idx (.var 1) (.call "_law_pick" [(.var 0), (.bf .len [(.var 1)])]))])], false⟩
def dd__law_head : He.DefD := ⟨("_law_head", none), "_law_head", "_law_head", defArgs (top 34), defBody (top 34), defScope (top 34), [], []⟩
def d__law_head : Df := ⟨"_law_head", [("deck" : Str)], [("deck" : Str), ("kinds" : Str), ("labels" : Str), ("stores" : Str), ("label" : Str)], dd__law_head, [(.set (.nm 1) (.lst false [(.lit (.str "exact")), (.lit (.str "keep")), (.lit (.str "keep")), (.lit (.str "last")), (.lit (.str "lower"))])), (.set (.nm 2) (.call "_law_one" [(.var 0), (.lst false [(.lst false [(.lit (.str "s"))]), (.lst false [(.lit (.str "s"))]), (.lst false [(.lit (.str "disk")), (.lit (.str "s"))]), (.lst false [(.lit (.str "a")), (.lit (.str "zzzzzzzz"))])])])), (.set (.nm 3) (.bf .tup [(.lc false .seq [(.var 2)] (.nm 4) [("label", 4)] [] (.tup [(.var 4), (.call "_law_one" [(.var 0), (.var 1)])]))])), (.ret [(.tup [(.var 3), (.call "_law_one" [(.var 0), (.lst false [(.tup [(.lit (.str "x"))]), (.tup [(.lit (.str "new")), (.lit (.str "old"))]), (.tup [(.lit (.str "b")), (.lit (.str "c"))])])])])])], false⟩
def dd__law_body : He.DefD := ⟨("_law_body", none), "_law_body", "_law_body", defArgs (top 35), defBody (top 35), defScope (top 35), [], []⟩
def b__law_body_0 : List S := [(.app (.var 5) (.tup [(.lit (.str "write")), (.var 9), (.var 10), (.call "_law_one" [(.var 0), (.lst false [(.lit (.str "c")), (.lit (.str "d"))])])]))]
def b__law_body_1 : List S := [(.app (.var 5) (.tup [(.lit (.str "remove")), (.var 9), (.var 10)]))]
def b__law_body_2 : List S := [(.app (.var 5) (.tup [(.lit (.str "rename")), (.var 9), (.var 10), (.idx (.var 7) (.bin .sub (.lit (.int 1)) (.index (.var 7) (.var 10))))]))]
def b__law_body_3 : List S := [(.app (.var 5) (.tup [(.lit (.str "copy")), (.var 9), (.var 10), (.call "_law_one" [(.var 0), (.var 6)]), (.call "_law_one" [(.var 0), (.var 7)])]))]
def b__law_body_4 : List S := [(.app (.var 5) (.tup [(.lit (.str "all")), (.var 9), (.idx (.var 6) (.bin .sub (.lit (.int 1)) (.index (.var 6) (.var 9))))]))]
def b__law_body_5 : List S := [(.app (.var 5) (.tup [(.lit (.str "list")), (.var 9)]))]
def b__law_body_6 : List S := [(.app (.var 5) (.tup [(.lit (.str "read")), (.var 9), (.var 10)]))]
def b__law_body_7 : List S := [(.set (.nm 12) (.lc true .rng1 [(.lit (.int 2))] (.nm 13) [("k", 13)] [] (.call "_law_body" [(.var 0), (.var 1), (.bin .sub (.var 2) (.lit (.int 1))), (.var 3)]))), (.app (.var 5) (.bin .add (.bin .add (.tup [(.call "_law_one" [(.var 0), (.lst false [(.lit (.str "same")), (.lit (.str "near"))])])]) (.idx (.var 1) (.lit (.int 1)))) (.bf .tup [(.var 12)])))]
def b__law_body_8 : List S := [(.set (.nm 12) (.lc true .rng1 [(.lit (.int 2))] (.nm 13) [("k", 13)] [] (.call "_law_body" [(.var 0), (.var 1), (.bin .sub (.var 2) (.lit (.int 1))), (.var 3)]))), (.put (.var 12) (.lit (.int 1)) (.ite (.cmp .eq (.call "_law_pick" [(.var 0), (.lit (.int 2))]) (.lit (.int 0))) (.idx (.var 12) (.lit (.int 1))) (.tup []))), (.app (.var 5) (.bin .add (.tup [(.lit (.str "if")), (.var 9), (.var 10)]) (.bf .tup [(.var 12)])))]
def b__law_body_9 : List S := [(.ife (.and [(.cmp .eq (.var 8) (.lit (.int 15))), (.cmp .eq (.bf .len [(.var 7)]) (.lit (.int 2)))]) b__law_body_7 b__law_body_8)]
def b__law_body_10 : List S := [(.ife (.or [(.cmp .lt (.var 8) (.lit (.int 15))), (.cmp .eq (.var 2) (.lit (.int 0)))]) b__law_body_6 b__law_body_9)]
def b__law_body_11 : List S := [(.ife (.cmp .eq (.var 8) (.lit (.int 12))) b__law_body_5 b__law_body_10)]
def b__law_body_12 : List S := [(.ife (.and [(.cmp .lt (.var 8) (.lit (.int 12))), (.cmp .eq (.bf .len [(.var 6)]) (.lit (.int 2))), (.cmp .eq (.bf .len [(.var 7)]) (.lit (.int 1)))]) b__law_body_4 b__law_body_11)]
def b__law_body_13 : List S := [(.ife (.cmp .lt (.var 8) (.lit (.int 10))) b__law_body_3 b__law_body_12)]
def b__law_body_14 : List S := [(.ife (.and [(.cmp .lt (.var 8) (.lit (.int 8))), (.cmp .eq (.bf .len [(.var 7)]) (.lit (.int 2)))]) b__law_body_2 b__law_body_13)]
def b__law_body_15 : List S := [(.ife (.cmp .lt (.var 8) (.lit (.int 5))) b__law_body_1 b__law_body_14)]
def b__law_body_16 : List S := [(.par [8, 9, 10] [(.call "_law_pick" [(.var 0), (.lit (.int 18))]), (.call "_law_one" [(.var 0), (.var 6)]), (.call "_law_one" [(.var 0), (.var 7)])]), (.put (.var 3) (.lit (.int 0)) (.bin .sub (.idx (.var 3) (.lit (.int 0))) (.lit (.int 1)))), (.ife (.cmp .lt (.idx (.var 3) (.lit (.int 0))) (.lit (.int 0))) [(.ret [(.bf .tup [(.var 5)])])] []), (.ife (.cmp .lt (.var 8) (.lit (.int 3))) b__law_body_0 b__law_body_15)]
def d__law_body : Df := ⟨"_law_body", [("deck" : Str), ("head" : Str), ("deep" : Str), ("left" : Str)], [("deck" : Str), ("head" : Str), ("deep" : Str), ("left" : Str), ("turn" : Str), ("items" : Str), ("labels" : Str), ("names" : Str), ("kind" : Str), ("label" : Str), ("name" : Str), ("store" : Str), ("some" : Str), ("k" : Str)], dd__law_body, [(.par [5, 6, 7] [(.lst true []), (.lc false .seq [(.idx (.var 1) (.lit (.int 0)))] (.nm 11) [("store", 11)] [] (.idx (.var 11) (.lit (.int 0)))), (.bn false .list [(.idx (.var 1) (.lit (.int 1)))])]), (.for (.nm 4) .rng1 [(.bin .add (.lit (.int 1)) (.call "_law_pick" [(.var 0), (.lit (.int 4))]))] b__law_body_16), (.ret [(.bf .tup [(.var 5)])])], false⟩
def dd__law_program : He.DefD := ⟨("_law_program", none), "_law_program", "_law_program", defArgs (top 36), defBody (top 36), defScope (top 36), [], []⟩
def b__law_program_0 : List S := [(.set (.nm 4) (.bin .add (.var 4) (.call "_law_body" [(.var 0), (.var 2), (.call "_law_pick" [(.var 0), (.lit (.int 3))]), (.var 3)])))]
def d__law_program : Df := ⟨"_law_program", [("deck" : Str), ("limit" : Str)], [("deck" : Str), ("limit" : Str), ("head" : Str), ("left" : Str), ("body" : Str)], dd__law_program, [(.par [2, 3, 4] [(.call "_law_head" [(.var 0)]), (.lst true [(.var 1)]), (.tup [])]), (.while 20000 (.and [(.cmp .lt (.bf .len [(.var 4)]) (.lit (.int 2))), (.cmp .gt (.idx (.var 3) (.lit (.int 0))) (.lit (.int 0)))]) b__law_program_0), (.ret [(.bin .add (.var 2) (.tup [(.var 4)]))])], false⟩
def dd__law_item_text : He.DefD := ⟨("_law_item_text", none), "_law_item_text", "_law_item_text", defArgs (top 37), defBody (top 37), defScope (top 37), [], []⟩
def d__law_item_text : Df := ⟨"_law_item_text", [("item" : Str)], [("item" : Str), ("parts" : Str), ("words" : Str), ("part" : Str)], dd__law_item_text, [(.set (.nm 1) (.ite (.cmp .isin (.idx (.var 0) (.lit (.int 0))) (.tup [(.lit (.str "if")), (.lit (.str "same")), (.lit (.str "near"))])) (.sl (.var 0) [(.lit (.int 3))] []) (.tup []))), (.set (.nm 2) (.join (.lit (.str " ")) (.sl (.var 0) [] [(.bin .sub (.bf .len [(.var 0)]) (.bf .len [(.var 1)]))]))), (.ife (.cmp .eq (.var 1) (.tup [])) [(.ret [(.var 2)])] []), (.ret [(.bin .add (.bin .add (.bin .add (.var 2) (.lit (.str " ("))) (.join (.lit (.str " | ")) (.lc false .seq [(.var 1)] (.nm 3) [("part", 3)] [] (.call "_law_body_text" [(.var 3)])))) (.lit (.str ")")))])], true⟩
def dd__law_body_text : He.DefD := ⟨("_law_body_text", none), "_law_body_text", "_law_body_text", defArgs (top 38), defBody (top 38), defScope (top 38), [], []⟩
def d__law_body_text : Df := ⟨"_law_body_text", [("body" : Str)], [("body" : Str), ("item" : Str)], dd__law_body_text, [(.ret [(.join (.lit (.str "; ")) (.lc false .seq [(.var 0)] (.nm 1) [("item", 1)] [] (.call "_law_item_text" [(.var 1)])))])], true⟩
def dd__law_text : He.DefD := ⟨("_law_text", none), "_law_text", "_law_text", defArgs (top 39), defBody (top 39), defScope (top 39), [], []⟩
def d__law_text : Df := ⟨"_law_text", [("program" : Str)], [("program" : Str), ("stores" : Str), ("label" : Str), ("kind" : Str)], dd__law_text, [(.set (.nm 1) (.join (.lit (.str ", ")) (.lc false .seq [(.idx (.var 0) (.lit (.int 0)))] (.tup [(.nm 2), (.nm 3)]) [("label", 2), ("kind", 3)] [] (.bin .add (.bin .add (.var 2) (.lit (.str " "))) (.var 3))))), (.ret [(.bin .add (.bin .add (.bin .add (.bin .add (.var 1) (.lit (.str "\n"))) (.join (.lit (.str " ")) (.idx (.var 0) (.lit (.int 1))))) (.lit (.str "\n"))) (.call "_law_body_text" [(.idx (.var 0) (.lit (.int 2)))]))])], true⟩
def dd_law : He.DefD := ⟨("law", none), "law", "law", defArgs (top 40), defBody (top 40), defScope (top 40), [], []⟩
def b_law_0 : List S := [(.set (.nm 3) (.call "_law_program" [(.var 4), (.lit (.int 14))])), (.set (.nm 6) (.call "program_text" [(.var 3)])), (.ife (.or [(.cmp .ne (.var 6) (.call "_law_text" [(.var 3)])), (.cmp .ne (.call "read_program" [(.var 6)]) (.var 3))]) [(.ret [(.lit (.bool false))])] [])]
def b_law_1 : List S := [(.set (.nm 4) (.call "_law_deck" [(.var 1), (.lit (.int 69))])), (.for (.nm 5) .rng1 [(.lit (.int 3))] b_law_0)]
def d_law : Df := ⟨"law", [("script" : Str)], [("script" : Str), ("cell" : Str), ("body" : Str), ("program" : Str), ("deck" : Str), ("turn" : Str), ("text" : Str)], dd_law, [(.for (.nm 1) .seq [(.sl (.bin .add (.lst false [(.lit (.int 0))]) (.var 0)) [] [(.lit (.int 10))])] b_law_1), (.set (.nm 2) (.tup [(.tup [(.lit (.str "copy")), (.lit (.str "all")), (.lit (.str "if")), (.lit (.str "exact")), (.lit (.str "near"))]), (.tup [(.lit (.str "if")), (.lit (.str "exact")), (.lit (.str "near")), (.tup []), (.tup [(.tup [(.lit (.str "all")), (.lit (.str "exact")), (.lit (.str "all"))])])])])), (.set (.nm 2) (.bin .add (.var 2) (.tup [(.tup [(.lit (.str "near")), (.lit (.str "if")), (.lit (.str "near")), (.tup [(.tup [(.lit (.str "same")), (.lit (.str "if")), (.lit (.str "near")), (.tup []), (.tup [])])]), (.tup [(.tup [(.lit (.str "write")), (.lit (.str "all")), (.lit (.str "if")), (.lit (.str "keep"))])])])]))), (.set (.nm 3) (.tup [(.tup [(.tup [(.lit (.str "all")), (.lit (.str "keep"))]), (.tup [(.lit (.str "exact")), (.lit (.str "last"))])]), (.tup [(.lit (.str "if")), (.lit (.str "near"))]), (.var 2)])), (.ife (.or [(.cmp .ne (.call "program_text" [(.var 3)]) (.call "_law_text" [(.var 3)])), (.cmp .ne (.call "read_program" [(.call "_law_text" [(.var 3)])]) (.var 3))]) [(.ret [(.lit (.bool false))])] []), (.ife (.cmp .ne (.call "program_text" [(.bin .add (.sl (.var 3) [] [(.lit (.int 2))]) (.tup [(.tup [])]))]) (.lit (.str "all keep, exact last\nif near\n"))) [(.ret [(.lit (.bool false))])] []), (.ret [(.cmp .eq (.call "read_program" [(.lit (.str "s lower\nx\n"))]) (.tup [(.tup [(.tup [(.lit (.str "s")), (.lit (.str "lower"))])]), (.tup [(.lit (.str "x"))]), (.tup [])]))])], false⟩
def T : MP.Tab := ⟨[d_is_label, d_is_rising, d_are_stores, d_are_names, d_inner, d_shapes, d_fits, d_size_of_item, d_size_of, d_is_program, d_labels_of, d_need_program, d_item_text, d_body_text, d_text_of, d_cut_up, d_item_in, d_body_in, d_program_text, d_read_program, d__law_deck, d__law_pick, d__law_one, d__law_head, d__law_body, d__law_program, d__law_item_text, d__law_body_text, d__law_text, d_law], [("SMALL", (.str "abcdefghijklmnopqrstuvwxyz")), ("KINDS", (.tuple [(.str "exact"), (.str "keep"), (.str "last"), (.str "lower")])), ("MOST_STEPS", (.int 24)), ("MOST_DEEP", (.int 6))]⟩
def fn : List He.DefD := [dd_is_label, dd_is_rising, dd_are_stores, dd_are_names, dd_inner, dd_shapes, dd_fits, dd_size_of_item, dd_size_of, dd_is_program, dd_labels_of, dd_need_program, dd_item_text, dd_body_text, dd_text_of, dd_cut_up, dd_item_in, dd_body_in, dd_program_text, dd_read_program, dd__law_deck, dd__law_pick, dd__law_one, dd__law_head, dd__law_body, dd__law_program, dd__law_item_text, dd__law_body_text, dd__law_text, dd_law]
def fa : List He.Fa := [.glo "is_label", .glo "is_rising", .glo "are_stores", .glo "are_names", .glo "inner", .glo "shapes", .glo "fits", .glo "size_of_item", .glo "size_of", .glo "is_program", .glo "labels_of", .glo "need_program", .glo "item_text", .glo "body_text", .glo "text_of", .glo "cut_up", .glo "item_in", .glo "body_in", .glo "program_text", .glo "read_program", .glo "_law_deck", .glo "_law_pick", .glo "_law_one", .glo "_law_head", .glo "_law_body", .glo "_law_program", .glo "_law_item_text", .glo "_law_body_text", .glo "_law_text", .glo "law"] ++ bltNames.map He.Fa.free
theorem ok_is_label : DfOk T d_is_label := ⟨⟨rfl, rfl, rfl, by decide +kernel, rfl, by decide +kernel, by decide +kernel⟩, fun w cf n => by kernel_rfl, rfl, rfl, rfl, fun _ _ _ _ _ _ us hl => match us, hl with | [_], _ => rfl⟩
theorem ok_is_rising : DfOk T d_is_rising := ⟨⟨rfl, rfl, rfl, by decide +kernel, rfl, by decide +kernel, by decide +kernel⟩, fun w cf n => by kernel_rfl, rfl, rfl, rfl, fun _ _ _ _ _ _ us hl => match us, hl with | [_], _ => rfl⟩
theorem ok_are_stores : DfOk T d_are_stores := ⟨⟨rfl, rfl, rfl, by decide +kernel, rfl, by decide +kernel, by decide +kernel⟩, fun w cf n => by kernel_rfl, rfl, rfl, rfl, fun _ _ _ _ _ _ us hl => match us, hl with | [_], _ => rfl⟩
theorem ok_are_names : DfOk T d_are_names := ⟨⟨rfl, rfl, rfl, by decide +kernel, rfl, by decide +kernel, by decide +kernel⟩, fun w cf n => by kernel_rfl, rfl, rfl, rfl, fun _ _ _ _ _ _ us hl => match us, hl with | [_, _], _ => rfl⟩
theorem ok_inner : DfOk T d_inner := ⟨⟨rfl, rfl, rfl, by decide +kernel, rfl, by decide +kernel, by decide +kernel⟩, fun w cf n => by kernel_rfl, rfl, rfl, rfl, fun _ _ _ _ _ _ us hl => match us, hl with | [_], _ => rfl⟩
theorem ok_shapes : DfOk T d_shapes := ⟨⟨rfl, rfl, rfl, by decide +kernel, rfl, by decide +kernel, by decide +kernel⟩, fun w cf n => by kernel_rfl, rfl, rfl, rfl, fun _ _ _ _ _ _ us hl => match us, hl with | [], _ => rfl⟩
theorem ok_fits : DfOk T d_fits := ⟨⟨rfl, rfl, rfl, by decide +kernel, rfl, by decide +kernel, by decide +kernel⟩, fun w cf n => by kernel_rfl, rfl, rfl, rfl, fun _ _ _ _ _ _ us hl => match us, hl with | [_, _, _, _], _ => rfl⟩
theorem ok_size_of_item : DfOk T d_size_of_item := ⟨⟨rfl, rfl, rfl, by decide +kernel, rfl, by decide +kernel, by decide +kernel⟩, fun w cf n => by kernel_rfl, rfl, rfl, rfl, fun _ _ _ _ _ _ us hl => match us, hl with | [_, _, _, _], _ => rfl⟩
theorem ok_size_of : DfOk T d_size_of := ⟨⟨rfl, rfl, rfl, by decide +kernel, rfl, by decide +kernel, by decide +kernel⟩, fun w cf n => by kernel_rfl, rfl, rfl, rfl, fun _ _ _ _ _ _ us hl => match us, hl with | [_, _, _, _], _ => rfl⟩
theorem ok_is_program : DfOk T d_is_program := ⟨⟨rfl, rfl, rfl, by decide +kernel, rfl, by decide +kernel, by decide +kernel⟩, fun w cf n => by kernel_rfl, rfl, rfl, rfl, fun _ _ _ _ _ _ us hl => match us, hl with | [_], _ => rfl⟩
theorem ok_labels_of : DfOk T d_labels_of := ⟨⟨rfl, rfl, rfl, by decide +kernel, rfl, by decide +kernel, by decide +kernel⟩, fun w cf n => by kernel_rfl, rfl, rfl, rfl, fun _ _ _ _ _ _ us hl => match us, hl with | [_], _ => rfl⟩
theorem ok_need_program : DfOk T d_need_program := ⟨⟨rfl, rfl, rfl, by decide +kernel, rfl, by decide +kernel, by decide +kernel⟩, fun w cf n => by kernel_rfl, rfl, rfl, rfl, fun _ _ _ _ _ _ us hl => match us, hl with | [_], _ => rfl⟩
theorem ok_item_text : DfOk T d_item_text := ⟨⟨rfl, rfl, rfl, by decide +kernel, rfl, by decide +kernel, by decide +kernel⟩, fun w cf n => by kernel_rfl, rfl, rfl, rfl, fun _ _ _ _ _ _ us hl => match us, hl with | [_], _ => rfl⟩
theorem ok_body_text : DfOk T d_body_text := ⟨⟨rfl, rfl, rfl, by decide +kernel, rfl, by decide +kernel, by decide +kernel⟩, fun w cf n => by kernel_rfl, rfl, rfl, rfl, fun _ _ _ _ _ _ us hl => match us, hl with | [_], _ => rfl⟩
theorem ok_text_of : DfOk T d_text_of := ⟨⟨rfl, rfl, rfl, by decide +kernel, rfl, by decide +kernel, by decide +kernel⟩, fun w cf n => by kernel_rfl, rfl, rfl, rfl, fun _ _ _ _ _ _ us hl => match us, hl with | [_], _ => rfl⟩
theorem ok_cut_up : DfOk T d_cut_up := ⟨⟨rfl, rfl, rfl, by decide +kernel, rfl, by decide +kernel, by decide +kernel⟩, fun w cf n => by kernel_rfl, rfl, rfl, rfl, fun _ _ _ _ _ _ us hl => match us, hl with | [_, _], _ => rfl⟩
theorem ok_item_in : DfOk T d_item_in := ⟨⟨rfl, rfl, rfl, by decide +kernel, rfl, by decide +kernel, by decide +kernel⟩, fun w cf n => by kernel_rfl, rfl, rfl, rfl, fun _ _ _ _ _ _ us hl => match us, hl with | [_, _], _ => rfl⟩
theorem ok_body_in : DfOk T d_body_in := ⟨⟨rfl, rfl, rfl, by decide +kernel, rfl, by decide +kernel, by decide +kernel⟩, fun w cf n => by kernel_rfl, rfl, rfl, rfl, fun _ _ _ _ _ _ us hl => match us, hl with | [_, _], _ => rfl⟩
theorem ok_program_text : DfOk T d_program_text := ⟨⟨rfl, rfl, rfl, by decide +kernel, rfl, by decide +kernel, by decide +kernel⟩, fun w cf n => by kernel_rfl, rfl, rfl, rfl, fun _ _ _ _ _ _ us hl => match us, hl with | [_], _ => rfl⟩
theorem ok_read_program : DfOk T d_read_program := ⟨⟨rfl, rfl, rfl, by decide +kernel, rfl, by decide +kernel, by decide +kernel⟩, fun w cf n => by kernel_rfl, rfl, rfl, rfl, fun _ _ _ _ _ _ us hl => match us, hl with | [_], _ => rfl⟩
theorem ok__law_deck : DfOk T d__law_deck := ⟨⟨rfl, rfl, rfl, by decide +kernel, rfl, by decide +kernel, by decide +kernel⟩, fun w cf n => by kernel_rfl, rfl, rfl, rfl, fun _ _ _ _ _ _ us hl => match us, hl with | [_, _], _ => rfl⟩
theorem ok__law_pick : DfOk T d__law_pick := ⟨⟨rfl, rfl, rfl, by decide +kernel, rfl, by decide +kernel, by decide +kernel⟩, fun w cf n => by kernel_rfl, rfl, rfl, rfl, fun _ _ _ _ _ _ us hl => match us, hl with | [_, _], _ => rfl⟩
theorem ok__law_one : DfOk T d__law_one := ⟨⟨rfl, rfl, rfl, by decide +kernel, rfl, by decide +kernel, by decide +kernel⟩, fun w cf n => by kernel_rfl, rfl, rfl, rfl, fun _ _ _ _ _ _ us hl => match us, hl with | [_, _], _ => rfl⟩
theorem ok__law_head : DfOk T d__law_head := ⟨⟨rfl, rfl, rfl, by decide +kernel, rfl, by decide +kernel, by decide +kernel⟩, fun w cf n => by kernel_rfl, rfl, rfl, rfl, fun _ _ _ _ _ _ us hl => match us, hl with | [_], _ => rfl⟩
theorem ok__law_body : DfOk T d__law_body := ⟨⟨rfl, rfl, rfl, by decide +kernel, rfl, by decide +kernel, by decide +kernel⟩, fun w cf n => by kernel_rfl, rfl, rfl, rfl, fun _ _ _ _ _ _ us hl => match us, hl with | [_, _, _, _], _ => rfl⟩
theorem ok__law_program : DfOk T d__law_program := ⟨⟨rfl, rfl, rfl, by decide +kernel, rfl, by decide +kernel, by decide +kernel⟩, fun w cf n => by kernel_rfl, rfl, rfl, rfl, fun _ _ _ _ _ _ us hl => match us, hl with | [_, _], _ => rfl⟩
theorem ok__law_item_text : DfOk T d__law_item_text := ⟨⟨rfl, rfl, rfl, by decide +kernel, rfl, by decide +kernel, by decide +kernel⟩, fun w cf n => by kernel_rfl, rfl, rfl, rfl, fun _ _ _ _ _ _ us hl => match us, hl with | [_], _ => rfl⟩
theorem ok__law_body_text : DfOk T d__law_body_text := ⟨⟨rfl, rfl, rfl, by decide +kernel, rfl, by decide +kernel, by decide +kernel⟩, fun w cf n => by kernel_rfl, rfl, rfl, rfl, fun _ _ _ _ _ _ us hl => match us, hl with | [_], _ => rfl⟩
theorem ok__law_text : DfOk T d__law_text := ⟨⟨rfl, rfl, rfl, by decide +kernel, rfl, by decide +kernel, by decide +kernel⟩, fun w cf n => by kernel_rfl, rfl, rfl, rfl, fun _ _ _ _ _ _ us hl => match us, hl with | [_], _ => rfl⟩
theorem ok_law : DfOk T d_law := ⟨⟨rfl, rfl, rfl, by decide +kernel, rfl, by decide +kernel, by decide +kernel⟩, fun w cf n => by kernel_rfl, rfl, rfl, rfl, fun _ _ _ _ _ _ us hl => match us, hl with | [_], _ => rfl⟩
theorem mem_T {d : Df} (h : d ∈ T.fs) : d = d_is_label ∨ d = d_is_rising ∨ d = d_are_stores ∨ d = d_are_names ∨ d = d_inner ∨ d = d_shapes ∨ d = d_fits ∨ d = d_size_of_item ∨ d = d_size_of ∨ d = d_is_program ∨ d = d_labels_of ∨ d = d_need_program ∨ d = d_item_text ∨ d = d_body_text ∨ d = d_text_of ∨ d = d_cut_up ∨ d = d_item_in ∨ d = d_body_in ∨ d = d_program_text ∨ d = d_read_program ∨ d = d__law_deck ∨ d = d__law_pick ∨ d = d__law_one ∨ d = d__law_head ∨ d = d__law_body ∨ d = d__law_program ∨ d = d__law_item_text ∨ d = d__law_body_text ∨ d = d__law_text ∨ d = d_law := by simpa [T] using h
theorem tabOk : TabOk T fa fn where
  fs := fun d h => by
    rcases mem_T h with rfl | rfl | rfl | rfl | rfl | rfl | rfl | rfl | rfl | rfl | rfl | rfl | rfl | rfl | rfl | rfl | rfl | rfl | rfl | rfl | rfl | rfl | rfl | rfl | rfl | rfl | rfl | rfl | rfl | rfl
    · exact ok_is_label
    · exact ok_is_rising
    · exact ok_are_stores
    · exact ok_are_names
    · exact ok_inner
    · exact ok_shapes
    · exact ok_fits
    · exact ok_size_of_item
    · exact ok_size_of
    · exact ok_is_program
    · exact ok_labels_of
    · exact ok_need_program
    · exact ok_item_text
    · exact ok_body_text
    · exact ok_text_of
    · exact ok_cut_up
    · exact ok_item_in
    · exact ok_body_in
    · exact ok_program_text
    · exact ok_read_program
    · exact ok__law_deck
    · exact ok__law_pick
    · exact ok__law_one
    · exact ok__law_head
    · exact ok__law_body
    · exact ok__law_program
    · exact ok__law_item_text
    · exact ok__law_body_text
    · exact ok__law_text
    · exact ok_law
  ats := fun d h => by
    rcases mem_T h with rfl | rfl | rfl | rfl | rfl | rfl | rfl | rfl | rfl | rfl | rfl | rfl | rfl | rfl | rfl | rfl | rfl | rfl | rfl | rfl | rfl | rfl | rfl | rfl | rfl | rfl | rfl | rfl | rfl | rfl
    · exact ⟨0, rfl⟩
    · exact ⟨1, rfl⟩
    · exact ⟨2, rfl⟩
    · exact ⟨3, rfl⟩
    · exact ⟨4, rfl⟩
    · exact ⟨5, rfl⟩
    · exact ⟨6, rfl⟩
    · exact ⟨7, rfl⟩
    · exact ⟨8, rfl⟩
    · exact ⟨9, rfl⟩
    · exact ⟨10, rfl⟩
    · exact ⟨11, rfl⟩
    · exact ⟨12, rfl⟩
    · exact ⟨13, rfl⟩
    · exact ⟨14, rfl⟩
    · exact ⟨15, rfl⟩
    · exact ⟨16, rfl⟩
    · exact ⟨17, rfl⟩
    · exact ⟨18, rfl⟩
    · exact ⟨19, rfl⟩
    · exact ⟨20, rfl⟩
    · exact ⟨21, rfl⟩
    · exact ⟨22, rfl⟩
    · exact ⟨23, rfl⟩
    · exact ⟨24, rfl⟩
    · exact ⟨25, rfl⟩
    · exact ⟨26, rfl⟩
    · exact ⟨27, rfl⟩
    · exact ⟨28, rfl⟩
    · exact ⟨29, rfl⟩
  glo := fun d h => by
    rcases mem_T h with rfl | rfl | rfl | rfl | rfl | rfl | rfl | rfl | rfl | rfl | rfl | rfl | rfl | rfl | rfl | rfl | rfl | rfl | rfl | rfl | rfl | rfl | rfl | rfl | rfl | rfl | rfl | rfl | rfl | rfl
    · exact List.mem_append_left _ (List.mem_of_getElem? (i := 0) rfl)
    · exact List.mem_append_left _ (List.mem_of_getElem? (i := 1) rfl)
    · exact List.mem_append_left _ (List.mem_of_getElem? (i := 2) rfl)
    · exact List.mem_append_left _ (List.mem_of_getElem? (i := 3) rfl)
    · exact List.mem_append_left _ (List.mem_of_getElem? (i := 4) rfl)
    · exact List.mem_append_left _ (List.mem_of_getElem? (i := 5) rfl)
    · exact List.mem_append_left _ (List.mem_of_getElem? (i := 6) rfl)
    · exact List.mem_append_left _ (List.mem_of_getElem? (i := 7) rfl)
    · exact List.mem_append_left _ (List.mem_of_getElem? (i := 8) rfl)
    · exact List.mem_append_left _ (List.mem_of_getElem? (i := 9) rfl)
    · exact List.mem_append_left _ (List.mem_of_getElem? (i := 10) rfl)
    · exact List.mem_append_left _ (List.mem_of_getElem? (i := 11) rfl)
    · exact List.mem_append_left _ (List.mem_of_getElem? (i := 12) rfl)
    · exact List.mem_append_left _ (List.mem_of_getElem? (i := 13) rfl)
    · exact List.mem_append_left _ (List.mem_of_getElem? (i := 14) rfl)
    · exact List.mem_append_left _ (List.mem_of_getElem? (i := 15) rfl)
    · exact List.mem_append_left _ (List.mem_of_getElem? (i := 16) rfl)
    · exact List.mem_append_left _ (List.mem_of_getElem? (i := 17) rfl)
    · exact List.mem_append_left _ (List.mem_of_getElem? (i := 18) rfl)
    · exact List.mem_append_left _ (List.mem_of_getElem? (i := 19) rfl)
    · exact List.mem_append_left _ (List.mem_of_getElem? (i := 20) rfl)
    · exact List.mem_append_left _ (List.mem_of_getElem? (i := 21) rfl)
    · exact List.mem_append_left _ (List.mem_of_getElem? (i := 22) rfl)
    · exact List.mem_append_left _ (List.mem_of_getElem? (i := 23) rfl)
    · exact List.mem_append_left _ (List.mem_of_getElem? (i := 24) rfl)
    · exact List.mem_append_left _ (List.mem_of_getElem? (i := 25) rfl)
    · exact List.mem_append_left _ (List.mem_of_getElem? (i := 26) rfl)
    · exact List.mem_append_left _ (List.mem_of_getElem? (i := 27) rfl)
    · exact List.mem_append_left _ (List.mem_of_getElem? (i := 28) rfl)
    · exact List.mem_append_left _ (List.mem_of_getElem? (i := 29) rfl)
  blt := fun x h => List.mem_append_right _ (List.mem_map_of_mem h)
abbrev R : PySem.W.OpenRow := PySem.W.OpenLaw.row PySem.Challenge.rw_casealone_k12_texts_there_and_back
abbrev hk : PySem.W.Hook := hookM 4 fa fn T.cs
def ob (s : PySem.W.SharedT) : AlM := obsMG 4 fa fn T.cs (HandSHeadRun.getT s)
theorem ob_eq (s : PySem.W.SharedT) : ob s = hk.obs s.abs := obsMG_eq (HandSHeadRun.getT_eq s)
def names : List PySem.Str := (["CaseError", "InvalidProgram", "InvalidText", "SMALL", "KINDS", "MOST_STEPS", "MOST_DEEP", "is_label", "is_rising", "are_stores", "are_names", "inner", "shapes", "fits", "size_of_item", "size_of", "is_program", "labels_of", "need_program", "item_text", "body_text", "text_of", "cut_up", "item_in", "body_in", "program_text", "read_program", "_law_deck", "_law_pick", "_law_one"] : List PySem.Str) ++ (["_law_head", "_law_body", "_law_program", "_law_item_text", "_law_body_text", "_law_text"] : List PySem.Str)
theorem run (w : World) : HandSHeadRun.RunEq R (PySem.W.view R.prog [40]) hk ob 4000 names w := by
  intro os
  kernel_rfl
end LawX
set_option Elab.async false
set_option linter.all false
set_option maxRecDepth 100000
set_option maxHeartbeats 4000000
/-! PG1: tools for the plain part: symbolic execution by simp. -/
namespace MP
open PySem PySem.Spec PyProof.Rows L2
theorem callF_eq {w : Mw} {T : Tab} {n : Nat} {f : Str} {d : Df} (h : T.fn f = some d) : callF w T (n + 1) f = d.wrap (runB d.ps.length d.N.length (exSs ⟨w, callF w T n, T.gl, fun f => (T.fn f).isSome, n⟩ d.ir)) := by
  rw [callF]
  simp only [h]
theorem exSs_nil {C : Cfg} : exSs C [] = exNil := by rw [exSs]
theorem exSs_cons {C : Cfg} {s : S} {ss : List S} : exSs C (s :: ss) = exSeq (exS C s) (exSs C ss) := by rw [exSs]
theorem set_self {M : Mem} {n : Nat} {c c' : Cell} (h : M[n]? = some c) : (M.set n c')[n]? = some c' := by
  rw [List.getElem?_set_self (List.getElem?_eq_some_iff.mp h).1]
theorem set_other {M : Mem} {n m : Nat} {c' : Cell} (h : n ≠ m) : (M.set n c')[m]? = M[m]? := List.getElem?_set_ne h
/-! ### the operations, by shape -/
theorem add_i {i j : Int} : addD (.int i) (.int j) = some (.int (i + j)) := rfl
theorem add_s {a b : Str} (h : a.length + b.length ≤ 16777216) : addD (.str a) (.str b) = some (.str (a ++ b)) := if_pos h
theorem add_l {a b : List PyData} (h : a.length + b.length ≤ 16777216) : addD (.list a) (.list b) = some (.list (a ++ b)) := if_pos h
theorem add_t {a b : List PyData} (h : a.length + b.length ≤ 16777216) : addD (.tuple a) (.tuple b) = some (.tuple (a ++ b)) := if_pos h
theorem sub_i {i j : Int} : subD (.int i) (.int j) = some (.int (i - j)) := rfl
theorem mod_i {i j : Int} (h : 0 < j) : modD (.int i) (.int j) = some (.int (i % j)) := if_pos h
theorem fdiv_i {i j : Int} (h : 0 < j) (h2 : j < 1073741824) : fdivD (.int i) (.int j) = some (.int (i / j)) := if_pos ⟨h, h2⟩
theorem pow_i {i j : Int} (h : 0 ≤ j) (h2 : j ≤ 1000000) (h3 : -18446744073709551616 < i) (h4 : i < 18446744073709551616) : powD (.int i) (.int j) = some (.int (i ^ j.toNat)) := if_pos ⟨h, h2, by omega⟩
theorem mul_i {i j : Int} (h3 : -18446744073709551616 < i) (h4 : i < 18446744073709551616) : mulTD (.int i) (.int j) = some (.int (i * j)) := if_pos (.inl ⟨by omega, by omega⟩)
theorem int_i {i : Int} : MP.intD [.int i] = some (.int i) := rfl
theorem int_b {b : Bool} : MP.intD [.bool b] = some (.int (if b then 1 else 0)) := rfl
theorem len_l {xs : List PyData} : lenD [.list xs] = some (.int xs.length) := rfl
theorem len_t {xs : List PyData} : lenD [.tuple xs] = some (.int xs.length) := rfl
theorem len_s {x : Str} (h : x.length ≤ 16777216) : lenD [.str x] = some (.int x.length) := if_pos h
theorem tup_l {xs : List PyData} : tupleD [.list xs] = some (.tuple xs) := rfl
theorem tup_t {xs : List PyData} : tupleD [.tuple xs] = some (.tuple xs) := rfl
theorem list_l {xs : List PyData} : listD [.list xs] = some xs := rfl
theorem list_t {xs : List PyData} : listD [.tuple xs] = some xs := rfl
theorem eq_s {x y : Str} : eqD (.str x) (.str y) = some (decide (x = y)) := rfl
theorem eq_i {x y : Int} : eqD (.int x) (.int y) = some (decide (x = y)) := rfl
theorem lt_i {x y : Int} : ltD (.int x) (.int y) = some (decide (x < y)) := rfl
theorem gt_i {x y : Int} : gtD (.int x) (.int y) = some (decide (y < x)) := rfl
theorem le_i {x y : Int} : leD (.int x) (.int y) = some (decide (x ≤ y)) := rfl
theorem ge_i {x y : Int} : geD (.int x) (.int y) = some (decide (y ≤ x)) := rfl
theorem lt_s {x y : Str} : ltD (.str x) (.str y) = some (decide (x.cps.toList < y.cps.toList)) := rfl
theorem v1_d {f : PyData → Option PyData} {d z : PyData} {M : Mem} (h : f d = some z) : v1 f (.dat d) M = .ok (.dat z) M := by simp only [v1, view, h]
theorem v2_d {f : PyData → PyData → Option PyData} {d e z : PyData} {M : Mem} (h : f d e = some z) : v2 f (.dat d) (.dat e) M = .ok (.dat z) M := by simp only [v2, view, h]
theorem toB_dt {r : Res Val} {M : Mem} {b : Bool} (h : r = .ok (.dat (.bool b)) M) : (r.bind fun x M1 => match asB x with
  | some b => Res.ok b M1
  | none => .bad) = .ok b M := by rw [h]; rfl
theorem dec_le {n : Nat} (h : n ≤ 16777216) : decide (n ≤ 16777216) = true := decide_eq_true h
theorem dec_lt {n : Nat} (h : n < 16777216) : decide (n < 16777216) = true := decide_eq_true h
theorem rng_b {j : Int} (h : -4611686018427387904 ≤ j) (h2 : j < 4611686018427387904) : decide (-(2 ^ 62) ≤ j ∧ j < 2 ^ 62) = true := decide_eq_true ⟨by omega, by omega⟩
theorem rng_b2 {i j : Int} (h : -4611686018427387904 ≤ i) (h2 : i < 4611686018427387904) (h3 : -4611686018427387904 ≤ j) (h4 : j < 4611686018427387904) : decide (-(2 ^ 62) ≤ i ∧ i < 2 ^ 62 ∧ -(2 ^ 62) ≤ j ∧ j < 2 ^ 62) = true := decide_eq_true ⟨by omega, by omega, by omega, by omega⟩
theorem at_nat {α : Type} {xs : List α} {i : Nat} (h : i < xs.length) : atI xs (i : Int) = xs[i]? := by
  unfold atI ixN
  rw [if_pos (by omega), if_pos (by omega)]
  rfl
theorem at0 {α : Type} {a : α} {xs : List α} : atI (a :: xs) 0 = some a := at_nat (i := 0) (xs := a :: xs) (by simp)
theorem at1 {α : Type} {a b : α} {xs : List α} : atI (a :: b :: xs) 1 = some b := at_nat (i := 1) (xs := a :: b :: xs) (by simp)
theorem at2 {α : Type} {a b c : α} {xs : List α} : atI (a :: b :: c :: xs) 2 = some c := at_nat (i := 2) (xs := a :: b :: c :: xs) (by simp)
theorem at3 {α : Type} {a b c d : α} {xs : List α} : atI (a :: b :: c :: d :: xs) 3 = some d := at_nat (i := 3) (xs := a :: b :: c :: d :: xs) (by simp)
theorem at4 {α : Type} {a b c d e : α} {xs : List α} : atI (a :: b :: c :: d :: e :: xs) 4 = some e := at_nat (i := 4) (xs := a :: b :: c :: d :: e :: xs) (by simp)
theorem idx_l {xs : List PyData} {i : Int} : idxD (.list xs) (.int i) = atI xs i := rfl
theorem idx_t {xs : List PyData} {i : Int} : idxD (.tuple xs) (.int i) = atI xs i := rfl
theorem andThen_nil (r : Res Fl) : andThen r exNil = r := by
  cases r with
  | ok f M => cases f <;> rfl
  | _ => rfl
theorem exSs_one {C : Cfg} {s : S} {env : MP.Env} {M : Mem} : exSs C [s] env M = exS C s env M := by
  rw [exSs_cons, exSs_nil]
  exact andThen_nil _
theorem ife_t {C : Cfg} {c : E} {a b : List S} {env : MP.Env} {M M1 : Mem} (h : toB (evE C c) env M = .ok true M1) : exSs C [.ife c a b] env M = exSs C a env M1 := by
  rw [exSs_one]
  simp only [exS, exIf, h, ofB_ok]
theorem ife_f {C : Cfg} {c : E} {a b : List S} {env : MP.Env} {M M1 : Mem} (h : toB (evE C c) env M = .ok false M1) : exSs C [.ife c a b] env M = exSs C b env M1 := by
  rw [exSs_one]
  simp only [exS, exIf, h, ofB_ok]
theorem exSs_step {C : Cfg} {s : S} {ss : List S} {env env1 : MP.Env} {M M1 : Mem} (h : exS C s env M = .ok (.nx env1) M1) : exSs C (s :: ss) env M = exSs C ss env1 M1 := by
  rw [exSs_cons]
  unfold exSeq
  rw [h, andThen_nx]
theorem lcS_map {t : Tg} {elt : Sm} {M : Mem} (g : PyData → PyData) : ∀ {ds : List PyData} {env : MP.Env}, (∀ d ∈ ds, ∃ env1, t.put d env = some env1 ∧ elt env1 M = .ok (.dat (g d)) M) → lcS t none elt ds env M = .ok (ds.map g) M
  | [], _, _ => rfl
  | d :: ds, env, h => by
    obtain ⟨env1, h1, h2⟩ := h d List.mem_cons_self
    have ih := lcS_map (t := t) (elt := elt) (M := M) g (ds := ds) (env := env) fun x hx => h x (List.mem_cons_of_mem _ hx)
    simp only [lcS, h1, h2, Res.bind_ok, Res.nx, ih, List.map_cons]
theorem seq_t {xs : List PyData} : seqD (.tuple xs) = some xs := rfl
theorem seq_l {xs : List PyData} : seqD (.list xs) = some xs := rfl
theorem cast_lit (n : Nat) : ((no_index (OfNat.ofNat n) : Nat) : Int) = OfNat.ofNat n := rfl
end MP
set_option Elab.async false
set_option linter.all false
set_option maxRecDepth 100000
set_option maxHeartbeats 4000000
/-! PG2: the generator. -/
namespace LawX
open PySem PySem.Spec PyProof.Rows L2 MP
theorem f_pick : T.fn "_law_pick" = some d__law_pick := by rfl
def deckL (d s k : Int) : List (Key × Val) := [(.inr "digits", .dat (.int d)), (.inr "seed", .dat (.int s)), (.inr "count", .dat (.int k))]
theorem deck_d {d s k : Int} : dGet (deckL d s k) (.inr "digits") = some (.dat (.int d)) := by rfl
theorem deck_s {d s k : Int} : dGet (deckL d s k) (.inr "seed") = some (.dat (.int s)) := by rfl
theorem deck_c {d s k : Int} : dGet (deckL d s k) (.inr "count") = some (.dat (.int k)) := by rfl
theorem deck_pd {d s k z : Int} : dPut (deckL d s k) (.inr "digits") (.dat (.int z)) = deckL z s k := by rfl
theorem deck_pc {d s k z : Int} : dPut (deckL d s k) (.inr "count") (.dat (.int z)) = deckL d s z := by rfl
theorem deck_len {d s k : Int} : decide ((deckL d s k).length < 16777216) = true := by rfl
theorem dctOf_set {M : Mem} {n : Nat} {c : Cell} {kvs : List (Key × Val)} (h : M[n]? = some c) : dctOf (M.set n (.dct kvs)) (.ob n) = some kvs := by simp only [dctOf, set_self h]
theorem pick_ok {w : Mw} {n : Nat} {M : Mem} {nd : Nat} {d s k L : Int} (hM : M[nd]? = some (.dct (deckL d s k))) (hd : 0 ≤ d) (hs : 0 ≤ s) (hs2 : s < 1099511627776) (hk : 0 ≤ k) (hk2 : k < 1073741824) (hL : 0 < L) (hL2 : L < 1073741824) :
    ∃ r d' k', callF w T (n + 1) "_law_pick" [.ob nd, .dat (.int L)] M = .ok (.dat (.int r)) (M.set nd (.dct (deckL d' s k'))) ∧ 0 ≤ r ∧ r < L ∧ 0 ≤ d' ∧ k ≤ k' ∧ k' ≤ k + 1 := by
  rw [callF_eq f_pick]
  unfold d__law_pick
  simp only [Df.wrap, runB]
  have e1 : dctOf M (.ob nd) = some (deckL d s k) := by simp only [dctOf, hM]
  by_cases h : 0 < d
  · simp (disch := first | omega | (simp only [List.length_cons, List.length_nil, List.length_map, List.length_append, List.length_reverse]; omega)) only [at0, at1, at2, at3, at4, idx_l, idx_t, rng_b, rng_b2, dec_le, dec_lt, add_t, add_l, mod_i, fdiv_i, pow_i, mul_i, exSs_nil, exSs_cons, exS, exSeq, exNil, exRet, exEx, exIf, exSet, exPar, exPut, exApp, exAug, ofE_ok, ofB_ok, ofEs_ok, andThen_nx, andThen_rt, Tg.putV, setAll, evE, evEs, evs, evn, ev1, ev2, evVar, evLit, evCon, evIf, evAnd, evOr, evCh, evTup, evLst, evCall, evSl, evPart, MP.part, evDget, evDin, evDget2, evDisp, evPs, pairK, toB, asB, notD, newK, frz, cel, siNew, siNew2, siSeq, evIt, siZip, siRng, siRng2, evLc, wipeE, Res.bind_ok, v1, v2, vn, view, views, datsOf, asKey, keyOf, putC, Bin.f, Cmp.f, Bf.f, Bn.f, isiD, isT, bD, negD, isD, isN, List.getElem?_cons_zero, List.getElem?_cons_succ, List.getElem?_nil, List.set_cons_zero, List.set_cons_succ, List.map_cons, List.map_nil, List.replicate, List.length_cons, List.length_nil, List.cons_append, List.nil_append, add_i, sub_i, int_i, int_b, len_l, len_t, tup_l, tup_t, list_l, list_t, eq_s, eq_i, lt_i, gt_i, le_i, ge_i, lt_s, Option.map_some, Option.map_none, Option.bind_some, Nat.reduceAdd, Int.reduceToNat, Int.reduceAdd, Int.reduceSub, Int.reduceNeg, Int.reduceMul, Int.reduceEq, Int.reduceLT, Int.reduceLE, cast_lit, seq_t, seq_l, if_true, ite_true, ite_false, if_false, and_true, true_and, and_self, Bool.false_eq_true, not_true, not_false_iff, decide_true, decide_false, Bool.not_true, Bool.not_false, Option.isSome_some, Option.isSome_none, b__law_pick_0, e1, deck_d, deck_s, deck_c, deck_pd, deck_pc, h, hM, hL, hL2]
    exact ⟨_, _, _, rfl, Int.emod_nonneg _ (by omega), Int.emod_lt_of_pos _ hL, Int.ediv_nonneg hd (by omega), Int.le_refl _, by omega⟩
  · simp (disch := first | omega | (simp only [List.length_cons, List.length_nil, List.length_map, List.length_append, List.length_reverse]; omega)) only [at0, at1, at2, at3, at4, idx_l, idx_t, rng_b, rng_b2, dec_le, dec_lt, add_t, add_l, mod_i, fdiv_i, pow_i, mul_i, exSs_nil, exSs_cons, exS, exSeq, exNil, exRet, exEx, exIf, exSet, exPar, exPut, exApp, exAug, ofE_ok, ofB_ok, ofEs_ok, andThen_nx, andThen_rt, Tg.putV, setAll, evE, evEs, evs, evn, ev1, ev2, evVar, evLit, evCon, evIf, evAnd, evOr, evCh, evTup, evLst, evCall, evSl, evPart, MP.part, evDget, evDin, evDget2, evDisp, evPs, pairK, toB, asB, notD, newK, frz, cel, siNew, siNew2, siSeq, evIt, siZip, siRng, siRng2, evLc, wipeE, Res.bind_ok, v1, v2, vn, view, views, datsOf, asKey, keyOf, putC, Bin.f, Cmp.f, Bf.f, Bn.f, isiD, isT, bD, negD, isD, isN, List.getElem?_cons_zero, List.getElem?_cons_succ, List.getElem?_nil, List.set_cons_zero, List.set_cons_succ, List.map_cons, List.map_nil, List.replicate, List.length_cons, List.length_nil, List.cons_append, List.nil_append, add_i, sub_i, int_i, int_b, len_l, len_t, tup_l, tup_t, list_l, list_t, eq_s, eq_i, lt_i, gt_i, le_i, ge_i, lt_s, Option.map_some, Option.map_none, Option.bind_some, Nat.reduceAdd, Int.reduceToNat, Int.reduceAdd, Int.reduceSub, Int.reduceNeg, Int.reduceMul, Int.reduceEq, Int.reduceLT, Int.reduceLE, cast_lit, seq_t, seq_l, if_true, ite_true, ite_false, if_false, and_true, true_and, and_self, Bool.false_eq_true, not_true, not_false_iff, decide_true, decide_false, Bool.not_true, Bool.not_false, Option.isSome_some, Option.isSome_none, b__law_pick_0, e1, deck_d, deck_s, deck_c, deck_pd, deck_pc, h, hM, hL, hL2]
    simp (disch := first | omega | (simp only [List.length_cons, List.length_nil, List.length_map, List.length_append, List.length_reverse]; omega)) only [at0, at1, at2, at3, at4, idx_l, idx_t, rng_b, rng_b2, dec_le, dec_lt, add_t, add_l, mod_i, fdiv_i, pow_i, mul_i, exSs_nil, exSs_cons, exS, exSeq, exNil, exRet, exEx, exIf, exSet, exPar, exPut, exApp, exAug, ofE_ok, ofB_ok, ofEs_ok, andThen_nx, andThen_rt, Tg.putV, setAll, evE, evEs, evs, evn, ev1, ev2, evVar, evLit, evCon, evIf, evAnd, evOr, evCh, evTup, evLst, evCall, evSl, evPart, MP.part, evDget, evDin, evDget2, evDisp, evPs, pairK, toB, asB, notD, newK, frz, cel, siNew, siNew2, siSeq, evIt, siZip, siRng, siRng2, evLc, wipeE, Res.bind_ok, v1, v2, vn, view, views, datsOf, asKey, keyOf, putC, Bin.f, Cmp.f, Bf.f, Bn.f, isiD, isT, bD, negD, isD, isN, List.getElem?_cons_zero, List.getElem?_cons_succ, List.getElem?_nil, List.set_cons_zero, List.set_cons_succ, List.map_cons, List.map_nil, List.replicate, List.length_cons, List.length_nil, List.cons_append, List.nil_append, add_i, sub_i, int_i, int_b, len_l, len_t, tup_l, tup_t, list_l, list_t, eq_s, eq_i, lt_i, gt_i, le_i, ge_i, lt_s, Option.map_some, Option.map_none, Option.bind_some, Nat.reduceAdd, Int.reduceToNat, Int.reduceAdd, Int.reduceSub, Int.reduceNeg, Int.reduceMul, Int.reduceEq, Int.reduceLT, Int.reduceLE, cast_lit, seq_t, seq_l, if_true, ite_true, ite_false, if_false, and_true, true_and, and_self, Bool.false_eq_true, not_true, not_false_iff, decide_true, decide_false, Bool.not_true, Bool.not_false, Option.isSome_some, Option.isSome_none, deck_len, deck_d, deck_s, deck_c, deck_pd, deck_pc, dctOf_set hM]
    exact ⟨_, d, k + 1, rfl, Int.emod_nonneg _ (by omega), Int.emod_lt_of_pos _ hL, hd, by omega, by omega⟩
def DeckAt (M : Mem) (nd : Nat) (c : Int) : Prop := ∃ d s k, M[nd]? = some (.dct (deckL d s k)) ∧ 0 ≤ d ∧ 0 ≤ s ∧ s < 1099511627776 ∧ 0 ≤ k ∧ k ≤ c
/-- only these cells have changed, others may be new -/
def Only (S : List Nat) (M M' : Mem) : Prop := M.length ≤ M'.length ∧ ∀ i, i < M.length → i ∉ S → M'[i]? = M[i]?
theorem Only.refl {S : List Nat} {M : Mem} : Only S M M := ⟨Nat.le_refl _, fun _ _ _ => rfl⟩
theorem Only.trans {S : List Nat} {M M1 M2 : Mem} (a : Only S M M1) (b : Only S M1 M2) : Only S M M2 := ⟨Nat.le_trans a.1 b.1, fun i h1 h2 => (b.2 i (Nat.lt_of_lt_of_le h1 a.1) h2).trans (a.2 i h1 h2)⟩
theorem Only.mono {S S' : List Nat} {M M1 : Mem} (a : Only S M M1) (h : ∀ i ∈ S, i ∈ S') : Only S' M M1 := ⟨a.1, fun i h1 h2 => a.2 i h1 fun z => h2 (h i z)⟩
theorem Only.set {n : Nat} {c : Cell} {M : Mem} : Only [n] M (M.set n c) := ⟨by simp, fun i h1 h2 => List.getElem?_set_ne (fun e => h2 (by simp [e]))⟩
theorem Only.new {S : List Nat} {c : Cell} {M : Mem} : Only S M (M ++ [c]) := ⟨by simp, fun i h1 h2 => by rw [List.getElem?_append_left h1]⟩
theorem Only.get {S : List Nat} {M M1 : Mem} {i : Nat} {c : Cell} (a : Only S M M1) (h : M[i]? = some c) (hn : i ∉ S) : M1[i]? = some c := by rw [a.2 i (List.getElem?_eq_some_iff.mp h).1 hn]; exact h
theorem DeckAt.keep {M M1 : Mem} {nd : Nat} {c : Int} {S : List Nat} (h : DeckAt M nd c) (o : Only S M M1) (hn : nd ∉ S) : DeckAt M1 nd c := by
  obtain ⟨d, s, k, h1, h2⟩ := h
  exact ⟨d, s, k, o.get h1 hn, h2⟩
theorem DeckAt.le {M : Mem} {nd : Nat} {c c' : Int} (h : DeckAt M nd c) (e : c ≤ c') : DeckAt M nd c' := by
  obtain ⟨d, s, k, h1, h2, h3, h4, h5, h6⟩ := h
  exact ⟨d, s, k, h1, h2, h3, h4, h5, by omega⟩
theorem pick_at {w : Mw} {n : Nat} {M : Mem} {nd : Nat} {c L : Int} (h : DeckAt M nd c) (hc : c < 1073741824) (hL : 0 < L) (hL2 : L < 1073741824) :
    ∃ r M', callF w T (n + 1) "_law_pick" [.ob nd, .dat (.int L)] M = .ok (.dat (.int r)) M' ∧ 0 ≤ r ∧ r < L ∧ DeckAt M' nd (c + 1) ∧ Only [nd] M M' ∧ M'.length = M.length := by
  obtain ⟨d, s, k, h1, h2, h3, h4, h5, h6⟩ := h
  obtain ⟨r, d', k', e, g1, g2, g3, g4, g5⟩ := pick_ok (w := w) (n := n) h1 h2 h3 h4 h5 (by omega) hL hL2
  exact ⟨r, _, e, g1, g2, ⟨d', s, k', set_self h1, g3, h3, h4, by omega, by omega⟩, Only.set, by simp⟩
theorem atI_mem {xs : List PyData} {r : Int} (h : 0 ≤ r) (h2 : r < xs.length) : ∃ z, atI xs r = some z ∧ z ∈ xs := by
  have h3 : r.toNat < xs.length := by omega
  refine ⟨xs[r.toNat], ?_, List.getElem_mem h3⟩
  unfold atI ixN
  rw [if_pos h, if_pos h2]
  simp only [Option.bind_some]
  exact List.getElem?_eq_getElem h3
theorem f_one : T.fn "_law_one" = some d__law_one := by rfl
theorem one_at {w : Mw} {n : Nat} {M : Mem} {nd : Nat} {c : Int} {xs : List PyData} (h : DeckAt M nd c) (hc : c < 1073741824) (hx : xs ≠ []) (hl : xs.length < 1073741824) :
    ∃ z M', callF w T (n + 2) "_law_one" [.ob nd, .dat (.list xs)] M = .ok (.dat z) M' ∧ z ∈ xs ∧ DeckAt M' nd (c + 1) ∧ Only [nd] M M' ∧ M'.length = M.length := by
  have hp : 0 < xs.length := List.length_pos_iff.mpr hx
  obtain ⟨r, M', e, h1, h2, h3, h4, h5⟩ := pick_at (w := w) (n := n) (L := (xs.length : Int)) h hc (by omega) (by omega)
  obtain ⟨z, hz, hm⟩ := atI_mem h1 h2
  refine ⟨z, M', ?_, hm, h3, h4, h5⟩
  rw [callF_eq f_one]
  unfold d__law_one
  simp only [Df.wrap, runB]
  simp (disch := first | omega | (simp only [List.length_cons, List.length_nil, List.length_map, List.length_append, List.length_reverse]; omega)) only [at0, at1, at2, at3, at4, idx_l, idx_t, rng_b, rng_b2, dec_le, dec_lt, add_t, add_l, mod_i, fdiv_i, pow_i, mul_i, exSs_nil, exSs_cons, exS, exSeq, exNil, exRet, exEx, exIf, exSet, exPar, exPut, exApp, exAug, ofE_ok, ofB_ok, ofEs_ok, andThen_nx, andThen_rt, Tg.putV, setAll, evE, evEs, evs, evn, ev1, ev2, evVar, evLit, evCon, evIf, evAnd, evOr, evCh, evTup, evLst, evCall, evSl, evPart, MP.part, evDget, evDin, evDget2, evDisp, evPs, pairK, toB, asB, notD, newK, frz, cel, siNew, siNew2, siSeq, evIt, siZip, siRng, siRng2, evLc, wipeE, Res.bind_ok, v1, v2, vn, view, views, datsOf, asKey, keyOf, putC, Bin.f, Cmp.f, Bf.f, Bn.f, isiD, isT, bD, negD, isD, isN, List.getElem?_cons_zero, List.getElem?_cons_succ, List.getElem?_nil, List.set_cons_zero, List.set_cons_succ, List.map_cons, List.map_nil, List.replicate, List.length_cons, List.length_nil, List.cons_append, List.nil_append, add_i, sub_i, int_i, int_b, len_l, len_t, tup_l, tup_t, list_l, list_t, eq_s, eq_i, lt_i, gt_i, le_i, ge_i, lt_s, Option.map_some, Option.map_none, Option.bind_some, Nat.reduceAdd, Int.reduceToNat, Int.reduceAdd, Int.reduceSub, Int.reduceNeg, Int.reduceMul, Int.reduceEq, Int.reduceLT, Int.reduceLE, cast_lit, seq_t, seq_l, if_true, ite_true, ite_false, if_false, and_true, true_and, and_self, Bool.false_eq_true, not_true, not_false_iff, decide_true, decide_false, Bool.not_true, Bool.not_false, Option.isSome_some, Option.isSome_none, e, hz]
/-! ### what is drawn: the head -/
structure Hd where
  ls : List (Str × Str)
  ns : List Str
def Hd.ss (h : Hd) : PyData := .tuple (h.ls.map fun p => .tuple [.str p.1, .str p.2])
def Hd.nms (h : Hd) : PyData := .tuple (h.ns.map .str)
def Hd.enc (h : Hd) : PyData := .tuple [h.ss, h.nms]
def Hd.L (h : Hd) : List Str := h.ls.map (·.1)
def kindL : List Str := ["exact", "keep", "last", "lower"]
def lab1 : List Str := ["s"]
def lab2 : List Str := ["disk", "s"]
def lab3 : List Str := ["a", "zzzzzzzz"]
def nam1 : List Str := ["x"]
def nam2 : List Str := ["new", "old"]
def nam3 : List Str := ["b", "c"]
structure Hd.Ok (h : Hd) : Prop where
  l : h.L = lab1 ∨ h.L = lab2 ∨ h.L = lab3
  k : ∀ p ∈ h.ls, p.2 ∈ kindL
  n : h.ns = nam1 ∨ h.ns = nam2 ∨ h.ns = nam3
theorem f_head : T.fn "_law_head" = some d__law_head := by rfl
def kinds0 : List PyData := [.str "exact", .str "keep", .str "keep", .str "last", .str "lower"]
theorem kinds0_mem {z : PyData} (h : z ∈ kinds0) : ∃ k ∈ kindL, z = .str k := by
  simp only [kinds0, List.mem_cons, List.not_mem_nil, or_false] at h
  rcases h with rfl | rfl | rfl | rfl | rfl
  · exact ⟨"exact", by simp [kindL], rfl⟩
  · exact ⟨"keep", by simp [kindL], rfl⟩
  · exact ⟨"keep", by simp [kindL], rfl⟩
  · exact ⟨"last", by simp [kindL], rfl⟩
  · exact ⟨"lower", by simp [kindL], rfl⟩
def lab0 : List PyData := [.list [.str "s"], .list [.str "s"], .list [.str "disk", .str "s"], .list [.str "a", .str "zzzzzzzz"]]
def nam0 : List PyData := [.tuple [.str "x"], .tuple [.str "new", .str "old"], .tuple [.str "b", .str "c"]]
theorem nam0_mem {z : PyData} (h : z ∈ nam0) : ∃ ns : List Str, z = .tuple (ns.map .str) ∧ (ns = nam1 ∨ ns = nam2 ∨ ns = nam3) := by
  simp only [nam0, List.mem_cons, List.not_mem_nil, or_false] at h
  rcases h with rfl | rfl | rfl
  · exact ⟨nam1, rfl, .inl rfl⟩
  · exact ⟨nam2, rfl, .inr (.inl rfl)⟩
  · exact ⟨nam3, rfl, .inr (.inr rfl)⟩
theorem head_at {w : Mw} {n : Nat} {M : Mem} {nd : Nat} {c : Int} (h : DeckAt M nd c) (hc : c + 4 < 1073741824) :
    ∃ hd M', callF w T (n + 3) "_law_head" [.ob nd] M = .ok (.dat (Hd.enc hd)) M' ∧ hd.Ok ∧ DeckAt M' nd (c + 4) ∧ Only [nd] M M' ∧ M'.length = M.length := by
  obtain ⟨z1, M1, e1, m1, h1, o1, l1⟩ := one_at (w := w) (n := n) (xs := lab0) h (by omega) (by simp [lab0]) (by simp [lab0])
  simp only [lab0, List.mem_cons, List.not_mem_nil, or_false] at m1
  obtain ⟨z2, M2, e2, m2, h2, o2, l2⟩ := one_at (w := w) (n := n) (xs := kinds0) h1 (by omega) (by simp [kinds0]) (by simp [kinds0])
  obtain ⟨k2, hk2, rfl⟩ := kinds0_mem m2
  have one : ∀ l : Str, z1 = .list [.str l] → l = "s" → ∃ hd M', callF w T (n + 3) "_law_head" [.ob nd] M = .ok (.dat (Hd.enc hd)) M' ∧ hd.Ok ∧ DeckAt M' nd (c + 4) ∧ Only [nd] M M' ∧ M'.length = M.length := by
    intro l hl hs
    subst hl
    obtain ⟨z3, M3, e3, m3, h3, o3, l3⟩ := one_at (w := w) (n := n) (xs := nam0) h2 (by omega) (by simp [nam0]) (by simp [nam0])
    obtain ⟨ns, rfl, hn⟩ := nam0_mem m3
    refine ⟨⟨[(l, k2)], ns⟩, M3, ?_, ⟨.inl (by simp [Hd.L, hs, lab1]), by simp [hk2], hn⟩, h3.le (by omega), (o1.trans o2).trans o3, by omega⟩
    rw [callF_eq f_head]
    unfold d__law_head
    simp only [Df.wrap, runB]
    simp only [lab0, kinds0, nam0] at e1 e2 e3
    simp (disch := first | omega | (simp only [List.length_cons, List.length_nil, List.length_map, List.length_append, List.length_reverse]; omega)) only [at0, at1, at2, at3, at4, idx_l, idx_t, rng_b, rng_b2, dec_le, dec_lt, add_t, add_l, mod_i, fdiv_i, pow_i, mul_i, exSs_nil, exSs_cons, exS, exSeq, exNil, exRet, exEx, exIf, exSet, exPar, exPut, exApp, exAug, ofE_ok, ofB_ok, ofEs_ok, andThen_nx, andThen_rt, Tg.putV, setAll, evE, evEs, evs, evn, ev1, ev2, evVar, evLit, evCon, evIf, evAnd, evOr, evCh, evTup, evLst, evCall, evSl, evPart, MP.part, evDget, evDin, evDget2, evDisp, evPs, pairK, toB, asB, notD, newK, frz, cel, siNew, siNew2, siSeq, evIt, siZip, siRng, siRng2, evLc, wipeE, Res.bind_ok, v1, v2, vn, view, views, datsOf, asKey, keyOf, putC, Bin.f, Cmp.f, Bf.f, Bn.f, isiD, isT, bD, negD, isD, isN, List.getElem?_cons_zero, List.getElem?_cons_succ, List.getElem?_nil, List.set_cons_zero, List.set_cons_succ, List.map_cons, List.map_nil, List.replicate, List.length_cons, List.length_nil, List.cons_append, List.nil_append, add_i, sub_i, int_i, int_b, len_l, len_t, tup_l, tup_t, list_l, list_t, eq_s, eq_i, lt_i, gt_i, le_i, ge_i, lt_s, Option.map_some, Option.map_none, Option.bind_some, Nat.reduceAdd, Int.reduceToNat, Int.reduceAdd, Int.reduceSub, Int.reduceNeg, Int.reduceMul, Int.reduceEq, Int.reduceLT, Int.reduceLE, cast_lit, seq_t, seq_l, if_true, ite_true, ite_false, if_false, and_true, true_and, and_self, Bool.false_eq_true, not_true, not_false_iff, decide_true, decide_false, Bool.not_true, Bool.not_false, Option.isSome_some, Option.isSome_none, e1, e2, e3, seqD, lcS, Tg.put, Res.nx]
    rfl
  have two : ∀ l l' : Str, z1 = .list [.str l, .str l'] → ([l, l'] = lab2 ∨ [l, l'] = lab3) → ∃ hd M', callF w T (n + 3) "_law_head" [.ob nd] M = .ok (.dat (Hd.enc hd)) M' ∧ hd.Ok ∧ DeckAt M' nd (c + 4) ∧ Only [nd] M M' ∧ M'.length = M.length := by
    intro l l' hl hs
    subst hl
    obtain ⟨z4, M4, e4, m4, h4, o4, l4⟩ := one_at (w := w) (n := n) (xs := kinds0) h2 (by omega) (by simp [kinds0]) (by simp [kinds0])
    obtain ⟨k4, hk4, rfl⟩ := kinds0_mem m4
    obtain ⟨z3, M3, e3, m3, h3, o3, l3⟩ := one_at (w := w) (n := n) (xs := nam0) h4 (by omega) (by simp [nam0]) (by simp [nam0])
    obtain ⟨ns, rfl, hn⟩ := nam0_mem m3
    refine ⟨⟨[(l, k2), (l', k4)], ns⟩, M3, ?_, ⟨.inr hs, by simp [hk2, hk4], hn⟩, h3.le (by omega), ((o1.trans o2).trans o4).trans o3, by omega⟩
    rw [callF_eq f_head]
    unfold d__law_head
    simp only [Df.wrap, runB]
    simp only [lab0, kinds0, nam0] at e1 e2 e3 e4
    simp (disch := first | omega | (simp only [List.length_cons, List.length_nil, List.length_map, List.length_append, List.length_reverse]; omega)) only [at0, at1, at2, at3, at4, idx_l, idx_t, rng_b, rng_b2, dec_le, dec_lt, add_t, add_l, mod_i, fdiv_i, pow_i, mul_i, exSs_nil, exSs_cons, exS, exSeq, exNil, exRet, exEx, exIf, exSet, exPar, exPut, exApp, exAug, ofE_ok, ofB_ok, ofEs_ok, andThen_nx, andThen_rt, Tg.putV, setAll, evE, evEs, evs, evn, ev1, ev2, evVar, evLit, evCon, evIf, evAnd, evOr, evCh, evTup, evLst, evCall, evSl, evPart, MP.part, evDget, evDin, evDget2, evDisp, evPs, pairK, toB, asB, notD, newK, frz, cel, siNew, siNew2, siSeq, evIt, siZip, siRng, siRng2, evLc, wipeE, Res.bind_ok, v1, v2, vn, view, views, datsOf, asKey, keyOf, putC, Bin.f, Cmp.f, Bf.f, Bn.f, isiD, isT, bD, negD, isD, isN, List.getElem?_cons_zero, List.getElem?_cons_succ, List.getElem?_nil, List.set_cons_zero, List.set_cons_succ, List.map_cons, List.map_nil, List.replicate, List.length_cons, List.length_nil, List.cons_append, List.nil_append, add_i, sub_i, int_i, int_b, len_l, len_t, tup_l, tup_t, list_l, list_t, eq_s, eq_i, lt_i, gt_i, le_i, ge_i, lt_s, Option.map_some, Option.map_none, Option.bind_some, Nat.reduceAdd, Int.reduceToNat, Int.reduceAdd, Int.reduceSub, Int.reduceNeg, Int.reduceMul, Int.reduceEq, Int.reduceLT, Int.reduceLE, cast_lit, seq_t, seq_l, if_true, ite_true, ite_false, if_false, and_true, true_and, and_self, Bool.false_eq_true, not_true, not_false_iff, decide_true, decide_false, Bool.not_true, Bool.not_false, Option.isSome_some, Option.isSome_none, e1, e2, e3, e4, seqD, lcS, Tg.put, Res.nx]
    rfl
  rcases m1 with rfl | rfl | rfl | rfl
  · exact one _ rfl rfl
  · exact one _ rfl rfl
  · exact two _ _ rfl (.inl rfl)
  · exact two _ _ rfl (.inr rfl)
theorem f_deck : T.fn "_law_deck" = some d__law_deck := by rfl
theorem deck_at {w : Mw} {n : Nat} {M : Mem} {cell salt : Int} (hs : 0 ≤ salt) (hs2 : salt < 1000000) :
    ∃ M', callF w T (n + 1) "_law_deck" [.dat (.int cell), .dat (.int salt)] M = .ok (.ob M.length) M' ∧ DeckAt M' M.length 0 ∧ Only [] M M' := by
  have hp : (10 : Int) ^ 18 = 1000000000000000000 := by decide
  have hd : ∀ z : Int, 0 ≤ z → DeckAt (M ++ [.dct (deckL z (cell % 999999937 + 3 * salt) 0)]) M.length 0 := fun z hz => by
    refine ⟨z, cell % 999999937 + 3 * salt, 0, by simp, hz, ?_, ?_, by omega, by omega⟩
    · have := Int.emod_nonneg cell (b := 999999937) (by omega); omega
    · have := Int.emod_lt_of_pos cell (b := 999999937) (by omega); omega
  rw [callF_eq f_deck]
  unfold d__law_deck
  simp only [Df.wrap, runB]
  by_cases h : (1000000000000000000 : Int) ≤ cell
  · refine ⟨_, ?_, hd cell (by omega), Only.new⟩
    simp (disch := first | omega | (simp only [List.length_cons, List.length_nil, List.length_map, List.length_append, List.length_reverse]; omega)) only [at0, at1, at2, at3, at4, idx_l, idx_t, rng_b, rng_b2, dec_le, dec_lt, add_t, add_l, mod_i, fdiv_i, pow_i, mul_i, exSs_nil, exSs_cons, exS, exSeq, exNil, exRet, exEx, exIf, exSet, exPar, exPut, exApp, exAug, ofE_ok, ofB_ok, ofEs_ok, andThen_nx, andThen_rt, Tg.putV, setAll, evE, evEs, evs, evn, ev1, ev2, evVar, evLit, evCon, evIf, evAnd, evOr, evCh, evTup, evLst, evCall, evSl, evPart, MP.part, evDget, evDin, evDget2, evDisp, evPs, pairK, toB, asB, notD, newK, frz, cel, siNew, siNew2, siSeq, evIt, siZip, siRng, siRng2, evLc, wipeE, Res.bind_ok, v1, v2, vn, view, views, datsOf, asKey, keyOf, putC, Bin.f, Cmp.f, Bf.f, Bn.f, isiD, isT, bD, negD, isD, isN, List.getElem?_cons_zero, List.getElem?_cons_succ, List.getElem?_nil, List.set_cons_zero, List.set_cons_succ, List.map_cons, List.map_nil, List.replicate, List.length_cons, List.length_nil, List.cons_append, List.nil_append, add_i, sub_i, int_i, int_b, len_l, len_t, tup_l, tup_t, list_l, list_t, eq_s, eq_i, lt_i, gt_i, le_i, ge_i, lt_s, Option.map_some, Option.map_none, Option.bind_some, Nat.reduceAdd, Int.reduceToNat, Int.reduceAdd, Int.reduceSub, Int.reduceNeg, Int.reduceMul, Int.reduceEq, Int.reduceLT, Int.reduceLE, cast_lit, seq_t, seq_l, if_true, ite_true, ite_false, if_false, and_true, true_and, and_self, Bool.false_eq_true, not_true, not_false_iff, decide_true, decide_false, Bool.not_true, Bool.not_false, Option.isSome_some, Option.isSome_none, hp, h]
    rfl
  · refine ⟨_, ?_, hd 0 (by omega), Only.new⟩
    simp (disch := first | omega | (simp only [List.length_cons, List.length_nil, List.length_map, List.length_append, List.length_reverse]; omega)) only [at0, at1, at2, at3, at4, idx_l, idx_t, rng_b, rng_b2, dec_le, dec_lt, add_t, add_l, mod_i, fdiv_i, pow_i, mul_i, exSs_nil, exSs_cons, exS, exSeq, exNil, exRet, exEx, exIf, exSet, exPar, exPut, exApp, exAug, ofE_ok, ofB_ok, ofEs_ok, andThen_nx, andThen_rt, Tg.putV, setAll, evE, evEs, evs, evn, ev1, ev2, evVar, evLit, evCon, evIf, evAnd, evOr, evCh, evTup, evLst, evCall, evSl, evPart, MP.part, evDget, evDin, evDget2, evDisp, evPs, pairK, toB, asB, notD, newK, frz, cel, siNew, siNew2, siSeq, evIt, siZip, siRng, siRng2, evLc, wipeE, Res.bind_ok, v1, v2, vn, view, views, datsOf, asKey, keyOf, putC, Bin.f, Cmp.f, Bf.f, Bn.f, isiD, isT, bD, negD, isD, isN, List.getElem?_cons_zero, List.getElem?_cons_succ, List.getElem?_nil, List.set_cons_zero, List.set_cons_succ, List.map_cons, List.map_nil, List.replicate, List.length_cons, List.length_nil, List.cons_append, List.nil_append, add_i, sub_i, int_i, int_b, len_l, len_t, tup_l, tup_t, list_l, list_t, eq_s, eq_i, lt_i, gt_i, le_i, ge_i, lt_s, Option.map_some, Option.map_none, Option.bind_some, Nat.reduceAdd, Int.reduceToNat, Int.reduceAdd, Int.reduceSub, Int.reduceNeg, Int.reduceMul, Int.reduceEq, Int.reduceLT, Int.reduceLE, cast_lit, seq_t, seq_l, if_true, ite_true, ite_false, if_false, and_true, true_and, and_self, Bool.false_eq_true, not_true, not_false_iff, decide_true, decide_false, Bool.not_true, Bool.not_false, Option.isSome_some, Option.isSome_none, hp, h]
    rfl
end LawX
set_option Elab.async false
set_option linter.all false
set_option maxRecDepth 100000
set_option maxHeartbeats 8000000
/-! PG3: the generator's bodies. -/
namespace LawX
open PySem PySem.Spec PyProof.Rows L2 MP
inductive It where
  | op (f : Str) (as : List Str)
  | br (f a b : Str) (x y : List It)
mutual
def It.enc : It → PyData
  | .op f as => .tuple (.str f :: as.map .str)
  | .br f a b x y => .tuple [.str f, .str a, .str b, .tuple (encs x), .tuple (encs y)]
def encs : List It → List PyData
  | [] => []
  | i :: is => i.enc :: encs is
end
mutual
def It.size : It → Nat
  | .op _ _ => 1
  | .br _ _ _ x y => 1 + sizes x + sizes y
def sizes : List It → Nat
  | [] => 0
  | i :: is => i.size + sizes is
end
mutual
def It.depth : It → Nat
  | .op _ _ => 0
  | .br _ _ _ x y => 1 + max (depths x) (depths y)
def depths : List It → Nat
  | [] => 0
  | i :: is => max i.depth (depths is)
end
inductive OpOk (L N : List Str) : Str → List Str → Prop where
  | write {s n c : Str} : s ∈ L → n ∈ N → (c = "c" ∨ c = "d") → OpOk L N "write" [s, n, c]
  | remove {s n : Str} : s ∈ L → n ∈ N → OpOk L N "remove" [s, n]
  | rename {s n m : Str} : s ∈ L → n ∈ N → m ∈ N → n ≠ m → OpOk L N "rename" [s, n, m]
  | copy {s n t m : Str} : s ∈ L → n ∈ N → t ∈ L → m ∈ N → OpOk L N "copy" [s, n, t, m]
  | all {s t : Str} : s ∈ L → t ∈ L → s ≠ t → OpOk L N "all" [s, t]
  | list {s : Str} : s ∈ L → OpOk L N "list" [s]
  | read {s n : Str} : s ∈ L → n ∈ N → OpOk L N "read" [s, n]
inductive BrOk (L N : List Str) : Str → Str → Str → Prop where
  | ife {s n : Str} : s ∈ L → n ∈ N → BrOk L N "if" s n
  | same {a b : Str} : a ∈ N → b ∈ N → a ≠ b → BrOk L N "same" a b
  | near {a b : Str} : a ∈ N → b ∈ N → a ≠ b → BrOk L N "near" a b
mutual
def It.ok (L N : List Str) : It → Prop
  | .op f as => OpOk L N f as
  | .br f a b x y => BrOk L N f a b ∧ Its L N x ∧ Its L N y
def Its (L N : List Str) : List It → Prop
  | [] => True
  | i :: is => i.ok L N ∧ Its L N is
end
theorem encs_app : ∀ (a : List It) (b : It), encs (a ++ [b]) = encs a ++ [b.enc]
  | [], b => by simp [encs]
  | i :: a, b => by simp [encs, encs_app a b]
theorem encs_len : ∀ a : List It, (encs a).length = a.length
  | [] => rfl
  | i :: a => by simp [encs, encs_len a]
theorem sizes_app : ∀ (a : List It) (b : It), sizes (a ++ [b]) = sizes a + b.size
  | [], b => by simp [sizes]
  | i :: a, b => by simp only [List.cons_append, sizes, sizes_app a b]; omega
theorem depths_app : ∀ (a : List It) (b : It), depths (a ++ [b]) = max (depths a) b.depth
  | [], b => by simp [depths]
  | i :: a, b => by simp only [List.cons_append, depths, depths_app a b]; omega
theorem its_app {L N : List Str} : ∀ (a : List It) (b : It), Its L N a → b.ok L N → Its L N (a ++ [b])
  | [], b, _, h => by simpa [Its] using h
  | i :: a, b, h, hb => by
    simp only [List.cons_append, Its] at h ⊢
    exact ⟨h.1, its_app a b h.2 hb⟩
def bud : Nat → Int
  | 0 => 100
  | d + 1 => 20 * bud d
theorem bud_pos : ∀ d, 100 ≤ bud d
  | 0 => by simp [bud]
  | d + 1 => by have := bud_pos d; simp only [bud]; omega
def BodyP (w : Mw) (h : Hd) (n : Nat) (deep : Nat) : Prop := ∀ (M : Mem) (nd nl : Nat) (c left : Int), nd ≠ nl → DeckAt M nd c → c + bud deep < 1073741824 → M[nl]? = some (.lst [.dat (.int left)]) →
  ∃ its M' left', callF w T n "_law_body" [.ob nd, .dat h.enc, .dat (.int deep), .ob nl] M = .ok (.dat (.tuple (encs its))) M' ∧ Its h.L h.ns its ∧ depths its ≤ deep ∧ sizes its + left'.toNat ≤ left.toNat ∧ left' < left ∧ its.length ≤ 4 ∧
    M'[nl]? = some (.lst [.dat (.int left')]) ∧ DeckAt M' nd (c + bud deep) ∧ Only [nd, nl] M M'
/-- the loop's state -/
structure BS (h : Hd) (nd nl ni : Nat) (deep : Int) (env : MP.Env) (M : Mem) (its : List It) (left c : Int) : Prop where
  env : ∃ e4 e8 e9 e10 e11 e12 e13, env = [some (.ob nd), some (.dat h.enc), some (.dat (.int deep)), some (.ob nl), e4, some (.ob ni), some (.dat (.list (h.L.map .str))), some (.dat (.list (h.ns.map .str))), e8, e9, e10, e11, e12, e13]
  d : DeckAt M nd c
  l : M[nl]? = some (.lst [.dat (.int left)])
  i : M[ni]? = some (.lst ((encs its).map .dat))
theorem app_ok {C : Cfg} {v : E} {env : MP.Env} {M M1 : Mem} {k ni : Nat} {xs xs1 : List Val} {z : Val} (ho : env[k]? = some (some (.ob ni))) (h0 : M[ni]? = some (.lst xs)) (hv : evE C v env M = .ok z M1) (h1 : M1[ni]? = some (.lst xs1)) (hl : xs1.length < 16777216) :
    exSs C [.app (.var k) v] env M = .ok (.nx env) (M1.set ni (.lst (xs1 ++ [z]))) := by
  simp (disch := first | omega | (simp only [List.length_cons, List.length_nil, List.length_map, List.length_append, List.length_reverse]; omega)) only [at0, at1, at2, at3, at4, idx_l, idx_t, rng_b, rng_b2, dec_le, dec_lt, add_t, add_l, mod_i, fdiv_i, pow_i, mul_i, exSs_nil, exSs_cons, exS, exSeq, exNil, exRet, exEx, exIf, exSet, exPar, exPut, exApp, exAug, ofE_ok, ofB_ok, ofEs_ok, andThen_nx, andThen_rt, Tg.putV, setAll, evE, evEs, evs, evn, ev1, ev2, evVar, evLit, evCon, evIf, evAnd, evOr, evCh, evTup, evLst, evCall, evSl, evPart, MP.part, evDget, evDin, evDget2, evDisp, evPs, pairK, toB, asB, notD, newK, frz, cel, siNew, siNew2, siSeq, evIt, siZip, siRng, siRng2, evLc, wipeE, Res.bind_ok, v1, v2, vn, view, views, datsOf, asKey, keyOf, putC, Bin.f, Cmp.f, Bf.f, Bn.f, isiD, isT, bD, negD, isD, isN, List.getElem?_cons_zero, List.getElem?_cons_succ, List.getElem?_nil, List.set_cons_zero, List.set_cons_succ, List.map_cons, List.map_nil, List.replicate, List.length_cons, List.length_nil, List.cons_append, List.nil_append, add_i, sub_i, int_i, int_b, len_l, len_t, tup_l, tup_t, list_l, list_t, eq_s, eq_i, lt_i, gt_i, le_i, ge_i, lt_s, Option.map_some, Option.map_none, Option.bind_some, Nat.reduceAdd, Int.reduceToNat, Int.reduceAdd, Int.reduceSub, Int.reduceNeg, Int.reduceMul, Int.reduceEq, Int.reduceLT, Int.reduceLE, cast_lit, seq_t, seq_l, if_true, ite_true, ite_false, if_false, and_true, true_and, and_self, Bool.false_eq_true, not_true, not_false_iff, decide_true, decide_false, Bool.not_true, Bool.not_false, Option.isSome_some, Option.isSome_none, ho, lstOf, h0, hv, appC, h1, hl]
theorem hd_l (h : Hd) (ok : h.Ok) : h.L ≠ [] ∧ h.L.length ≤ 2 := by
  rcases ok.l with e | e | e <;> rw [e] <;> simp [lab1, lab2, lab3]
theorem hd_n (h : Hd) (ok : h.Ok) : h.ns ≠ [] ∧ h.ns.length ≤ 2 := by
  rcases ok.n with e | e | e <;> rw [e] <;> simp [nam1, nam2, nam3]
theorem one_str {w : Mw} {n : Nat} {M : Mem} {nd : Nat} {c : Int} {xs : List Str} (h : DeckAt M nd c) (hc : c < 1073741824) (hx : xs ≠ [] ∧ xs.length ≤ 2) :
    ∃ z M', callF w T (n + 2) "_law_one" [.ob nd, .dat (.list (xs.map .str))] M = .ok (.dat (.str z)) M' ∧ z ∈ xs ∧ DeckAt M' nd (c + 1) ∧ Only [nd] M M' ∧ M'.length = M.length := by
  obtain ⟨z, M', e, m, r⟩ := one_at (w := w) (n := n) (xs := xs.map .str) h hc (by simpa using hx.1) (by simp; omega)
  obtain ⟨s, hs, rfl⟩ := List.mem_map.mp m
  exact ⟨s, M', e, hs, r⟩
/-- what a turn leads to -/
def TurnR (h : Hd) (nd nl ni : Nat) (deep : Nat) (M : Mem) (its : List It) (left c : Int) (r : Res Fl) : Prop :=
  (∃ M' left', r = .ok (.rt (.dat (.tuple (encs its)))) M' ∧ left' < left ∧ left' < 0 ∧ M'[nl]? = some (.lst [.dat (.int left')]) ∧ DeckAt M' nd (c + (bud deep / 5)) ∧ Only [nd, nl, ni] M M') ∨
  ∃ it env' M' left', r = .ok (.nx env') M' ∧ BS h nd nl ni deep env' M' (its ++ [it]) left' (c + (bud deep / 5)) ∧ it.ok h.L h.ns ∧ it.depth ≤ deep ∧ it.size + left'.toNat ≤ left.toNat ∧ left' < left ∧ Only [nd, nl, ni] M M'
abbrev envB (h : Hd) (nd nl ni : Nat) (deep : Int) (e4 : Option Val) (r : Int) (lb nm : Str) (e11 e12 e13 : Option Val) : MP.Env := [some (.ob nd), some (.dat h.enc), some (.dat (.int deep)), some (.ob nl), e4, some (.ob ni), some (.dat (.list (h.L.map .str))), some (.dat (.list (h.ns.map .str))), some (.dat (.int r)), some (.dat (.str lb)), some (.dat (.str nm)), e11, e12, e13]
theorem turn_fin {h : Hd} {nd nl ni : Nat} {deep : Nat} {M M5 : Mem} {its : List It} {left c c5 left5 : Int} {r0 : Int} {lb nm : Str} {e4 e11 e12 e13 : Option Val} {rr : Res Fl} (it : It) (n2 : nd ≠ ni) (n3 : nl ≠ ni)
    (hr : rr = .ok (.nx (envB h nd nl ni deep e4 r0 lb nm e11 e12 e13)) (M5.set ni (.lst ((encs its).map .dat ++ [.dat it.enc])))) (d5 : DeckAt M5 nd c5) (hc : c5 ≤ c + (bud deep / 5)) (hL : M5[nl]? = some (.lst [.dat (.int left5)])) (hI : M5[ni]? = some (.lst ((encs its).map .dat)))
    (o : Only [nd, nl] M M5) (h1 : it.ok h.L h.ns) (h2 : it.depth ≤ deep) (h3 : it.size + left5.toNat ≤ left.toNat) (h4 : left5 < left) : TurnR h nd nl ni deep M its left c rr := by
  refine .inr ⟨it, _, _, left5, hr, ⟨⟨_, _, _, _, _, _, _, rfl⟩, (d5.keep Only.set (by simp [n2])).le hc, by rw [set_other (Ne.symm n3)]; exact hL, ?_⟩, h1, h2, h3, h4, (o.mono (by simp)).trans (Only.set.mono (by simp))⟩
  rw [set_self hI, encs_app, List.map_append]
  rfl
theorem two_ix {a b x : Str} (hx : x ∈ [a, b]) (hab : a ≠ b) : ∃ y, y ∈ [a, b] ∧ x ≠ y ∧ ∃ i : Int, indexD (.list [.str a, .str b]) (.str x) = some (.int i) ∧ idxD (.list [.str a, .str b]) (.int (1 - i)) = some (.str y) := by
  simp only [List.mem_cons, List.not_mem_nil, or_false] at hx
  rcases hx with rfl | rfl
  · exact ⟨b, by simp, hab, 0, by simp [indexD, flatD, findIx, PyData.eqv], by rfl⟩
  · exact ⟨a, by simp, Ne.symm hab, 1, by simp [indexD, flatD, findIx, PyData.eqv, hab], by rfl⟩
end LawX
set_option Elab.async false
set_option linter.all false
set_option maxRecDepth 100000
set_option maxHeartbeats 8000000
/-! PG4: a turn of the generator's loop. -/
namespace LawX
open PySem PySem.Spec PyProof.Rows L2 MP
/-- what stands before the choice of the item -/
structure PreT (h : Hd) (nd nl ni : Nat) (M M4 : Mem) (its : List It) (left c : Int) : Prop where
  d : DeckAt M4 nd (c + 3)
  l : M4[nl]? = some (.lst [.dat (.int (left - 1))])
  i : M4[ni]? = some (.lst ((encs its).map .dat))
  o : Only [nd, nl] M M4
section
variable {w : Mw} {n : Nat} {h : Hd} {nd nl ni : Nat} {deep : Nat} {M M4 : Mem} {its : List It} {left c : Int} {e4 e11 e12 e13 : Option Val} {r : Int} {lb nm : Str}
theorem flat_ok (it : It) {bl : List S} {v : E} (hbl : bl = [.app (.var 5) v]) (n2 : nd ≠ ni) (n3 : nl ≠ ni) (hl : its.length ≤ 1000) (p : PreT h nd nl ni M M4 its left c) (h0 : 0 < left) (hb : 100 ≤ bud deep) {M5 : Mem} {c5 : Int} (hv : evE (T.cfg w (n + 2)) v (envB h nd nl ni deep e4 r lb nm e11 e12 e13) M4 = .ok (.dat it.enc) M5)
    (d5 : DeckAt M5 nd c5) (hc : c5 ≤ c + 20) (o5 : Only [nd] M4 M5) (n1 : nd ≠ nl) (h1 : it.ok h.L h.ns) (h2 : it.depth ≤ deep) (h3 : it.size = 1) :
    TurnR h nd nl ni deep M its left c (exSs (T.cfg w (n + 2)) bl (envB h nd nl ni deep e4 r lb nm e11 e12 e13) M4) := by
  have hI5 : M5[ni]? = some (.lst ((encs its).map .dat)) := o5.get p.i (by simp [Ne.symm n2])
  refine turn_fin it n2 n3 (r0 := r) (lb := lb) (nm := nm) (e4 := e4) (e11 := e11) (e12 := e12) (e13 := e13) (M5 := M5) (left5 := left - 1) ?_ d5 (by omega) (o5.get p.l (by simp [Ne.symm n1])) hI5 (p.o.trans (o5.mono (by simp))) h1 h2 (by rw [h3]; omega) (by omega)
  rw [hbl]
  exact app_ok (k := 5) rfl p.i hv hI5 (by rw [List.length_map, encs_len]; omega)
theorem write_ok (n1 : nd ≠ nl) (n2 : nd ≠ ni) (n3 : nl ≠ ni) (hl : its.length ≤ 1000) (p : PreT h nd nl ni M M4 its left c) (h0 : 0 < left) (hb : 100 ≤ bud deep) (hc : c + (bud deep / 5) < 1073741824) (ml : lb ∈ h.L) (mn : nm ∈ h.ns) :
    TurnR h nd nl ni deep M its left c (exSs (T.cfg w (n + 2)) b__law_body_0 (envB h nd nl ni deep e4 r lb nm e11 e12 e13) M4) := by
  obtain ⟨z, M5, c5, m5, d5, o5, l5⟩ := one_at (w := w) (n := n) (xs := [.str "c", .str "d"]) p.d (by omega) (by simp) (by simp)
  have hz : ∃ s : Str, z = .str s ∧ (s = "c" ∨ s = "d") := by
    simp only [List.mem_cons, List.not_mem_nil, or_false] at m5
    rcases m5 with rfl | rfl
    · exact ⟨_, rfl, .inl rfl⟩
    · exact ⟨_, rfl, .inr rfl⟩
  obtain ⟨s, rfl, hs⟩ := hz
  refine flat_ok (.op "write" [lb, nm, s]) rfl n2 n3 hl p h0 hb ?_ d5 (by omega) o5 n1 (.write ml mn hs) (by simp [It.depth]) rfl
  simp (disch := first | omega | (simp only [List.length_cons, List.length_nil, List.length_map, List.length_append, List.length_reverse]; omega)) only [at0, at1, at2, at3, at4, idx_l, idx_t, rng_b, rng_b2, dec_le, dec_lt, add_t, add_l, mod_i, fdiv_i, pow_i, mul_i, exSs_nil, exSs_cons, exS, exSeq, exNil, exRet, exEx, exIf, exSet, exPar, exPut, exApp, exAug, ofE_ok, ofB_ok, ofEs_ok, andThen_nx, andThen_rt, Tg.putV, setAll, evE, evEs, evs, evn, ev1, ev2, evVar, evLit, evCon, evIf, evAnd, evOr, evCh, evTup, evLst, evCall, evSl, evPart, MP.part, evDget, evDin, evDget2, evDisp, evPs, pairK, toB, asB, notD, newK, frz, cel, siNew, siNew2, siSeq, evIt, siZip, siRng, siRng2, evLc, wipeE, Res.bind_ok, v1, v2, vn, view, views, datsOf, asKey, keyOf, putC, Bin.f, Cmp.f, Bf.f, Bn.f, isiD, isT, bD, negD, isD, isN, List.getElem?_cons_zero, List.getElem?_cons_succ, List.getElem?_nil, List.set_cons_zero, List.set_cons_succ, List.map_cons, List.map_nil, List.replicate, List.length_cons, List.length_nil, List.cons_append, List.nil_append, add_i, sub_i, int_i, int_b, len_l, len_t, tup_l, tup_t, list_l, list_t, eq_s, eq_i, lt_i, gt_i, le_i, ge_i, lt_s, Option.map_some, Option.map_none, Option.bind_some, Nat.reduceAdd, Int.reduceToNat, Int.reduceAdd, Int.reduceSub, Int.reduceNeg, Int.reduceMul, Int.reduceEq, Int.reduceLT, Int.reduceLE, cast_lit, seq_t, seq_l, if_true, ite_true, ite_false, if_false, and_true, true_and, and_self, Bool.false_eq_true, not_true, not_false_iff, decide_true, decide_false, Bool.not_true, Bool.not_false, Option.isSome_some, Option.isSome_none, c5, It.enc]
theorem remove_ok (n1 : nd ≠ nl) (n2 : nd ≠ ni) (n3 : nl ≠ ni) (hl : its.length ≤ 1000) (p : PreT h nd nl ni M M4 its left c) (h0 : 0 < left) (hb : 100 ≤ bud deep) (ml : lb ∈ h.L) (mn : nm ∈ h.ns) :
    TurnR h nd nl ni deep M its left c (exSs (T.cfg w (n + 2)) b__law_body_1 (envB h nd nl ni deep e4 r lb nm e11 e12 e13) M4) := by
  refine flat_ok (.op "remove" [lb, nm]) rfl n2 n3 hl p h0 hb ?_ p.d (by omega) Only.refl n1 (.remove ml mn) (by simp [It.depth]) rfl
  simp (disch := first | omega | (simp only [List.length_cons, List.length_nil, List.length_map, List.length_append, List.length_reverse]; omega)) only [at0, at1, at2, at3, at4, idx_l, idx_t, rng_b, rng_b2, dec_le, dec_lt, add_t, add_l, mod_i, fdiv_i, pow_i, mul_i, exSs_nil, exSs_cons, exS, exSeq, exNil, exRet, exEx, exIf, exSet, exPar, exPut, exApp, exAug, ofE_ok, ofB_ok, ofEs_ok, andThen_nx, andThen_rt, Tg.putV, setAll, evE, evEs, evs, evn, ev1, ev2, evVar, evLit, evCon, evIf, evAnd, evOr, evCh, evTup, evLst, evCall, evSl, evPart, MP.part, evDget, evDin, evDget2, evDisp, evPs, pairK, toB, asB, notD, newK, frz, cel, siNew, siNew2, siSeq, evIt, siZip, siRng, siRng2, evLc, wipeE, Res.bind_ok, v1, v2, vn, view, views, datsOf, asKey, keyOf, putC, Bin.f, Cmp.f, Bf.f, Bn.f, isiD, isT, bD, negD, isD, isN, List.getElem?_cons_zero, List.getElem?_cons_succ, List.getElem?_nil, List.set_cons_zero, List.set_cons_succ, List.map_cons, List.map_nil, List.replicate, List.length_cons, List.length_nil, List.cons_append, List.nil_append, add_i, sub_i, int_i, int_b, len_l, len_t, tup_l, tup_t, list_l, list_t, eq_s, eq_i, lt_i, gt_i, le_i, ge_i, lt_s, Option.map_some, Option.map_none, Option.bind_some, Nat.reduceAdd, Int.reduceToNat, Int.reduceAdd, Int.reduceSub, Int.reduceNeg, Int.reduceMul, Int.reduceEq, Int.reduceLT, Int.reduceLE, cast_lit, seq_t, seq_l, if_true, ite_true, ite_false, if_false, and_true, true_and, and_self, Bool.false_eq_true, not_true, not_false_iff, decide_true, decide_false, Bool.not_true, Bool.not_false, Option.isSome_some, Option.isSome_none, It.enc]
theorem rename_ok (ok : h.Ok) (n1 : nd ≠ nl) (n2 : nd ≠ ni) (n3 : nl ≠ ni) (hl : its.length ≤ 1000) (p : PreT h nd nl ni M M4 its left c) (h0 : 0 < left) (hb : 100 ≤ bud deep) (ml : lb ∈ h.L) (mn : nm ∈ h.ns) (h2 : h.ns.length = 2) :
    TurnR h nd nl ni deep M its left c (exSs (T.cfg w (n + 2)) b__law_body_2 (envB h nd nl ni deep e4 r lb nm e11 e12 e13) M4) := by
  have hab : ∃ a b : Str, h.ns = [a, b] ∧ a ≠ b := by
    rcases ok.n with e | e | e
    · rw [e] at h2; simp [nam1] at h2
    · exact ⟨"new", "old", e, by decide +kernel⟩
    · exact ⟨"b", "c", e, by decide +kernel⟩
  obtain ⟨a, b, e, hne⟩ := hab
  obtain ⟨y, hy, hxy, i, e1, e2⟩ := two_ix (a := a) (b := b) (x := nm) (by rw [← e]; exact mn) hne
  refine flat_ok (.op "rename" [lb, nm, y]) rfl n2 n3 hl p h0 hb ?_ p.d (by omega) Only.refl n1 (.rename ml mn (by rw [e]; exact hy) hxy) (by simp [It.depth]) rfl
  simp (disch := first | omega | (simp only [List.length_cons, List.length_nil, List.length_map, List.length_append, List.length_reverse]; omega)) only [at0, at1, at2, at3, at4, idx_l, idx_t, rng_b, rng_b2, dec_le, dec_lt, add_t, add_l, mod_i, fdiv_i, pow_i, mul_i, exSs_nil, exSs_cons, exS, exSeq, exNil, exRet, exEx, exIf, exSet, exPar, exPut, exApp, exAug, ofE_ok, ofB_ok, ofEs_ok, andThen_nx, andThen_rt, Tg.putV, setAll, evE, evEs, evs, evn, ev1, ev2, evVar, evLit, evCon, evIf, evAnd, evOr, evCh, evTup, evLst, evCall, evSl, evPart, MP.part, evDget, evDin, evDget2, evDisp, evPs, pairK, toB, asB, notD, newK, frz, cel, siNew, siNew2, siSeq, evIt, siZip, siRng, siRng2, evLc, wipeE, Res.bind_ok, v1, v2, vn, view, views, datsOf, asKey, keyOf, putC, Bin.f, Cmp.f, Bf.f, Bn.f, isiD, isT, bD, negD, isD, isN, List.getElem?_cons_zero, List.getElem?_cons_succ, List.getElem?_nil, List.set_cons_zero, List.set_cons_succ, List.map_cons, List.map_nil, List.replicate, List.length_cons, List.length_nil, List.cons_append, List.nil_append, add_i, sub_i, int_i, int_b, len_l, len_t, tup_l, tup_t, list_l, list_t, eq_s, eq_i, lt_i, gt_i, le_i, ge_i, lt_s, Option.map_some, Option.map_none, Option.bind_some, Nat.reduceAdd, Int.reduceToNat, Int.reduceAdd, Int.reduceSub, Int.reduceNeg, Int.reduceMul, Int.reduceEq, Int.reduceLT, Int.reduceLE, cast_lit, seq_t, seq_l, if_true, ite_true, ite_false, if_false, and_true, true_and, and_self, Bool.false_eq_true, not_true, not_false_iff, decide_true, decide_false, Bool.not_true, Bool.not_false, Option.isSome_some, Option.isSome_none, It.enc, envB, e, evIndex, isLst, e1, e2]
theorem copy_ok (ok : h.Ok) (n1 : nd ≠ nl) (n2 : nd ≠ ni) (n3 : nl ≠ ni) (hl : its.length ≤ 1000) (p : PreT h nd nl ni M M4 its left c) (h0 : 0 < left) (hb : 100 ≤ bud deep) (hc : c + (bud deep / 5) < 1073741824) (ml : lb ∈ h.L) (mn : nm ∈ h.ns) :
    TurnR h nd nl ni deep M its left c (exSs (T.cfg w (n + 2)) b__law_body_3 (envB h nd nl ni deep e4 r lb nm e11 e12 e13) M4) := by
  obtain ⟨l5, M5, c5, m5, d5, o5, _⟩ := one_str (w := w) (n := n) p.d (by omega) (hd_l h ok)
  obtain ⟨l6, M6, c6, m6, d6, o6, _⟩ := one_str (w := w) (n := n) d5 (by omega) (hd_n h ok)
  refine flat_ok (.op "copy" [lb, nm, l5, l6]) rfl n2 n3 hl p h0 hb ?_ d6 (by omega) (o5.trans o6) n1 (.copy ml mn m5 m6) (by simp [It.depth]) rfl
  simp (disch := first | omega | (simp only [List.length_cons, List.length_nil, List.length_map, List.length_append, List.length_reverse]; omega)) only [at0, at1, at2, at3, at4, idx_l, idx_t, rng_b, rng_b2, dec_le, dec_lt, add_t, add_l, mod_i, fdiv_i, pow_i, mul_i, exSs_nil, exSs_cons, exS, exSeq, exNil, exRet, exEx, exIf, exSet, exPar, exPut, exApp, exAug, ofE_ok, ofB_ok, ofEs_ok, andThen_nx, andThen_rt, Tg.putV, setAll, evE, evEs, evs, evn, ev1, ev2, evVar, evLit, evCon, evIf, evAnd, evOr, evCh, evTup, evLst, evCall, evSl, evPart, MP.part, evDget, evDin, evDget2, evDisp, evPs, pairK, toB, asB, notD, newK, frz, cel, siNew, siNew2, siSeq, evIt, siZip, siRng, siRng2, evLc, wipeE, Res.bind_ok, v1, v2, vn, view, views, datsOf, asKey, keyOf, putC, Bin.f, Cmp.f, Bf.f, Bn.f, isiD, isT, bD, negD, isD, isN, List.getElem?_cons_zero, List.getElem?_cons_succ, List.getElem?_nil, List.set_cons_zero, List.set_cons_succ, List.map_cons, List.map_nil, List.replicate, List.length_cons, List.length_nil, List.cons_append, List.nil_append, add_i, sub_i, int_i, int_b, len_l, len_t, tup_l, tup_t, list_l, list_t, eq_s, eq_i, lt_i, gt_i, le_i, ge_i, lt_s, Option.map_some, Option.map_none, Option.bind_some, Nat.reduceAdd, Int.reduceToNat, Int.reduceAdd, Int.reduceSub, Int.reduceNeg, Int.reduceMul, Int.reduceEq, Int.reduceLT, Int.reduceLE, cast_lit, seq_t, seq_l, if_true, ite_true, ite_false, if_false, and_true, true_and, and_self, Bool.false_eq_true, not_true, not_false_iff, decide_true, decide_false, Bool.not_true, Bool.not_false, Option.isSome_some, Option.isSome_none, c5, c6, It.enc]
theorem all_ok' (ok : h.Ok) (n1 : nd ≠ nl) (n2 : nd ≠ ni) (n3 : nl ≠ ni) (hl : its.length ≤ 1000) (p : PreT h nd nl ni M M4 its left c) (h0 : 0 < left) (hb : 100 ≤ bud deep) (ml : lb ∈ h.L) (h2 : h.L.length = 2) :
    TurnR h nd nl ni deep M its left c (exSs (T.cfg w (n + 2)) b__law_body_4 (envB h nd nl ni deep e4 r lb nm e11 e12 e13) M4) := by
  have hab : ∃ a b : Str, h.L = [a, b] ∧ a ≠ b := by
    rcases ok.l with e | e | e
    · rw [e] at h2; simp [lab1] at h2
    · exact ⟨"disk", "s", e, by decide +kernel⟩
    · exact ⟨"a", "zzzzzzzz", e, by decide +kernel⟩
  obtain ⟨a, b, e, hne⟩ := hab
  obtain ⟨y, hy, hxy, i, e1, e2⟩ := two_ix (a := a) (b := b) (x := lb) (by rw [← e]; exact ml) hne
  refine flat_ok (.op "all" [lb, y]) rfl n2 n3 hl p h0 hb ?_ p.d (by omega) Only.refl n1 (.all ml (by rw [e]; exact hy) hxy) (by simp [It.depth]) rfl
  simp (disch := first | omega | (simp only [List.length_cons, List.length_nil, List.length_map, List.length_append, List.length_reverse]; omega)) only [at0, at1, at2, at3, at4, idx_l, idx_t, rng_b, rng_b2, dec_le, dec_lt, add_t, add_l, mod_i, fdiv_i, pow_i, mul_i, exSs_nil, exSs_cons, exS, exSeq, exNil, exRet, exEx, exIf, exSet, exPar, exPut, exApp, exAug, ofE_ok, ofB_ok, ofEs_ok, andThen_nx, andThen_rt, Tg.putV, setAll, evE, evEs, evs, evn, ev1, ev2, evVar, evLit, evCon, evIf, evAnd, evOr, evCh, evTup, evLst, evCall, evSl, evPart, MP.part, evDget, evDin, evDget2, evDisp, evPs, pairK, toB, asB, notD, newK, frz, cel, siNew, siNew2, siSeq, evIt, siZip, siRng, siRng2, evLc, wipeE, Res.bind_ok, v1, v2, vn, view, views, datsOf, asKey, keyOf, putC, Bin.f, Cmp.f, Bf.f, Bn.f, isiD, isT, bD, negD, isD, isN, List.getElem?_cons_zero, List.getElem?_cons_succ, List.getElem?_nil, List.set_cons_zero, List.set_cons_succ, List.map_cons, List.map_nil, List.replicate, List.length_cons, List.length_nil, List.cons_append, List.nil_append, add_i, sub_i, int_i, int_b, len_l, len_t, tup_l, tup_t, list_l, list_t, eq_s, eq_i, lt_i, gt_i, le_i, ge_i, lt_s, Option.map_some, Option.map_none, Option.bind_some, Nat.reduceAdd, Int.reduceToNat, Int.reduceAdd, Int.reduceSub, Int.reduceNeg, Int.reduceMul, Int.reduceEq, Int.reduceLT, Int.reduceLE, cast_lit, seq_t, seq_l, if_true, ite_true, ite_false, if_false, and_true, true_and, and_self, Bool.false_eq_true, not_true, not_false_iff, decide_true, decide_false, Bool.not_true, Bool.not_false, Option.isSome_some, Option.isSome_none, It.enc, envB, e, evIndex, isLst, e1, e2]
theorem list_ok' (n1 : nd ≠ nl) (n2 : nd ≠ ni) (n3 : nl ≠ ni) (hl : its.length ≤ 1000) (p : PreT h nd nl ni M M4 its left c) (h0 : 0 < left) (hb : 100 ≤ bud deep) (ml : lb ∈ h.L) :
    TurnR h nd nl ni deep M its left c (exSs (T.cfg w (n + 2)) b__law_body_5 (envB h nd nl ni deep e4 r lb nm e11 e12 e13) M4) := by
  refine flat_ok (.op "list" [lb]) rfl n2 n3 hl p h0 hb ?_ p.d (by omega) Only.refl n1 (.list ml) (by simp [It.depth]) rfl
  simp (disch := first | omega | (simp only [List.length_cons, List.length_nil, List.length_map, List.length_append, List.length_reverse]; omega)) only [at0, at1, at2, at3, at4, idx_l, idx_t, rng_b, rng_b2, dec_le, dec_lt, add_t, add_l, mod_i, fdiv_i, pow_i, mul_i, exSs_nil, exSs_cons, exS, exSeq, exNil, exRet, exEx, exIf, exSet, exPar, exPut, exApp, exAug, ofE_ok, ofB_ok, ofEs_ok, andThen_nx, andThen_rt, Tg.putV, setAll, evE, evEs, evs, evn, ev1, ev2, evVar, evLit, evCon, evIf, evAnd, evOr, evCh, evTup, evLst, evCall, evSl, evPart, MP.part, evDget, evDin, evDget2, evDisp, evPs, pairK, toB, asB, notD, newK, frz, cel, siNew, siNew2, siSeq, evIt, siZip, siRng, siRng2, evLc, wipeE, Res.bind_ok, v1, v2, vn, view, views, datsOf, asKey, keyOf, putC, Bin.f, Cmp.f, Bf.f, Bn.f, isiD, isT, bD, negD, isD, isN, List.getElem?_cons_zero, List.getElem?_cons_succ, List.getElem?_nil, List.set_cons_zero, List.set_cons_succ, List.map_cons, List.map_nil, List.replicate, List.length_cons, List.length_nil, List.cons_append, List.nil_append, add_i, sub_i, int_i, int_b, len_l, len_t, tup_l, tup_t, list_l, list_t, eq_s, eq_i, lt_i, gt_i, le_i, ge_i, lt_s, Option.map_some, Option.map_none, Option.bind_some, Nat.reduceAdd, Int.reduceToNat, Int.reduceAdd, Int.reduceSub, Int.reduceNeg, Int.reduceMul, Int.reduceEq, Int.reduceLT, Int.reduceLE, cast_lit, seq_t, seq_l, if_true, ite_true, ite_false, if_false, and_true, true_and, and_self, Bool.false_eq_true, not_true, not_false_iff, decide_true, decide_false, Bool.not_true, Bool.not_false, Option.isSome_some, Option.isSome_none, It.enc]
theorem read_ok (n1 : nd ≠ nl) (n2 : nd ≠ ni) (n3 : nl ≠ ni) (hl : its.length ≤ 1000) (p : PreT h nd nl ni M M4 its left c) (h0 : 0 < left) (hb : 100 ≤ bud deep) (ml : lb ∈ h.L) (mn : nm ∈ h.ns) :
    TurnR h nd nl ni deep M its left c (exSs (T.cfg w (n + 2)) b__law_body_6 (envB h nd nl ni deep e4 r lb nm e11 e12 e13) M4) := by
  refine flat_ok (.op "read" [lb, nm]) rfl n2 n3 hl p h0 hb ?_ p.d (by omega) Only.refl n1 (.read ml mn) (by simp [It.depth]) rfl
  simp (disch := first | omega | (simp only [List.length_cons, List.length_nil, List.length_map, List.length_append, List.length_reverse]; omega)) only [at0, at1, at2, at3, at4, idx_l, idx_t, rng_b, rng_b2, dec_le, dec_lt, add_t, add_l, mod_i, fdiv_i, pow_i, mul_i, exSs_nil, exSs_cons, exS, exSeq, exNil, exRet, exEx, exIf, exSet, exPar, exPut, exApp, exAug, ofE_ok, ofB_ok, ofEs_ok, andThen_nx, andThen_rt, Tg.putV, setAll, evE, evEs, evs, evn, ev1, ev2, evVar, evLit, evCon, evIf, evAnd, evOr, evCh, evTup, evLst, evCall, evSl, evPart, MP.part, evDget, evDin, evDget2, evDisp, evPs, pairK, toB, asB, notD, newK, frz, cel, siNew, siNew2, siSeq, evIt, siZip, siRng, siRng2, evLc, wipeE, Res.bind_ok, v1, v2, vn, view, views, datsOf, asKey, keyOf, putC, Bin.f, Cmp.f, Bf.f, Bn.f, isiD, isT, bD, negD, isD, isN, List.getElem?_cons_zero, List.getElem?_cons_succ, List.getElem?_nil, List.set_cons_zero, List.set_cons_succ, List.map_cons, List.map_nil, List.replicate, List.length_cons, List.length_nil, List.cons_append, List.nil_append, add_i, sub_i, int_i, int_b, len_l, len_t, tup_l, tup_t, list_l, list_t, eq_s, eq_i, lt_i, gt_i, le_i, ge_i, lt_s, Option.map_some, Option.map_none, Option.bind_some, Nat.reduceAdd, Int.reduceToNat, Int.reduceAdd, Int.reduceSub, Int.reduceNeg, Int.reduceMul, Int.reduceEq, Int.reduceLT, Int.reduceLE, cast_lit, seq_t, seq_l, if_true, ite_true, ite_false, if_false, and_true, true_and, and_self, Bool.false_eq_true, not_true, not_false_iff, decide_true, decide_false, Bool.not_true, Bool.not_false, Option.isSome_some, Option.isSome_none, It.enc]
/-- two bodies of the level below -/
theorem two_bodies {d : Nat} (ih : BodyP w h (n + 2) d) (n1 : nd ≠ nl) (n2 : nd ≠ ni) (n3 : nl ≠ ni) (p : PreT h nd nl ni M M4 its left c) (hc : c + 3 + 2 * bud d < 1073741824) :
    ∃ x y M6 left6, exS (T.cfg w (n + 2)) (.set (.nm 12) (.lc true .rng1 [(.lit (.int 2))] (.nm 13) [("k", 13)] [] (.call "_law_body" [(.var 0), (.var 1), (.bin .sub (.var 2) (.lit (.int 1))), (.var 3)]))) (envB h nd nl ni ((d + 1 : Nat) : Int) e4 r lb nm e11 e12 e13) M4 =
        .ok (.nx (envB h nd nl ni ((d + 1 : Nat) : Int) e4 r lb nm e11 (some (.ob M6.length)) e13)) (M6 ++ [.lst [.dat (.tuple (encs x)), .dat (.tuple (encs y))]]) ∧
      Its h.L h.ns x ∧ Its h.L h.ns y ∧ depths x ≤ d ∧ depths y ≤ d ∧ sizes x + sizes y + left6.toNat ≤ (left - 1).toNat ∧ left6 < left - 1 ∧ DeckAt M6 nd (c + 3 + 2 * bud d) ∧ M6[nl]? = some (.lst [.dat (.int left6)]) ∧ M6[ni]? = some (.lst ((encs its).map .dat)) ∧ Only [nd, nl] M M6 := by
  have hb := bud_pos d
  obtain ⟨x, M5, left5, c5, a1, a2, a3, a4, _, a5, a6, a7⟩ := ih M4 nd nl (c + 3) (left - 1) n1 p.d (by omega) p.l
  obtain ⟨y, M6, left6, c6, b1, b2, b3, b4, _, b5, b6, b7⟩ := ih M5 nd nl (c + 3 + bud d) left5 n1 a6 (by omega) a5
  have hcast : ((d + 1 : Nat) : Int) - 1 = (d : Int) := by omega
  refine ⟨x, y, M6, left6, ?_, a1, b1, a2, b2, by omega, by omega, b6.le (by omega), b5, b7.get (a7.get p.i (by simp [Ne.symm n2, Ne.symm n3])) (by simp [Ne.symm n2, Ne.symm n3]), p.o.trans (a7.trans b7)⟩
  simp (disch := first | omega | (simp only [List.length_cons, List.length_nil, List.length_map, List.length_append, List.length_reverse]; omega)) only [at0, at1, at2, at3, at4, idx_l, idx_t, rng_b, rng_b2, dec_le, dec_lt, add_t, add_l, mod_i, fdiv_i, pow_i, mul_i, exSs_nil, exSs_cons, exS, exSeq, exNil, exRet, exEx, exIf, exSet, exPar, exPut, exApp, exAug, ofE_ok, ofB_ok, ofEs_ok, andThen_nx, andThen_rt, Tg.putV, setAll, evE, evEs, evs, evn, ev1, ev2, evVar, evLit, evCon, evIf, evAnd, evOr, evCh, evTup, evLst, evCall, evSl, evPart, MP.part, evDget, evDin, evDget2, evDisp, evPs, pairK, toB, asB, notD, newK, frz, cel, siNew, siNew2, siSeq, evIt, siZip, siRng, siRng2, evLc, wipeE, Res.bind_ok, v1, v2, vn, view, views, datsOf, asKey, keyOf, putC, Bin.f, Cmp.f, Bf.f, Bn.f, isiD, isT, bD, negD, isD, isN, List.getElem?_cons_zero, List.getElem?_cons_succ, List.getElem?_nil, List.set_cons_zero, List.set_cons_succ, List.map_cons, List.map_nil, List.replicate, List.length_cons, List.length_nil, List.cons_append, List.nil_append, add_i, sub_i, int_i, int_b, len_l, len_t, tup_l, tup_t, list_l, list_t, eq_s, eq_i, lt_i, gt_i, le_i, ge_i, lt_s, Option.map_some, Option.map_none, Option.bind_some, Nat.reduceAdd, Int.reduceToNat, Int.reduceAdd, Int.reduceSub, Int.reduceNeg, Int.reduceMul, Int.reduceEq, Int.reduceLT, Int.reduceLE, cast_lit, seq_t, seq_l, if_true, ite_true, ite_false, if_false, and_true, true_and, and_self, Bool.false_eq_true, not_true, not_false_iff, decide_true, decide_false, Bool.not_true, Bool.not_false, Option.isSome_some, Option.isSome_none, hcast, c5, c6, rngD, lcS, Tg.put, Res.nx]
theorem same_ok {d : Nat} (ok : h.Ok) (ih : BodyP w h (n + 2) d) (n1 : nd ≠ nl) (n2 : nd ≠ ni) (n3 : nl ≠ ni) (hl : its.length ≤ 1000) (p : PreT h nd nl ni M M4 its left c) (h0 : 0 < left) (hc : c + (bud (d + 1) / 5) < 1073741824) (h2 : h.ns.length = 2) :
    TurnR h nd nl ni (d + 1) M its left c (exSs (T.cfg w (n + 2)) b__law_body_7 (envB h nd nl ni ((d + 1 : Nat) : Int) e4 r lb nm e11 e12 e13) M4) := by
  have hb := bud_pos d
  have hb1 : bud (d + 1) = 20 * bud d := rfl
  have hab : ∃ a b : Str, h.ns = [a, b] ∧ a ≠ b := by
    rcases ok.n with e | e | e
    · rw [e] at h2; simp [nam1] at h2
    · exact ⟨"new", "old", e, by decide +kernel⟩
    · exact ⟨"b", "c", e, by decide +kernel⟩
  obtain ⟨a, b, e, hne⟩ := hab
  obtain ⟨x, y, M6, left6, c6, k1, k2, k3, k4, k5, k6, k7, k8, k9, k10⟩ := two_bodies (e4 := e4) (e11 := e11) (e12 := e12) (e13 := e13) (r := r) (lb := lb) (nm := nm) ih n1 n2 n3 p (by omega)
  obtain ⟨M7, hM7⟩ : ∃ M7, M7 = M6 ++ [.lst [.dat (.tuple (encs x)), .dat (.tuple (encs y))]] := ⟨_, rfl⟩
  have o7 : Only [] M6 M7 := by rw [hM7]; exact Only.new
  have d7 := k7.keep o7 (by simp)
  obtain ⟨z, M8, c8, m8, d8, o8, l8⟩ := one_at (w := w) (n := n) (xs := [.str "same", .str "near"]) d7 (by omega) (by simp) (by simp)
  have hz : ∃ s : Str, z = .str s ∧ (s = "same" ∨ s = "near") := by
    simp only [List.mem_cons, List.not_mem_nil, or_false] at m8
    rcases m8 with rfl | rfl
    · exact ⟨_, rfl, .inl rfl⟩
    · exact ⟨_, rfl, .inr rfl⟩
  obtain ⟨s, rfl, hs⟩ := hz
  have hsome : M8[M6.length]? = some (.lst [.dat (.tuple (encs x)), .dat (.tuple (encs y))]) := o8.get (by rw [hM7]; simp) (by
    have : nd < M6.length := by obtain ⟨_, _, _, q, _⟩ := k7; exact (List.getElem?_eq_some_iff.mp q).1
    simp; omega)
  have hI8 : M8[ni]? = some (.lst ((encs its).map .dat)) := o8.get (o7.get k9 (by simp)) (by simp [Ne.symm n2])
  have hL8 : M8[nl]? = some (.lst [.dat (.int left6)]) := o8.get (o7.get k8 (by simp)) (by simp [Ne.symm n1])
  have hI7 : M7[ni]? = some (.lst ((encs its).map .dat)) := o7.get k9 (by simp)
  have hok : BrOk h.L h.ns s a b := by
    rcases hs with rfl | rfl
    · exact .same (by rw [e]; simp) (by rw [e]; simp) hne
    · exact .near (by rw [e]; simp) (by rw [e]; simp) hne
  refine turn_fin (.br s a b x y) n2 n3 (r0 := r) (lb := lb) (nm := nm) (e4 := e4) (e11 := e11) (e12 := some (.ob M6.length)) (e13 := e13) (M5 := M8) (left5 := left6) ?_ d8 (by omega) hL8 hI8 (k10.trans ((o7.mono (by simp)).trans (o8.mono (by simp)))) ⟨hok, k1, k2⟩ (by simp only [It.depth]; omega) (by simp only [It.size]; omega) (by omega)
  unfold b__law_body_7
  rw [exSs_cons]
  unfold exSeq
  rw [c6, andThen_nx, ← hM7]
  refine app_ok (k := 5) (z := .dat (It.enc (.br s a b x y))) rfl hI7 ?_ hI8 (by rw [List.length_map, encs_len]; omega)
  simp (disch := first | omega | (simp only [List.length_cons, List.length_nil, List.length_map, List.length_append, List.length_reverse]; omega)) only [at0, at1, at2, at3, at4, idx_l, idx_t, rng_b, rng_b2, dec_le, dec_lt, add_t, add_l, mod_i, fdiv_i, pow_i, mul_i, exSs_nil, exSs_cons, exS, exSeq, exNil, exRet, exEx, exIf, exSet, exPar, exPut, exApp, exAug, ofE_ok, ofB_ok, ofEs_ok, andThen_nx, andThen_rt, Tg.putV, setAll, evE, evEs, evs, evn, ev1, ev2, evVar, evLit, evCon, evIf, evAnd, evOr, evCh, evTup, evLst, evCall, evSl, evPart, MP.part, evDget, evDin, evDget2, evDisp, evPs, pairK, toB, asB, notD, newK, frz, cel, siNew, siNew2, siSeq, evIt, siZip, siRng, siRng2, evLc, wipeE, Res.bind_ok, v1, v2, vn, view, views, datsOf, asKey, keyOf, putC, Bin.f, Cmp.f, Bf.f, Bn.f, isiD, isT, bD, negD, isD, isN, List.getElem?_cons_zero, List.getElem?_cons_succ, List.getElem?_nil, List.set_cons_zero, List.set_cons_succ, List.map_cons, List.map_nil, List.replicate, List.length_cons, List.length_nil, List.cons_append, List.nil_append, add_i, sub_i, int_i, int_b, len_l, len_t, tup_l, tup_t, list_l, list_t, eq_s, eq_i, lt_i, gt_i, le_i, ge_i, lt_s, Option.map_some, Option.map_none, Option.bind_some, Nat.reduceAdd, Int.reduceToNat, Int.reduceAdd, Int.reduceSub, Int.reduceNeg, Int.reduceMul, Int.reduceEq, Int.reduceLT, Int.reduceLE, cast_lit, seq_t, seq_l, if_true, ite_true, ite_false, if_false, and_true, true_and, and_self, Bool.false_eq_true, not_true, not_false_iff, decide_true, decide_false, Bool.not_true, Bool.not_false, Option.isSome_some, Option.isSome_none, c8, hsome, It.enc, envB, Hd.enc, Hd.nms, e]
theorem if_ok {d : Nat} (ok : h.Ok) (ih : BodyP w h (n + 2) d) (n1 : nd ≠ nl) (n2 : nd ≠ ni) (n3 : nl ≠ ni) (hl : its.length ≤ 1000) (p : PreT h nd nl ni M M4 its left c) (h0 : 0 < left) (hc : c + (bud (d + 1) / 5) < 1073741824) (ml : lb ∈ h.L) (mn : nm ∈ h.ns) :
    TurnR h nd nl ni (d + 1) M its left c (exSs (T.cfg w (n + 2)) b__law_body_8 (envB h nd nl ni ((d + 1 : Nat) : Int) e4 r lb nm e11 e12 e13) M4) := by
  have hb := bud_pos d
  have hb1 : bud (d + 1) = 20 * bud d := rfl
  obtain ⟨x, y, M6, left6, c6, k1, k2, k3, k4, k5, k6, k7, k8, k9, k10⟩ := two_bodies (e4 := e4) (e11 := e11) (e12 := e12) (e13 := e13) (r := r) (lb := lb) (nm := nm) ih n1 n2 n3 p (by omega)
  obtain ⟨M7, hM7⟩ : ∃ M7, M7 = M6 ++ [.lst [.dat (.tuple (encs x)), .dat (.tuple (encs y))]] := ⟨_, rfl⟩
  have o7 : Only [] M6 M7 := by rw [hM7]; exact Only.new
  have d7 := k7.keep o7 (by simp)
  have lts : nd < M6.length ∧ nl < M6.length ∧ ni < M6.length := ⟨by obtain ⟨_, _, _, q, _⟩ := k7; exact (List.getElem?_eq_some_iff.mp q).1, (List.getElem?_eq_some_iff.mp k8).1, (List.getElem?_eq_some_iff.mp k9).1⟩
  obtain ⟨q, M8, c8, g1, g2, d8, o8, l8⟩ := pick_at (w := w) (n := n + 1) (L := 2) d7 (by omega) (by omega) (by omega)
  have hsome : M8[M6.length]? = some (.lst [.dat (.tuple (encs x)), .dat (.tuple (encs y))]) := o8.get (by rw [hM7]; simp) (by simp; omega)
  -- the second body, or none
  obtain ⟨y', hy', s', hs'⟩ : ∃ y' : List It, (y' = y ∨ y' = []) ∧ ∃ z : PyData, z = .tuple (encs y') ∧ (if q = 0 then y' = y else y' = []) := by
    by_cases hq : q = 0
    · exact ⟨y, .inl rfl, _, rfl, by rw [if_pos hq]⟩
    · exact ⟨[], .inr rfl, _, rfl, by rw [if_neg hq]⟩
  obtain ⟨M9, hM9⟩ : ∃ M9, M9 = M8.set M6.length (.lst [.dat (.tuple (encs x)), .dat (.tuple (encs y'))]) := ⟨_, rfl⟩
  have o9 : ∀ i, i < M6.length → M9[i]? = M8[i]? := fun i hi => by rw [hM9]; exact set_other (by omega)
  have hsome9 : M9[M6.length]? = some (.lst [.dat (.tuple (encs x)), .dat (.tuple (encs y'))]) := by rw [hM9]; exact set_self hsome
  have hI9 : M9[ni]? = some (.lst ((encs its).map .dat)) := by rw [o9 _ lts.2.2]; exact o8.get (o7.get k9 (by simp)) (by simp [Ne.symm n2])
  have hL9 : M9[nl]? = some (.lst [.dat (.int left6)]) := by rw [o9 _ lts.2.1]; exact o8.get (o7.get k8 (by simp)) (by simp [Ne.symm n1])
  have d9 : DeckAt M9 nd (c + 3 + 2 * bud d + 1) := by
    obtain ⟨a1, a2, a3, a4, a5⟩ := d8
    exact ⟨a1, a2, a3, by rw [o9 _ lts.1]; exact a4, a5⟩
  have h69 : Only [nd, nl] M6 M9 := by
    refine ⟨?_, fun i h1 h2 => ?_⟩
    · rw [hM9, List.length_set, l8, hM7]; simp
    · rw [o9 _ h1, o8.2 i (by rw [hM7]; simp; omega) (fun z => h2 (by simp at z; simp [z])), o7.2 i h1 (by simp)]
  have hy2 : Its h.L h.ns y' ∧ depths y' ≤ d ∧ sizes y' ≤ sizes y := by
    rcases hy' with rfl | rfl
    · exact ⟨k2, k4, Nat.le_refl _⟩
    · exact ⟨trivial, by simp [depths], by simp [sizes]⟩
  refine turn_fin (.br "if" lb nm x y') n2 n3 (r0 := r) (lb := lb) (nm := nm) (e4 := e4) (e11 := e11) (e12 := some (.ob M6.length)) (e13 := e13) (M5 := M9) (left5 := left6) ?_ d9 (by omega) hL9 hI9 (k10.trans h69) ⟨.ife ml mn, k1, hy2.1⟩ (by simp only [It.depth]; have := hy2.2.1; omega) (by simp only [It.size]; have := hy2.2.2; omega) (by omega)
  unfold b__law_body_8
  rw [exSs_cons]
  unfold exSeq
  rw [c6, andThen_nx, ← hM7, exSs_cons]
  unfold exSeq
  have hput : exS (T.cfg w (n + 2)) (.put (.var 12) (.lit (.int 1)) (.ite (.cmp .eq (.call "_law_pick" [(.var 0), (.lit (.int 2))]) (.lit (.int 0))) (.idx (.var 12) (.lit (.int 1))) (.tup []))) (envB h nd nl ni ((d + 1 : Nat) : Int) e4 r lb nm e11 (some (.ob M6.length)) e13) M7 =
      .ok (.nx (envB h nd nl ni ((d + 1 : Nat) : Int) e4 r lb nm e11 (some (.ob M6.length)) e13)) M9 := by
    have ix1 : ixN 2 1 = some 1 := by rfl
    by_cases hq : q = 0
    · rw [if_pos hq] at hs'
      simp (disch := first | omega | (simp only [List.length_cons, List.length_nil, List.length_map, List.length_append, List.length_reverse]; omega)) only [at0, at1, at2, at3, at4, idx_l, idx_t, rng_b, rng_b2, dec_le, dec_lt, add_t, add_l, mod_i, fdiv_i, pow_i, mul_i, exSs_nil, exSs_cons, exS, exSeq, exNil, exRet, exEx, exIf, exSet, exPar, exPut, exApp, exAug, ofE_ok, ofB_ok, ofEs_ok, andThen_nx, andThen_rt, Tg.putV, setAll, evE, evEs, evs, evn, ev1, ev2, evVar, evLit, evCon, evIf, evAnd, evOr, evCh, evTup, evLst, evCall, evSl, evPart, MP.part, evDget, evDin, evDget2, evDisp, evPs, pairK, toB, asB, notD, newK, frz, cel, siNew, siNew2, siSeq, evIt, siZip, siRng, siRng2, evLc, wipeE, Res.bind_ok, v1, v2, vn, view, views, datsOf, asKey, keyOf, putC, Bin.f, Cmp.f, Bf.f, Bn.f, isiD, isT, bD, negD, isD, isN, List.getElem?_cons_zero, List.getElem?_cons_succ, List.getElem?_nil, List.set_cons_zero, List.set_cons_succ, List.map_cons, List.map_nil, List.replicate, List.length_cons, List.length_nil, List.cons_append, List.nil_append, add_i, sub_i, int_i, int_b, len_l, len_t, tup_l, tup_t, list_l, list_t, eq_s, eq_i, lt_i, gt_i, le_i, ge_i, lt_s, Option.map_some, Option.map_none, Option.bind_some, Nat.reduceAdd, Int.reduceToNat, Int.reduceAdd, Int.reduceSub, Int.reduceNeg, Int.reduceMul, Int.reduceEq, Int.reduceLT, Int.reduceLE, cast_lit, seq_t, seq_l, if_true, ite_true, ite_false, if_false, and_true, true_and, and_self, Bool.false_eq_true, not_true, not_false_iff, decide_true, decide_false, Bool.not_true, Bool.not_false, Option.isSome_some, Option.isSome_none, c8, hsome, hq, ix1]
      rw [hM9, hs'.2]
    · rw [if_neg hq] at hs'
      simp (disch := first | omega | (simp only [List.length_cons, List.length_nil, List.length_map, List.length_append, List.length_reverse]; omega)) only [at0, at1, at2, at3, at4, idx_l, idx_t, rng_b, rng_b2, dec_le, dec_lt, add_t, add_l, mod_i, fdiv_i, pow_i, mul_i, exSs_nil, exSs_cons, exS, exSeq, exNil, exRet, exEx, exIf, exSet, exPar, exPut, exApp, exAug, ofE_ok, ofB_ok, ofEs_ok, andThen_nx, andThen_rt, Tg.putV, setAll, evE, evEs, evs, evn, ev1, ev2, evVar, evLit, evCon, evIf, evAnd, evOr, evCh, evTup, evLst, evCall, evSl, evPart, MP.part, evDget, evDin, evDget2, evDisp, evPs, pairK, toB, asB, notD, newK, frz, cel, siNew, siNew2, siSeq, evIt, siZip, siRng, siRng2, evLc, wipeE, Res.bind_ok, v1, v2, vn, view, views, datsOf, asKey, keyOf, putC, Bin.f, Cmp.f, Bf.f, Bn.f, isiD, isT, bD, negD, isD, isN, List.getElem?_cons_zero, List.getElem?_cons_succ, List.getElem?_nil, List.set_cons_zero, List.set_cons_succ, List.map_cons, List.map_nil, List.replicate, List.length_cons, List.length_nil, List.cons_append, List.nil_append, add_i, sub_i, int_i, int_b, len_l, len_t, tup_l, tup_t, list_l, list_t, eq_s, eq_i, lt_i, gt_i, le_i, ge_i, lt_s, Option.map_some, Option.map_none, Option.bind_some, Nat.reduceAdd, Int.reduceToNat, Int.reduceAdd, Int.reduceSub, Int.reduceNeg, Int.reduceMul, Int.reduceEq, Int.reduceLT, Int.reduceLE, cast_lit, seq_t, seq_l, if_true, ite_true, ite_false, if_false, and_true, true_and, and_self, Bool.false_eq_true, not_true, not_false_iff, decide_true, decide_false, Bool.not_true, Bool.not_false, Option.isSome_some, Option.isSome_none, c8, hsome, hq, ix1]
      rw [hM9, hs'.2]
      rfl
  rw [hput, andThen_nx]
  refine app_ok (k := 5) (z := .dat (It.enc (.br "if" lb nm x y'))) rfl hI9 ?_ hI9 (by rw [List.length_map, encs_len]; omega)
  simp (disch := first | omega | (simp only [List.length_cons, List.length_nil, List.length_map, List.length_append, List.length_reverse]; omega)) only [at0, at1, at2, at3, at4, idx_l, idx_t, rng_b, rng_b2, dec_le, dec_lt, add_t, add_l, mod_i, fdiv_i, pow_i, mul_i, exSs_nil, exSs_cons, exS, exSeq, exNil, exRet, exEx, exIf, exSet, exPar, exPut, exApp, exAug, ofE_ok, ofB_ok, ofEs_ok, andThen_nx, andThen_rt, Tg.putV, setAll, evE, evEs, evs, evn, ev1, ev2, evVar, evLit, evCon, evIf, evAnd, evOr, evCh, evTup, evLst, evCall, evSl, evPart, MP.part, evDget, evDin, evDget2, evDisp, evPs, pairK, toB, asB, notD, newK, frz, cel, siNew, siNew2, siSeq, evIt, siZip, siRng, siRng2, evLc, wipeE, Res.bind_ok, v1, v2, vn, view, views, datsOf, asKey, keyOf, putC, Bin.f, Cmp.f, Bf.f, Bn.f, isiD, isT, bD, negD, isD, isN, List.getElem?_cons_zero, List.getElem?_cons_succ, List.getElem?_nil, List.set_cons_zero, List.set_cons_succ, List.map_cons, List.map_nil, List.replicate, List.length_cons, List.length_nil, List.cons_append, List.nil_append, add_i, sub_i, int_i, int_b, len_l, len_t, tup_l, tup_t, list_l, list_t, eq_s, eq_i, lt_i, gt_i, le_i, ge_i, lt_s, Option.map_some, Option.map_none, Option.bind_some, Nat.reduceAdd, Int.reduceToNat, Int.reduceAdd, Int.reduceSub, Int.reduceNeg, Int.reduceMul, Int.reduceEq, Int.reduceLT, Int.reduceLE, cast_lit, seq_t, seq_l, if_true, ite_true, ite_false, if_false, and_true, true_and, and_self, Bool.false_eq_true, not_true, not_false_iff, decide_true, decide_false, Bool.not_true, Bool.not_false, Option.isSome_some, Option.isSome_none, hsome9, It.enc, envB]
end
end LawX
set_option Elab.async false
set_option linter.all false
set_option maxRecDepth 100000
set_option maxHeartbeats 8000000
/-! PG5: the generator's bodies and programs. -/
namespace LawX
open PySem PySem.Spec PyProof.Rows L2 MP
theorem turn_ok {w : Mw} {n : Nat} {h : Hd} (ok : h.Ok) {nd nl ni : Nat} {deep : Nat} (ih : ∀ d, deep = d + 1 → BodyP w h (n + 2) d) {env : MP.Env} {M : Mem} {its : List It} {left c : Int} (n1 : nd ≠ nl) (n2 : nd ≠ ni) (n3 : nl ≠ ni)
    (b : BS h nd nl ni deep env M its left c) (hl : its.length ≤ 1000) (hc : c + (bud deep / 5) < 1073741824) : TurnR h nd nl ni deep M its left c (exSs (T.cfg w (n + 2)) b__law_body_16 env M) := by
  have hb := bud_pos deep
  obtain ⟨⟨e4, e8, e9, e10, e11, e12, e13, rfl⟩, hd, hL, hI⟩ := b
  obtain ⟨r, M1, c1, g1, g2, d1, o1, l1⟩ := pick_at (w := w) (n := n + 1) (L := 18) hd (by omega) (by omega) (by omega)
  obtain ⟨lb, M2, c2, m2, d2, o2, l2⟩ := one_str (w := w) (n := n) d1 (by omega) (hd_l h ok)
  obtain ⟨nm, M3, c3, m3, d3, o3, l3⟩ := one_str (w := w) (n := n) d2 (by omega) (hd_n h ok)
  have o13 : Only [nd] M M3 := (o1.trans o2).trans o3
  have hL3 : M3[nl]? = some (.lst [.dat (.int left)]) := o13.get hL (by simp [Ne.symm n1])
  have hI3 : M3[ni]? = some (.lst ((encs its).map .dat)) := o13.get hI (by simp [Ne.symm n2])
  obtain ⟨M4, hM4⟩ : ∃ M4, M4 = M3.set nl (.lst [.dat (.int (left - 1))]) := ⟨_, rfl⟩
  have o4 : Only [nd, nl] M M4 := (o13.mono (by simp)).trans (by rw [hM4]; exact Only.set.mono (by simp))
  have hL4 : M4[nl]? = some (.lst [.dat (.int (left - 1))]) := by rw [hM4]; exact set_self hL3
  have hI4 : M4[ni]? = some (.lst ((encs its).map .dat)) := by rw [hM4, set_other n3]; exact hI3
  have d4 : DeckAt M4 nd (c + 3) := by
    rw [hM4]
    exact (d3.keep Only.set (by simp [n1])).le (by omega)
  have ix0 : ixN 1 0 = some 0 := by rfl
  unfold b__law_body_16
  by_cases hlt : left - 1 < 0
  · refine .inl ⟨M4, left - 1, ?_, by omega, hlt, hL4, d4.le (by omega), o4.mono (by simp)⟩
    simp (disch := first | omega | (simp only [List.length_cons, List.length_nil, List.length_map, List.length_append, List.length_reverse]; omega)) only [at0, at1, at2, at3, at4, idx_l, idx_t, rng_b, rng_b2, dec_le, dec_lt, add_t, add_l, mod_i, fdiv_i, pow_i, mul_i, exSs_nil, exSs_cons, exS, exSeq, exNil, exRet, exEx, exIf, exSet, exPar, exPut, exApp, exAug, ofE_ok, ofB_ok, ofEs_ok, andThen_nx, andThen_rt, Tg.putV, setAll, evE, evEs, evs, evn, ev1, ev2, evVar, evLit, evCon, evIf, evAnd, evOr, evCh, evTup, evLst, evCall, evSl, evPart, MP.part, evDget, evDin, evDget2, evDisp, evPs, pairK, toB, asB, notD, newK, frz, cel, siNew, siNew2, siSeq, evIt, siZip, siRng, siRng2, evLc, wipeE, Res.bind_ok, v1, v2, vn, view, views, datsOf, asKey, keyOf, putC, Bin.f, Cmp.f, Bf.f, Bn.f, isiD, isT, bD, negD, isD, isN, List.getElem?_cons_zero, List.getElem?_cons_succ, List.getElem?_nil, List.set_cons_zero, List.set_cons_succ, List.map_cons, List.map_nil, List.replicate, List.length_cons, List.length_nil, List.cons_append, List.nil_append, add_i, sub_i, int_i, int_b, len_l, len_t, tup_l, tup_t, list_l, list_t, eq_s, eq_i, lt_i, gt_i, le_i, ge_i, lt_s, Option.map_some, Option.map_none, Option.bind_some, Nat.reduceAdd, Int.reduceToNat, Int.reduceAdd, Int.reduceSub, Int.reduceNeg, Int.reduceMul, Int.reduceEq, Int.reduceLT, Int.reduceLE, cast_lit, seq_t, seq_l, if_true, ite_true, ite_false, if_false, and_true, true_and, and_self, Bool.false_eq_true, not_true, not_false_iff, decide_true, decide_false, Bool.not_true, Bool.not_false, Option.isSome_some, Option.isSome_none, c1, c2, c3, hL3, ix0, ← hM4, hL4, hlt, hI4, datsOf_map]
  · have p : PreT h nd nl ni M M4 its left c := ⟨d4, hL4, hI4, o4⟩
    have h0 : 0 < left := by omega
    have e1 : exSs (T.cfg w (n + 2)) b__law_body_16 [some (.ob nd), some (.dat h.enc), some (.dat (.int deep)), some (.ob nl), e4, some (.ob ni), some (.dat (.list (h.L.map .str))), some (.dat (.list (h.ns.map .str))), e8, e9, e10, e11, e12, e13] M =
        exSs (T.cfg w (n + 2)) [.ife (.cmp .lt (.var 8) (.lit (.int 3))) b__law_body_0 b__law_body_15] (envB h nd nl ni deep e4 r lb nm e11 e12 e13) M4 := by
      unfold b__law_body_16
      rw [exSs_step (env1 := envB h nd nl ni deep e4 r lb nm e11 e12 e13) (M1 := M3) (by simp (disch := first | omega | (simp only [List.length_cons, List.length_nil, List.length_map, List.length_append, List.length_reverse]; omega)) only [at0, at1, at2, at3, at4, idx_l, idx_t, rng_b, rng_b2, dec_le, dec_lt, add_t, add_l, mod_i, fdiv_i, pow_i, mul_i, exSs_nil, exSs_cons, exS, exSeq, exNil, exRet, exEx, exIf, exSet, exPar, exPut, exApp, exAug, ofE_ok, ofB_ok, ofEs_ok, andThen_nx, andThen_rt, Tg.putV, setAll, evE, evEs, evs, evn, ev1, ev2, evVar, evLit, evCon, evIf, evAnd, evOr, evCh, evTup, evLst, evCall, evSl, evPart, MP.part, evDget, evDin, evDget2, evDisp, evPs, pairK, toB, asB, notD, newK, frz, cel, siNew, siNew2, siSeq, evIt, siZip, siRng, siRng2, evLc, wipeE, Res.bind_ok, v1, v2, vn, view, views, datsOf, asKey, keyOf, putC, Bin.f, Cmp.f, Bf.f, Bn.f, isiD, isT, bD, negD, isD, isN, List.getElem?_cons_zero, List.getElem?_cons_succ, List.getElem?_nil, List.set_cons_zero, List.set_cons_succ, List.map_cons, List.map_nil, List.replicate, List.length_cons, List.length_nil, List.cons_append, List.nil_append, add_i, sub_i, int_i, int_b, len_l, len_t, tup_l, tup_t, list_l, list_t, eq_s, eq_i, lt_i, gt_i, le_i, ge_i, lt_s, Option.map_some, Option.map_none, Option.bind_some, Nat.reduceAdd, Int.reduceToNat, Int.reduceAdd, Int.reduceSub, Int.reduceNeg, Int.reduceMul, Int.reduceEq, Int.reduceLT, Int.reduceLE, cast_lit, seq_t, seq_l, if_true, ite_true, ite_false, if_false, and_true, true_and, and_self, Bool.false_eq_true, not_true, not_false_iff, decide_true, decide_false, Bool.not_true, Bool.not_false, Option.isSome_some, Option.isSome_none, c1, c2, c3]), exSs_step (env1 := envB h nd nl ni deep e4 r lb nm e11 e12 e13) (M1 := M4) (by simp (disch := first | omega | (simp only [List.length_cons, List.length_nil, List.length_map, List.length_append, List.length_reverse]; omega)) only [at0, at1, at2, at3, at4, idx_l, idx_t, rng_b, rng_b2, dec_le, dec_lt, add_t, add_l, mod_i, fdiv_i, pow_i, mul_i, exSs_nil, exSs_cons, exS, exSeq, exNil, exRet, exEx, exIf, exSet, exPar, exPut, exApp, exAug, ofE_ok, ofB_ok, ofEs_ok, andThen_nx, andThen_rt, Tg.putV, setAll, evE, evEs, evs, evn, ev1, ev2, evVar, evLit, evCon, evIf, evAnd, evOr, evCh, evTup, evLst, evCall, evSl, evPart, MP.part, evDget, evDin, evDget2, evDisp, evPs, pairK, toB, asB, notD, newK, frz, cel, siNew, siNew2, siSeq, evIt, siZip, siRng, siRng2, evLc, wipeE, Res.bind_ok, v1, v2, vn, view, views, datsOf, asKey, keyOf, putC, Bin.f, Cmp.f, Bf.f, Bn.f, isiD, isT, bD, negD, isD, isN, List.getElem?_cons_zero, List.getElem?_cons_succ, List.getElem?_nil, List.set_cons_zero, List.set_cons_succ, List.map_cons, List.map_nil, List.replicate, List.length_cons, List.length_nil, List.cons_append, List.nil_append, add_i, sub_i, int_i, int_b, len_l, len_t, tup_l, tup_t, list_l, list_t, eq_s, eq_i, lt_i, gt_i, le_i, ge_i, lt_s, Option.map_some, Option.map_none, Option.bind_some, Nat.reduceAdd, Int.reduceToNat, Int.reduceAdd, Int.reduceSub, Int.reduceNeg, Int.reduceMul, Int.reduceEq, Int.reduceLT, Int.reduceLE, cast_lit, seq_t, seq_l, if_true, ite_true, ite_false, if_false, and_true, true_and, and_self, Bool.false_eq_true, not_true, not_false_iff, decide_true, decide_false, Bool.not_true, Bool.not_false, Option.isSome_some, Option.isSome_none, hL3, ix0, ← hM4]),
        exSs_step (env1 := envB h nd nl ni deep e4 r lb nm e11 e12 e13) (M1 := M4) (by simp (disch := first | omega | (simp only [List.length_cons, List.length_nil, List.length_map, List.length_append, List.length_reverse]; omega)) only [at0, at1, at2, at3, at4, idx_l, idx_t, rng_b, rng_b2, dec_le, dec_lt, add_t, add_l, mod_i, fdiv_i, pow_i, mul_i, exSs_nil, exSs_cons, exS, exSeq, exNil, exRet, exEx, exIf, exSet, exPar, exPut, exApp, exAug, ofE_ok, ofB_ok, ofEs_ok, andThen_nx, andThen_rt, Tg.putV, setAll, evE, evEs, evs, evn, ev1, ev2, evVar, evLit, evCon, evIf, evAnd, evOr, evCh, evTup, evLst, evCall, evSl, evPart, MP.part, evDget, evDin, evDget2, evDisp, evPs, pairK, toB, asB, notD, newK, frz, cel, siNew, siNew2, siSeq, evIt, siZip, siRng, siRng2, evLc, wipeE, Res.bind_ok, v1, v2, vn, view, views, datsOf, asKey, keyOf, putC, Bin.f, Cmp.f, Bf.f, Bn.f, isiD, isT, bD, negD, isD, isN, List.getElem?_cons_zero, List.getElem?_cons_succ, List.getElem?_nil, List.set_cons_zero, List.set_cons_succ, List.map_cons, List.map_nil, List.replicate, List.length_cons, List.length_nil, List.cons_append, List.nil_append, add_i, sub_i, int_i, int_b, len_l, len_t, tup_l, tup_t, list_l, list_t, eq_s, eq_i, lt_i, gt_i, le_i, ge_i, lt_s, Option.map_some, Option.map_none, Option.bind_some, Nat.reduceAdd, Int.reduceToNat, Int.reduceAdd, Int.reduceSub, Int.reduceNeg, Int.reduceMul, Int.reduceEq, Int.reduceLT, Int.reduceLE, cast_lit, seq_t, seq_l, if_true, ite_true, ite_false, if_false, and_true, true_and, and_self, Bool.false_eq_true, not_true, not_false_iff, decide_true, decide_false, Bool.not_true, Bool.not_false, Option.isSome_some, Option.isSome_none, hL4, hlt])]
    rw [show exSs (T.cfg w (n + 2)) [S.par [8, 9, 10] [E.call "_law_pick" [E.var 0, E.lit (PyData.int 18)], E.call "_law_one" [E.var 0, E.var 6], E.call "_law_one" [E.var 0, E.var 7]], S.put (E.var 3) (E.lit (PyData.int 0)) (E.bin Bin.sub (E.idx (E.var 3) (E.lit (PyData.int 0))) (E.lit (PyData.int 1))), S.ife (E.cmp Cmp.lt (E.idx (E.var 3) (E.lit (PyData.int 0))) (E.lit (PyData.int 0))) [S.ret [E.bf Bf.tup [E.var 5]]] [], S.ife (E.cmp Cmp.lt (E.var 8) (E.lit (PyData.int 3))) b__law_body_0 b__law_body_15] _ M = _ from e1]
    by_cases q3 : r < 3
    · rw [ife_t (M1 := M4) (by simp (disch := first | omega | (simp only [List.length_cons, List.length_nil, List.length_map, List.length_append, List.length_reverse]; omega)) only [at0, at1, at2, at3, at4, idx_l, idx_t, rng_b, rng_b2, dec_le, dec_lt, add_t, add_l, mod_i, fdiv_i, pow_i, mul_i, exSs_nil, exSs_cons, exS, exSeq, exNil, exRet, exEx, exIf, exSet, exPar, exPut, exApp, exAug, ofE_ok, ofB_ok, ofEs_ok, andThen_nx, andThen_rt, Tg.putV, setAll, evE, evEs, evs, evn, ev1, ev2, evVar, evLit, evCon, evIf, evAnd, evOr, evCh, evTup, evLst, evCall, evSl, evPart, MP.part, evDget, evDin, evDget2, evDisp, evPs, pairK, toB, asB, notD, newK, frz, cel, siNew, siNew2, siSeq, evIt, siZip, siRng, siRng2, evLc, wipeE, Res.bind_ok, v1, v2, vn, view, views, datsOf, asKey, keyOf, putC, Bin.f, Cmp.f, Bf.f, Bn.f, isiD, isT, bD, negD, isD, isN, List.getElem?_cons_zero, List.getElem?_cons_succ, List.getElem?_nil, List.set_cons_zero, List.set_cons_succ, List.map_cons, List.map_nil, List.replicate, List.length_cons, List.length_nil, List.cons_append, List.nil_append, add_i, sub_i, int_i, int_b, len_l, len_t, tup_l, tup_t, list_l, list_t, eq_s, eq_i, lt_i, gt_i, le_i, ge_i, lt_s, Option.map_some, Option.map_none, Option.bind_some, Nat.reduceAdd, Int.reduceToNat, Int.reduceAdd, Int.reduceSub, Int.reduceNeg, Int.reduceMul, Int.reduceEq, Int.reduceLT, Int.reduceLE, cast_lit, seq_t, seq_l, if_true, ite_true, ite_false, if_false, and_true, true_and, and_self, Bool.false_eq_true, not_true, not_false_iff, decide_true, decide_false, Bool.not_true, Bool.not_false, Option.isSome_some, Option.isSome_none, q3])]
      exact write_ok n1 n2 n3 hl p h0 hb hc m2 m3
    rw [ife_f (M1 := M4) (by simp (disch := first | omega | (simp only [List.length_cons, List.length_nil, List.length_map, List.length_append, List.length_reverse]; omega)) only [at0, at1, at2, at3, at4, idx_l, idx_t, rng_b, rng_b2, dec_le, dec_lt, add_t, add_l, mod_i, fdiv_i, pow_i, mul_i, exSs_nil, exSs_cons, exS, exSeq, exNil, exRet, exEx, exIf, exSet, exPar, exPut, exApp, exAug, ofE_ok, ofB_ok, ofEs_ok, andThen_nx, andThen_rt, Tg.putV, setAll, evE, evEs, evs, evn, ev1, ev2, evVar, evLit, evCon, evIf, evAnd, evOr, evCh, evTup, evLst, evCall, evSl, evPart, MP.part, evDget, evDin, evDget2, evDisp, evPs, pairK, toB, asB, notD, newK, frz, cel, siNew, siNew2, siSeq, evIt, siZip, siRng, siRng2, evLc, wipeE, Res.bind_ok, v1, v2, vn, view, views, datsOf, asKey, keyOf, putC, Bin.f, Cmp.f, Bf.f, Bn.f, isiD, isT, bD, negD, isD, isN, List.getElem?_cons_zero, List.getElem?_cons_succ, List.getElem?_nil, List.set_cons_zero, List.set_cons_succ, List.map_cons, List.map_nil, List.replicate, List.length_cons, List.length_nil, List.cons_append, List.nil_append, add_i, sub_i, int_i, int_b, len_l, len_t, tup_l, tup_t, list_l, list_t, eq_s, eq_i, lt_i, gt_i, le_i, ge_i, lt_s, Option.map_some, Option.map_none, Option.bind_some, Nat.reduceAdd, Int.reduceToNat, Int.reduceAdd, Int.reduceSub, Int.reduceNeg, Int.reduceMul, Int.reduceEq, Int.reduceLT, Int.reduceLE, cast_lit, seq_t, seq_l, if_true, ite_true, ite_false, if_false, and_true, true_and, and_self, Bool.false_eq_true, not_true, not_false_iff, decide_true, decide_false, Bool.not_true, Bool.not_false, Option.isSome_some, Option.isSome_none, q3])]
    unfold b__law_body_15
    by_cases q5 : r < 5
    · rw [ife_t (M1 := M4) (by simp (disch := first | omega | (simp only [List.length_cons, List.length_nil, List.length_map, List.length_append, List.length_reverse]; omega)) only [at0, at1, at2, at3, at4, idx_l, idx_t, rng_b, rng_b2, dec_le, dec_lt, add_t, add_l, mod_i, fdiv_i, pow_i, mul_i, exSs_nil, exSs_cons, exS, exSeq, exNil, exRet, exEx, exIf, exSet, exPar, exPut, exApp, exAug, ofE_ok, ofB_ok, ofEs_ok, andThen_nx, andThen_rt, Tg.putV, setAll, evE, evEs, evs, evn, ev1, ev2, evVar, evLit, evCon, evIf, evAnd, evOr, evCh, evTup, evLst, evCall, evSl, evPart, MP.part, evDget, evDin, evDget2, evDisp, evPs, pairK, toB, asB, notD, newK, frz, cel, siNew, siNew2, siSeq, evIt, siZip, siRng, siRng2, evLc, wipeE, Res.bind_ok, v1, v2, vn, view, views, datsOf, asKey, keyOf, putC, Bin.f, Cmp.f, Bf.f, Bn.f, isiD, isT, bD, negD, isD, isN, List.getElem?_cons_zero, List.getElem?_cons_succ, List.getElem?_nil, List.set_cons_zero, List.set_cons_succ, List.map_cons, List.map_nil, List.replicate, List.length_cons, List.length_nil, List.cons_append, List.nil_append, add_i, sub_i, int_i, int_b, len_l, len_t, tup_l, tup_t, list_l, list_t, eq_s, eq_i, lt_i, gt_i, le_i, ge_i, lt_s, Option.map_some, Option.map_none, Option.bind_some, Nat.reduceAdd, Int.reduceToNat, Int.reduceAdd, Int.reduceSub, Int.reduceNeg, Int.reduceMul, Int.reduceEq, Int.reduceLT, Int.reduceLE, cast_lit, seq_t, seq_l, if_true, ite_true, ite_false, if_false, and_true, true_and, and_self, Bool.false_eq_true, not_true, not_false_iff, decide_true, decide_false, Bool.not_true, Bool.not_false, Option.isSome_some, Option.isSome_none, q5])]
      exact remove_ok n1 n2 n3 hl p h0 hb m2 m3
    rw [ife_f (M1 := M4) (by simp (disch := first | omega | (simp only [List.length_cons, List.length_nil, List.length_map, List.length_append, List.length_reverse]; omega)) only [at0, at1, at2, at3, at4, idx_l, idx_t, rng_b, rng_b2, dec_le, dec_lt, add_t, add_l, mod_i, fdiv_i, pow_i, mul_i, exSs_nil, exSs_cons, exS, exSeq, exNil, exRet, exEx, exIf, exSet, exPar, exPut, exApp, exAug, ofE_ok, ofB_ok, ofEs_ok, andThen_nx, andThen_rt, Tg.putV, setAll, evE, evEs, evs, evn, ev1, ev2, evVar, evLit, evCon, evIf, evAnd, evOr, evCh, evTup, evLst, evCall, evSl, evPart, MP.part, evDget, evDin, evDget2, evDisp, evPs, pairK, toB, asB, notD, newK, frz, cel, siNew, siNew2, siSeq, evIt, siZip, siRng, siRng2, evLc, wipeE, Res.bind_ok, v1, v2, vn, view, views, datsOf, asKey, keyOf, putC, Bin.f, Cmp.f, Bf.f, Bn.f, isiD, isT, bD, negD, isD, isN, List.getElem?_cons_zero, List.getElem?_cons_succ, List.getElem?_nil, List.set_cons_zero, List.set_cons_succ, List.map_cons, List.map_nil, List.replicate, List.length_cons, List.length_nil, List.cons_append, List.nil_append, add_i, sub_i, int_i, int_b, len_l, len_t, tup_l, tup_t, list_l, list_t, eq_s, eq_i, lt_i, gt_i, le_i, ge_i, lt_s, Option.map_some, Option.map_none, Option.bind_some, Nat.reduceAdd, Int.reduceToNat, Int.reduceAdd, Int.reduceSub, Int.reduceNeg, Int.reduceMul, Int.reduceEq, Int.reduceLT, Int.reduceLE, cast_lit, seq_t, seq_l, if_true, ite_true, ite_false, if_false, and_true, true_and, and_self, Bool.false_eq_true, not_true, not_false_iff, decide_true, decide_false, Bool.not_true, Bool.not_false, Option.isSome_some, Option.isSome_none, q5])]
    unfold b__law_body_14
    have rest : TurnR h nd nl ni deep M its left c (exSs (T.cfg w (n + 2)) b__law_body_13 (envB h nd nl ni deep e4 r lb nm e11 e12 e13) M4) := by
      unfold b__law_body_13
      by_cases q10 : r < 10
      · rw [ife_t (M1 := M4) (by simp (disch := first | omega | (simp only [List.length_cons, List.length_nil, List.length_map, List.length_append, List.length_reverse]; omega)) only [at0, at1, at2, at3, at4, idx_l, idx_t, rng_b, rng_b2, dec_le, dec_lt, add_t, add_l, mod_i, fdiv_i, pow_i, mul_i, exSs_nil, exSs_cons, exS, exSeq, exNil, exRet, exEx, exIf, exSet, exPar, exPut, exApp, exAug, ofE_ok, ofB_ok, ofEs_ok, andThen_nx, andThen_rt, Tg.putV, setAll, evE, evEs, evs, evn, ev1, ev2, evVar, evLit, evCon, evIf, evAnd, evOr, evCh, evTup, evLst, evCall, evSl, evPart, MP.part, evDget, evDin, evDget2, evDisp, evPs, pairK, toB, asB, notD, newK, frz, cel, siNew, siNew2, siSeq, evIt, siZip, siRng, siRng2, evLc, wipeE, Res.bind_ok, v1, v2, vn, view, views, datsOf, asKey, keyOf, putC, Bin.f, Cmp.f, Bf.f, Bn.f, isiD, isT, bD, negD, isD, isN, List.getElem?_cons_zero, List.getElem?_cons_succ, List.getElem?_nil, List.set_cons_zero, List.set_cons_succ, List.map_cons, List.map_nil, List.replicate, List.length_cons, List.length_nil, List.cons_append, List.nil_append, add_i, sub_i, int_i, int_b, len_l, len_t, tup_l, tup_t, list_l, list_t, eq_s, eq_i, lt_i, gt_i, le_i, ge_i, lt_s, Option.map_some, Option.map_none, Option.bind_some, Nat.reduceAdd, Int.reduceToNat, Int.reduceAdd, Int.reduceSub, Int.reduceNeg, Int.reduceMul, Int.reduceEq, Int.reduceLT, Int.reduceLE, cast_lit, seq_t, seq_l, if_true, ite_true, ite_false, if_false, and_true, true_and, and_self, Bool.false_eq_true, not_true, not_false_iff, decide_true, decide_false, Bool.not_true, Bool.not_false, Option.isSome_some, Option.isSome_none, q10])]
        exact copy_ok ok n1 n2 n3 hl p h0 hb hc m2 m3
      rw [ife_f (M1 := M4) (by simp (disch := first | omega | (simp only [List.length_cons, List.length_nil, List.length_map, List.length_append, List.length_reverse]; omega)) only [at0, at1, at2, at3, at4, idx_l, idx_t, rng_b, rng_b2, dec_le, dec_lt, add_t, add_l, mod_i, fdiv_i, pow_i, mul_i, exSs_nil, exSs_cons, exS, exSeq, exNil, exRet, exEx, exIf, exSet, exPar, exPut, exApp, exAug, ofE_ok, ofB_ok, ofEs_ok, andThen_nx, andThen_rt, Tg.putV, setAll, evE, evEs, evs, evn, ev1, ev2, evVar, evLit, evCon, evIf, evAnd, evOr, evCh, evTup, evLst, evCall, evSl, evPart, MP.part, evDget, evDin, evDget2, evDisp, evPs, pairK, toB, asB, notD, newK, frz, cel, siNew, siNew2, siSeq, evIt, siZip, siRng, siRng2, evLc, wipeE, Res.bind_ok, v1, v2, vn, view, views, datsOf, asKey, keyOf, putC, Bin.f, Cmp.f, Bf.f, Bn.f, isiD, isT, bD, negD, isD, isN, List.getElem?_cons_zero, List.getElem?_cons_succ, List.getElem?_nil, List.set_cons_zero, List.set_cons_succ, List.map_cons, List.map_nil, List.replicate, List.length_cons, List.length_nil, List.cons_append, List.nil_append, add_i, sub_i, int_i, int_b, len_l, len_t, tup_l, tup_t, list_l, list_t, eq_s, eq_i, lt_i, gt_i, le_i, ge_i, lt_s, Option.map_some, Option.map_none, Option.bind_some, Nat.reduceAdd, Int.reduceToNat, Int.reduceAdd, Int.reduceSub, Int.reduceNeg, Int.reduceMul, Int.reduceEq, Int.reduceLT, Int.reduceLE, cast_lit, seq_t, seq_l, if_true, ite_true, ite_false, if_false, and_true, true_and, and_self, Bool.false_eq_true, not_true, not_false_iff, decide_true, decide_false, Bool.not_true, Bool.not_false, Option.isSome_some, Option.isSome_none, q10])]
      unfold b__law_body_12
      have rest2 : TurnR h nd nl ni deep M its left c (exSs (T.cfg w (n + 2)) b__law_body_11 (envB h nd nl ni deep e4 r lb nm e11 e12 e13) M4) := by
        unfold b__law_body_11
        by_cases q12 : r = 12
        · rw [ife_t (M1 := M4) (by simp (disch := first | omega | (simp only [List.length_cons, List.length_nil, List.length_map, List.length_append, List.length_reverse]; omega)) only [at0, at1, at2, at3, at4, idx_l, idx_t, rng_b, rng_b2, dec_le, dec_lt, add_t, add_l, mod_i, fdiv_i, pow_i, mul_i, exSs_nil, exSs_cons, exS, exSeq, exNil, exRet, exEx, exIf, exSet, exPar, exPut, exApp, exAug, ofE_ok, ofB_ok, ofEs_ok, andThen_nx, andThen_rt, Tg.putV, setAll, evE, evEs, evs, evn, ev1, ev2, evVar, evLit, evCon, evIf, evAnd, evOr, evCh, evTup, evLst, evCall, evSl, evPart, MP.part, evDget, evDin, evDget2, evDisp, evPs, pairK, toB, asB, notD, newK, frz, cel, siNew, siNew2, siSeq, evIt, siZip, siRng, siRng2, evLc, wipeE, Res.bind_ok, v1, v2, vn, view, views, datsOf, asKey, keyOf, putC, Bin.f, Cmp.f, Bf.f, Bn.f, isiD, isT, bD, negD, isD, isN, List.getElem?_cons_zero, List.getElem?_cons_succ, List.getElem?_nil, List.set_cons_zero, List.set_cons_succ, List.map_cons, List.map_nil, List.replicate, List.length_cons, List.length_nil, List.cons_append, List.nil_append, add_i, sub_i, int_i, int_b, len_l, len_t, tup_l, tup_t, list_l, list_t, eq_s, eq_i, lt_i, gt_i, le_i, ge_i, lt_s, Option.map_some, Option.map_none, Option.bind_some, Nat.reduceAdd, Int.reduceToNat, Int.reduceAdd, Int.reduceSub, Int.reduceNeg, Int.reduceMul, Int.reduceEq, Int.reduceLT, Int.reduceLE, cast_lit, seq_t, seq_l, if_true, ite_true, ite_false, if_false, and_true, true_and, and_self, Bool.false_eq_true, not_true, not_false_iff, decide_true, decide_false, Bool.not_true, Bool.not_false, Option.isSome_some, Option.isSome_none, q12])]
          exact list_ok' n1 n2 n3 hl p h0 hb m2
        rw [ife_f (M1 := M4) (by simp (disch := first | omega | (simp only [List.length_cons, List.length_nil, List.length_map, List.length_append, List.length_reverse]; omega)) only [at0, at1, at2, at3, at4, idx_l, idx_t, rng_b, rng_b2, dec_le, dec_lt, add_t, add_l, mod_i, fdiv_i, pow_i, mul_i, exSs_nil, exSs_cons, exS, exSeq, exNil, exRet, exEx, exIf, exSet, exPar, exPut, exApp, exAug, ofE_ok, ofB_ok, ofEs_ok, andThen_nx, andThen_rt, Tg.putV, setAll, evE, evEs, evs, evn, ev1, ev2, evVar, evLit, evCon, evIf, evAnd, evOr, evCh, evTup, evLst, evCall, evSl, evPart, MP.part, evDget, evDin, evDget2, evDisp, evPs, pairK, toB, asB, notD, newK, frz, cel, siNew, siNew2, siSeq, evIt, siZip, siRng, siRng2, evLc, wipeE, Res.bind_ok, v1, v2, vn, view, views, datsOf, asKey, keyOf, putC, Bin.f, Cmp.f, Bf.f, Bn.f, isiD, isT, bD, negD, isD, isN, List.getElem?_cons_zero, List.getElem?_cons_succ, List.getElem?_nil, List.set_cons_zero, List.set_cons_succ, List.map_cons, List.map_nil, List.replicate, List.length_cons, List.length_nil, List.cons_append, List.nil_append, add_i, sub_i, int_i, int_b, len_l, len_t, tup_l, tup_t, list_l, list_t, eq_s, eq_i, lt_i, gt_i, le_i, ge_i, lt_s, Option.map_some, Option.map_none, Option.bind_some, Nat.reduceAdd, Int.reduceToNat, Int.reduceAdd, Int.reduceSub, Int.reduceNeg, Int.reduceMul, Int.reduceEq, Int.reduceLT, Int.reduceLE, cast_lit, seq_t, seq_l, if_true, ite_true, ite_false, if_false, and_true, true_and, and_self, Bool.false_eq_true, not_true, not_false_iff, decide_true, decide_false, Bool.not_true, Bool.not_false, Option.isSome_some, Option.isSome_none, q12])]
        unfold b__law_body_10
        by_cases q15 : r < 15
        · rw [ife_t (M1 := M4) (by simp (disch := first | omega | (simp only [List.length_cons, List.length_nil, List.length_map, List.length_append, List.length_reverse]; omega)) only [at0, at1, at2, at3, at4, idx_l, idx_t, rng_b, rng_b2, dec_le, dec_lt, add_t, add_l, mod_i, fdiv_i, pow_i, mul_i, exSs_nil, exSs_cons, exS, exSeq, exNil, exRet, exEx, exIf, exSet, exPar, exPut, exApp, exAug, ofE_ok, ofB_ok, ofEs_ok, andThen_nx, andThen_rt, Tg.putV, setAll, evE, evEs, evs, evn, ev1, ev2, evVar, evLit, evCon, evIf, evAnd, evOr, evCh, evTup, evLst, evCall, evSl, evPart, MP.part, evDget, evDin, evDget2, evDisp, evPs, pairK, toB, asB, notD, newK, frz, cel, siNew, siNew2, siSeq, evIt, siZip, siRng, siRng2, evLc, wipeE, Res.bind_ok, v1, v2, vn, view, views, datsOf, asKey, keyOf, putC, Bin.f, Cmp.f, Bf.f, Bn.f, isiD, isT, bD, negD, isD, isN, List.getElem?_cons_zero, List.getElem?_cons_succ, List.getElem?_nil, List.set_cons_zero, List.set_cons_succ, List.map_cons, List.map_nil, List.replicate, List.length_cons, List.length_nil, List.cons_append, List.nil_append, add_i, sub_i, int_i, int_b, len_l, len_t, tup_l, tup_t, list_l, list_t, eq_s, eq_i, lt_i, gt_i, le_i, ge_i, lt_s, Option.map_some, Option.map_none, Option.bind_some, Nat.reduceAdd, Int.reduceToNat, Int.reduceAdd, Int.reduceSub, Int.reduceNeg, Int.reduceMul, Int.reduceEq, Int.reduceLT, Int.reduceLE, cast_lit, seq_t, seq_l, if_true, ite_true, ite_false, if_false, and_true, true_and, and_self, Bool.false_eq_true, not_true, not_false_iff, decide_true, decide_false, Bool.not_true, Bool.not_false, Option.isSome_some, Option.isSome_none, q15])]
          exact read_ok n1 n2 n3 hl p h0 hb m2 m3
        by_cases qd : deep = 0
        · rw [ife_t (M1 := M4) (by subst qd; simp (disch := first | omega | (simp only [List.length_cons, List.length_nil, List.length_map, List.length_append, List.length_reverse]; omega)) only [at0, at1, at2, at3, at4, idx_l, idx_t, rng_b, rng_b2, dec_le, dec_lt, add_t, add_l, mod_i, fdiv_i, pow_i, mul_i, exSs_nil, exSs_cons, exS, exSeq, exNil, exRet, exEx, exIf, exSet, exPar, exPut, exApp, exAug, ofE_ok, ofB_ok, ofEs_ok, andThen_nx, andThen_rt, Tg.putV, setAll, evE, evEs, evs, evn, ev1, ev2, evVar, evLit, evCon, evIf, evAnd, evOr, evCh, evTup, evLst, evCall, evSl, evPart, MP.part, evDget, evDin, evDget2, evDisp, evPs, pairK, toB, asB, notD, newK, frz, cel, siNew, siNew2, siSeq, evIt, siZip, siRng, siRng2, evLc, wipeE, Res.bind_ok, v1, v2, vn, view, views, datsOf, asKey, keyOf, putC, Bin.f, Cmp.f, Bf.f, Bn.f, isiD, isT, bD, negD, isD, isN, List.getElem?_cons_zero, List.getElem?_cons_succ, List.getElem?_nil, List.set_cons_zero, List.set_cons_succ, List.map_cons, List.map_nil, List.replicate, List.length_cons, List.length_nil, List.cons_append, List.nil_append, add_i, sub_i, int_i, int_b, len_l, len_t, tup_l, tup_t, list_l, list_t, eq_s, eq_i, lt_i, gt_i, le_i, ge_i, lt_s, Option.map_some, Option.map_none, Option.bind_some, Nat.reduceAdd, Int.reduceToNat, Int.reduceAdd, Int.reduceSub, Int.reduceNeg, Int.reduceMul, Int.reduceEq, Int.reduceLT, Int.reduceLE, cast_lit, seq_t, seq_l, if_true, ite_true, ite_false, if_false, and_true, true_and, and_self, Bool.false_eq_true, not_true, not_false_iff, decide_true, decide_false, Bool.not_true, Bool.not_false, Option.isSome_some, Option.isSome_none, q15])]
          exact read_ok n1 n2 n3 hl p h0 hb m2 m3
        obtain ⟨d, rfl⟩ : ∃ d, deep = d + 1 := ⟨deep - 1, by omega⟩
        have qd' : ((d + 1 : Nat) : Int) ≠ 0 := by omega
        rw [ife_f (M1 := M4) (by simp (disch := first | omega | (simp only [List.length_cons, List.length_nil, List.length_map, List.length_append, List.length_reverse]; omega)) only [at0, at1, at2, at3, at4, idx_l, idx_t, rng_b, rng_b2, dec_le, dec_lt, add_t, add_l, mod_i, fdiv_i, pow_i, mul_i, exSs_nil, exSs_cons, exS, exSeq, exNil, exRet, exEx, exIf, exSet, exPar, exPut, exApp, exAug, ofE_ok, ofB_ok, ofEs_ok, andThen_nx, andThen_rt, Tg.putV, setAll, evE, evEs, evs, evn, ev1, ev2, evVar, evLit, evCon, evIf, evAnd, evOr, evCh, evTup, evLst, evCall, evSl, evPart, MP.part, evDget, evDin, evDget2, evDisp, evPs, pairK, toB, asB, notD, newK, frz, cel, siNew, siNew2, siSeq, evIt, siZip, siRng, siRng2, evLc, wipeE, Res.bind_ok, v1, v2, vn, view, views, datsOf, asKey, keyOf, putC, Bin.f, Cmp.f, Bf.f, Bn.f, isiD, isT, bD, negD, isD, isN, List.getElem?_cons_zero, List.getElem?_cons_succ, List.getElem?_nil, List.set_cons_zero, List.set_cons_succ, List.map_cons, List.map_nil, List.replicate, List.length_cons, List.length_nil, List.cons_append, List.nil_append, add_i, sub_i, int_i, int_b, len_l, len_t, tup_l, tup_t, list_l, list_t, eq_s, eq_i, lt_i, gt_i, le_i, ge_i, lt_s, Option.map_some, Option.map_none, Option.bind_some, Nat.reduceAdd, Int.reduceToNat, Int.reduceAdd, Int.reduceSub, Int.reduceNeg, Int.reduceMul, Int.reduceEq, Int.reduceLT, Int.reduceLE, cast_lit, seq_t, seq_l, if_true, ite_true, ite_false, if_false, and_true, true_and, and_self, Bool.false_eq_true, not_true, not_false_iff, decide_true, decide_false, Bool.not_true, Bool.not_false, Option.isSome_some, Option.isSome_none, q15, qd'])]
        unfold b__law_body_9
        by_cases q : r = 15 ∧ h.ns.length = 2
        · rw [ife_t (M1 := M4) (by simp (disch := first | omega | (simp only [List.length_cons, List.length_nil, List.length_map, List.length_append, List.length_reverse]; omega)) only [at0, at1, at2, at3, at4, idx_l, idx_t, rng_b, rng_b2, dec_le, dec_lt, add_t, add_l, mod_i, fdiv_i, pow_i, mul_i, exSs_nil, exSs_cons, exS, exSeq, exNil, exRet, exEx, exIf, exSet, exPar, exPut, exApp, exAug, ofE_ok, ofB_ok, ofEs_ok, andThen_nx, andThen_rt, Tg.putV, setAll, evE, evEs, evs, evn, ev1, ev2, evVar, evLit, evCon, evIf, evAnd, evOr, evCh, evTup, evLst, evCall, evSl, evPart, MP.part, evDget, evDin, evDget2, evDisp, evPs, pairK, toB, asB, notD, newK, frz, cel, siNew, siNew2, siSeq, evIt, siZip, siRng, siRng2, evLc, wipeE, Res.bind_ok, v1, v2, vn, view, views, datsOf, asKey, keyOf, putC, Bin.f, Cmp.f, Bf.f, Bn.f, isiD, isT, bD, negD, isD, isN, List.getElem?_cons_zero, List.getElem?_cons_succ, List.getElem?_nil, List.set_cons_zero, List.set_cons_succ, List.map_cons, List.map_nil, List.replicate, List.length_cons, List.length_nil, List.cons_append, List.nil_append, add_i, sub_i, int_i, int_b, len_l, len_t, tup_l, tup_t, list_l, list_t, eq_s, eq_i, lt_i, gt_i, le_i, ge_i, lt_s, Option.map_some, Option.map_none, Option.bind_some, Nat.reduceAdd, Int.reduceToNat, Int.reduceAdd, Int.reduceSub, Int.reduceNeg, Int.reduceMul, Int.reduceEq, Int.reduceLT, Int.reduceLE, cast_lit, seq_t, seq_l, if_true, ite_true, ite_false, if_false, and_true, true_and, and_self, Bool.false_eq_true, not_true, not_false_iff, decide_true, decide_false, Bool.not_true, Bool.not_false, Option.isSome_some, Option.isSome_none, q.1, List.length_map, q.2])]
          exact same_ok ok (ih d rfl) n1 n2 n3 hl p h0 hc q.2
        · rw [ife_f (M1 := M4) (by
            by_cases qa : r = 15
            · have qb : ((h.ns.length : Nat) : Int) ≠ 2 := by omega
              simp (disch := first | omega | (simp only [List.length_cons, List.length_nil, List.length_map, List.length_append, List.length_reverse]; omega)) only [at0, at1, at2, at3, at4, idx_l, idx_t, rng_b, rng_b2, dec_le, dec_lt, add_t, add_l, mod_i, fdiv_i, pow_i, mul_i, exSs_nil, exSs_cons, exS, exSeq, exNil, exRet, exEx, exIf, exSet, exPar, exPut, exApp, exAug, ofE_ok, ofB_ok, ofEs_ok, andThen_nx, andThen_rt, Tg.putV, setAll, evE, evEs, evs, evn, ev1, ev2, evVar, evLit, evCon, evIf, evAnd, evOr, evCh, evTup, evLst, evCall, evSl, evPart, MP.part, evDget, evDin, evDget2, evDisp, evPs, pairK, toB, asB, notD, newK, frz, cel, siNew, siNew2, siSeq, evIt, siZip, siRng, siRng2, evLc, wipeE, Res.bind_ok, v1, v2, vn, view, views, datsOf, asKey, keyOf, putC, Bin.f, Cmp.f, Bf.f, Bn.f, isiD, isT, bD, negD, isD, isN, List.getElem?_cons_zero, List.getElem?_cons_succ, List.getElem?_nil, List.set_cons_zero, List.set_cons_succ, List.map_cons, List.map_nil, List.replicate, List.length_cons, List.length_nil, List.cons_append, List.nil_append, add_i, sub_i, int_i, int_b, len_l, len_t, tup_l, tup_t, list_l, list_t, eq_s, eq_i, lt_i, gt_i, le_i, ge_i, lt_s, Option.map_some, Option.map_none, Option.bind_some, Nat.reduceAdd, Int.reduceToNat, Int.reduceAdd, Int.reduceSub, Int.reduceNeg, Int.reduceMul, Int.reduceEq, Int.reduceLT, Int.reduceLE, cast_lit, seq_t, seq_l, if_true, ite_true, ite_false, if_false, and_true, true_and, and_self, Bool.false_eq_true, not_true, not_false_iff, decide_true, decide_false, Bool.not_true, Bool.not_false, Option.isSome_some, Option.isSome_none, qa, List.length_map, qb]
            · simp (disch := first | omega | (simp only [List.length_cons, List.length_nil, List.length_map, List.length_append, List.length_reverse]; omega)) only [at0, at1, at2, at3, at4, idx_l, idx_t, rng_b, rng_b2, dec_le, dec_lt, add_t, add_l, mod_i, fdiv_i, pow_i, mul_i, exSs_nil, exSs_cons, exS, exSeq, exNil, exRet, exEx, exIf, exSet, exPar, exPut, exApp, exAug, ofE_ok, ofB_ok, ofEs_ok, andThen_nx, andThen_rt, Tg.putV, setAll, evE, evEs, evs, evn, ev1, ev2, evVar, evLit, evCon, evIf, evAnd, evOr, evCh, evTup, evLst, evCall, evSl, evPart, MP.part, evDget, evDin, evDget2, evDisp, evPs, pairK, toB, asB, notD, newK, frz, cel, siNew, siNew2, siSeq, evIt, siZip, siRng, siRng2, evLc, wipeE, Res.bind_ok, v1, v2, vn, view, views, datsOf, asKey, keyOf, putC, Bin.f, Cmp.f, Bf.f, Bn.f, isiD, isT, bD, negD, isD, isN, List.getElem?_cons_zero, List.getElem?_cons_succ, List.getElem?_nil, List.set_cons_zero, List.set_cons_succ, List.map_cons, List.map_nil, List.replicate, List.length_cons, List.length_nil, List.cons_append, List.nil_append, add_i, sub_i, int_i, int_b, len_l, len_t, tup_l, tup_t, list_l, list_t, eq_s, eq_i, lt_i, gt_i, le_i, ge_i, lt_s, Option.map_some, Option.map_none, Option.bind_some, Nat.reduceAdd, Int.reduceToNat, Int.reduceAdd, Int.reduceSub, Int.reduceNeg, Int.reduceMul, Int.reduceEq, Int.reduceLT, Int.reduceLE, cast_lit, seq_t, seq_l, if_true, ite_true, ite_false, if_false, and_true, true_and, and_self, Bool.false_eq_true, not_true, not_false_iff, decide_true, decide_false, Bool.not_true, Bool.not_false, Option.isSome_some, Option.isSome_none, qa])]
          exact if_ok ok (ih d rfl) n1 n2 n3 hl p h0 hc m2 m3
      by_cases q : r < 12 ∧ h.L.length = 2 ∧ h.ns.length = 1
      · rw [ife_t (M1 := M4) (by simp (disch := first | omega | (simp only [List.length_cons, List.length_nil, List.length_map, List.length_append, List.length_reverse]; omega)) only [at0, at1, at2, at3, at4, idx_l, idx_t, rng_b, rng_b2, dec_le, dec_lt, add_t, add_l, mod_i, fdiv_i, pow_i, mul_i, exSs_nil, exSs_cons, exS, exSeq, exNil, exRet, exEx, exIf, exSet, exPar, exPut, exApp, exAug, ofE_ok, ofB_ok, ofEs_ok, andThen_nx, andThen_rt, Tg.putV, setAll, evE, evEs, evs, evn, ev1, ev2, evVar, evLit, evCon, evIf, evAnd, evOr, evCh, evTup, evLst, evCall, evSl, evPart, MP.part, evDget, evDin, evDget2, evDisp, evPs, pairK, toB, asB, notD, newK, frz, cel, siNew, siNew2, siSeq, evIt, siZip, siRng, siRng2, evLc, wipeE, Res.bind_ok, v1, v2, vn, view, views, datsOf, asKey, keyOf, putC, Bin.f, Cmp.f, Bf.f, Bn.f, isiD, isT, bD, negD, isD, isN, List.getElem?_cons_zero, List.getElem?_cons_succ, List.getElem?_nil, List.set_cons_zero, List.set_cons_succ, List.map_cons, List.map_nil, List.replicate, List.length_cons, List.length_nil, List.cons_append, List.nil_append, add_i, sub_i, int_i, int_b, len_l, len_t, tup_l, tup_t, list_l, list_t, eq_s, eq_i, lt_i, gt_i, le_i, ge_i, lt_s, Option.map_some, Option.map_none, Option.bind_some, Nat.reduceAdd, Int.reduceToNat, Int.reduceAdd, Int.reduceSub, Int.reduceNeg, Int.reduceMul, Int.reduceEq, Int.reduceLT, Int.reduceLE, cast_lit, seq_t, seq_l, if_true, ite_true, ite_false, if_false, and_true, true_and, and_self, Bool.false_eq_true, not_true, not_false_iff, decide_true, decide_false, Bool.not_true, Bool.not_false, Option.isSome_some, Option.isSome_none, q.1, List.length_map, q.2.1, q.2.2])]
        exact all_ok' ok n1 n2 n3 hl p h0 hb m2 q.2.1
      · rw [ife_f (M1 := M4) (by
          by_cases qa : r < 12
          · by_cases qb : ((h.L.length : Nat) : Int) = 2
            · have qc : ((h.ns.length : Nat) : Int) ≠ 1 := by omega
              simp (disch := first | omega | (simp only [List.length_cons, List.length_nil, List.length_map, List.length_append, List.length_reverse]; omega)) only [at0, at1, at2, at3, at4, idx_l, idx_t, rng_b, rng_b2, dec_le, dec_lt, add_t, add_l, mod_i, fdiv_i, pow_i, mul_i, exSs_nil, exSs_cons, exS, exSeq, exNil, exRet, exEx, exIf, exSet, exPar, exPut, exApp, exAug, ofE_ok, ofB_ok, ofEs_ok, andThen_nx, andThen_rt, Tg.putV, setAll, evE, evEs, evs, evn, ev1, ev2, evVar, evLit, evCon, evIf, evAnd, evOr, evCh, evTup, evLst, evCall, evSl, evPart, MP.part, evDget, evDin, evDget2, evDisp, evPs, pairK, toB, asB, notD, newK, frz, cel, siNew, siNew2, siSeq, evIt, siZip, siRng, siRng2, evLc, wipeE, Res.bind_ok, v1, v2, vn, view, views, datsOf, asKey, keyOf, putC, Bin.f, Cmp.f, Bf.f, Bn.f, isiD, isT, bD, negD, isD, isN, List.getElem?_cons_zero, List.getElem?_cons_succ, List.getElem?_nil, List.set_cons_zero, List.set_cons_succ, List.map_cons, List.map_nil, List.replicate, List.length_cons, List.length_nil, List.cons_append, List.nil_append, add_i, sub_i, int_i, int_b, len_l, len_t, tup_l, tup_t, list_l, list_t, eq_s, eq_i, lt_i, gt_i, le_i, ge_i, lt_s, Option.map_some, Option.map_none, Option.bind_some, Nat.reduceAdd, Int.reduceToNat, Int.reduceAdd, Int.reduceSub, Int.reduceNeg, Int.reduceMul, Int.reduceEq, Int.reduceLT, Int.reduceLE, cast_lit, seq_t, seq_l, if_true, ite_true, ite_false, if_false, and_true, true_and, and_self, Bool.false_eq_true, not_true, not_false_iff, decide_true, decide_false, Bool.not_true, Bool.not_false, Option.isSome_some, Option.isSome_none, qa, List.length_map, qb, qc]
            · simp (disch := first | omega | (simp only [List.length_cons, List.length_nil, List.length_map, List.length_append, List.length_reverse]; omega)) only [at0, at1, at2, at3, at4, idx_l, idx_t, rng_b, rng_b2, dec_le, dec_lt, add_t, add_l, mod_i, fdiv_i, pow_i, mul_i, exSs_nil, exSs_cons, exS, exSeq, exNil, exRet, exEx, exIf, exSet, exPar, exPut, exApp, exAug, ofE_ok, ofB_ok, ofEs_ok, andThen_nx, andThen_rt, Tg.putV, setAll, evE, evEs, evs, evn, ev1, ev2, evVar, evLit, evCon, evIf, evAnd, evOr, evCh, evTup, evLst, evCall, evSl, evPart, MP.part, evDget, evDin, evDget2, evDisp, evPs, pairK, toB, asB, notD, newK, frz, cel, siNew, siNew2, siSeq, evIt, siZip, siRng, siRng2, evLc, wipeE, Res.bind_ok, v1, v2, vn, view, views, datsOf, asKey, keyOf, putC, Bin.f, Cmp.f, Bf.f, Bn.f, isiD, isT, bD, negD, isD, isN, List.getElem?_cons_zero, List.getElem?_cons_succ, List.getElem?_nil, List.set_cons_zero, List.set_cons_succ, List.map_cons, List.map_nil, List.replicate, List.length_cons, List.length_nil, List.cons_append, List.nil_append, add_i, sub_i, int_i, int_b, len_l, len_t, tup_l, tup_t, list_l, list_t, eq_s, eq_i, lt_i, gt_i, le_i, ge_i, lt_s, Option.map_some, Option.map_none, Option.bind_some, Nat.reduceAdd, Int.reduceToNat, Int.reduceAdd, Int.reduceSub, Int.reduceNeg, Int.reduceMul, Int.reduceEq, Int.reduceLT, Int.reduceLE, cast_lit, seq_t, seq_l, if_true, ite_true, ite_false, if_false, and_true, true_and, and_self, Bool.false_eq_true, not_true, not_false_iff, decide_true, decide_false, Bool.not_true, Bool.not_false, Option.isSome_some, Option.isSome_none, qa, List.length_map, qb]
          · simp (disch := first | omega | (simp only [List.length_cons, List.length_nil, List.length_map, List.length_append, List.length_reverse]; omega)) only [at0, at1, at2, at3, at4, idx_l, idx_t, rng_b, rng_b2, dec_le, dec_lt, add_t, add_l, mod_i, fdiv_i, pow_i, mul_i, exSs_nil, exSs_cons, exS, exSeq, exNil, exRet, exEx, exIf, exSet, exPar, exPut, exApp, exAug, ofE_ok, ofB_ok, ofEs_ok, andThen_nx, andThen_rt, Tg.putV, setAll, evE, evEs, evs, evn, ev1, ev2, evVar, evLit, evCon, evIf, evAnd, evOr, evCh, evTup, evLst, evCall, evSl, evPart, MP.part, evDget, evDin, evDget2, evDisp, evPs, pairK, toB, asB, notD, newK, frz, cel, siNew, siNew2, siSeq, evIt, siZip, siRng, siRng2, evLc, wipeE, Res.bind_ok, v1, v2, vn, view, views, datsOf, asKey, keyOf, putC, Bin.f, Cmp.f, Bf.f, Bn.f, isiD, isT, bD, negD, isD, isN, List.getElem?_cons_zero, List.getElem?_cons_succ, List.getElem?_nil, List.set_cons_zero, List.set_cons_succ, List.map_cons, List.map_nil, List.replicate, List.length_cons, List.length_nil, List.cons_append, List.nil_append, add_i, sub_i, int_i, int_b, len_l, len_t, tup_l, tup_t, list_l, list_t, eq_s, eq_i, lt_i, gt_i, le_i, ge_i, lt_s, Option.map_some, Option.map_none, Option.bind_some, Nat.reduceAdd, Int.reduceToNat, Int.reduceAdd, Int.reduceSub, Int.reduceNeg, Int.reduceMul, Int.reduceEq, Int.reduceLT, Int.reduceLE, cast_lit, seq_t, seq_l, if_true, ite_true, ite_false, if_false, and_true, true_and, and_self, Bool.false_eq_true, not_true, not_false_iff, decide_true, decide_false, Bool.not_true, Bool.not_false, Option.isSome_some, Option.isSome_none, qa])]
        exact rest2
    by_cases q : r < 8 ∧ h.ns.length = 2
    · rw [ife_t (M1 := M4) (by simp (disch := first | omega | (simp only [List.length_cons, List.length_nil, List.length_map, List.length_append, List.length_reverse]; omega)) only [at0, at1, at2, at3, at4, idx_l, idx_t, rng_b, rng_b2, dec_le, dec_lt, add_t, add_l, mod_i, fdiv_i, pow_i, mul_i, exSs_nil, exSs_cons, exS, exSeq, exNil, exRet, exEx, exIf, exSet, exPar, exPut, exApp, exAug, ofE_ok, ofB_ok, ofEs_ok, andThen_nx, andThen_rt, Tg.putV, setAll, evE, evEs, evs, evn, ev1, ev2, evVar, evLit, evCon, evIf, evAnd, evOr, evCh, evTup, evLst, evCall, evSl, evPart, MP.part, evDget, evDin, evDget2, evDisp, evPs, pairK, toB, asB, notD, newK, frz, cel, siNew, siNew2, siSeq, evIt, siZip, siRng, siRng2, evLc, wipeE, Res.bind_ok, v1, v2, vn, view, views, datsOf, asKey, keyOf, putC, Bin.f, Cmp.f, Bf.f, Bn.f, isiD, isT, bD, negD, isD, isN, List.getElem?_cons_zero, List.getElem?_cons_succ, List.getElem?_nil, List.set_cons_zero, List.set_cons_succ, List.map_cons, List.map_nil, List.replicate, List.length_cons, List.length_nil, List.cons_append, List.nil_append, add_i, sub_i, int_i, int_b, len_l, len_t, tup_l, tup_t, list_l, list_t, eq_s, eq_i, lt_i, gt_i, le_i, ge_i, lt_s, Option.map_some, Option.map_none, Option.bind_some, Nat.reduceAdd, Int.reduceToNat, Int.reduceAdd, Int.reduceSub, Int.reduceNeg, Int.reduceMul, Int.reduceEq, Int.reduceLT, Int.reduceLE, cast_lit, seq_t, seq_l, if_true, ite_true, ite_false, if_false, and_true, true_and, and_self, Bool.false_eq_true, not_true, not_false_iff, decide_true, decide_false, Bool.not_true, Bool.not_false, Option.isSome_some, Option.isSome_none, q.1, List.length_map, q.2])]
      exact rename_ok ok n1 n2 n3 hl p h0 hb m2 m3 q.2
    · rw [ife_f (M1 := M4) (by
        by_cases qa : r < 8
        · have qb : ((h.ns.length : Nat) : Int) ≠ 2 := by omega
          simp (disch := first | omega | (simp only [List.length_cons, List.length_nil, List.length_map, List.length_append, List.length_reverse]; omega)) only [at0, at1, at2, at3, at4, idx_l, idx_t, rng_b, rng_b2, dec_le, dec_lt, add_t, add_l, mod_i, fdiv_i, pow_i, mul_i, exSs_nil, exSs_cons, exS, exSeq, exNil, exRet, exEx, exIf, exSet, exPar, exPut, exApp, exAug, ofE_ok, ofB_ok, ofEs_ok, andThen_nx, andThen_rt, Tg.putV, setAll, evE, evEs, evs, evn, ev1, ev2, evVar, evLit, evCon, evIf, evAnd, evOr, evCh, evTup, evLst, evCall, evSl, evPart, MP.part, evDget, evDin, evDget2, evDisp, evPs, pairK, toB, asB, notD, newK, frz, cel, siNew, siNew2, siSeq, evIt, siZip, siRng, siRng2, evLc, wipeE, Res.bind_ok, v1, v2, vn, view, views, datsOf, asKey, keyOf, putC, Bin.f, Cmp.f, Bf.f, Bn.f, isiD, isT, bD, negD, isD, isN, List.getElem?_cons_zero, List.getElem?_cons_succ, List.getElem?_nil, List.set_cons_zero, List.set_cons_succ, List.map_cons, List.map_nil, List.replicate, List.length_cons, List.length_nil, List.cons_append, List.nil_append, add_i, sub_i, int_i, int_b, len_l, len_t, tup_l, tup_t, list_l, list_t, eq_s, eq_i, lt_i, gt_i, le_i, ge_i, lt_s, Option.map_some, Option.map_none, Option.bind_some, Nat.reduceAdd, Int.reduceToNat, Int.reduceAdd, Int.reduceSub, Int.reduceNeg, Int.reduceMul, Int.reduceEq, Int.reduceLT, Int.reduceLE, cast_lit, seq_t, seq_l, if_true, ite_true, ite_false, if_false, and_true, true_and, and_self, Bool.false_eq_true, not_true, not_false_iff, decide_true, decide_false, Bool.not_true, Bool.not_false, Option.isSome_some, Option.isSome_none, qa, List.length_map, qb]
        · simp (disch := first | omega | (simp only [List.length_cons, List.length_nil, List.length_map, List.length_append, List.length_reverse]; omega)) only [at0, at1, at2, at3, at4, idx_l, idx_t, rng_b, rng_b2, dec_le, dec_lt, add_t, add_l, mod_i, fdiv_i, pow_i, mul_i, exSs_nil, exSs_cons, exS, exSeq, exNil, exRet, exEx, exIf, exSet, exPar, exPut, exApp, exAug, ofE_ok, ofB_ok, ofEs_ok, andThen_nx, andThen_rt, Tg.putV, setAll, evE, evEs, evs, evn, ev1, ev2, evVar, evLit, evCon, evIf, evAnd, evOr, evCh, evTup, evLst, evCall, evSl, evPart, MP.part, evDget, evDin, evDget2, evDisp, evPs, pairK, toB, asB, notD, newK, frz, cel, siNew, siNew2, siSeq, evIt, siZip, siRng, siRng2, evLc, wipeE, Res.bind_ok, v1, v2, vn, view, views, datsOf, asKey, keyOf, putC, Bin.f, Cmp.f, Bf.f, Bn.f, isiD, isT, bD, negD, isD, isN, List.getElem?_cons_zero, List.getElem?_cons_succ, List.getElem?_nil, List.set_cons_zero, List.set_cons_succ, List.map_cons, List.map_nil, List.replicate, List.length_cons, List.length_nil, List.cons_append, List.nil_append, add_i, sub_i, int_i, int_b, len_l, len_t, tup_l, tup_t, list_l, list_t, eq_s, eq_i, lt_i, gt_i, le_i, ge_i, lt_s, Option.map_some, Option.map_none, Option.bind_some, Nat.reduceAdd, Int.reduceToNat, Int.reduceAdd, Int.reduceSub, Int.reduceNeg, Int.reduceMul, Int.reduceEq, Int.reduceLT, Int.reduceLE, cast_lit, seq_t, seq_l, if_true, ite_true, ite_false, if_false, and_true, true_and, and_self, Bool.false_eq_true, not_true, not_false_iff, decide_true, decide_false, Bool.not_true, Bool.not_false, Option.isSome_some, Option.isSome_none, qa])]
      exact rest
theorem BS.set4 {h : Hd} {nd nl ni : Nat} {deep : Int} {env : MP.Env} {M : Mem} {its : List It} {left c : Int} (b : BS h nd nl ni deep env M its left c) (v : Val) : BS h nd nl ni deep (env.set 4 (some v)) M its left c := by
  obtain ⟨⟨e4, e8, e9, e10, e11, e12, e13, rfl⟩, hd, hL, hI⟩ := b
  exact ⟨⟨some v, e8, e9, e10, e11, e12, e13, rfl⟩, hd, hL, hI⟩
/-- what the loop keeps -/
structure LoopP (h : Hd) (nd nl ni : Nat) (deep : Nat) (M M' : Mem) (its its' : List It) (left left' c' : Int) : Prop where
  ok : Its h.L h.ns its'
  dp : depths its' ≤ deep
  sz : sizes its' + left'.toNat ≤ sizes its + left.toNat
  lt : left' ≤ left
  ln : its'.length ≤ 4
  l : M'[nl]? = some (.lst [.dat (.int left')])
  d : DeckAt M' nd c'
  o : Only [nd, nl, ni] M M'
theorem loop_ok {w : Mw} {n : Nat} {h : Hd} (ok : h.Ok) {nd nl ni : Nat} {deep : Nat} (ih : ∀ d, deep = d + 1 → BodyP w h (n + 2) d) (n1 : nd ≠ nl) (n2 : nd ≠ ni) (n3 : nl ≠ ni) :
    ∀ (ds : List PyData) (env : MP.Env) (M : Mem) (its : List It) (left c : Int), BS h nd nl ni deep env M its left c → Its h.L h.ns its → depths its ≤ deep → its.length + ds.length ≤ 4 → c + ds.length * (bud deep / 5) < 1073741824 →
    (∃ its' M' left', forS (.nm 4) (exSs (T.cfg w (n + 2)) b__law_body_16) ds env M = .ok (.rt (.dat (.tuple (encs its')))) M' ∧ LoopP h nd nl ni deep M M' its its' left left' (c + ds.length * (bud deep / 5)) ∧ left' < left) ∨
    ∃ its' env' M' left', forS (.nm 4) (exSs (T.cfg w (n + 2)) b__law_body_16) ds env M = .ok (.nx env') M' ∧ BS h nd nl ni deep env' M' its' left' (c + ds.length * (bud deep / 5)) ∧ LoopP h nd nl ni deep M M' its its' left left' (c + ds.length * (bud deep / 5)) ∧ (ds ≠ [] → left' < left)
  | [], env, M, its, left, c, b, hi, hd, hl, hc => by
    refine .inr ⟨its, env, M, left, rfl, ?_, ⟨hi, hd, Nat.le_refl _, Int.le_refl _, by simpa using hl, b.l, ?_, Only.refl⟩, fun z => absurd rfl z⟩
    · simpa using b
    · simpa using b.d
  | d :: ds, env, M, its, left, c, b, hi, hd, hl, hc => by
    have hb := bud_pos deep
    simp only [List.length_cons] at hl hc
    have hmul : ((ds.length + 1 : Nat) : Int) * (bud deep / 5) = ds.length * (bud deep / 5) + (bud deep / 5) := by
      rw [Int.natCast_add, Int.add_mul]; simp
    rw [hmul] at hc
    have hnn : 0 ≤ (ds.length : Int) * (bud deep / 5) := Int.mul_nonneg (by omega) (by omega)
    have t := turn_ok ok ih n1 n2 n3 (b.set4 (.dat d)) (by omega) (by omega)
    have eq : forS (.nm 4) (exSs (T.cfg w (n + 2)) b__law_body_16) (d :: ds) env M = (match exSs (T.cfg w (n + 2)) b__law_body_16 (env.set 4 (some (.dat d))) M with
      | .ok (.nx env2) M2 => forS (.nm 4) (exSs (T.cfg w (n + 2)) b__law_body_16) ds env2 M2
      | .ok (.ct env2) M2 => forS (.nm 4) (exSs (T.cfg w (n + 2)) b__law_body_16) ds env2 M2
      | .ok (.bk env2) M2 => .ok (.nx env2) M2
      | r => r) := rfl
    rcases t with ⟨M', left', e, g1, g2, g3, g4, g5⟩ | ⟨it, env', M', left', e, b', k1, k2, k3, k4, k5⟩
    · left
      refine ⟨its, M', left', by rw [eq, e], ⟨hi, hd, by omega, by omega, by omega, g3, g4.le (by rw [List.length_cons, hmul]; omega), g5⟩, g1⟩
    · have i2 := its_app its it hi k1
      have d2 : depths (its ++ [it]) ≤ deep := by rw [depths_app]; omega
      have s2 := sizes_app its it
      rcases loop_ok ok ih n1 n2 n3 ds env' M' (its ++ [it]) left' _ b' i2 d2 (by simp; omega) (by omega) with ⟨its', M2, l2, e2, p2, q2⟩ | ⟨its', env2, M2, l2, e2, b2, p2, q2⟩
      · left
        exact ⟨its', M2, l2, by rw [eq, e]; exact e2, ⟨p2.ok, p2.dp, by have := p2.sz; omega, by have := p2.lt; omega, p2.ln, p2.l, p2.d.le (by rw [List.length_cons, hmul]; omega), k5.trans p2.o⟩, by omega⟩
      · right
        have hc' : c + (bud deep / 5) + ds.length * (bud deep / 5) = c + ((d :: ds).length : Nat) * (bud deep / 5) := by rw [List.length_cons, hmul]; omega
        exact ⟨its', env2, M2, l2, by rw [eq, e]; exact e2, by rw [← hc']; exact b2, ⟨p2.ok, p2.dp, by have := p2.sz; omega, by have := p2.lt; omega, p2.ln, p2.l, by rw [← hc']; exact p2.d, k5.trans p2.o⟩, fun _ => by have := p2.lt; omega⟩
theorem f_body : T.fn "_law_body" = some d__law_body := by rfl
theorem rngD_le (a : Int) (n : Nat) : (rngD a n).length = n := rngD_len a n
theorem hd_lab (h : Hd) : (h.ls.map fun p => PyData.tuple [.str p.1, .str p.2]).map (fun d => match d with
  | .tuple (x :: _) => x
  | _ => .none) = h.L.map .str := by
  unfold Hd.L
  rw [List.map_map, List.map_map]
  rfl
theorem body_step {w : Mw} {n : Nat} {h : Hd} (ok : h.Ok) {deep : Nat} (ih : ∀ d, deep = d + 1 → BodyP w h (n + 2) d) : BodyP w h (n + 3) deep := by
  intro M nd nl c left n1 hd hc hL
  have hb := bud_pos deep
  have ltd : nd < M.length := by obtain ⟨_, _, _, q, _⟩ := hd; exact (List.getElem?_eq_some_iff.mp q).1
  have ltl : nl < M.length := (List.getElem?_eq_some_iff.mp hL).1
  obtain ⟨M1, hM1⟩ : ∃ M1, M1 = M ++ [.lst []] := ⟨_, rfl⟩
  have o1 : Only [] M M1 := by rw [hM1]; exact Only.new
  have hI1 : M1[M.length]? = some (.lst []) := by rw [hM1]; simp
  obtain ⟨r, M2, c2, g1, g2, d2, o2, l2⟩ := pick_at (w := w) (n := n + 1) (L := 4) (hd.keep o1 (by simp)) (by omega) (by omega) (by omega)
  have hI2 : M2[M.length]? = some (.lst []) := o2.get hI1 (by simp; omega)
  have hL2 : M2[nl]? = some (.lst [.dat (.int left)]) := o2.get (o1.get hL (by simp)) (by simp [Ne.symm n1])
  have s1 : exS (T.cfg w (n + 2)) (.par [5, 6, 7] [(.lst true []), (.lc false .seq [(.idx (.var 1) (.lit (.int 0)))] (.nm 11) [("store", 11)] [] (.idx (.var 11) (.lit (.int 0)))), (.bn false .list [(.idx (.var 1) (.lit (.int 1)))])]) [some (.ob nd), some (.dat h.enc), some (.dat (.int deep)), some (.ob nl), none, none, none, none, none, none, none, none, none, none] M =
      .ok (.nx [some (.ob nd), some (.dat h.enc), some (.dat (.int deep)), some (.ob nl), none, some (.ob M.length), some (.dat (.list (h.L.map .str))), some (.dat (.list (h.ns.map .str))), none, none, none, none, none, none]) M1 := by
    have hlc : ∀ (elt : Sm) (env : MP.Env), (∀ p : Str × Str, ∃ env1, (Tg.nm 11).put (.tuple [.str p.1, .str p.2]) env = some env1 ∧ elt env1 M1 = .ok (.dat (.str p.1)) M1) → lcS (.nm 11) none elt (h.ls.map fun p => PyData.tuple [.str p.1, .str p.2]) env M1 = .ok (h.L.map .str) M1 := by
      intro elt env hh
      rw [← hd_lab]
      refine lcS_map _ fun d hd' => ?_
      obtain ⟨p, _, rfl⟩ := List.mem_map.mp hd'
      exact hh p
    have hlen : h.ls.length ≤ 2 := by have := (hd_l h ok).2; simpa [Hd.L] using this
    simp (disch := first | omega | (simp only [List.length_cons, List.length_nil, List.length_map, List.length_append, List.length_reverse]; omega)) only [at0, at1, at2, at3, at4, idx_l, idx_t, rng_b, rng_b2, dec_le, dec_lt, add_t, add_l, mod_i, fdiv_i, pow_i, mul_i, exSs_nil, exSs_cons, exS, exSeq, exNil, exRet, exEx, exIf, exSet, exPar, exPut, exApp, exAug, ofE_ok, ofB_ok, ofEs_ok, andThen_nx, andThen_rt, Tg.putV, setAll, evE, evEs, evs, evn, ev1, ev2, evVar, evLit, evCon, evIf, evAnd, evOr, evCh, evTup, evLst, evCall, evSl, evPart, MP.part, evDget, evDin, evDget2, evDisp, evPs, pairK, toB, asB, notD, newK, frz, cel, siNew, siNew2, siSeq, evIt, siZip, siRng, siRng2, evLc, wipeE, Res.bind_ok, v1, v2, vn, view, views, datsOf, asKey, keyOf, putC, Bin.f, Cmp.f, Bf.f, Bn.f, isiD, isT, bD, negD, isD, isN, List.getElem?_cons_zero, List.getElem?_cons_succ, List.getElem?_nil, List.set_cons_zero, List.set_cons_succ, List.map_cons, List.map_nil, List.replicate, List.length_cons, List.length_nil, List.cons_append, List.nil_append, add_i, sub_i, int_i, int_b, len_l, len_t, tup_l, tup_t, list_l, list_t, eq_s, eq_i, lt_i, gt_i, le_i, ge_i, lt_s, Option.map_some, Option.map_none, Option.bind_some, Nat.reduceAdd, Int.reduceToNat, Int.reduceAdd, Int.reduceSub, Int.reduceNeg, Int.reduceMul, Int.reduceEq, Int.reduceLT, Int.reduceLE, cast_lit, seq_t, seq_l, if_true, ite_true, ite_false, if_false, and_true, true_and, and_self, Bool.false_eq_true, not_true, not_false_iff, decide_true, decide_false, Bool.not_true, Bool.not_false, Option.isSome_some, Option.isSome_none, Hd.enc, Hd.ss, Hd.nms, seqD, Res.nx, ← hM1]
    rw [hlc _ _ (fun p => ⟨_, rfl, by simp (disch := first | omega | (simp only [List.length_cons, List.length_nil, List.length_map, List.length_append, List.length_reverse]; omega)) only [at0, at1, at2, at3, at4, idx_l, idx_t, rng_b, rng_b2, dec_le, dec_lt, add_t, add_l, mod_i, fdiv_i, pow_i, mul_i, exSs_nil, exSs_cons, exS, exSeq, exNil, exRet, exEx, exIf, exSet, exPar, exPut, exApp, exAug, ofE_ok, ofB_ok, ofEs_ok, andThen_nx, andThen_rt, Tg.putV, setAll, evE, evEs, evs, evn, ev1, ev2, evVar, evLit, evCon, evIf, evAnd, evOr, evCh, evTup, evLst, evCall, evSl, evPart, MP.part, evDget, evDin, evDget2, evDisp, evPs, pairK, toB, asB, notD, newK, frz, cel, siNew, siNew2, siSeq, evIt, siZip, siRng, siRng2, evLc, wipeE, Res.bind_ok, v1, v2, vn, view, views, datsOf, asKey, keyOf, putC, Bin.f, Cmp.f, Bf.f, Bn.f, isiD, isT, bD, negD, isD, isN, List.getElem?_cons_zero, List.getElem?_cons_succ, List.getElem?_nil, List.set_cons_zero, List.set_cons_succ, List.map_cons, List.map_nil, List.replicate, List.length_cons, List.length_nil, List.cons_append, List.nil_append, add_i, sub_i, int_i, int_b, len_l, len_t, tup_l, tup_t, list_l, list_t, eq_s, eq_i, lt_i, gt_i, le_i, ge_i, lt_s, Option.map_some, Option.map_none, Option.bind_some, Nat.reduceAdd, Int.reduceToNat, Int.reduceAdd, Int.reduceSub, Int.reduceNeg, Int.reduceMul, Int.reduceEq, Int.reduceLT, Int.reduceLE, cast_lit, seq_t, seq_l, if_true, ite_true, ite_false, if_false, and_true, true_and, and_self, Bool.false_eq_true, not_true, not_false_iff, decide_true, decide_false, Bool.not_true, Bool.not_false, Option.isSome_some, Option.isSome_none, ]⟩)]
    simp (disch := first | omega | (simp only [List.length_cons, List.length_nil, List.length_map, List.length_append, List.length_reverse]; omega)) only [at0, at1, at2, at3, at4, idx_l, idx_t, rng_b, rng_b2, dec_le, dec_lt, add_t, add_l, mod_i, fdiv_i, pow_i, mul_i, exSs_nil, exSs_cons, exS, exSeq, exNil, exRet, exEx, exIf, exSet, exPar, exPut, exApp, exAug, ofE_ok, ofB_ok, ofEs_ok, andThen_nx, andThen_rt, Tg.putV, setAll, evE, evEs, evs, evn, ev1, ev2, evVar, evLit, evCon, evIf, evAnd, evOr, evCh, evTup, evLst, evCall, evSl, evPart, MP.part, evDget, evDin, evDget2, evDisp, evPs, pairK, toB, asB, notD, newK, frz, cel, siNew, siNew2, siSeq, evIt, siZip, siRng, siRng2, evLc, wipeE, Res.bind_ok, v1, v2, vn, view, views, datsOf, asKey, keyOf, putC, Bin.f, Cmp.f, Bf.f, Bn.f, isiD, isT, bD, negD, isD, isN, List.getElem?_cons_zero, List.getElem?_cons_succ, List.getElem?_nil, List.set_cons_zero, List.set_cons_succ, List.map_cons, List.map_nil, List.replicate, List.length_cons, List.length_nil, List.cons_append, List.nil_append, add_i, sub_i, int_i, int_b, len_l, len_t, tup_l, tup_t, list_l, list_t, eq_s, eq_i, lt_i, gt_i, le_i, ge_i, lt_s, Option.map_some, Option.map_none, Option.bind_some, Nat.reduceAdd, Int.reduceToNat, Int.reduceAdd, Int.reduceSub, Int.reduceNeg, Int.reduceMul, Int.reduceEq, Int.reduceLT, Int.reduceLE, cast_lit, seq_t, seq_l, if_true, ite_true, ite_false, if_false, and_true, true_and, and_self, Bool.false_eq_true, not_true, not_false_iff, decide_true, decide_false, Bool.not_true, Bool.not_false, Option.isSome_some, Option.isSome_none, ]
  obtain ⟨E1, hE1⟩ : ∃ E1 : MP.Env, E1 = [some (.ob nd), some (.dat h.enc), some (.dat (.int deep)), some (.ob nl), none, some (.ob M.length), some (.dat (.list (h.L.map .str))), some (.dat (.list (h.ns.map .str))), none, none, none, none, none, none] := ⟨_, rfl⟩
  have s2 : exS (T.cfg w (n + 2)) (.for (.nm 4) .rng1 [(.bin .add (.lit (.int 1)) (.call "_law_pick" [(.var 0), (.lit (.int 4))]))] b__law_body_16) E1 M1 = forS (.nm 4) (exSs (T.cfg w (n + 2)) b__law_body_16) (rngD 0 (1 + r).toNat) E1 M2 := by
    rw [hE1]
    simp (disch := first | omega | (simp only [List.length_cons, List.length_nil, List.length_map, List.length_append, List.length_reverse]; omega)) only [at0, at1, at2, at3, at4, idx_l, idx_t, rng_b, rng_b2, dec_le, dec_lt, add_t, add_l, mod_i, fdiv_i, pow_i, mul_i, exSs_nil, exSs_cons, exS, exSeq, exNil, exRet, exEx, exIf, exSet, exPar, exPut, exApp, exAug, ofE_ok, ofB_ok, ofEs_ok, andThen_nx, andThen_rt, Tg.putV, setAll, evE, evEs, evs, evn, ev1, ev2, evVar, evLit, evCon, evIf, evAnd, evOr, evCh, evTup, evLst, evCall, evSl, evPart, MP.part, evDget, evDin, evDget2, evDisp, evPs, pairK, toB, asB, notD, newK, frz, cel, siNew, siNew2, siSeq, evIt, siZip, siRng, siRng2, evLc, wipeE, Res.bind_ok, v1, v2, vn, view, views, datsOf, asKey, keyOf, putC, Bin.f, Cmp.f, Bf.f, Bn.f, isiD, isT, bD, negD, isD, isN, List.getElem?_cons_zero, List.getElem?_cons_succ, List.getElem?_nil, List.set_cons_zero, List.set_cons_succ, List.map_cons, List.map_nil, List.replicate, List.length_cons, List.length_nil, List.cons_append, List.nil_append, add_i, sub_i, int_i, int_b, len_l, len_t, tup_l, tup_t, list_l, list_t, eq_s, eq_i, lt_i, gt_i, le_i, ge_i, lt_s, Option.map_some, Option.map_none, Option.bind_some, Nat.reduceAdd, Int.reduceToNat, Int.reduceAdd, Int.reduceSub, Int.reduceNeg, Int.reduceMul, Int.reduceEq, Int.reduceLT, Int.reduceLE, cast_lit, seq_t, seq_l, if_true, ite_true, ite_false, if_false, and_true, true_and, and_self, Bool.false_eq_true, not_true, not_false_iff, decide_true, decide_false, Bool.not_true, Bool.not_false, Option.isSome_some, Option.isSome_none, exFor, c2]
  have hbs : BS h nd nl M.length deep E1 M2 [] left (c + 1) := ⟨⟨none, none, none, none, none, none, none, hE1⟩, d2, hL2, hI2⟩
  have hlen : (rngD 0 (1 + r).toNat).length = (1 + r).toNat := rngD_len _ _
  have hne : rngD 0 (1 + r).toNat ≠ [] := fun z => by rw [z] at hlen; simp at hlen; omega
  have hmul : (((rngD 0 (1 + r).toNat).length : Nat) : Int) * (bud deep / 5) ≤ 4 * (bud deep / 5) := Int.mul_le_mul_of_nonneg_right (by rw [hlen]; omega) (by omega)
  have hL' := loop_ok ok ih n1 (by omega) (by omega) (rngD 0 (1 + r).toNat) E1 M2 [] left (c + 1) hbs trivial (by simp [depths]) (by rw [hlen]; simp; omega) (by omega)
  have fin : ∀ (its' : List It) (M' : Mem) (left' c' : Int), LoopP h nd nl M.length deep M2 M' [] its' left left' c' → c' ≤ c + bud deep → left' < left →
      Its h.L h.ns its' ∧ depths its' ≤ deep ∧ sizes its' + left'.toNat ≤ left.toNat ∧ left' < left ∧ its'.length ≤ 4 ∧ M'[nl]? = some (.lst [.dat (.int left')]) ∧ DeckAt M' nd (c + bud deep) ∧ Only [nd, nl] M M' := by
    intro its' M' left' c' p hc' hlt
    refine ⟨p.ok, p.dp, by have := p.sz; simp only [sizes] at this; omega, hlt, p.ln, p.l, p.d.le hc', ?_⟩
    have o : Only [nd, nl, M.length] M M' := (o1.mono (by simp)).trans ((o2.mono (by simp)).trans p.o)
    exact ⟨o.1, fun i h1 h2 => o.2 i h1 (by simp at h2 ⊢; omega)⟩
  have start : callF w T (n + 3) "_law_body" [.ob nd, .dat h.enc, .dat (.int deep), .ob nl] M = (match exSs (T.cfg w (n + 2)) d__law_body.ir [some (.ob nd), some (.dat h.enc), some (.dat (.int deep)), some (.ob nl), none, none, none, none, none, none, none, none, none, none] M with
      | .ok (.nx _) M1 => .ok (.dat .none) M1
      | .ok (.rt x) M1 => .ok x M1
      | .ok (.rz e _) M1 => .exc e M1
      | _ => .bad) := by
    rw [callF_eq f_body]
    rfl
  have body : exSs (T.cfg w (n + 2)) d__law_body.ir [some (.ob nd), some (.dat h.enc), some (.dat (.int deep)), some (.ob nl), none, none, none, none, none, none, none, none, none, none] M = andThen (forS (.nm 4) (exSs (T.cfg w (n + 2)) b__law_body_16) (rngD 0 (1 + r).toNat) E1 M2) (exSs (T.cfg w (n + 2)) [(.ret [(.bf .tup [(.var 5)])])]) := by
    show exSs _ (_ :: _ :: _) _ _ = _
    rw [exSs_step s1, ← hE1, exSs_cons]
    unfold exSeq
    rw [s2]
  rcases hL' with ⟨its', M', left', e, p, hlt⟩ | ⟨its', env', M', left', e, b', p, hlt⟩
  · refine ⟨its', M', left', ?_, fin its' M' left' _ p (by omega) hlt⟩
    rw [start, body, e]
    rfl
  · refine ⟨its', M', left', ?_, fin its' M' left' _ p (by omega) (hlt hne)⟩
    rw [start, body, e, andThen_nx]
    obtain ⟨⟨e4, e8, e9, e10, e11, e12, e13, rfl⟩, _, _, hI'⟩ := b'
    simp (disch := first | omega | (simp only [List.length_cons, List.length_nil, List.length_map, List.length_append, List.length_reverse]; omega)) only [at0, at1, at2, at3, at4, idx_l, idx_t, rng_b, rng_b2, dec_le, dec_lt, add_t, add_l, mod_i, fdiv_i, pow_i, mul_i, exSs_nil, exSs_cons, exS, exSeq, exNil, exRet, exEx, exIf, exSet, exPar, exPut, exApp, exAug, ofE_ok, ofB_ok, ofEs_ok, andThen_nx, andThen_rt, Tg.putV, setAll, evE, evEs, evs, evn, ev1, ev2, evVar, evLit, evCon, evIf, evAnd, evOr, evCh, evTup, evLst, evCall, evSl, evPart, MP.part, evDget, evDin, evDget2, evDisp, evPs, pairK, toB, asB, notD, newK, frz, cel, siNew, siNew2, siSeq, evIt, siZip, siRng, siRng2, evLc, wipeE, Res.bind_ok, v1, v2, vn, view, views, datsOf, asKey, keyOf, putC, Bin.f, Cmp.f, Bf.f, Bn.f, isiD, isT, bD, negD, isD, isN, List.getElem?_cons_zero, List.getElem?_cons_succ, List.getElem?_nil, List.set_cons_zero, List.set_cons_succ, List.map_cons, List.map_nil, List.replicate, List.length_cons, List.length_nil, List.cons_append, List.nil_append, add_i, sub_i, int_i, int_b, len_l, len_t, tup_l, tup_t, list_l, list_t, eq_s, eq_i, lt_i, gt_i, le_i, ge_i, lt_s, Option.map_some, Option.map_none, Option.bind_some, Nat.reduceAdd, Int.reduceToNat, Int.reduceAdd, Int.reduceSub, Int.reduceNeg, Int.reduceMul, Int.reduceEq, Int.reduceLT, Int.reduceLE, cast_lit, seq_t, seq_l, if_true, ite_true, ite_false, if_false, and_true, true_and, and_self, Bool.false_eq_true, not_true, not_false_iff, decide_true, decide_false, Bool.not_true, Bool.not_false, Option.isSome_some, Option.isSome_none, hI', datsOf_map]
theorem body_ok {w : Mw} {h : Hd} (ok : h.Ok) : ∀ (deep n : Nat), BodyP w h (n + deep + 3) deep
  | 0, n => body_step ok fun d z => by cases z
  | deep + 1, n => by
    have := body_step (w := w) (n := n + (deep + 1)) ok (deep := deep + 1) fun d z => by
      cases z
      exact body_ok ok deep n
    exact this
end LawX
set_option Elab.async false
set_option linter.all false
set_option maxRecDepth 100000
set_option maxHeartbeats 8000000
/-! PG6: the generator's programs. -/
namespace LawX
open PySem PySem.Spec PyProof.Rows L2 MP
theorem encs_append : ∀ (a b : List It), encs (a ++ b) = encs a ++ encs b
  | [], b => rfl
  | i :: a, b => by simp [encs, encs_append a b]
theorem sizes_append : ∀ (a b : List It), sizes (a ++ b) = sizes a + sizes b
  | [], b => by simp [sizes]
  | i :: a, b => by simp only [List.cons_append, sizes, sizes_append a b]; omega
theorem depths_append : ∀ (a b : List It), depths (a ++ b) = max (depths a) (depths b)
  | [], b => by simp [depths]
  | i :: a, b => by simp only [List.cons_append, depths, depths_append a b]; omega
theorem its_append {L N : List Str} : ∀ (a b : List It), Its L N a → Its L N b → Its L N (a ++ b)
  | [], b, _, h => h
  | i :: a, b, h, hb => by
    simp only [List.cons_append, Its] at h ⊢
    exact ⟨h.1, its_append a b h.2 hb⟩
theorem size_pos (i : It) : 1 ≤ i.size := by
  cases i <;> simp only [It.size] <;> omega
theorem len_le : ∀ a : List It, a.length ≤ sizes a
  | [] => Nat.le_refl _
  | i :: a => by have := len_le a; have := size_pos i; simp only [List.length_cons, sizes]; omega
theorem bud2 : bud 0 = 100 ∧ bud 1 = 2000 ∧ bud 2 = 40000 := by decide
theorem bud_le {d : Nat} (h : d ≤ 2) : bud d ≤ 40000 := by
  have := bud2
  rcases d with _ | _ | _ | d
  · omega
  · show bud 1 ≤ _; omega
  · show bud 2 ≤ _; omega
  · omega
abbrev envP (h : Hd) (nd nl : Nat) (limit : Int) (its : List It) : MP.Env := [some (.ob nd), some (.dat (.int limit)), some (.dat h.enc), some (.ob nl), some (.dat (.tuple (encs its)))]
abbrev condP : E := .and [(.cmp .lt (.bf .len [(.var 4)]) (.lit (.int 2))), (.cmp .gt (.idx (.var 3) (.lit (.int 0))) (.lit (.int 0)))]
theorem while_ok {w : Mw} {n : Nat} {h : Hd} (ok : h.Ok) {nd nl : Nat} {limit : Int} (n1 : nd ≠ nl) : ∀ (fuel : Nat) (its : List It) (left c : Int) (M : Mem), DeckAt M nd c → M[nl]? = some (.lst [.dat (.int left)]) → left.toNat < fuel → c + left.toNat * 50000 < 1073741824 → left.toNat + sizes its ≤ 10000 → Its h.L h.ns its → depths its ≤ 2 →
    ∃ its' M', whileS (evE (T.cfg w (n + 5)) condP) (exSs (T.cfg w (n + 5)) b__law_program_0) fuel (envP h nd nl limit its) M = .ok (.nx (envP h nd nl limit its')) M' ∧ Its h.L h.ns its' ∧ depths its' ≤ 2 ∧ sizes its' ≤ sizes its + left.toNat ∧ DeckAt M' nd (c + left.toNat * 50000) ∧ Only [nd, nl] M M'
  | 0, its, left, c, M, hd, hL, hf, hc, hs, hi, hdp => by omega
  | fuel + 1, its, left, c, M, hd, hL, hf, hc, hs, hi, hdp => by
    have hlen := len_le its
    have hlen2 : (encs its).length = its.length := encs_len its
    by_cases hq : its.length < 2 ∧ 0 < left
    · have hq1 : ((its.length : Nat) : Int) < 2 := by omega
      have ht : toB (evE (T.cfg w (n + 5)) condP) (envP h nd nl limit its) M = .ok true M := by
        simp (disch := first | omega | (simp only [List.length_cons, List.length_nil, List.length_map, List.length_append, List.length_reverse]; omega)) only [at0, at1, at2, at3, at4, idx_l, idx_t, rng_b, rng_b2, dec_le, dec_lt, add_t, add_l, mod_i, fdiv_i, pow_i, mul_i, exSs_nil, exSs_cons, exS, exSeq, exNil, exRet, exEx, exIf, exSet, exPar, exPut, exApp, exAug, ofE_ok, ofB_ok, ofEs_ok, andThen_nx, andThen_rt, Tg.putV, setAll, evE, evEs, evs, evn, ev1, ev2, evVar, evLit, evCon, evIf, evAnd, evOr, evCh, evTup, evLst, evCall, evSl, evPart, MP.part, evDget, evDin, evDget2, evDisp, evPs, pairK, toB, asB, notD, newK, frz, cel, siNew, siNew2, siSeq, evIt, siZip, siRng, siRng2, evLc, wipeE, Res.bind_ok, v1, v2, vn, view, views, datsOf, asKey, keyOf, putC, Bin.f, Cmp.f, Bf.f, Bn.f, isiD, isT, bD, negD, isD, isN, List.getElem?_cons_zero, List.getElem?_cons_succ, List.getElem?_nil, List.set_cons_zero, List.set_cons_succ, List.map_cons, List.map_nil, List.replicate, List.length_cons, List.length_nil, List.cons_append, List.nil_append, add_i, sub_i, int_i, int_b, len_l, len_t, tup_l, tup_t, list_l, list_t, eq_s, eq_i, lt_i, gt_i, le_i, ge_i, lt_s, Option.map_some, Option.map_none, Option.bind_some, Nat.reduceAdd, Int.reduceToNat, Int.reduceAdd, Int.reduceSub, Int.reduceNeg, Int.reduceMul, Int.reduceEq, Int.reduceLT, Int.reduceLE, cast_lit, seq_t, seq_l, if_true, ite_true, ite_false, if_false, and_true, true_and, and_self, Bool.false_eq_true, not_true, not_false_iff, decide_true, decide_false, Bool.not_true, Bool.not_false, Option.isSome_some, Option.isSome_none, hL, hlen2, hq1, hq.2]
      obtain ⟨r, M1, c1, g1, g2, d1, o1, _⟩ := pick_at (w := w) (n := n + 4) (L := 3) hd (by omega) (by omega) (by omega)
      obtain ⟨d, rfl⟩ : ∃ d : Nat, r = (d : Int) := ⟨r.toNat, by omega⟩
      have hb := bud_le (d := d) (by omega)
      have hbody : BodyP w h (n + 5) d := by
        have := body_ok (w := w) ok d (n + 2 - d)
        have e : n + 2 - d + d + 3 = n + 5 := by omega
        rw [e] at this
        exact this
      obtain ⟨x, M2, left', c2, k1, k2, k3, k4, k5, k6, k7, k8⟩ := hbody M1 nd nl (c + 1) left n1 d1 (by omega) (o1.get hL (by simp [Ne.symm n1]))
      have hst : exSs (T.cfg w (n + 5)) b__law_program_0 (envP h nd nl limit its) M = .ok (.nx (envP h nd nl limit (its ++ x))) M2 := by
        unfold b__law_program_0
        have hx := encs_len x
        rw [exSs_one]
        simp (disch := first | omega | (simp only [List.length_cons, List.length_nil, List.length_map, List.length_append, List.length_reverse]; omega)) only [at0, at1, at2, at3, at4, idx_l, idx_t, rng_b, rng_b2, dec_le, dec_lt, add_t, add_l, mod_i, fdiv_i, pow_i, mul_i, exSs_nil, exSs_cons, exS, exSeq, exNil, exRet, exEx, exIf, exSet, exPar, exPut, exApp, exAug, ofE_ok, ofB_ok, ofEs_ok, andThen_nx, andThen_rt, Tg.putV, setAll, evE, evEs, evs, evn, ev1, ev2, evVar, evLit, evCon, evIf, evAnd, evOr, evCh, evTup, evLst, evCall, evSl, evPart, MP.part, evDget, evDin, evDget2, evDisp, evPs, pairK, toB, asB, notD, newK, frz, cel, siNew, siNew2, siSeq, evIt, siZip, siRng, siRng2, evLc, wipeE, Res.bind_ok, v1, v2, vn, view, views, datsOf, asKey, keyOf, putC, Bin.f, Cmp.f, Bf.f, Bn.f, isiD, isT, bD, negD, isD, isN, List.getElem?_cons_zero, List.getElem?_cons_succ, List.getElem?_nil, List.set_cons_zero, List.set_cons_succ, List.map_cons, List.map_nil, List.replicate, List.length_cons, List.length_nil, List.cons_append, List.nil_append, add_i, sub_i, int_i, int_b, len_l, len_t, tup_l, tup_t, list_l, list_t, eq_s, eq_i, lt_i, gt_i, le_i, ge_i, lt_s, Option.map_some, Option.map_none, Option.bind_some, Nat.reduceAdd, Int.reduceToNat, Int.reduceAdd, Int.reduceSub, Int.reduceNeg, Int.reduceMul, Int.reduceEq, Int.reduceLT, Int.reduceLE, cast_lit, seq_t, seq_l, if_true, ite_true, ite_false, if_false, and_true, true_and, and_self, Bool.false_eq_true, not_true, not_false_iff, decide_true, decide_false, Bool.not_true, Bool.not_false, Option.isSome_some, Option.isSome_none, c1, c2, envP, encs_append]
      obtain ⟨its', M', e, p1, p2, p3, p4, p5⟩ := while_ok ok n1 fuel (its ++ x) left' (c + 1 + bud d) M2 k7 k6 (by omega) (by omega) (by rw [sizes_append]; omega) (its_append its x hi k1) (by rw [depths_append]; omega)
      refine ⟨its', M', ?_, p1, p2, by rw [sizes_append] at p3; omega, p4.le (by omega), (o1.mono (by simp)).trans (k8.trans p5)⟩
      unfold whileS
      rw [ht, ofB_ok]
      simp only [hst]
      exact e
    · refine ⟨its, M, ?_, hi, hdp, by omega, hd.le (by omega), Only.refl⟩
      have ht : toB (evE (T.cfg w (n + 5)) condP) (envP h nd nl limit its) M = .ok false M := by
        by_cases q1 : ((its.length : Nat) : Int) < 2
        · have q2 : ¬ 0 < left := by omega
          simp (disch := first | omega | (simp only [List.length_cons, List.length_nil, List.length_map, List.length_append, List.length_reverse]; omega)) only [at0, at1, at2, at3, at4, idx_l, idx_t, rng_b, rng_b2, dec_le, dec_lt, add_t, add_l, mod_i, fdiv_i, pow_i, mul_i, exSs_nil, exSs_cons, exS, exSeq, exNil, exRet, exEx, exIf, exSet, exPar, exPut, exApp, exAug, ofE_ok, ofB_ok, ofEs_ok, andThen_nx, andThen_rt, Tg.putV, setAll, evE, evEs, evs, evn, ev1, ev2, evVar, evLit, evCon, evIf, evAnd, evOr, evCh, evTup, evLst, evCall, evSl, evPart, MP.part, evDget, evDin, evDget2, evDisp, evPs, pairK, toB, asB, notD, newK, frz, cel, siNew, siNew2, siSeq, evIt, siZip, siRng, siRng2, evLc, wipeE, Res.bind_ok, v1, v2, vn, view, views, datsOf, asKey, keyOf, putC, Bin.f, Cmp.f, Bf.f, Bn.f, isiD, isT, bD, negD, isD, isN, List.getElem?_cons_zero, List.getElem?_cons_succ, List.getElem?_nil, List.set_cons_zero, List.set_cons_succ, List.map_cons, List.map_nil, List.replicate, List.length_cons, List.length_nil, List.cons_append, List.nil_append, add_i, sub_i, int_i, int_b, len_l, len_t, tup_l, tup_t, list_l, list_t, eq_s, eq_i, lt_i, gt_i, le_i, ge_i, lt_s, Option.map_some, Option.map_none, Option.bind_some, Nat.reduceAdd, Int.reduceToNat, Int.reduceAdd, Int.reduceSub, Int.reduceNeg, Int.reduceMul, Int.reduceEq, Int.reduceLT, Int.reduceLE, cast_lit, seq_t, seq_l, if_true, ite_true, ite_false, if_false, and_true, true_and, and_self, Bool.false_eq_true, not_true, not_false_iff, decide_true, decide_false, Bool.not_true, Bool.not_false, Option.isSome_some, Option.isSome_none, hL, hlen2, q1, q2]
        · simp (disch := first | omega | (simp only [List.length_cons, List.length_nil, List.length_map, List.length_append, List.length_reverse]; omega)) only [at0, at1, at2, at3, at4, idx_l, idx_t, rng_b, rng_b2, dec_le, dec_lt, add_t, add_l, mod_i, fdiv_i, pow_i, mul_i, exSs_nil, exSs_cons, exS, exSeq, exNil, exRet, exEx, exIf, exSet, exPar, exPut, exApp, exAug, ofE_ok, ofB_ok, ofEs_ok, andThen_nx, andThen_rt, Tg.putV, setAll, evE, evEs, evs, evn, ev1, ev2, evVar, evLit, evCon, evIf, evAnd, evOr, evCh, evTup, evLst, evCall, evSl, evPart, MP.part, evDget, evDin, evDget2, evDisp, evPs, pairK, toB, asB, notD, newK, frz, cel, siNew, siNew2, siSeq, evIt, siZip, siRng, siRng2, evLc, wipeE, Res.bind_ok, v1, v2, vn, view, views, datsOf, asKey, keyOf, putC, Bin.f, Cmp.f, Bf.f, Bn.f, isiD, isT, bD, negD, isD, isN, List.getElem?_cons_zero, List.getElem?_cons_succ, List.getElem?_nil, List.set_cons_zero, List.set_cons_succ, List.map_cons, List.map_nil, List.replicate, List.length_cons, List.length_nil, List.cons_append, List.nil_append, add_i, sub_i, int_i, int_b, len_l, len_t, tup_l, tup_t, list_l, list_t, eq_s, eq_i, lt_i, gt_i, le_i, ge_i, lt_s, Option.map_some, Option.map_none, Option.bind_some, Nat.reduceAdd, Int.reduceToNat, Int.reduceAdd, Int.reduceSub, Int.reduceNeg, Int.reduceMul, Int.reduceEq, Int.reduceLT, Int.reduceLE, cast_lit, seq_t, seq_l, if_true, ite_true, ite_false, if_false, and_true, true_and, and_self, Bool.false_eq_true, not_true, not_false_iff, decide_true, decide_false, Bool.not_true, Bool.not_false, Option.isSome_some, Option.isSome_none, hL, hlen2, q1]
      unfold whileS
      rw [ht, ofB_ok]
structure Pr where
  h : Hd
  its : List It
def Pr.enc (p : Pr) : PyData := .tuple [p.h.ss, p.h.nms, .tuple (encs p.its)]
structure Pr.Ok (p : Pr) (lim : Nat) : Prop where
  h : p.h.Ok
  i : Its p.h.L p.h.ns p.its
  d : depths p.its ≤ 2
  s : sizes p.its ≤ lim
theorem f_prog : T.fn "_law_program" = some d__law_program := by rfl
theorem prog_at {w : Mw} {n : Nat} {M : Mem} {nd : Nat} {c : Int} {lim : Nat} (hd : DeckAt M nd c) (hl : lim ≤ 15) (hc : c + 1000000 < 1073741824) :
    ∃ p M', callF w T (n + 6) "_law_program" [.ob nd, .dat (.int lim)] M = .ok (.dat (Pr.enc p)) M' ∧ p.Ok lim ∧ DeckAt M' nd (c + 1000000) ∧ Only [nd] M M' := by
  have ltd : nd < M.length := by obtain ⟨_, _, _, q, _⟩ := hd; exact (List.getElem?_eq_some_iff.mp q).1
  obtain ⟨h, M1, c1, ok, d1, o1, l1⟩ := head_at (w := w) (n := n + 2) hd (by omega)
  obtain ⟨M2, hM2⟩ : ∃ M2, M2 = M1 ++ [.lst [.dat (.int lim)]] := ⟨_, rfl⟩
  have o2 : Only [] M1 M2 := by rw [hM2]; exact Only.new
  have hL : M2[M1.length]? = some (.lst [.dat (.int lim)]) := by rw [hM2]; simp
  obtain ⟨its, M', e, p1, p2, p3, p4, p5⟩ := while_ok (w := w) (n := n) (limit := lim) ok (nd := nd) (nl := M1.length) (by omega) 20000 [] lim (c + 4) M2 (d1.keep o2 (by simp)) hL (by omega) (by omega) (by simp [sizes]; omega) trivial (by simp [depths])
  refine ⟨⟨h, its⟩, M', ?_, ⟨ok, p1, p2, by simpa [sizes] using p3⟩, p4.le (by omega), ?_⟩
  · have s1 : exS (T.cfg w (n + 5)) (.par [2, 3, 4] [(.call "_law_head" [(.var 0)]), (.lst true [(.var 1)]), (.tup [])]) [some (.ob nd), some (.dat (.int lim)), none, none, none] M = .ok (.nx (envP h nd M1.length lim [])) M2 := by
      simp (disch := first | omega | (simp only [List.length_cons, List.length_nil, List.length_map, List.length_append, List.length_reverse]; omega)) only [at0, at1, at2, at3, at4, idx_l, idx_t, rng_b, rng_b2, dec_le, dec_lt, add_t, add_l, mod_i, fdiv_i, pow_i, mul_i, exSs_nil, exSs_cons, exS, exSeq, exNil, exRet, exEx, exIf, exSet, exPar, exPut, exApp, exAug, ofE_ok, ofB_ok, ofEs_ok, andThen_nx, andThen_rt, Tg.putV, setAll, evE, evEs, evs, evn, ev1, ev2, evVar, evLit, evCon, evIf, evAnd, evOr, evCh, evTup, evLst, evCall, evSl, evPart, MP.part, evDget, evDin, evDget2, evDisp, evPs, pairK, toB, asB, notD, newK, frz, cel, siNew, siNew2, siSeq, evIt, siZip, siRng, siRng2, evLc, wipeE, Res.bind_ok, v1, v2, vn, view, views, datsOf, asKey, keyOf, putC, Bin.f, Cmp.f, Bf.f, Bn.f, isiD, isT, bD, negD, isD, isN, List.getElem?_cons_zero, List.getElem?_cons_succ, List.getElem?_nil, List.set_cons_zero, List.set_cons_succ, List.map_cons, List.map_nil, List.replicate, List.length_cons, List.length_nil, List.cons_append, List.nil_append, add_i, sub_i, int_i, int_b, len_l, len_t, tup_l, tup_t, list_l, list_t, eq_s, eq_i, lt_i, gt_i, le_i, ge_i, lt_s, Option.map_some, Option.map_none, Option.bind_some, Nat.reduceAdd, Int.reduceToNat, Int.reduceAdd, Int.reduceSub, Int.reduceNeg, Int.reduceMul, Int.reduceEq, Int.reduceLT, Int.reduceLE, cast_lit, seq_t, seq_l, if_true, ite_true, ite_false, if_false, and_true, true_and, and_self, Bool.false_eq_true, not_true, not_false_iff, decide_true, decide_false, Bool.not_true, Bool.not_false, Option.isSome_some, Option.isSome_none, c1, envP, encs, hM2]
    have start : callF w T (n + 6) "_law_program" [.ob nd, .dat (.int lim)] M = (match exSs (T.cfg w (n + 5)) d__law_program.ir [some (.ob nd), some (.dat (.int lim)), none, none, none] M with
      | .ok (.nx _) M1 => .ok (.dat .none) M1
      | .ok (.rt x) M1 => .ok x M1
      | .ok (.rz e _) M1 => .exc e M1
      | _ => .bad) := by
      rw [callF_eq f_prog]
      rfl
    have s2 : exSs (T.cfg w (n + 5)) d__law_program.ir [some (.ob nd), some (.dat (.int lim)), none, none, none] M = .ok (.rt (.dat (Pr.enc ⟨h, its⟩))) M' := by
      show exSs _ (_ :: _ :: _) _ _ = _
      rw [exSs_step s1]
      have s3 : exS (T.cfg w (n + 5)) (.while 20000 condP b__law_program_0) (envP h nd M1.length lim []) M2 = .ok (.nx (envP h nd M1.length lim its)) M' := by
        simp only [exS]
        exact e
      rw [exSs_step s3, exSs_one]
      simp (disch := first | omega | (simp only [List.length_cons, List.length_nil, List.length_map, List.length_append, List.length_reverse]; omega)) only [at0, at1, at2, at3, at4, idx_l, idx_t, rng_b, rng_b2, dec_le, dec_lt, add_t, add_l, mod_i, fdiv_i, pow_i, mul_i, exSs_nil, exSs_cons, exS, exSeq, exNil, exRet, exEx, exIf, exSet, exPar, exPut, exApp, exAug, ofE_ok, ofB_ok, ofEs_ok, andThen_nx, andThen_rt, Tg.putV, setAll, evE, evEs, evs, evn, ev1, ev2, evVar, evLit, evCon, evIf, evAnd, evOr, evCh, evTup, evLst, evCall, evSl, evPart, MP.part, evDget, evDin, evDget2, evDisp, evPs, pairK, toB, asB, notD, newK, frz, cel, siNew, siNew2, siSeq, evIt, siZip, siRng, siRng2, evLc, wipeE, Res.bind_ok, v1, v2, vn, view, views, datsOf, asKey, keyOf, putC, Bin.f, Cmp.f, Bf.f, Bn.f, isiD, isT, bD, negD, isD, isN, List.getElem?_cons_zero, List.getElem?_cons_succ, List.getElem?_nil, List.set_cons_zero, List.set_cons_succ, List.map_cons, List.map_nil, List.replicate, List.length_cons, List.length_nil, List.cons_append, List.nil_append, add_i, sub_i, int_i, int_b, len_l, len_t, tup_l, tup_t, list_l, list_t, eq_s, eq_i, lt_i, gt_i, le_i, ge_i, lt_s, Option.map_some, Option.map_none, Option.bind_some, Nat.reduceAdd, Int.reduceToNat, Int.reduceAdd, Int.reduceSub, Int.reduceNeg, Int.reduceMul, Int.reduceEq, Int.reduceLT, Int.reduceLE, cast_lit, seq_t, seq_l, if_true, ite_true, ite_false, if_false, and_true, true_and, and_self, Bool.false_eq_true, not_true, not_false_iff, decide_true, decide_false, Bool.not_true, Bool.not_false, Option.isSome_some, Option.isSome_none, Hd.enc, Pr.enc]
    rw [start, s2]
  · have o : Only [nd, M1.length] M M' := (o1.mono (by simp)).trans ((o2.mono (by simp)).trans p5)
    exact ⟨o.1, fun i h1 h2 => o.2 i h1 (by simp at h2 ⊢; omega)⟩
end LawX
set_option Elab.async false
set_option linter.all false
set_option maxRecDepth 100000
set_option maxHeartbeats 8000000
/-! PH1: programs that are drawn are programs. -/
namespace LawX
open PySem PySem.Spec PyProof.Rows L2 MP
abbrev sL (L : List Str) : Val := .dat (.list (L.map .str))
abbrev sN (N : List Str) : Val := .dat (.tuple (N.map .str))
/-- all flat steps -/
def op1 (s n : Str) : List (Str × List Str) := [("write", [s, n, "c"]), ("write", [s, n, "d"]), ("remove", [s, n]), ("read", [s, n])]
def op2 (s n m : Str) : Str × List Str := ("rename", [s, n, m])
def op3 (s n t m : Str) : Str × List Str := ("copy", [s, n, t, m])
def op4 (s : Str) : Str × List Str := ("list", [s])
def op5 (s t : Str) : Str × List Str := ("all", [s, t])
def opsAll (L N : List Str) : List (Str × List Str) :=
  (L.flatMap fun s => N.flatMap fun n => op1 s n ++ (((N.filter fun m => decide (n ≠ m)).map fun m => op2 s n m) ++ L.flatMap fun t => N.map fun m => op3 s n t m)) ++
  L.flatMap fun s => op4 s :: (L.filter fun t => decide (s ≠ t)).map fun t => op5 s t
theorem ops_mem {L N : List Str} {f : Str} {as : List Str} (h : OpOk L N f as) : (f, as) ∈ opsAll L N := by
  unfold opsAll
  cases h with
  | write h1 h2 h3 =>
    refine List.mem_append_left _ (List.mem_flatMap.mpr ⟨_, h1, List.mem_flatMap.mpr ⟨_, h2, List.mem_append_left _ ?_⟩⟩)
    rcases h3 with rfl | rfl <;> simp [op1]
  | remove h1 h2 => exact List.mem_append_left _ (List.mem_flatMap.mpr ⟨_, h1, List.mem_flatMap.mpr ⟨_, h2, List.mem_append_left _ (by simp [op1])⟩⟩)
  | read h1 h2 => exact List.mem_append_left _ (List.mem_flatMap.mpr ⟨_, h1, List.mem_flatMap.mpr ⟨_, h2, List.mem_append_left _ (by simp [op1])⟩⟩)
  | rename h1 h2 h3 h4 => exact List.mem_append_left _ (List.mem_flatMap.mpr ⟨_, h1, List.mem_flatMap.mpr ⟨_, h2, List.mem_append_right _ (List.mem_append_left _ (List.mem_map.mpr ⟨_, List.mem_filter.mpr ⟨h3, decide_eq_true h4⟩, rfl⟩))⟩⟩)
  | copy h1 h2 h3 h4 => exact List.mem_append_left _ (List.mem_flatMap.mpr ⟨_, h1, List.mem_flatMap.mpr ⟨_, h2, List.mem_append_right _ (List.mem_append_right _ (List.mem_flatMap.mpr ⟨_, h3, List.mem_map.mpr ⟨_, h4, rfl⟩⟩))⟩⟩)
  | list h1 => exact List.mem_append_right _ (List.mem_flatMap.mpr ⟨_, h1, by simp [op4]⟩)
  | all h1 h2 h3 => exact List.mem_append_right _ (List.mem_flatMap.mpr ⟨_, h1, List.mem_cons_of_mem _ (List.mem_map.mpr ⟨_, List.mem_filter.mpr ⟨h2, decide_eq_true h3⟩, rfl⟩)⟩)
theorem op_size {w : Mw} {n : Nat} {M : Mem} {deep : Int} {L N : List Str} {f : Str} {as : List Str} (hL : L = lab1 ∨ L = lab2 ∨ L = lab3) (hN : N = nam1 ∨ N = nam2 ∨ N = nam3) (h : OpOk L N f as) :
    callF w T (n + 4) "size_of_item" [sL L, sN N, .dat (It.enc (.op f as)), .dat (.int deep)] M = .ok (.dat (.int 1)) M := by
  have key : (opsAll L N).map (fun p => callF w T (n + 4) "size_of_item" [sL L, sN N, .dat (It.enc (.op p.1 p.2)), .dat (.int deep)] M) = (opsAll L N).map fun _ => .ok (.dat (.int 1)) M := by
    rcases hL with rfl | rfl | rfl <;> rcases hN with rfl | rfl | rfl <;> kernel_rfl
  exact List.map_inj_left.mp key (f, as) (ops_mem h)
end LawX
set_option Elab.async false
set_option linter.all false
set_option maxRecDepth 100000
set_option maxHeartbeats 8000000
/-! PH2: the size of what is drawn. -/
namespace LawX
open PySem PySem.Spec PyProof.Rows L2 MP
structure LN (L N : List Str) : Prop where
  l : L = lab1 ∨ L = lab2 ∨ L = lab3
  n : N = nam1 ∨ N = nam2 ∨ N = nam3
section
variable {L N : List Str}
theorem ops_lay (h : LN L N) : (opsAll L N).all (fun p => (It.enc (.op p.1 p.2)).canLay0) = true := by
  obtain ⟨hL, hN⟩ := h
  rcases hL with rfl | rfl | rfl <;> rcases hN with rfl | rfl | rfl <;> decide +kernel
theorem str_lay (h : LN L N) {s : Str} (hs : s ∈ L ∨ s ∈ N) : PyData.strOk s = true := by
  have : (L ++ N).all PyData.strOk = true := by
    obtain ⟨hL, hN⟩ := h
    rcases hL with rfl | rfl | rfl <;> rcases hN with rfl | rfl | rfl <;> decide +kernel
  exact List.all_eq_true.mp this s (by simpa using hs)
theorem br_str (h : LN L N) {f a b : Str} (hb : BrOk L N f a b) : PyData.strOk f = true ∧ PyData.strOk a = true ∧ PyData.strOk b = true := by
  cases hb with
  | ife h1 h2 => exact ⟨by decide +kernel, str_lay h (.inl h1), str_lay h (.inr h2)⟩
  | same h1 h2 _ => exact ⟨by decide +kernel, str_lay h (.inr h1), str_lay h (.inr h2)⟩
  | near h1 h2 _ => exact ⟨by decide +kernel, str_lay h (.inr h1), str_lay h (.inr h2)⟩
mutual
theorem lay_it (h : LN L N) : ∀ i : It, i.ok L N → i.enc.canLay0 = true
  | .op f as, ok => List.all_eq_true.mp (ops_lay h) (f, as) (ops_mem ok)
  | .br f a b x y, ok => by
    obtain ⟨k1, k2, k3⟩ := ok
    obtain ⟨s1, s2, s3⟩ := br_str h k1
    simp only [It.enc, PyData.canLay0, PyData.canLayAll0, s1, s2, s3, lay_its h x k2, lay_its h y k3, Bool.and_self, Bool.true_and]
theorem lay_its (h : LN L N) : ∀ is : List It, Its L N is → PyData.canLayAll0 (encs is) = true
  | [], _ => rfl
  | i :: is, ok => by simp only [encs, PyData.canLayAll0, lay_it h i ok.1, lay_its h is ok.2, Bool.and_self]
end
theorem depth_strs : ∀ as : List Str, PyData.depthAll (as.map PyData.str) = 0
  | [] => by simp [PyData.depthAll]
  | a :: as => by simp [PyData.depthAll, PyData.depth, depth_strs as]
mutual
theorem dep_it : ∀ i : It, i.enc.depth ≤ 2 * i.depth + 1
  | .op f as => by simp [It.enc, PyData.depth, PyData.depthAll, depth_strs]
  | .br f a b x y => by
    have h1 := dep_its x
    have h2 := dep_its y
    simp only [It.enc, PyData.depth, PyData.depthAll, It.depth]
    omega
theorem dep_its : ∀ is : List It, PyData.depthAll (encs is) ≤ 2 * depths is + 1
  | [] => by simp [encs, PyData.depthAll]
  | i :: is => by
    have h1 := dep_it i
    have h2 := dep_its is
    simp only [encs, PyData.depthAll, depths]
    omega
end
theorem shaped_it (h : LN L N) {i : It} (ok : i.ok L N) (hd : i.depth ≤ 20) : SeqAt.shaped i.enc = true := by
  unfold SeqAt.shaped
  rw [lay_it h i ok, Bool.true_and]
  have := dep_it i
  exact decide_eq_true (by omega)
end
section
variable {w : Mw} {n : Nat} {M : Mem} {L N : List Str}
theorem fits_s (h : LN L N) {a : Str} (ha : a ∈ L) : callF w T (n + 2) "fits" [.dat (.str "s"), sL L, sN N, .dat (.str a)] M = .ok (.dat (.bool true)) M := by
  have key : L.map (fun a => callF w T (n + 2) "fits" [.dat (.str "s"), sL L, sN N, .dat (.str a)] M) = L.map fun _ => .ok (.dat (.bool true)) M := by
    obtain ⟨hL, hN⟩ := h
    rcases hL with rfl | rfl | rfl <;> rcases hN with rfl | rfl | rfl <;> kernel_rfl
  exact List.map_inj_left.mp key a ha
theorem fits_n (h : LN L N) {a : Str} (ha : a ∈ N) : callF w T (n + 2) "fits" [.dat (.str "n"), sL L, sN N, .dat (.str a)] M = .ok (.dat (.bool true)) M := by
  have key : N.map (fun a => callF w T (n + 2) "fits" [.dat (.str "n"), sL L, sN N, .dat (.str a)] M) = N.map fun _ => .ok (.dat (.bool true)) M := by
    obtain ⟨hL, hN⟩ := h
    rcases hL with rfl | rfl | rfl <;> rcases hN with rfl | rfl | rfl <;> kernel_rfl
  exact List.map_inj_left.mp key a ha
def shL : List (Key × Val) := [(.inr "write", .dat (.str "snc")), (.inr "remove", .dat (.str "sn")), (.inr "rename", .dat (.str "snn")), (.inr "copy", .dat (.str "snsn")), (.inr "all", .dat (.str "ss")), (.inr "clear", .dat (.str "s")), (.inr "read", .dat (.str "sn")), (.inr "list", .dat (.str "s")), (.inr "if", .dat (.str "sn")), (.inr "same", .dat (.str "nn")), (.inr "near", .dat (.str "nn"))]
theorem sh0 : callF w T (n + 1) "shapes" [] [] = .ok (.ob 0) [.dct shL] := by kernel_rfl
theorem sh1 : callF w T (n + 1) "shapes" [] [.dct shL] = .ok (.ob 1) [.dct shL, .dct shL] := by kernel_rfl
theorem inner_br {f : Str} (hf : f = "if" ∨ f = "same" ∨ f = "near") {a b : Str} {x y : List It} : callF w T (n + 1) "inner" [.dat (It.enc (.br f a b x y))] M = .ok (.dat (.tuple [.tuple (encs x), .tuple (encs y)])) M := by
  rcases hf with rfl | rfl | rfl <;> kernel_rfl
theorem f_soi : T.fn "size_of_item" = some d_size_of_item := by rfl
theorem f_so : T.fn "size_of" = some d_size_of := by rfl
theorem loop_step {C : Cfg} {t : Tg} {b : List S} {d : PyData} {ds : List PyData} {env env1 env2 : MP.Env} {M M2 : Mem} (h1 : t.put d env = some env1) (h2 : exSs C b env1 M = .ok (.nx env2) M2) : forS t (exSs C b) (d :: ds) env M = forS t (exSs C b) ds env2 M2 := by
  rw [forS]
  simp only [h1, h2]
/-- a step with bodies, its parts known -/
theorem br_size (h : LN L N) {f a b : Str} {x y : List It} (hb : BrOk L N f a b) (ok : It.ok L N (.br f a b x y)) (hd : (It.br f a b x y).depth ≤ 20) {deep : Int} {sx sy : Nat} 
    (ex : ∀ M, callF w T (n + 2) "size_of" [sL L, sN N, .dat (.tuple (encs x)), .dat (.int (deep + 1))] M = .ok (.dat (.int sx)) M) (ey : ∀ M, callF w T (n + 2) "size_of" [sL L, sN N, .dat (.tuple (encs y)), .dat (.int (deep + 1))] M = .ok (.dat (.int sy)) M) :
    callF w T (n + 3) "size_of_item" [sL L, sN N, .dat (It.enc (.br f a b x y)), .dat (.int deep)] M = .ok (.dat (.int (1 + sx + sy))) M := by
  have hsh := shaped_it h ok hd
  have heq : eqD (It.enc (.br f a b x y)) (.tuple []) = some false := by
    have e : eqD (It.enc (.br f a b x y)) (.tuple []) = if SeqAt.shaped (It.enc (.br f a b x y)) && SeqAt.shaped (.tuple []) then some (PyData.eqv (It.enc (.br f a b x y)) (.tuple [])) else none := rfl
    rw [e, hsh]
    rfl
  have hf : f = "if" ∨ f = "same" ∨ f = "near" := by
    cases hb with
    | ife => exact .inl rfl
    | same => exact .inr (.inl rfl)
    | near => exact .inr (.inr rfl)
  have hin := fun M => inner_br (w := w) (n := n + 1) (M := M) hf (a := a) (b := b) (x := x) (y := y)
  have isin1 : ∀ f : Str, (f = "if" ∨ f = "same" ∨ f = "near") → inD (.str f) (.tuple [.str "if", .str "same", .str "near"]) = some true := by
    rintro f (rfl | rfl | rfl) <;> rfl
  have i1 := isin1 f hf
  have ls : lenD [.str "sn"] = some (.int 2) := by rfl
  have ln : lenD [.str "nn"] = some (.int 2) := by rfl
  have qs : seqD (.str "sn") = some [.str "s", .str "n"] := by rfl
  have qn : seqD (.str "nn") = some [.str "n", .str "n"] := by rfl
  have sl : sliceD (some 1) none (.tuple [.str f, .str a, .str b, .tuple (encs x), .tuple (encs y)]) = some (.tuple [.str a, .str b, .tuple (encs x), .tuple (encs y)]) := by rfl
  have al : allD [.list [.bool true, .bool true]] = some (.bool true) := by rfl
  simp only [It.enc] at heq hin
  have start : callF w T (n + 3) "size_of_item" [sL L, sN N, .dat (It.enc (.br f a b x y)), .dat (.int deep)] M = pureF (runB d_size_of_item.ps.length d_size_of_item.N.length (exSs (T.cfg w (n + 2)) d_size_of_item.ir)) [sL L, sN N, .dat (It.enc (.br f a b x y)), .dat (.int deep)] M := by
    rw [callF_eq f_soi]
    rfl
  rw [start]
  unfold d_size_of_item
  cases hb with
  | ife h1 h2 =>
    have f1 := fun M => fits_s (w := w) (n := n) (M := M) h h1
    have f2 := fun M => fits_n (w := w) (n := n) (M := M) h h2
    have g1 : dGet shL (.inr "if") = some (.dat (.str "sn")) := by rfl
    have i2 : inD (.str "if") (.tuple [.str "all", .str "same", .str "near"]) = some false := by rfl
    have r1 : decide (("if" : Str) = "rename") = false := by decide +kernel
    simp (disch := first | omega | (simp only [List.length_cons, List.length_nil, List.length_map, List.length_append, List.length_reverse]; omega)) only [at0, at1, at2, at3, at4, idx_l, idx_t, rng_b, rng_b2, dec_le, dec_lt, add_t, add_l, mod_i, fdiv_i, pow_i, mul_i, exSs_nil, exSs_cons, exS, exSeq, exNil, exRet, exEx, exIf, exSet, exPar, exPut, exApp, exAug, ofE_ok, ofB_ok, ofEs_ok, andThen_nx, andThen_rt, Tg.putV, setAll, evE, evEs, evs, evn, ev1, ev2, evVar, evLit, evCon, evIf, evAnd, evOr, evCh, evTup, evLst, evCall, evSl, evPart, MP.part, evDget, evDin, evDget2, evDisp, evPs, pairK, toB, asB, notD, newK, frz, cel, siNew, siNew2, siSeq, evIt, siZip, siRng, siRng2, evLc, wipeE, Res.bind_ok, v1, v2, vn, view, views, datsOf, asKey, keyOf, putC, Bin.f, Cmp.f, Bf.f, Bn.f, isiD, isT, bD, negD, isD, isN, List.getElem?_cons_zero, List.getElem?_cons_succ, List.getElem?_nil, List.set_cons_zero, List.set_cons_succ, List.map_cons, List.map_nil, List.replicate, List.length_cons, List.length_nil, List.cons_append, List.nil_append, add_i, sub_i, int_i, int_b, len_l, len_t, tup_l, tup_t, list_l, list_t, eq_s, eq_i, lt_i, gt_i, le_i, ge_i, lt_s, Option.map_some, Option.map_none, Option.bind_some, Nat.reduceAdd, Int.reduceToNat, Int.reduceAdd, Int.reduceSub, Int.reduceNeg, Int.reduceMul, Int.reduceEq, Int.reduceLT, Int.reduceLE, cast_lit, seq_t, seq_l, if_true, ite_true, ite_false, if_false, and_true, true_and, and_self, Bool.false_eq_true, not_true, not_false_iff, decide_true, decide_false, Bool.not_true, Bool.not_false, Option.isSome_some, Option.isSome_none, pureF, datas, runB, It.enc, Tg.put, Tg.puts, heq, hin, i1, ls, qs, sl, al, f1, f2, g1, i2, r1, sh0, sh1, dctOf, zipD, List.zipWith_cons_cons, List.zipWith_nil_left, lcS, Res.nx, ex, ey, exFor, forS, b_size_of_item_0]
  | same h1 h2 h3 =>
    have f1 := fun M => fits_n (w := w) (n := n) (M := M) h h1
    have f2 := fun M => fits_n (w := w) (n := n) (M := M) h h2
    have g1 : dGet shL (.inr "same") = some (.dat (.str "nn")) := by rfl
    have i2 : inD (.str "same") (.tuple [.str "all", .str "same", .str "near"]) = some true := by rfl
    have r1 : decide (("same" : Str) = "rename") = false := by decide +kernel
    simp (disch := first | omega | (simp only [List.length_cons, List.length_nil, List.length_map, List.length_append, List.length_reverse]; omega)) only [at0, at1, at2, at3, at4, idx_l, idx_t, rng_b, rng_b2, dec_le, dec_lt, add_t, add_l, mod_i, fdiv_i, pow_i, mul_i, exSs_nil, exSs_cons, exS, exSeq, exNil, exRet, exEx, exIf, exSet, exPar, exPut, exApp, exAug, ofE_ok, ofB_ok, ofEs_ok, andThen_nx, andThen_rt, Tg.putV, setAll, evE, evEs, evs, evn, ev1, ev2, evVar, evLit, evCon, evIf, evAnd, evOr, evCh, evTup, evLst, evCall, evSl, evPart, MP.part, evDget, evDin, evDget2, evDisp, evPs, pairK, toB, asB, notD, newK, frz, cel, siNew, siNew2, siSeq, evIt, siZip, siRng, siRng2, evLc, wipeE, Res.bind_ok, v1, v2, vn, view, views, datsOf, asKey, keyOf, putC, Bin.f, Cmp.f, Bf.f, Bn.f, isiD, isT, bD, negD, isD, isN, List.getElem?_cons_zero, List.getElem?_cons_succ, List.getElem?_nil, List.set_cons_zero, List.set_cons_succ, List.map_cons, List.map_nil, List.replicate, List.length_cons, List.length_nil, List.cons_append, List.nil_append, add_i, sub_i, int_i, int_b, len_l, len_t, tup_l, tup_t, list_l, list_t, eq_s, eq_i, lt_i, gt_i, le_i, ge_i, lt_s, Option.map_some, Option.map_none, Option.bind_some, Nat.reduceAdd, Int.reduceToNat, Int.reduceAdd, Int.reduceSub, Int.reduceNeg, Int.reduceMul, Int.reduceEq, Int.reduceLT, Int.reduceLE, cast_lit, seq_t, seq_l, if_true, ite_true, ite_false, if_false, and_true, true_and, and_self, Bool.false_eq_true, not_true, not_false_iff, decide_true, decide_false, Bool.not_true, Bool.not_false, Option.isSome_some, Option.isSome_none, pureF, datas, runB, It.enc, Tg.put, Tg.puts, heq, hin, i1, ln, qn, sl, al, f1, f2, g1, i2, r1, h3, sh0, sh1, dctOf, zipD, List.zipWith_cons_cons, List.zipWith_nil_left, lcS, Res.nx, ex, ey, exFor, forS, b_size_of_item_0]
  | near h1 h2 h3 =>
    have f1 := fun M => fits_n (w := w) (n := n) (M := M) h h1
    have f2 := fun M => fits_n (w := w) (n := n) (M := M) h h2
    have g1 : dGet shL (.inr "near") = some (.dat (.str "nn")) := by rfl
    have i2 : inD (.str "near") (.tuple [.str "all", .str "same", .str "near"]) = some true := by rfl
    have r1 : decide (("near" : Str) = "rename") = false := by decide +kernel
    simp (disch := first | omega | (simp only [List.length_cons, List.length_nil, List.length_map, List.length_append, List.length_reverse]; omega)) only [at0, at1, at2, at3, at4, idx_l, idx_t, rng_b, rng_b2, dec_le, dec_lt, add_t, add_l, mod_i, fdiv_i, pow_i, mul_i, exSs_nil, exSs_cons, exS, exSeq, exNil, exRet, exEx, exIf, exSet, exPar, exPut, exApp, exAug, ofE_ok, ofB_ok, ofEs_ok, andThen_nx, andThen_rt, Tg.putV, setAll, evE, evEs, evs, evn, ev1, ev2, evVar, evLit, evCon, evIf, evAnd, evOr, evCh, evTup, evLst, evCall, evSl, evPart, MP.part, evDget, evDin, evDget2, evDisp, evPs, pairK, toB, asB, notD, newK, frz, cel, siNew, siNew2, siSeq, evIt, siZip, siRng, siRng2, evLc, wipeE, Res.bind_ok, v1, v2, vn, view, views, datsOf, asKey, keyOf, putC, Bin.f, Cmp.f, Bf.f, Bn.f, isiD, isT, bD, negD, isD, isN, List.getElem?_cons_zero, List.getElem?_cons_succ, List.getElem?_nil, List.set_cons_zero, List.set_cons_succ, List.map_cons, List.map_nil, List.replicate, List.length_cons, List.length_nil, List.cons_append, List.nil_append, add_i, sub_i, int_i, int_b, len_l, len_t, tup_l, tup_t, list_l, list_t, eq_s, eq_i, lt_i, gt_i, le_i, ge_i, lt_s, Option.map_some, Option.map_none, Option.bind_some, Nat.reduceAdd, Int.reduceToNat, Int.reduceAdd, Int.reduceSub, Int.reduceNeg, Int.reduceMul, Int.reduceEq, Int.reduceLT, Int.reduceLE, cast_lit, seq_t, seq_l, if_true, ite_true, ite_false, if_false, and_true, true_and, and_self, Bool.false_eq_true, not_true, not_false_iff, decide_true, decide_false, Bool.not_true, Bool.not_false, Option.isSome_some, Option.isSome_none, pureF, datas, runB, It.enc, Tg.put, Tg.puts, heq, hin, i1, ln, qn, sl, al, f1, f2, g1, i2, r1, h3, sh0, sh1, dctOf, zipD, List.zipWith_cons_cons, List.zipWith_nil_left, lcS, Res.nx, ex, ey, exFor, forS, b_size_of_item_0]
mutual
theorem item_size (h : LN L N) : ∀ (i : It) (n : Nat) (deep : Int) (M : Mem), i.ok L N → 2 * i.depth + 6 ≤ n → 0 ≤ deep → deep + i.depth ≤ 6 → callF w T n "size_of_item" [sL L, sN N, .dat i.enc, .dat (.int deep)] M = .ok (.dat (.int i.size)) M
  | .op f as, n, deep, M, ok, hn, h0, hd => by
    obtain ⟨m, rfl⟩ : ∃ m, n = m + 4 := ⟨n - 4, by simp only [It.depth] at hn; omega⟩
    exact op_size h.l h.n ok
  | .br f a b x y, n, deep, M, ok, hn, h0, hd => by
    simp only [It.depth] at hn hd
    obtain ⟨m, rfl⟩ : ∃ m, n = m + 3 := ⟨n - 3, by omega⟩
    have ex := fun M => body_size h x (m + 2) (deep + 1) M ok.2.1 (by omega) (by omega) (by omega)
    have ey := fun M => body_size h y (m + 2) (deep + 1) M ok.2.2 (by omega) (by omega) (by omega)
    rw [br_size h ok.1 ok (by simp only [It.depth]; omega) ex ey]
    simp only [It.size]
    congr 4
theorem loop_size (h : LN L N) : ∀ (is : List It) (n : Nat) (deep : Int) (M : Mem) (acc : Int) (bd e5 e6 : Option Val), Its L N is → 2 * depths is + 6 ≤ n → 0 ≤ deep → deep + depths is ≤ 6 →
    ∃ e5' e6', forS (.nm 5) (exSs (T.cfg w n) b_size_of_0) (encs is) [some (sL L), some (sN N), bd, some (.dat (.int deep)), some (.dat (.int acc)), e5, e6] M = .ok (.nx [some (sL L), some (sN N), bd, some (.dat (.int deep)), some (.dat (.int (acc + sizes is))), e5', e6']) M
  | [], n, deep, M, acc, bd, e5, e6, ok, hn, h0, hd => ⟨e5, e6, by simp [encs, forS, sizes]⟩
  | i :: is, n, deep, M, acc, bd, e5, e6, ok, hn, h0, hd => by
    simp only [depths] at hn hd
    have e1 := item_size h i n deep M ok.1 (by omega) h0 (by omega)
    obtain ⟨e5', e6', e2⟩ := loop_size h is n deep M (acc + i.size) bd (some (.dat i.enc)) (some (.dat (.int i.size))) ok.2 (by omega) h0 (by omega)
    refine ⟨e5', e6', ?_⟩
    simp only [encs]
    rw [loop_step (env1 := [some (sL L), some (sN N), bd, some (.dat (.int deep)), some (.dat (.int acc)), some (.dat i.enc), e6]) (env2 := [some (sL L), some (sN N), bd, some (.dat (.int deep)), some (.dat (.int (acc + i.size))), some (.dat i.enc), some (.dat (.int i.size))]) (M2 := M) rfl (by
      unfold b_size_of_0
      simp (disch := first | omega | (simp only [List.length_cons, List.length_nil, List.length_map, List.length_append, List.length_reverse]; omega)) only [at0, at1, at2, at3, at4, idx_l, idx_t, rng_b, rng_b2, dec_le, dec_lt, add_t, add_l, mod_i, fdiv_i, pow_i, mul_i, exSs_nil, exSs_cons, exS, exSeq, exNil, exRet, exEx, exIf, exSet, exPar, exPut, exApp, exAug, ofE_ok, ofB_ok, ofEs_ok, andThen_nx, andThen_rt, Tg.putV, setAll, evE, evEs, evs, evn, ev1, ev2, evVar, evLit, evCon, evIf, evAnd, evOr, evCh, evTup, evLst, evCall, evSl, evPart, MP.part, evDget, evDin, evDget2, evDisp, evPs, pairK, toB, asB, notD, newK, frz, cel, siNew, siNew2, siSeq, evIt, siZip, siRng, siRng2, evLc, wipeE, Res.bind_ok, v1, v2, vn, view, views, datsOf, asKey, keyOf, putC, Bin.f, Cmp.f, Bf.f, Bn.f, isiD, isT, bD, negD, isD, isN, List.getElem?_cons_zero, List.getElem?_cons_succ, List.getElem?_nil, List.set_cons_zero, List.set_cons_succ, List.map_cons, List.map_nil, List.replicate, List.length_cons, List.length_nil, List.cons_append, List.nil_append, add_i, sub_i, int_i, int_b, len_l, len_t, tup_l, tup_t, list_l, list_t, eq_s, eq_i, lt_i, gt_i, le_i, ge_i, lt_s, Option.map_some, Option.map_none, Option.bind_some, Nat.reduceAdd, Int.reduceToNat, Int.reduceAdd, Int.reduceSub, Int.reduceNeg, Int.reduceMul, Int.reduceEq, Int.reduceLT, Int.reduceLE, cast_lit, seq_t, seq_l, if_true, ite_true, ite_false, if_false, and_true, true_and, and_self, Bool.false_eq_true, not_true, not_false_iff, decide_true, decide_false, Bool.not_true, Bool.not_false, Option.isSome_some, Option.isSome_none, e1]), e2]
    have e : acc + (i.size : Int) + (sizes is : Int) = acc + ((i.size + sizes is : Nat) : Int) := by omega
    simp only [sizes]
    rw [e]
theorem body_size (h : LN L N) : ∀ (is : List It) (n : Nat) (deep : Int) (M : Mem), Its L N is → 2 * depths is + 7 ≤ n → 0 ≤ deep → deep + depths is ≤ 6 → callF w T n "size_of" [sL L, sN N, .dat (.tuple (encs is)), .dat (.int deep)] M = .ok (.dat (.int (sizes is))) M
  | is, n, deep, M, ok, hn, h0, hd => by
    obtain ⟨m, rfl⟩ : ∃ m, n = m + 1 := ⟨n - 1, by omega⟩
    obtain ⟨e5', e6', e2⟩ := loop_size h is m deep [] 0 (some (.dat (.tuple (encs is)))) none none ok (by omega) h0 hd
    have hdeep : ¬ (6 : Int) < deep := by omega
    have hc : T.gl "MOST_DEEP" = some (.int 6) := by rfl
    rw [callF_eq f_so]
    unfold d_size_of
    simp (disch := first | omega | (simp only [List.length_cons, List.length_nil, List.length_map, List.length_append, List.length_reverse]; omega)) only [at0, at1, at2, at3, at4, idx_l, idx_t, rng_b, rng_b2, dec_le, dec_lt, add_t, add_l, mod_i, fdiv_i, pow_i, mul_i, exSs_nil, exSs_cons, exS, exSeq, exNil, exRet, exEx, exIf, exSet, exPar, exPut, exApp, exAug, ofE_ok, ofB_ok, ofEs_ok, andThen_nx, andThen_rt, Tg.putV, setAll, evE, evEs, evs, evn, ev1, ev2, evVar, evLit, evCon, evIf, evAnd, evOr, evCh, evTup, evLst, evCall, evSl, evPart, MP.part, evDget, evDin, evDget2, evDisp, evPs, pairK, toB, asB, notD, newK, frz, cel, siNew, siNew2, siSeq, evIt, siZip, siRng, siRng2, evLc, wipeE, Res.bind_ok, v1, v2, vn, view, views, datsOf, asKey, keyOf, putC, Bin.f, Cmp.f, Bf.f, Bn.f, isiD, isT, bD, negD, isD, isN, List.getElem?_cons_zero, List.getElem?_cons_succ, List.getElem?_nil, List.set_cons_zero, List.set_cons_succ, List.map_cons, List.map_nil, List.replicate, List.length_cons, List.length_nil, List.cons_append, List.nil_append, add_i, sub_i, int_i, int_b, len_l, len_t, tup_l, tup_t, list_l, list_t, eq_s, eq_i, lt_i, gt_i, le_i, ge_i, lt_s, Option.map_some, Option.map_none, Option.bind_some, Nat.reduceAdd, Int.reduceToNat, Int.reduceAdd, Int.reduceSub, Int.reduceNeg, Int.reduceMul, Int.reduceEq, Int.reduceLT, Int.reduceLE, cast_lit, seq_t, seq_l, if_true, ite_true, ite_false, if_false, and_true, true_and, and_self, Bool.false_eq_true, not_true, not_false_iff, decide_true, decide_false, Bool.not_true, Bool.not_false, Option.isSome_some, Option.isSome_none, Df.wrap, pureF, datas, runB, exFor, hc, hdeep, e2, Int.zero_add]
end
end
end LawX
set_option Elab.async false
set_option linter.all false
set_option maxRecDepth 100000
set_option maxHeartbeats 8000000
/-! PH3: is_program of what is drawn. -/
namespace LawX
open PySem PySem.Spec PyProof.Rows L2 MP
def lss1 : List (List (Str × Str)) := kindL.map fun k => [("s", k)]
def lss2 (a b : Str) : List (List (Str × Str)) := kindL.flatMap fun k => kindL.map fun k' => [(a, k), (b, k')]
def lssAll : List (List (Str × Str)) := lss1 ++ (lss2 "disk" "s" ++ lss2 "a" "zzzzzzzz")
theorem ls_mem {h : Hd} (ok : h.Ok) : h.ls ∈ lssAll := by
  obtain ⟨l, k, _⟩ := ok
  obtain ⟨ls, ns⟩ := h
  simp only [Hd.L] at l k ⊢
  unfold lssAll
  have two : ∀ a b : Str, ls.map (·.1) = [a, b] → ls ∈ lss2 a b := by
    intro a b e
    match ls, e with
    | [(x, k1), (y, k2)], e =>
      simp only [List.map_cons, List.map_nil, List.cons.injEq, and_true] at e
      obtain ⟨rfl, rfl⟩ := e
      exact List.mem_flatMap.mpr ⟨k1, k (x, k1) (by simp), List.mem_map.mpr ⟨k2, k (y, k2) (by simp), rfl⟩⟩
  rcases l with e | e | e
  · refine List.mem_append_left _ ?_
    rcases ls with _ | ⟨⟨x, k1⟩, _ | ⟨_, _⟩⟩
    · simp [lab1] at e
    · simp only [lab1, List.map_cons, List.map_nil, List.cons.injEq, and_true] at e
      subst e
      exact List.mem_map.mpr ⟨k1, k (_, k1) List.mem_cons_self, rfl⟩
    · simp [lab1] at e
  · exact List.mem_append_right _ (List.mem_append_left _ (two _ _ e))
  · exact List.mem_append_right _ (List.mem_append_right _ (two _ _ e))
section
variable {w : Mw} {n : Nat} {M : Mem}
theorem stores_ok {h : Hd} (ok : h.Ok) : callF w T (n + 4) "are_stores" [.dat h.ss] M = .ok (.dat (.bool true)) M := by
  have key : lssAll.map (fun ls => callF w T (n + 4) "are_stores" [.dat (Hd.ss ⟨ls, []⟩)] M) = lssAll.map fun _ => .ok (.dat (.bool true)) M := by kernel_rfl
  exact List.map_inj_left.mp key h.ls (ls_mem ok)
theorem LN.of {h : Hd} (ok : h.Ok) : LN h.L h.ns := ⟨ok.l, ok.n⟩
theorem names_ok {L N : List Str} (h : LN L N) : callF w T (n + 4) "are_names" [sL L, sN N] M = .ok (.dat (.bool true)) M := by
  obtain ⟨hL, hN⟩ := h
  rcases hL with rfl | rfl | rfl <;> rcases hN with rfl | rfl | rfl <;> kernel_rfl
theorem f_labels : T.fn "labels_of" = some d_labels_of := by rfl
theorem labels_ok {h : Hd} (ok : h.Ok) {d : PyData} : callF w T (n + 1) "labels_of" [.dat (.tuple [h.ss, h.nms, d])] M = .ok (sL h.L) M := by
  have key : lssAll.map (fun ls => callF w T (n + 1) "labels_of" [.dat (.tuple [Hd.ss ⟨ls, []⟩, h.nms, d])] M) = lssAll.map fun ls => .ok (sL (Hd.L ⟨ls, []⟩)) M := by kernel_rfl
  exact List.map_inj_left.mp key h.ls (ls_mem ok)
theorem f_isp : T.fn "is_program" = some d_is_program := by rfl
theorem isp_ok {p : Pr} {lim : Nat} (ok : p.Ok lim) (hl : lim ≤ 24) : callF w T (n + 20) "is_program" [.dat p.enc] M = .ok (.dat (.bool true)) M := by
  have ln := LN.of ok.h
  have e1 := fun M => stores_ok (w := w) (n := n + 15) (M := M) ok.h
  have e2 := fun M => labels_ok (w := w) (n := n + 18) (M := M) ok.h (d := .tuple (encs p.its))
  have e3 := fun M => names_ok (w := w) (n := n + 15) (M := M) ln
  have e4 := fun M => body_size (w := w) ln p.its (n + 19) 1 M ok.i (by have := ok.d; omega) (by omega) (by have := ok.d; omega)
  have hs : ((sizes p.its : Nat) : Int) ≤ 24 := by have := ok.s; omega
  have hc : T.gl "MOST_STEPS" = some (.int 24) := by rfl
  rw [callF_eq f_isp]
  unfold d_is_program
  simp only [Hd.nms] at e2
  simp (disch := first | omega | (simp only [List.length_cons, List.length_nil, List.length_map, List.length_append, List.length_reverse]; omega)) only [at0, at1, at2, at3, at4, idx_l, idx_t, rng_b, rng_b2, dec_le, dec_lt, add_t, add_l, mod_i, fdiv_i, pow_i, mul_i, exSs_nil, exSs_cons, exS, exSeq, exNil, exRet, exEx, exIf, exSet, exPar, exPut, exApp, exAug, ofE_ok, ofB_ok, ofEs_ok, andThen_nx, andThen_rt, Tg.putV, setAll, evE, evEs, evs, evn, ev1, ev2, evVar, evLit, evCon, evIf, evAnd, evOr, evCh, evTup, evLst, evCall, evSl, evPart, MP.part, evDget, evDin, evDget2, evDisp, evPs, pairK, toB, asB, notD, newK, frz, cel, siNew, siNew2, siSeq, evIt, siZip, siRng, siRng2, evLc, wipeE, Res.bind_ok, v1, v2, vn, view, views, datsOf, asKey, keyOf, putC, Bin.f, Cmp.f, Bf.f, Bn.f, isiD, isT, bD, negD, isD, isN, List.getElem?_cons_zero, List.getElem?_cons_succ, List.getElem?_nil, List.set_cons_zero, List.set_cons_succ, List.map_cons, List.map_nil, List.replicate, List.length_cons, List.length_nil, List.cons_append, List.nil_append, add_i, sub_i, int_i, int_b, len_l, len_t, tup_l, tup_t, list_l, list_t, eq_s, eq_i, lt_i, gt_i, le_i, ge_i, lt_s, Option.map_some, Option.map_none, Option.bind_some, Nat.reduceAdd, Int.reduceToNat, Int.reduceAdd, Int.reduceSub, Int.reduceNeg, Int.reduceMul, Int.reduceEq, Int.reduceLT, Int.reduceLE, cast_lit, seq_t, seq_l, if_true, ite_true, ite_false, if_false, and_true, true_and, and_self, Bool.false_eq_true, not_true, not_false_iff, decide_true, decide_false, Bool.not_true, Bool.not_false, Option.isSome_some, Option.isSome_none, Df.wrap, pureF, datas, runB, Pr.enc, Hd.nms, e1, e2, e3, e4, hc, hs, isT]
theorem f_need : T.fn "need_program" = some d_need_program := by rfl
theorem need_ok {p : Pr} {lim : Nat} (ok : p.Ok lim) (hl : lim ≤ 24) : callF w T (n + 21) "need_program" [.dat p.enc] M = .ok (.dat .none) M := by
  have e1 := fun M => isp_ok (w := w) (n := n) (M := M) ok hl
  rw [callF_eq f_need]
  unfold d_need_program
  simp (disch := first | omega | (simp only [List.length_cons, List.length_nil, List.length_map, List.length_append, List.length_reverse]; omega)) only [at0, at1, at2, at3, at4, idx_l, idx_t, rng_b, rng_b2, dec_le, dec_lt, add_t, add_l, mod_i, fdiv_i, pow_i, mul_i, exSs_nil, exSs_cons, exS, exSeq, exNil, exRet, exEx, exIf, exSet, exPar, exPut, exApp, exAug, ofE_ok, ofB_ok, ofEs_ok, andThen_nx, andThen_rt, Tg.putV, setAll, evE, evEs, evs, evn, ev1, ev2, evVar, evLit, evCon, evIf, evAnd, evOr, evCh, evTup, evLst, evCall, evSl, evPart, MP.part, evDget, evDin, evDget2, evDisp, evPs, pairK, toB, asB, notD, newK, frz, cel, siNew, siNew2, siSeq, evIt, siZip, siRng, siRng2, evLc, wipeE, Res.bind_ok, v1, v2, vn, view, views, datsOf, asKey, keyOf, putC, Bin.f, Cmp.f, Bf.f, Bn.f, isiD, isT, bD, negD, isD, isN, List.getElem?_cons_zero, List.getElem?_cons_succ, List.getElem?_nil, List.set_cons_zero, List.set_cons_succ, List.map_cons, List.map_nil, List.replicate, List.length_cons, List.length_nil, List.cons_append, List.nil_append, add_i, sub_i, int_i, int_b, len_l, len_t, tup_l, tup_t, list_l, list_t, eq_s, eq_i, lt_i, gt_i, le_i, ge_i, lt_s, Option.map_some, Option.map_none, Option.bind_some, Nat.reduceAdd, Int.reduceToNat, Int.reduceAdd, Int.reduceSub, Int.reduceNeg, Int.reduceMul, Int.reduceEq, Int.reduceLT, Int.reduceLE, cast_lit, seq_t, seq_l, if_true, ite_true, ite_false, if_false, and_true, true_and, and_self, Bool.false_eq_true, not_true, not_false_iff, decide_true, decide_false, Bool.not_true, Bool.not_false, Option.isSome_some, Option.isSome_none, Df.wrap, pureF, datas, runB, e1]
end
end LawX
set_option Elab.async false
set_option linter.all false
set_option maxRecDepth 100000
set_option maxHeartbeats 8000000
/-! PH4: the texts. -/
namespace LawX
open PySem PySem.Spec PyProof.Rows L2 MP
mutual
def It.txt : It → Str
  | .op f as => Txt.join " " (f :: as)
  | .br f a b x y => Txt.join " " [f, a, b] ++ " (" ++ Txt.join " | " [Txt.join "; " (txts x), Txt.join "; " (txts y)] ++ ")"
def txts : List It → List Str
  | [] => []
  | i :: is => i.txt :: txts is
end
def btxt (is : List It) : Str := Txt.join "; " (txts is)
theorem txts_map : ∀ is : List It, txts is = is.map It.txt
  | [] => rfl
  | i :: is => by rw [txts, txts_map is]; rfl
theorem join_len (y : Str) (xs : List Str) : (Txt.join y xs).length ≤ (xs.map (·.length)).sum + xs.length * y.length := by
  show (Builtin.Str.glued y xs).length ≤ _
  rw [StrLaws.glued_eq_join]
  exact StrLaws.join_length_le y xs
section
variable {L N : List Str}
theorem ops_len (h : LN L N) : (opsAll L N).all (fun p => decide ((Txt.join " " (p.1 :: p.2)).length ≤ 60)) = true := by
  obtain ⟨hL, hN⟩ := h
  rcases hL with rfl | rfl | rfl <;> rcases hN with rfl | rfl | rfl <;> decide +kernel
theorem str_len (h : LN L N) {s : Str} (hs : s ∈ L ∨ s ∈ N) : s.length ≤ 8 := by
  have : (L ++ N).all (fun s => decide (s.length ≤ 8)) = true := by
    obtain ⟨hL, hN⟩ := h
    rcases hL with rfl | rfl | rfl <;> rcases hN with rfl | rfl | rfl <;> decide +kernel
  exact of_decide_eq_true (List.all_eq_true.mp this s (by simpa using hs))
theorem br_len (h : LN L N) {f a b : Str} (hb : BrOk L N f a b) : f.length ≤ 8 ∧ a.length ≤ 8 ∧ b.length ≤ 8 := by
  cases hb with
  | ife h1 h2 => exact ⟨by decide +kernel, str_len h (.inl h1), str_len h (.inr h2)⟩
  | same h1 h2 _ => exact ⟨by decide +kernel, str_len h (.inr h1), str_len h (.inr h2)⟩
  | near h1 h2 _ => exact ⟨by decide +kernel, str_len h (.inr h1), str_len h (.inr h2)⟩
mutual
theorem len_it (h : LN L N) : ∀ i : It, i.ok L N → i.txt.length + 2 ≤ 100 * i.size
  | .op f as, ok => by
    have : (Txt.join " " (f :: as)).length ≤ 60 := of_decide_eq_true (List.all_eq_true.mp (ops_len h) (f, as) (ops_mem ok))
    simp only [It.txt, It.size]
    omega
  | .br f a b x y, ok => by
    obtain ⟨k1, k2, k3⟩ := ok
    obtain ⟨s1, s2, s3⟩ := br_len h k1
    have h1 := len_its h x k2
    have h2 := len_its h y k3
    have j0 := join_len " " [f, a, b]
    have j1 := join_len " | " [Txt.join "; " (txts x), Txt.join "; " (txts y)]
    have j2 := join_len "; " (txts x)
    have j3 := join_len "; " (txts y)
    have c1 : (" " : Str).length = 1 := by rfl
    have c2 : (" | " : Str).length = 3 := by rfl
    have c3 : ("; " : Str).length = 2 := by rfl
    have c4 : (" (" : Str).length = 2 := by rfl
    have c5 : (")" : Str).length = 1 := by rfl
    simp only [List.map_cons, List.map_nil, List.sum_cons, List.sum_nil, List.length_cons, List.length_nil, c1, c2, c3] at j0 j1 j2 j3
    simp only [It.txt, It.size, Str.length_append, c4, c5]
    omega
theorem len_its (h : LN L N) : ∀ is : List It, Its L N is → ((txts is).map (·.length)).sum + (txts is).length * 2 ≤ 100 * sizes is
  | [], _ => by simp [txts, sizes]
  | i :: is, ok => by
    have h1 := len_it h i ok.1
    have h2 := len_its h is ok.2
    simp only [txts, List.map_cons, List.sum_cons, List.length_cons, sizes]
    omega
end
theorem btxt_len (h : LN L N) {is : List It} (ok : Its L N is) : (btxt is).length ≤ 100 * sizes is := by
  have := join_len "; " (txts is)
  have c3 : ("; " : Str).length = 2 := by rfl
  rw [c3] at this
  have := len_its h is ok
  unfold btxt
  omega
end
section
variable {w : Mw} {n : Nat} {M : Mem} {L N : List Str}
theorem strsD_map : ∀ xs : List Str, strsD (xs.map .str) = some xs
  | [] => rfl
  | x :: xs => by rw [List.map_cons, strsD, strsD_map xs]; rfl
theorem join_l {y : Str} {xs : List Str} (h : (xs.map fun x : Str => x.length).sum + xs.length * y.length ≤ 16777216) : joinD (.str y) (.list (xs.map .str)) = some (.str (Txt.join y xs)) := by
  simp only [joinD, strsD_map, Option.bind_some]
  rw [if_pos h]
theorem join_t {y : Str} {xs : List Str} (h : (xs.map fun x : Str => x.length).sum + xs.length * y.length ≤ 16777216) : joinD (.str y) (.tuple (xs.map .str)) = some (.str (Txt.join y xs)) := by
  simp only [joinD, strsD_map, Option.bind_some]
  rw [if_pos h]
theorem lcS_its {t : Tg} {elt : Sm} {M : Mem} (g : It → PyData) : ∀ {is : List It} {env : MP.Env}, (∀ i ∈ is, ∃ env1, t.put i.enc env = some env1 ∧ elt env1 M = .ok (.dat (g i)) M) → lcS t none elt (encs is) env M = .ok (is.map g) M
  | [], _, _ => rfl
  | d :: ds, env, h => by
    obtain ⟨env1, h1, h2⟩ := h d List.mem_cons_self
    have ih := lcS_its (t := t) (elt := elt) (M := M) g (is := ds) (env := env) fun x hx => h x (List.mem_cons_of_mem _ hx)
    simp only [encs, lcS, h1, h2, Res.bind_ok, Res.nx, ih, List.map_cons]
theorem op_text (h : LN L N) {f : Str} {as : List Str} (ok : OpOk L N f as) : callF w T (n + 4) "item_text" [.dat (It.enc (.op f as))] M = .ok (.dat (.str (It.txt (.op f as)))) M := by
  have key : (opsAll L N).map (fun p => callF w T (n + 4) "item_text" [.dat (It.enc (.op p.1 p.2))] M) = (opsAll L N).map fun p => .ok (.dat (.str (It.txt (.op p.1 p.2)))) M := by
    obtain ⟨hL, hN⟩ := h
    rcases hL with rfl | rfl | rfl <;> rcases hN with rfl | rfl | rfl <;> kernel_rfl
  exact List.map_inj_left.mp key (f, as) (ops_mem ok)
theorem op_text' (h : LN L N) {f : Str} {as : List Str} (ok : OpOk L N f as) : callF w T (n + 4) "_law_item_text" [.dat (It.enc (.op f as))] M = .ok (.dat (.str (It.txt (.op f as)))) M := by
  have key : (opsAll L N).map (fun p => callF w T (n + 4) "_law_item_text" [.dat (It.enc (.op p.1 p.2))] M) = (opsAll L N).map fun p => .ok (.dat (.str (It.txt (.op p.1 p.2)))) M := by
    obtain ⟨hL, hN⟩ := h
    rcases hL with rfl | rfl | rfl <;> rcases hN with rfl | rfl | rfl <;> kernel_rfl
  exact List.map_inj_left.mp key (f, as) (ops_mem ok)
theorem f_it : T.fn "item_text" = some d_item_text := by rfl
theorem f_bt : T.fn "body_text" = some d_body_text := by rfl
theorem f_lit : T.fn "_law_item_text" = some d__law_item_text := by rfl
theorem f_lbt : T.fn "_law_body_text" = some d__law_body_text := by rfl
theorem bodies_ne {L N : List Str} (h : LN L N) {x y : List It} (ox : Its L N x) (oy : Its L N y) (hx : depths x ≤ 20) (hy : depths y ≤ 20) : eqD (.tuple [.tuple (encs x), .tuple (encs y)]) (.tuple []) = some false := by
  have hs : SeqAt.shaped (.tuple [.tuple (encs x), .tuple (encs y)]) = true := by
    unfold SeqAt.shaped
    have d1 := dep_its x
    have d2 := dep_its y
    have l : PyData.canLay0 (.tuple [.tuple (encs x), .tuple (encs y)]) = true := by
      simp only [PyData.canLay0, PyData.canLayAll0, lay_its h x ox, lay_its h y oy, Bool.and_self]
    rw [l, Bool.true_and]
    refine decide_eq_true ?_
    simp only [PyData.depth, PyData.depthAll]
    omega
  have e : eqD (.tuple [.tuple (encs x), .tuple (encs y)]) (.tuple []) = if SeqAt.shaped (.tuple [.tuple (encs x), .tuple (encs y)]) && SeqAt.shaped (.tuple []) then some (PyData.eqv (.tuple [.tuple (encs x), .tuple (encs y)]) (.tuple [])) else none := rfl
  rw [e, hs]
  rfl
mutual
theorem item_text (h : LN L N) : ∀ (i : It) (n : Nat) (M : Mem), i.ok L N → 2 * i.depth + 6 ≤ n → i.size ≤ 1000 → i.depth ≤ 15 → callF w T n "item_text" [.dat i.enc] M = .ok (.dat (.str i.txt)) M
  | .op f as, n, M, ok, hn, hs, hd => by
    obtain ⟨m, rfl⟩ : ∃ m, n = m + 4 := ⟨n - 4, by simp only [It.depth] at hn; omega⟩
    exact op_text h ok
  | .br f a b x y, n, M, ok, hn, hs, hd => by
    simp only [It.depth] at hn hd
    simp only [It.size] at hs
    obtain ⟨m, rfl⟩ : ∃ m, n = m + 3 := ⟨n - 3, by omega⟩
    have ex := fun M => body_text h x (m + 2) M ok.2.1 (by omega) (by omega) (by omega)
    have ey := fun M => body_text h y (m + 2) M ok.2.2 (by omega) (by omega) (by omega)
    have hf : f = "if" ∨ f = "same" ∨ f = "near" := by
      cases ok.1 with
      | ife => exact .inl rfl
      | same => exact .inr (.inl rfl)
      | near => exact .inr (.inr rfl)
    have hin := fun M => inner_br (w := w) (n := m + 1) (M := M) hf (a := a) (b := b) (x := x) (y := y)
    have hne := bodies_ne h ok.2.1 ok.2.2 (by omega) (by omega)
    have sl : sliceD none (some 3) (.tuple [.str f, .str a, .str b, .tuple (encs x), .tuple (encs y)]) = some (.tuple [.str f, .str a, .str b]) := by rfl
    obtain ⟨s1, s2, s3⟩ := br_len h ok.1
    have c1 : (" " : Str).length = 1 := by rfl
    have c2 : (" | " : Str).length = 3 := by rfl
    have c4 : (" (" : Str).length = 2 := by rfl
    have c5 : (")" : Str).length = 1 := by rfl
    have lx := btxt_len h ok.2.1
    have ly := btxt_len h ok.2.2
    have j1 : joinD (.str " ") (.tuple [.str f, .str a, .str b]) = some (.str (Txt.join " " [f, a, b])) := join_t (xs := [f, a, b]) (by simp [c1]; omega)
    have j2 : joinD (.str " | ") (.list [.str (btxt x), .str (btxt y)]) = some (.str (Txt.join " | " [btxt x, btxt y])) := join_l (xs := [btxt x, btxt y]) (by simp [c2]; omega)
    have k1 := join_len " " [f, a, b]
    have k2 := join_len " | " [btxt x, btxt y]
    simp only [List.map_cons, List.map_nil, List.sum_cons, List.sum_nil, List.length_cons, List.length_nil, c1, c2] at k1 k2
    have a1 : addD (.str (Txt.join " " [f, a, b])) (.str " (") = some (.str (Txt.join " " [f, a, b] ++ " (")) := add_s (by rw [c4]; omega)
    have a2 : addD (.str (Txt.join " " [f, a, b] ++ " (")) (.str (Txt.join " | " [btxt x, btxt y])) = some (.str (Txt.join " " [f, a, b] ++ " (" ++ Txt.join " | " [btxt x, btxt y])) := add_s (by rw [Str.length_append, c4]; omega)
    have a3 : addD (.str (Txt.join " " [f, a, b] ++ " (" ++ Txt.join " | " [btxt x, btxt y])) (.str ")") = some (.str (Txt.join " " [f, a, b] ++ " (" ++ Txt.join " | " [btxt x, btxt y] ++ ")")) := add_s (by rw [Str.length_append, Str.length_append, c4, c5]; omega)
    simp only [It.enc] at hin
    rw [callF_eq f_it]
    unfold d_item_text
    simp (disch := first | omega | (simp only [List.length_cons, List.length_nil, List.length_map, List.length_append, List.length_reverse]; omega)) only [at0, at1, at2, at3, at4, idx_l, idx_t, rng_b, rng_b2, dec_le, dec_lt, add_t, add_l, mod_i, fdiv_i, pow_i, mul_i, exSs_nil, exSs_cons, exS, exSeq, exNil, exRet, exEx, exIf, exSet, exPar, exPut, exApp, exAug, ofE_ok, ofB_ok, ofEs_ok, andThen_nx, andThen_rt, Tg.putV, setAll, evE, evEs, evs, evn, ev1, ev2, evVar, evLit, evCon, evIf, evAnd, evOr, evCh, evTup, evLst, evCall, evSl, evPart, MP.part, evDget, evDin, evDget2, evDisp, evPs, pairK, toB, asB, notD, newK, frz, cel, siNew, siNew2, siSeq, evIt, siZip, siRng, siRng2, evLc, wipeE, Res.bind_ok, v1, v2, vn, view, views, datsOf, asKey, keyOf, putC, Bin.f, Cmp.f, Bf.f, Bn.f, isiD, isT, bD, negD, isD, isN, List.getElem?_cons_zero, List.getElem?_cons_succ, List.getElem?_nil, List.set_cons_zero, List.set_cons_succ, List.map_cons, List.map_nil, List.replicate, List.length_cons, List.length_nil, List.cons_append, List.nil_append, add_i, sub_i, int_i, int_b, len_l, len_t, tup_l, tup_t, list_l, list_t, eq_s, eq_i, lt_i, gt_i, le_i, ge_i, lt_s, Option.map_some, Option.map_none, Option.bind_some, Nat.reduceAdd, Int.reduceToNat, Int.reduceAdd, Int.reduceSub, Int.reduceNeg, Int.reduceMul, Int.reduceEq, Int.reduceLT, Int.reduceLE, cast_lit, seq_t, seq_l, if_true, ite_true, ite_false, if_false, and_true, true_and, and_self, Bool.false_eq_true, not_true, not_false_iff, decide_true, decide_false, Bool.not_true, Bool.not_false, Option.isSome_some, Option.isSome_none, Df.wrap, pureF, datas, runB, It.enc, hin, hne, sl, evJoin, j1, j2, a1, a2, a3, lcS, Tg.put, Res.nx, ex, ey, It.txt]
    rfl
theorem body_text (h : LN L N) : ∀ (is : List It) (n : Nat) (M : Mem), Its L N is → 2 * depths is + 7 ≤ n → sizes is ≤ 1000 → depths is ≤ 15 → callF w T n "body_text" [.dat (.tuple (encs is))] M = .ok (.dat (.str (btxt is))) M
  | is, n, M, ok, hn, hs, hd => by
    obtain ⟨m, rfl⟩ : ∃ m, n = m + 1 := ⟨n - 1, by omega⟩
    have hi := items_text h is m ok (by omega) hs hd
    have hl1 := encs_len is
    have hl2 := len_le is
    have c3 : ("; " : Str).length = 2 := by rfl
    have hj : joinD (.str "; ") (.list (is.map fun i => PyData.str i.txt)) = some (.str (btxt is)) := by
      have e : (is.map fun i => PyData.str i.txt) = (txts is).map .str := by rw [txts_map, List.map_map]; rfl
      rw [e]
      exact join_l (by have := len_its h is ok; rw [c3]; omega)
    have hlc : ∀ (elt : Sm) (env : MP.Env), (∀ i ∈ is, ∃ env1, (Tg.nm 1).put i.enc env = some env1 ∧ elt env1 [] = .ok (.dat (.str i.txt)) []) → lcS (.nm 1) none elt (encs is) env [] = .ok (is.map fun i => PyData.str i.txt) [] := fun elt env hh => lcS_its _ hh
    rw [callF_eq f_bt]
    unfold d_body_text
    simp (disch := first | omega | (simp only [List.length_cons, List.length_nil, List.length_map, List.length_append, List.length_reverse]; omega)) only [at0, at1, at2, at3, at4, idx_l, idx_t, rng_b, rng_b2, dec_le, dec_lt, add_t, add_l, mod_i, fdiv_i, pow_i, mul_i, exSs_nil, exSs_cons, exS, exSeq, exNil, exRet, exEx, exIf, exSet, exPar, exPut, exApp, exAug, ofE_ok, ofB_ok, ofEs_ok, andThen_nx, andThen_rt, Tg.putV, setAll, evE, evEs, evs, evn, ev1, ev2, evVar, evLit, evCon, evIf, evAnd, evOr, evCh, evTup, evLst, evCall, evSl, evPart, MP.part, evDget, evDin, evDget2, evDisp, evPs, pairK, toB, asB, notD, newK, frz, cel, siNew, siNew2, siSeq, evIt, siZip, siRng, siRng2, evLc, wipeE, Res.bind_ok, v1, v2, vn, view, views, datsOf, asKey, keyOf, putC, Bin.f, Cmp.f, Bf.f, Bn.f, isiD, isT, bD, negD, isD, isN, List.getElem?_cons_zero, List.getElem?_cons_succ, List.getElem?_nil, List.set_cons_zero, List.set_cons_succ, List.map_cons, List.map_nil, List.replicate, List.length_cons, List.length_nil, List.cons_append, List.nil_append, add_i, sub_i, int_i, int_b, len_l, len_t, tup_l, tup_t, list_l, list_t, eq_s, eq_i, lt_i, gt_i, le_i, ge_i, lt_s, Option.map_some, Option.map_none, Option.bind_some, Nat.reduceAdd, Int.reduceToNat, Int.reduceAdd, Int.reduceSub, Int.reduceNeg, Int.reduceMul, Int.reduceEq, Int.reduceLT, Int.reduceLE, cast_lit, seq_t, seq_l, if_true, ite_true, ite_false, if_false, and_true, true_and, and_self, Bool.false_eq_true, not_true, not_false_iff, decide_true, decide_false, Bool.not_true, Bool.not_false, Option.isSome_some, Option.isSome_none, Df.wrap, pureF, datas, runB, evJoin, Res.nx]
    rw [hlc _ _ (fun i hi' => ⟨_, rfl, by
      have e := hi i hi' []
      simp (disch := first | omega | (simp only [List.length_cons, List.length_nil, List.length_map, List.length_append, List.length_reverse]; omega)) only [at0, at1, at2, at3, at4, idx_l, idx_t, rng_b, rng_b2, dec_le, dec_lt, add_t, add_l, mod_i, fdiv_i, pow_i, mul_i, exSs_nil, exSs_cons, exS, exSeq, exNil, exRet, exEx, exIf, exSet, exPar, exPut, exApp, exAug, ofE_ok, ofB_ok, ofEs_ok, andThen_nx, andThen_rt, Tg.putV, setAll, evE, evEs, evs, evn, ev1, ev2, evVar, evLit, evCon, evIf, evAnd, evOr, evCh, evTup, evLst, evCall, evSl, evPart, MP.part, evDget, evDin, evDget2, evDisp, evPs, pairK, toB, asB, notD, newK, frz, cel, siNew, siNew2, siSeq, evIt, siZip, siRng, siRng2, evLc, wipeE, Res.bind_ok, v1, v2, vn, view, views, datsOf, asKey, keyOf, putC, Bin.f, Cmp.f, Bf.f, Bn.f, isiD, isT, bD, negD, isD, isN, List.getElem?_cons_zero, List.getElem?_cons_succ, List.getElem?_nil, List.set_cons_zero, List.set_cons_succ, List.map_cons, List.map_nil, List.replicate, List.length_cons, List.length_nil, List.cons_append, List.nil_append, add_i, sub_i, int_i, int_b, len_l, len_t, tup_l, tup_t, list_l, list_t, eq_s, eq_i, lt_i, gt_i, le_i, ge_i, lt_s, Option.map_some, Option.map_none, Option.bind_some, Nat.reduceAdd, Int.reduceToNat, Int.reduceAdd, Int.reduceSub, Int.reduceNeg, Int.reduceMul, Int.reduceEq, Int.reduceLT, Int.reduceLE, cast_lit, seq_t, seq_l, if_true, ite_true, ite_false, if_false, and_true, true_and, and_self, Bool.false_eq_true, not_true, not_false_iff, decide_true, decide_false, Bool.not_true, Bool.not_false, Option.isSome_some, Option.isSome_none, e]⟩)]
    simp (disch := first | omega | (simp only [List.length_cons, List.length_nil, List.length_map, List.length_append, List.length_reverse]; omega)) only [at0, at1, at2, at3, at4, idx_l, idx_t, rng_b, rng_b2, dec_le, dec_lt, add_t, add_l, mod_i, fdiv_i, pow_i, mul_i, exSs_nil, exSs_cons, exS, exSeq, exNil, exRet, exEx, exIf, exSet, exPar, exPut, exApp, exAug, ofE_ok, ofB_ok, ofEs_ok, andThen_nx, andThen_rt, Tg.putV, setAll, evE, evEs, evs, evn, ev1, ev2, evVar, evLit, evCon, evIf, evAnd, evOr, evCh, evTup, evLst, evCall, evSl, evPart, MP.part, evDget, evDin, evDget2, evDisp, evPs, pairK, toB, asB, notD, newK, frz, cel, siNew, siNew2, siSeq, evIt, siZip, siRng, siRng2, evLc, wipeE, Res.bind_ok, v1, v2, vn, view, views, datsOf, asKey, keyOf, putC, Bin.f, Cmp.f, Bf.f, Bn.f, isiD, isT, bD, negD, isD, isN, List.getElem?_cons_zero, List.getElem?_cons_succ, List.getElem?_nil, List.set_cons_zero, List.set_cons_succ, List.map_cons, List.map_nil, List.replicate, List.length_cons, List.length_nil, List.cons_append, List.nil_append, add_i, sub_i, int_i, int_b, len_l, len_t, tup_l, tup_t, list_l, list_t, eq_s, eq_i, lt_i, gt_i, le_i, ge_i, lt_s, Option.map_some, Option.map_none, Option.bind_some, Nat.reduceAdd, Int.reduceToNat, Int.reduceAdd, Int.reduceSub, Int.reduceNeg, Int.reduceMul, Int.reduceEq, Int.reduceLT, Int.reduceLE, cast_lit, seq_t, seq_l, if_true, ite_true, ite_false, if_false, and_true, true_and, and_self, Bool.false_eq_true, not_true, not_false_iff, decide_true, decide_false, Bool.not_true, Bool.not_false, Option.isSome_some, Option.isSome_none, hj]
theorem items_text (h : LN L N) : ∀ (is : List It) (n : Nat), Its L N is → 2 * depths is + 6 ≤ n → sizes is ≤ 1000 → depths is ≤ 15 → ∀ i ∈ is, ∀ M, callF w T n "item_text" [.dat i.enc] M = .ok (.dat (.str i.txt)) M
  | [], n, ok, hn, hs, hd => fun i hi => by cases hi
  | i :: is, n, ok, hn, hs, hd => fun j hj M => by
    simp only [depths, sizes] at hn hs hd
    rcases List.mem_cons.mp hj with e | hj
    · rw [e]
      exact item_text h i n M ok.1 (by omega) (by omega) (by omega)
    · exact items_text h is n ok.2 (by omega) (by omega) (by omega) j hj M
end
mutual
theorem litem_text (h : LN L N) : ∀ (i : It) (n : Nat) (M : Mem), i.ok L N → 2 * i.depth + 6 ≤ n → i.size ≤ 1000 → i.depth ≤ 15 → callF w T n "_law_item_text" [.dat i.enc] M = .ok (.dat (.str i.txt)) M
  | .op f as, n, M, ok, hn, hs, hd => by
    obtain ⟨m, rfl⟩ : ∃ m, n = m + 4 := ⟨n - 4, by simp only [It.depth] at hn; omega⟩
    exact op_text' h ok
  | .br f a b x y, n, M, ok, hn, hs, hd => by
    simp only [It.depth] at hn hd
    simp only [It.size] at hs
    obtain ⟨m, rfl⟩ : ∃ m, n = m + 3 := ⟨n - 3, by omega⟩
    have ex := fun M => lbody_text h x (m + 2) M ok.2.1 (by omega) (by omega) (by omega)
    have ey := fun M => lbody_text h y (m + 2) M ok.2.2 (by omega) (by omega) (by omega)
    have hf : f = "if" ∨ f = "same" ∨ f = "near" := by
      cases ok.1 with
      | ife => exact .inl rfl
      | same => exact .inr (.inl rfl)
      | near => exact .inr (.inr rfl)
    have i1 : inD (.str f) (.tuple [.str "if", .str "same", .str "near"]) = some true := by
      rcases hf with rfl | rfl | rfl <;> rfl
    have sl3 : sliceD (some 3) none (.tuple [.str f, .str a, .str b, .tuple (encs x), .tuple (encs y)]) = some (.tuple [.tuple (encs x), .tuple (encs y)]) := by rfl
    have hne := bodies_ne h ok.2.1 ok.2.2 (by omega) (by omega)
    have sl : sliceD none (some 3) (.tuple [.str f, .str a, .str b, .tuple (encs x), .tuple (encs y)]) = some (.tuple [.str f, .str a, .str b]) := by rfl
    obtain ⟨s1, s2, s3⟩ := br_len h ok.1
    have c1 : (" " : Str).length = 1 := by rfl
    have c2 : (" | " : Str).length = 3 := by rfl
    have c4 : (" (" : Str).length = 2 := by rfl
    have c5 : (")" : Str).length = 1 := by rfl
    have lx := btxt_len h ok.2.1
    have ly := btxt_len h ok.2.2
    have j1 : joinD (.str " ") (.tuple [.str f, .str a, .str b]) = some (.str (Txt.join " " [f, a, b])) := join_t (xs := [f, a, b]) (by simp [c1]; omega)
    have j2 : joinD (.str " | ") (.list [.str (btxt x), .str (btxt y)]) = some (.str (Txt.join " | " [btxt x, btxt y])) := join_l (xs := [btxt x, btxt y]) (by simp [c2]; omega)
    have k1 := join_len " " [f, a, b]
    have k2 := join_len " | " [btxt x, btxt y]
    simp only [List.map_cons, List.map_nil, List.sum_cons, List.sum_nil, List.length_cons, List.length_nil, c1, c2] at k1 k2
    have a1 : addD (.str (Txt.join " " [f, a, b])) (.str " (") = some (.str (Txt.join " " [f, a, b] ++ " (")) := add_s (by rw [c4]; omega)
    have a2 : addD (.str (Txt.join " " [f, a, b] ++ " (")) (.str (Txt.join " | " [btxt x, btxt y])) = some (.str (Txt.join " " [f, a, b] ++ " (" ++ Txt.join " | " [btxt x, btxt y])) := add_s (by rw [Str.length_append, c4]; omega)
    have a3 : addD (.str (Txt.join " " [f, a, b] ++ " (" ++ Txt.join " | " [btxt x, btxt y])) (.str ")") = some (.str (Txt.join " " [f, a, b] ++ " (" ++ Txt.join " | " [btxt x, btxt y] ++ ")")) := add_s (by rw [Str.length_append, Str.length_append, c4, c5]; omega)
    rw [callF_eq f_lit]
    unfold d__law_item_text
    simp (disch := first | omega | (simp only [List.length_cons, List.length_nil, List.length_map, List.length_append, List.length_reverse]; omega)) only [at0, at1, at2, at3, at4, idx_l, idx_t, rng_b, rng_b2, dec_le, dec_lt, add_t, add_l, mod_i, fdiv_i, pow_i, mul_i, exSs_nil, exSs_cons, exS, exSeq, exNil, exRet, exEx, exIf, exSet, exPar, exPut, exApp, exAug, ofE_ok, ofB_ok, ofEs_ok, andThen_nx, andThen_rt, Tg.putV, setAll, evE, evEs, evs, evn, ev1, ev2, evVar, evLit, evCon, evIf, evAnd, evOr, evCh, evTup, evLst, evCall, evSl, evPart, MP.part, evDget, evDin, evDget2, evDisp, evPs, pairK, toB, asB, notD, newK, frz, cel, siNew, siNew2, siSeq, evIt, siZip, siRng, siRng2, evLc, wipeE, Res.bind_ok, v1, v2, vn, view, views, datsOf, asKey, keyOf, putC, Bin.f, Cmp.f, Bf.f, Bn.f, isiD, isT, bD, negD, isD, isN, List.getElem?_cons_zero, List.getElem?_cons_succ, List.getElem?_nil, List.set_cons_zero, List.set_cons_succ, List.map_cons, List.map_nil, List.replicate, List.length_cons, List.length_nil, List.cons_append, List.nil_append, add_i, sub_i, int_i, int_b, len_l, len_t, tup_l, tup_t, list_l, list_t, eq_s, eq_i, lt_i, gt_i, le_i, ge_i, lt_s, Option.map_some, Option.map_none, Option.bind_some, Nat.reduceAdd, Int.reduceToNat, Int.reduceAdd, Int.reduceSub, Int.reduceNeg, Int.reduceMul, Int.reduceEq, Int.reduceLT, Int.reduceLE, cast_lit, seq_t, seq_l, if_true, ite_true, ite_false, if_false, and_true, true_and, and_self, Bool.false_eq_true, not_true, not_false_iff, decide_true, decide_false, Bool.not_true, Bool.not_false, Option.isSome_some, Option.isSome_none, Df.wrap, pureF, datas, runB, It.enc, i1, sl3, hne, sl, evJoin, j1, j2, a1, a2, a3, lcS, Tg.put, Res.nx, ex, ey, It.txt]
    rfl
theorem lbody_text (h : LN L N) : ∀ (is : List It) (n : Nat) (M : Mem), Its L N is → 2 * depths is + 7 ≤ n → sizes is ≤ 1000 → depths is ≤ 15 → callF w T n "_law_body_text" [.dat (.tuple (encs is))] M = .ok (.dat (.str (btxt is))) M
  | is, n, M, ok, hn, hs, hd => by
    obtain ⟨m, rfl⟩ : ∃ m, n = m + 1 := ⟨n - 1, by omega⟩
    have hi := litems_text h is m ok (by omega) hs hd
    have hl1 := encs_len is
    have hl2 := len_le is
    have c3 : ("; " : Str).length = 2 := by rfl
    have hj : joinD (.str "; ") (.list (is.map fun i => PyData.str i.txt)) = some (.str (btxt is)) := by
      have e : (is.map fun i => PyData.str i.txt) = (txts is).map .str := by rw [txts_map, List.map_map]; rfl
      rw [e]
      exact join_l (by have := len_its h is ok; rw [c3]; omega)
    have hlc : ∀ (elt : Sm) (env : MP.Env), (∀ i ∈ is, ∃ env1, (Tg.nm 1).put i.enc env = some env1 ∧ elt env1 [] = .ok (.dat (.str i.txt)) []) → lcS (.nm 1) none elt (encs is) env [] = .ok (is.map fun i => PyData.str i.txt) [] := fun elt env hh => lcS_its _ hh
    rw [callF_eq f_lbt]
    unfold d__law_body_text
    simp (disch := first | omega | (simp only [List.length_cons, List.length_nil, List.length_map, List.length_append, List.length_reverse]; omega)) only [at0, at1, at2, at3, at4, idx_l, idx_t, rng_b, rng_b2, dec_le, dec_lt, add_t, add_l, mod_i, fdiv_i, pow_i, mul_i, exSs_nil, exSs_cons, exS, exSeq, exNil, exRet, exEx, exIf, exSet, exPar, exPut, exApp, exAug, ofE_ok, ofB_ok, ofEs_ok, andThen_nx, andThen_rt, Tg.putV, setAll, evE, evEs, evs, evn, ev1, ev2, evVar, evLit, evCon, evIf, evAnd, evOr, evCh, evTup, evLst, evCall, evSl, evPart, MP.part, evDget, evDin, evDget2, evDisp, evPs, pairK, toB, asB, notD, newK, frz, cel, siNew, siNew2, siSeq, evIt, siZip, siRng, siRng2, evLc, wipeE, Res.bind_ok, v1, v2, vn, view, views, datsOf, asKey, keyOf, putC, Bin.f, Cmp.f, Bf.f, Bn.f, isiD, isT, bD, negD, isD, isN, List.getElem?_cons_zero, List.getElem?_cons_succ, List.getElem?_nil, List.set_cons_zero, List.set_cons_succ, List.map_cons, List.map_nil, List.replicate, List.length_cons, List.length_nil, List.cons_append, List.nil_append, add_i, sub_i, int_i, int_b, len_l, len_t, tup_l, tup_t, list_l, list_t, eq_s, eq_i, lt_i, gt_i, le_i, ge_i, lt_s, Option.map_some, Option.map_none, Option.bind_some, Nat.reduceAdd, Int.reduceToNat, Int.reduceAdd, Int.reduceSub, Int.reduceNeg, Int.reduceMul, Int.reduceEq, Int.reduceLT, Int.reduceLE, cast_lit, seq_t, seq_l, if_true, ite_true, ite_false, if_false, and_true, true_and, and_self, Bool.false_eq_true, not_true, not_false_iff, decide_true, decide_false, Bool.not_true, Bool.not_false, Option.isSome_some, Option.isSome_none, Df.wrap, pureF, datas, runB, evJoin, Res.nx]
    rw [hlc _ _ (fun i hi' => ⟨_, rfl, by
      have e := hi i hi' []
      simp (disch := first | omega | (simp only [List.length_cons, List.length_nil, List.length_map, List.length_append, List.length_reverse]; omega)) only [at0, at1, at2, at3, at4, idx_l, idx_t, rng_b, rng_b2, dec_le, dec_lt, add_t, add_l, mod_i, fdiv_i, pow_i, mul_i, exSs_nil, exSs_cons, exS, exSeq, exNil, exRet, exEx, exIf, exSet, exPar, exPut, exApp, exAug, ofE_ok, ofB_ok, ofEs_ok, andThen_nx, andThen_rt, Tg.putV, setAll, evE, evEs, evs, evn, ev1, ev2, evVar, evLit, evCon, evIf, evAnd, evOr, evCh, evTup, evLst, evCall, evSl, evPart, MP.part, evDget, evDin, evDget2, evDisp, evPs, pairK, toB, asB, notD, newK, frz, cel, siNew, siNew2, siSeq, evIt, siZip, siRng, siRng2, evLc, wipeE, Res.bind_ok, v1, v2, vn, view, views, datsOf, asKey, keyOf, putC, Bin.f, Cmp.f, Bf.f, Bn.f, isiD, isT, bD, negD, isD, isN, List.getElem?_cons_zero, List.getElem?_cons_succ, List.getElem?_nil, List.set_cons_zero, List.set_cons_succ, List.map_cons, List.map_nil, List.replicate, List.length_cons, List.length_nil, List.cons_append, List.nil_append, add_i, sub_i, int_i, int_b, len_l, len_t, tup_l, tup_t, list_l, list_t, eq_s, eq_i, lt_i, gt_i, le_i, ge_i, lt_s, Option.map_some, Option.map_none, Option.bind_some, Nat.reduceAdd, Int.reduceToNat, Int.reduceAdd, Int.reduceSub, Int.reduceNeg, Int.reduceMul, Int.reduceEq, Int.reduceLT, Int.reduceLE, cast_lit, seq_t, seq_l, if_true, ite_true, ite_false, if_false, and_true, true_and, and_self, Bool.false_eq_true, not_true, not_false_iff, decide_true, decide_false, Bool.not_true, Bool.not_false, Option.isSome_some, Option.isSome_none, e]⟩)]
    simp (disch := first | omega | (simp only [List.length_cons, List.length_nil, List.length_map, List.length_append, List.length_reverse]; omega)) only [at0, at1, at2, at3, at4, idx_l, idx_t, rng_b, rng_b2, dec_le, dec_lt, add_t, add_l, mod_i, fdiv_i, pow_i, mul_i, exSs_nil, exSs_cons, exS, exSeq, exNil, exRet, exEx, exIf, exSet, exPar, exPut, exApp, exAug, ofE_ok, ofB_ok, ofEs_ok, andThen_nx, andThen_rt, Tg.putV, setAll, evE, evEs, evs, evn, ev1, ev2, evVar, evLit, evCon, evIf, evAnd, evOr, evCh, evTup, evLst, evCall, evSl, evPart, MP.part, evDget, evDin, evDget2, evDisp, evPs, pairK, toB, asB, notD, newK, frz, cel, siNew, siNew2, siSeq, evIt, siZip, siRng, siRng2, evLc, wipeE, Res.bind_ok, v1, v2, vn, view, views, datsOf, asKey, keyOf, putC, Bin.f, Cmp.f, Bf.f, Bn.f, isiD, isT, bD, negD, isD, isN, List.getElem?_cons_zero, List.getElem?_cons_succ, List.getElem?_nil, List.set_cons_zero, List.set_cons_succ, List.map_cons, List.map_nil, List.replicate, List.length_cons, List.length_nil, List.cons_append, List.nil_append, add_i, sub_i, int_i, int_b, len_l, len_t, tup_l, tup_t, list_l, list_t, eq_s, eq_i, lt_i, gt_i, le_i, ge_i, lt_s, Option.map_some, Option.map_none, Option.bind_some, Nat.reduceAdd, Int.reduceToNat, Int.reduceAdd, Int.reduceSub, Int.reduceNeg, Int.reduceMul, Int.reduceEq, Int.reduceLT, Int.reduceLE, cast_lit, seq_t, seq_l, if_true, ite_true, ite_false, if_false, and_true, true_and, and_self, Bool.false_eq_true, not_true, not_false_iff, decide_true, decide_false, Bool.not_true, Bool.not_false, Option.isSome_some, Option.isSome_none, hj]
theorem litems_text (h : LN L N) : ∀ (is : List It) (n : Nat), Its L N is → 2 * depths is + 6 ≤ n → sizes is ≤ 1000 → depths is ≤ 15 → ∀ i ∈ is, ∀ M, callF w T n "_law_item_text" [.dat i.enc] M = .ok (.dat (.str i.txt)) M
  | [], n, ok, hn, hs, hd => fun i hi => by cases hi
  | i :: is, n, ok, hn, hs, hd => fun j hj M => by
    simp only [depths, sizes] at hn hs hd
    rcases List.mem_cons.mp hj with e | hj
    · rw [e]
      exact litem_text h i n M ok.1 (by omega) (by omega) (by omega)
    · exact litems_text h is n ok.2 (by omega) (by omega) (by omega) j hj M
end
end
end LawX
set_option Elab.async false
set_option linter.all false
set_option maxRecDepth 100000
set_option maxHeartbeats 8000000
/-! PH5: a program's text. -/
namespace LawX
open PySem PySem.Spec PyProof.Rows L2 MP
def sline (h : Hd) : List Str := h.ls.map fun p : Str × Str => p.1 ++ (" " : Str) ++ p.2
def ptxt (p : Pr) : Str := Txt.join "\n" [Txt.join ", " (sline p.h), Txt.join " " p.h.ns, btxt p.its]
theorem str_assoc (a b c : Str) : a ++ b ++ c = a ++ (b ++ c) := by
  apply Str.ext'
  simp only [Str.cps_append, Array.append_assoc]
theorem join3 (y a b c : Str) : Txt.join y [a, b, c] = a ++ y ++ b ++ y ++ c := by
  show Builtin.Str.glued y [a, b, c] = _
  rw [StrLaws.glued_eq_join]
  show a ++ y ++ (b ++ y ++ c) = _
  simp only [str_assoc]
section
variable {w : Mw} {n : Nat} {M : Mem}
theorem hd_len {h : Hd} (ok : h.Ok) : (∀ p ∈ h.ls, p.1.length ≤ 8 ∧ p.2.length ≤ 8) ∧ h.ls.length ≤ 2 ∧ (∀ s ∈ h.ns, s.length ≤ 8) ∧ h.ns.length ≤ 2 := by
  have k : lssAll.all (fun ls => ls.all fun p => decide (p.1.length ≤ 8 ∧ p.2.length ≤ 8)) = true := by decide +kernel
  refine ⟨fun p hp => of_decide_eq_true (List.all_eq_true.mp (List.all_eq_true.mp k h.ls (ls_mem ok)) p hp), by have := (hd_l h ok).2; simpa [Hd.L] using this, fun s hs => ?_, (hd_n h ok).2⟩
  exact str_len (LN.of ok) (.inr hs)
theorem sum_le {xs : List Str} {b : Nat} (h : ∀ x ∈ xs, x.length ≤ b) : (xs.map fun x : Str => x.length).sum ≤ xs.length * b := by
  induction xs with
  | nil => simp
  | cons x xs ih =>
    have h1 := h x (by simp)
    have h2 := ih fun y hy => h y (by simp [hy])
    simp only [List.map_cons, List.sum_cons, List.length_cons, Nat.succ_mul]
    omega
theorem lcS_prs {elt : Sm} {t : Tg} {M : Mem} : ∀ {ls : List (Str × Str)} {env : MP.Env}, (∀ p ∈ ls, ∃ env1, t.put (.tuple [.str p.1, .str p.2]) env = some env1 ∧ elt env1 M = .ok (.dat (.str (p.1 ++ " " ++ p.2))) M) → lcS t none elt (ls.map fun p => .tuple [.str p.1, .str p.2]) env M = .ok ((ls.map fun p : Str × Str => p.1 ++ (" " : Str) ++ p.2).map .str) M
  | [], _, _ => rfl
  | d :: ds, env, h => by
    obtain ⟨env1, h1, h2⟩ := h d List.mem_cons_self
    have ih := lcS_prs (t := t) (elt := elt) (M := M) (ls := ds) (env := env) fun x hx => h x (List.mem_cons_of_mem _ hx)
    simp only [List.map_cons, lcS, h1, h2, Res.bind_ok, Res.nx, ih]
theorem f_to : T.fn "text_of" = some d_text_of := by rfl
theorem f_lt : T.fn "_law_text" = some d__law_text := by rfl
theorem texts_ok {p : Pr} {lim : Nat} (ok : p.Ok lim) (hl : lim ≤ 24) : callF w T (n + 20) "text_of" [.dat p.enc] M = .ok (.dat (.str (ptxt p))) M ∧ callF w T (n + 20) "_law_text" [.dat p.enc] M = .ok (.dat (.str (ptxt p))) M ∧ (ptxt p).length ≤ 3000 := by
  obtain ⟨h1, h2, h3, h4⟩ := hd_len ok.h
  have ln := LN.of ok.h
  have eb := body_text (w := w) ln p.its (n + 19) [] ok.i (by have := ok.d; omega) (by have := ok.s; omega) (by have := ok.d; omega)
  have elb := lbody_text (w := w) ln p.its (n + 19) [] ok.i (by have := ok.d; omega) (by have := ok.s; omega) (by have := ok.d; omega)
  have lb := btxt_len ln ok.i
  have hsz := ok.s
  have c1 : (" " : Str).length = 1 := by rfl
  have c2 : (", " : Str).length = 2 := by rfl
  have c3 : ("\n" : Str).length = 1 := by rfl
  have hp : ∀ x ∈ sline p.h, x.length ≤ 17 := by
    intro x hx
    obtain ⟨q, hq, rfl⟩ := List.mem_map.mp hx
    have := h1 q hq
    rw [Str.length_append, Str.length_append, c1]
    omega
  have s1 := sum_le hp
  have s2 := sum_le h3
  have hsl : (sline p.h).length = p.h.ls.length := by simp [sline]
  have l1 := join_len ", " (sline p.h)
  have l2 := join_len " " p.h.ns
  rw [c2] at l1
  rw [c1] at l2
  have m1 : (sline p.h).length * 17 ≤ 34 := by omega
  have m2 : p.h.ns.length * 8 ≤ 16 := by omega
  have m3 : (sline p.h).length * 2 ≤ 4 := by omega
  have j1 : joinD (.str ", ") (.list ((sline p.h).map .str)) = some (.str (Txt.join ", " (sline p.h))) := join_l (by rw [c2]; omega)
  have j2 : joinD (.str " ") (.tuple (p.h.ns.map .str)) = some (.str (Txt.join " " p.h.ns)) := join_t (by rw [c1]; omega)
  have j3 : joinD (.str "\n") (.list [.str (Txt.join ", " (sline p.h)), .str (Txt.join " " p.h.ns), .str (btxt p.its)]) = some (.str (ptxt p)) := join_l (xs := [Txt.join ", " (sline p.h), Txt.join " " p.h.ns, btxt p.its]) (by simp [c3]; omega)
  have hlc : ∀ (elt : Sm) (env : MP.Env), (∀ q ∈ p.h.ls, ∃ env1, (Tg.tup [.nm 2, .nm 3]).put (.tuple [.str q.1, .str q.2]) env = some env1 ∧ elt env1 [] = .ok (.dat (.str (q.1 ++ " " ++ q.2))) []) → lcS (.tup [.nm 2, .nm 3]) none elt (p.h.ls.map fun q => .tuple [.str q.1, .str q.2]) env [] = .ok ((sline p.h).map .str) [] := fun elt env hh => lcS_prs hh
  have hadd : ∀ q ∈ p.h.ls, addD (.str q.1) (.str " ") = some (.str (q.1 ++ " ")) ∧ addD (.str (q.1 ++ " ")) (.str q.2) = some (.str (q.1 ++ " " ++ q.2)) := fun q hq => by
    have := h1 q hq
    exact ⟨add_s (by rw [c1]; omega), add_s (by rw [Str.length_append, c1]; omega)⟩
  refine ⟨?_, ?_, ?_⟩
  · rw [callF_eq f_to]
    unfold d_text_of
    simp (disch := first | omega | (simp only [List.length_cons, List.length_nil, List.length_map, List.length_append, List.length_reverse]; omega)) only [at0, at1, at2, at3, at4, idx_l, idx_t, rng_b, rng_b2, dec_le, dec_lt, add_t, add_l, mod_i, fdiv_i, pow_i, mul_i, exSs_nil, exSs_cons, exS, exSeq, exNil, exRet, exEx, exIf, exSet, exPar, exPut, exApp, exAug, ofE_ok, ofB_ok, ofEs_ok, andThen_nx, andThen_rt, Tg.putV, setAll, evE, evEs, evs, evn, ev1, ev2, evVar, evLit, evCon, evIf, evAnd, evOr, evCh, evTup, evLst, evCall, evSl, evPart, MP.part, evDget, evDin, evDget2, evDisp, evPs, pairK, toB, asB, notD, newK, frz, cel, siNew, siNew2, siSeq, evIt, siZip, siRng, siRng2, evLc, wipeE, Res.bind_ok, v1, v2, vn, view, views, datsOf, asKey, keyOf, putC, Bin.f, Cmp.f, Bf.f, Bn.f, isiD, isT, bD, negD, isD, isN, List.getElem?_cons_zero, List.getElem?_cons_succ, List.getElem?_nil, List.set_cons_zero, List.set_cons_succ, List.map_cons, List.map_nil, List.replicate, List.length_cons, List.length_nil, List.cons_append, List.nil_append, add_i, sub_i, int_i, int_b, len_l, len_t, tup_l, tup_t, list_l, list_t, eq_s, eq_i, lt_i, gt_i, le_i, ge_i, lt_s, Option.map_some, Option.map_none, Option.bind_some, Nat.reduceAdd, Int.reduceToNat, Int.reduceAdd, Int.reduceSub, Int.reduceNeg, Int.reduceMul, Int.reduceEq, Int.reduceLT, Int.reduceLE, cast_lit, seq_t, seq_l, if_true, ite_true, ite_false, if_false, and_true, true_and, and_self, Bool.false_eq_true, not_true, not_false_iff, decide_true, decide_false, Bool.not_true, Bool.not_false, Option.isSome_some, Option.isSome_none, Df.wrap, pureF, datas, runB, Pr.enc, Hd.ss, Hd.nms, evJoin, Res.nx, j2, eb]
    rw [hlc _ _ (fun q hq => ⟨_, rfl, by
      obtain ⟨a1, a2⟩ := hadd q hq
      simp (disch := first | omega | (simp only [List.length_cons, List.length_nil, List.length_map, List.length_append, List.length_reverse]; omega)) only [at0, at1, at2, at3, at4, idx_l, idx_t, rng_b, rng_b2, dec_le, dec_lt, add_t, add_l, mod_i, fdiv_i, pow_i, mul_i, exSs_nil, exSs_cons, exS, exSeq, exNil, exRet, exEx, exIf, exSet, exPar, exPut, exApp, exAug, ofE_ok, ofB_ok, ofEs_ok, andThen_nx, andThen_rt, Tg.putV, setAll, evE, evEs, evs, evn, ev1, ev2, evVar, evLit, evCon, evIf, evAnd, evOr, evCh, evTup, evLst, evCall, evSl, evPart, MP.part, evDget, evDin, evDget2, evDisp, evPs, pairK, toB, asB, notD, newK, frz, cel, siNew, siNew2, siSeq, evIt, siZip, siRng, siRng2, evLc, wipeE, Res.bind_ok, v1, v2, vn, view, views, datsOf, asKey, keyOf, putC, Bin.f, Cmp.f, Bf.f, Bn.f, isiD, isT, bD, negD, isD, isN, List.getElem?_cons_zero, List.getElem?_cons_succ, List.getElem?_nil, List.set_cons_zero, List.set_cons_succ, List.map_cons, List.map_nil, List.replicate, List.length_cons, List.length_nil, List.cons_append, List.nil_append, add_i, sub_i, int_i, int_b, len_l, len_t, tup_l, tup_t, list_l, list_t, eq_s, eq_i, lt_i, gt_i, le_i, ge_i, lt_s, Option.map_some, Option.map_none, Option.bind_some, Nat.reduceAdd, Int.reduceToNat, Int.reduceAdd, Int.reduceSub, Int.reduceNeg, Int.reduceMul, Int.reduceEq, Int.reduceLT, Int.reduceLE, cast_lit, seq_t, seq_l, if_true, ite_true, ite_false, if_false, and_true, true_and, and_self, Bool.false_eq_true, not_true, not_false_iff, decide_true, decide_false, Bool.not_true, Bool.not_false, Option.isSome_some, Option.isSome_none, a1, a2]⟩)]
    simp (disch := first | omega | (simp only [List.length_cons, List.length_nil, List.length_map, List.length_append, List.length_reverse]; omega)) only [at0, at1, at2, at3, at4, idx_l, idx_t, rng_b, rng_b2, dec_le, dec_lt, add_t, add_l, mod_i, fdiv_i, pow_i, mul_i, exSs_nil, exSs_cons, exS, exSeq, exNil, exRet, exEx, exIf, exSet, exPar, exPut, exApp, exAug, ofE_ok, ofB_ok, ofEs_ok, andThen_nx, andThen_rt, Tg.putV, setAll, evE, evEs, evs, evn, ev1, ev2, evVar, evLit, evCon, evIf, evAnd, evOr, evCh, evTup, evLst, evCall, evSl, evPart, MP.part, evDget, evDin, evDget2, evDisp, evPs, pairK, toB, asB, notD, newK, frz, cel, siNew, siNew2, siSeq, evIt, siZip, siRng, siRng2, evLc, wipeE, Res.bind_ok, v1, v2, vn, view, views, datsOf, asKey, keyOf, putC, Bin.f, Cmp.f, Bf.f, Bn.f, isiD, isT, bD, negD, isD, isN, List.getElem?_cons_zero, List.getElem?_cons_succ, List.getElem?_nil, List.set_cons_zero, List.set_cons_succ, List.map_cons, List.map_nil, List.replicate, List.length_cons, List.length_nil, List.cons_append, List.nil_append, add_i, sub_i, int_i, int_b, len_l, len_t, tup_l, tup_t, list_l, list_t, eq_s, eq_i, lt_i, gt_i, le_i, ge_i, lt_s, Option.map_some, Option.map_none, Option.bind_some, Nat.reduceAdd, Int.reduceToNat, Int.reduceAdd, Int.reduceSub, Int.reduceNeg, Int.reduceMul, Int.reduceEq, Int.reduceLT, Int.reduceLE, cast_lit, seq_t, seq_l, if_true, ite_true, ite_false, if_false, and_true, true_and, and_self, Bool.false_eq_true, not_true, not_false_iff, decide_true, decide_false, Bool.not_true, Bool.not_false, Option.isSome_some, Option.isSome_none, j1, j2, j3, eb, evJoin]
  · have a1 : addD (.str (Txt.join ", " (sline p.h))) (.str "\n") = some (.str (Txt.join ", " (sline p.h) ++ "\n")) := add_s (by rw [c3]; omega)
    have a2 : addD (.str (Txt.join ", " (sline p.h) ++ "\n")) (.str (Txt.join " " p.h.ns)) = some (.str (Txt.join ", " (sline p.h) ++ "\n" ++ Txt.join " " p.h.ns)) := add_s (by rw [Str.length_append, c3]; omega)
    have a3 : addD (.str (Txt.join ", " (sline p.h) ++ "\n" ++ Txt.join " " p.h.ns)) (.str "\n") = some (.str (Txt.join ", " (sline p.h) ++ "\n" ++ Txt.join " " p.h.ns ++ "\n")) := add_s (by rw [Str.length_append, Str.length_append, c3]; omega)
    have a4 : addD (.str (Txt.join ", " (sline p.h) ++ "\n" ++ Txt.join " " p.h.ns ++ "\n")) (.str (btxt p.its)) = some (.str (ptxt p)) := by
      unfold ptxt
      rw [join3]
      exact add_s (by rw [Str.length_append, Str.length_append, Str.length_append, c3]; omega)
    rw [callF_eq f_lt]
    unfold d__law_text
    simp (disch := first | omega | (simp only [List.length_cons, List.length_nil, List.length_map, List.length_append, List.length_reverse]; omega)) only [at0, at1, at2, at3, at4, idx_l, idx_t, rng_b, rng_b2, dec_le, dec_lt, add_t, add_l, mod_i, fdiv_i, pow_i, mul_i, exSs_nil, exSs_cons, exS, exSeq, exNil, exRet, exEx, exIf, exSet, exPar, exPut, exApp, exAug, ofE_ok, ofB_ok, ofEs_ok, andThen_nx, andThen_rt, Tg.putV, setAll, evE, evEs, evs, evn, ev1, ev2, evVar, evLit, evCon, evIf, evAnd, evOr, evCh, evTup, evLst, evCall, evSl, evPart, MP.part, evDget, evDin, evDget2, evDisp, evPs, pairK, toB, asB, notD, newK, frz, cel, siNew, siNew2, siSeq, evIt, siZip, siRng, siRng2, evLc, wipeE, Res.bind_ok, v1, v2, vn, view, views, datsOf, asKey, keyOf, putC, Bin.f, Cmp.f, Bf.f, Bn.f, isiD, isT, bD, negD, isD, isN, List.getElem?_cons_zero, List.getElem?_cons_succ, List.getElem?_nil, List.set_cons_zero, List.set_cons_succ, List.map_cons, List.map_nil, List.replicate, List.length_cons, List.length_nil, List.cons_append, List.nil_append, add_i, sub_i, int_i, int_b, len_l, len_t, tup_l, tup_t, list_l, list_t, eq_s, eq_i, lt_i, gt_i, le_i, ge_i, lt_s, Option.map_some, Option.map_none, Option.bind_some, Nat.reduceAdd, Int.reduceToNat, Int.reduceAdd, Int.reduceSub, Int.reduceNeg, Int.reduceMul, Int.reduceEq, Int.reduceLT, Int.reduceLE, cast_lit, seq_t, seq_l, if_true, ite_true, ite_false, if_false, and_true, true_and, and_self, Bool.false_eq_true, not_true, not_false_iff, decide_true, decide_false, Bool.not_true, Bool.not_false, Option.isSome_some, Option.isSome_none, Df.wrap, pureF, datas, runB, Pr.enc, Hd.ss, Hd.nms, evJoin, Res.nx, j2, elb]
    rw [hlc _ _ (fun q hq => ⟨_, rfl, by
      obtain ⟨b1, b2⟩ := hadd q hq
      simp (disch := first | omega | (simp only [List.length_cons, List.length_nil, List.length_map, List.length_append, List.length_reverse]; omega)) only [at0, at1, at2, at3, at4, idx_l, idx_t, rng_b, rng_b2, dec_le, dec_lt, add_t, add_l, mod_i, fdiv_i, pow_i, mul_i, exSs_nil, exSs_cons, exS, exSeq, exNil, exRet, exEx, exIf, exSet, exPar, exPut, exApp, exAug, ofE_ok, ofB_ok, ofEs_ok, andThen_nx, andThen_rt, Tg.putV, setAll, evE, evEs, evs, evn, ev1, ev2, evVar, evLit, evCon, evIf, evAnd, evOr, evCh, evTup, evLst, evCall, evSl, evPart, MP.part, evDget, evDin, evDget2, evDisp, evPs, pairK, toB, asB, notD, newK, frz, cel, siNew, siNew2, siSeq, evIt, siZip, siRng, siRng2, evLc, wipeE, Res.bind_ok, v1, v2, vn, view, views, datsOf, asKey, keyOf, putC, Bin.f, Cmp.f, Bf.f, Bn.f, isiD, isT, bD, negD, isD, isN, List.getElem?_cons_zero, List.getElem?_cons_succ, List.getElem?_nil, List.set_cons_zero, List.set_cons_succ, List.map_cons, List.map_nil, List.replicate, List.length_cons, List.length_nil, List.cons_append, List.nil_append, add_i, sub_i, int_i, int_b, len_l, len_t, tup_l, tup_t, list_l, list_t, eq_s, eq_i, lt_i, gt_i, le_i, ge_i, lt_s, Option.map_some, Option.map_none, Option.bind_some, Nat.reduceAdd, Int.reduceToNat, Int.reduceAdd, Int.reduceSub, Int.reduceNeg, Int.reduceMul, Int.reduceEq, Int.reduceLT, Int.reduceLE, cast_lit, seq_t, seq_l, if_true, ite_true, ite_false, if_false, and_true, true_and, and_self, Bool.false_eq_true, not_true, not_false_iff, decide_true, decide_false, Bool.not_true, Bool.not_false, Option.isSome_some, Option.isSome_none, b1, b2]⟩)]
    simp (disch := first | omega | (simp only [List.length_cons, List.length_nil, List.length_map, List.length_append, List.length_reverse]; omega)) only [at0, at1, at2, at3, at4, idx_l, idx_t, rng_b, rng_b2, dec_le, dec_lt, add_t, add_l, mod_i, fdiv_i, pow_i, mul_i, exSs_nil, exSs_cons, exS, exSeq, exNil, exRet, exEx, exIf, exSet, exPar, exPut, exApp, exAug, ofE_ok, ofB_ok, ofEs_ok, andThen_nx, andThen_rt, Tg.putV, setAll, evE, evEs, evs, evn, ev1, ev2, evVar, evLit, evCon, evIf, evAnd, evOr, evCh, evTup, evLst, evCall, evSl, evPart, MP.part, evDget, evDin, evDget2, evDisp, evPs, pairK, toB, asB, notD, newK, frz, cel, siNew, siNew2, siSeq, evIt, siZip, siRng, siRng2, evLc, wipeE, Res.bind_ok, v1, v2, vn, view, views, datsOf, asKey, keyOf, putC, Bin.f, Cmp.f, Bf.f, Bn.f, isiD, isT, bD, negD, isD, isN, List.getElem?_cons_zero, List.getElem?_cons_succ, List.getElem?_nil, List.set_cons_zero, List.set_cons_succ, List.map_cons, List.map_nil, List.replicate, List.length_cons, List.length_nil, List.cons_append, List.nil_append, add_i, sub_i, int_i, int_b, len_l, len_t, tup_l, tup_t, list_l, list_t, eq_s, eq_i, lt_i, gt_i, le_i, ge_i, lt_s, Option.map_some, Option.map_none, Option.bind_some, Nat.reduceAdd, Int.reduceToNat, Int.reduceAdd, Int.reduceSub, Int.reduceNeg, Int.reduceMul, Int.reduceEq, Int.reduceLT, Int.reduceLE, cast_lit, seq_t, seq_l, if_true, ite_true, ite_false, if_false, and_true, true_and, and_self, Bool.false_eq_true, not_true, not_false_iff, decide_true, decide_false, Bool.not_true, Bool.not_false, Option.isSome_some, Option.isSome_none, j1, j2, a1, a2, a3, a4, elb, evJoin]
  · have := join_len "\n" [Txt.join ", " (sline p.h), Txt.join " " p.h.ns, btxt p.its]
    simp only [List.map_cons, List.map_nil, List.sum_cons, List.sum_nil, List.length_cons, List.length_nil, c3] at this
    unfold ptxt
    omega
end
end LawX
set_option Elab.async false
set_option linter.all false
set_option maxRecDepth 100000
set_option maxHeartbeats 8000000
/-! PH6: cut_up, step by step. -/
namespace LawX
open PySem PySem.Spec PyProof.Rows L2 MP
/-- balanced -/
inductive BalA : List Nat → Prop
  | nil : BalA []
  | ch {c : Nat} {p : List Nat} : c ≠ 40 → c ≠ 41 → BalA p → BalA (c :: p)
  | par {p q : List Nat} : BalA p → BalA q → BalA (40 :: (p ++ 41 :: q))
/-- .. b: what does not stand outside brackets -/
inductive Bal (b : Nat → Bool) : List Nat → Prop
  | nil : Bal b []
  | ch {c : Nat} {p : List Nat} : c ≠ 40 → c ≠ 41 → b c = false → Bal b p → Bal b (c :: p)
  | par {p q : List Nat} : BalA p → Bal b q → Bal b (40 :: (p ++ 41 :: q))
theorem Bal.app {b : Nat → Bool} {p q : List Nat} (hp : Bal b p) (hq : Bal b q) : Bal b (p ++ q) := by
  induction hp with
  | nil => exact hq
  | ch h1 h2 h3 _ ih => exact .ch h1 h2 h3 ih
  | par hp _ ih =>
    rw [List.cons_append, List.append_assoc, List.cons_append]
    exact .par hp ih
theorem Bal.any {b : Nat → Bool} {p : List Nat} (hp : Bal b p) : BalA p := by
  induction hp with
  | nil => exact .nil
  | ch h1 h2 h3 _ ih => exact .ch h1 h2 ih
  | par hp _ ih => exact .par hp ih
theorem Bal.weak {b b' : Nat → Bool} {p : List Nat} (hp : Bal b p) (h : ∀ c, b c = false → b' c = false) : Bal b' p := by
  induction hp with
  | nil => exact .nil
  | ch h1 h2 h3 _ ih => exact .ch h1 h2 (h _ h3) ih
  | par hp _ ih => exact .par hp ih
theorem BalA.bal {p : List Nat} (hp : BalA p) : Bal (fun _ => false) p := by
  induction hp with
  | nil => exact .nil
  | ch h1 h2 _ ih => exact .ch h1 h2 rfl ih
  | par hp _ _ ih => exact .par hp ih
theorem Bal.plain {b : Nat → Bool} : ∀ {p : List Nat}, (p.all fun c => decide (c ≠ 40 ∧ c ≠ 41) && !b c) = true → Bal b p
  | [], _ => .nil
  | c :: p, h => by
    simp only [List.all_cons, Bool.and_eq_true, decide_eq_true_eq, Bool.not_eq_true'] at h
    exact .ch h.1.1.1 h.1.1.2 h.1.2 (Bal.plain h.2)
def dl (c : Nat) : Int := (if c = 40 then 1 else 0) - (if c = 41 then 1 else 0)
abbrev envC (z sg : Str) (deep : Int) (bg i : Nat) : MP.Env := [some (.dat (.str z)), some (.dat (.str sg)), some (.ob 0), some (.dat (.int deep)), some (.dat (.int bg)), some (.dat (.int i))]
abbrev memC (fd : List Str) : Mem := [.lst (fd.map fun x => .dat (.str x))]
abbrev condC : E := .cmp .lt (.var 5) (.bf .len [(.var 0)])
section
variable {w : Mw} {n : Nat} {z sg : Str}
def hit (z sg : Str) (i : Nat) : Prop := (z.cps.toList.drop i).take sg.length = sg.cps.toList
theorem tl_cut {i k : Nat} (hi : i ≤ z.length) : (cutS z (some (i : Int)) (some ((i : Int) + (k : Int)))).cps.toList = (z.cps.toList.drop i).take k := by
  have e : ((i : Int) + (k : Int)) = ((i + k : Nat) : Int) := by omega
  have hl : z.length = z.cps.size := by rfl
  unfold cutS
  rw [e, HT.sIx_nat, HT.sIx_nat, Nat.min_eq_left hi]
  show (List.drop i z.cps.toList).take (min (i + k) z.length - i) = _
  by_cases h : i + k ≤ z.length
  · rw [Nat.min_eq_left h, Nat.add_sub_cancel_left]
  · rw [Nat.min_eq_right (by omega), List.take_of_length_le (by rw [List.length_drop, Array.length_toList]; omega), List.take_of_length_le (by rw [List.length_drop, Array.length_toList]; omega)]
theorem cut_is {i : Nat} (hi : i ≤ z.length) : decide (cutS z (some (i : Int)) (some ((i : Int) + (sg.length : Int))) = sg) = true ↔ hit z sg i := by
  rw [decide_eq_true_iff]
  constructor
  · intro e
    unfold hit
    rw [← tl_cut hi, e]
  · intro e
    apply Str.ext'
    apply Array.toList_inj.mp
    rw [tl_cut hi]
    exact e
theorem one_par {c : Nat} : decide ((⟨#[c]⟩ : Str) = "(") = decide (c = 40) := by
  have e : ("(" : Str) = ⟨#[40]⟩ := by rfl
  rw [e]
  by_cases h : c = 40
  · subst h; simp
  · simp [h]
theorem one_rap {c : Nat} : decide ((⟨#[c]⟩ : Str) = ")") = decide (c = 41) := by
  have e : (")" : Str) = ⟨#[41]⟩ := by rfl
  rw [e]
  by_cases h : c = 41
  · subst h; simp
  · simp [h]
theorem at_str {i : Nat} {c : Nat} (hz : z.length ≤ 10000) (hc : z.cps.toList[i]? = some c) : idxD (.str z) (.int i) = some (.str ⟨#[c]⟩) := by
  have hi : i < z.cps.toList.length := (List.getElem?_eq_some_iff.mp hc).1
  show (if z.length ≤ 16777216 then (atI z.cps.toList i).map fun c => PyData.str ⟨#[c]⟩ else none) = _
  rw [if_pos (by omega), at_nat hi, hc]
  rfl
theorem step_go {fd : List Str} {deep : Int} {bg i c : Nat} (hz : z.length ≤ 10000) (hs : sg.length ≤ 10) (hc : z.cps.toList[i]? = some c) (h : ¬ (deep + dl c = 0 ∧ hit z sg i)) :
    exSs (T.cfg w n) b_cut_up_2 (envC z sg deep bg i) (memC fd) = .ok (.nx (envC z sg (deep + dl c) bg (i + 1))) (memC fd) := by
  have hi : i < z.cps.toList.length := (List.getElem?_eq_some_iff.mp hc).1
  have hi' : i ≤ z.length := by simp [Str.length] at hi ⊢; omega
  have e1 := at_str hz hc
  have ls : lenD [.str sg] = some (.int sg.length) := len_s (by omega)
  have sl : ∀ d e : Int, sliceD (some d) (some e) (.str z) = some (.str (cutS z (some d) (some e))) := fun d e => if_pos (by omega)
  have hd : dl c = (if decide (c = 40) = true then 1 else 0) - (if decide (c = 41) = true then 1 else 0) := by simp [dl]
  have hgo : exSs (T.cfg w n) b_cut_up_1 (envC z sg (deep + dl c) bg i) (memC fd) = .ok (.nx (envC z sg (deep + dl c) bg (i + 1))) (memC fd) := by
    unfold b_cut_up_1
    simp (disch := first | omega | (simp only [List.length_cons, List.length_nil, List.length_map, List.length_append, List.length_reverse]; omega)) only [at0, at1, at2, at3, at4, idx_l, idx_t, rng_b, rng_b2, dec_le, dec_lt, add_t, add_l, mod_i, fdiv_i, pow_i, mul_i, exSs_nil, exSs_cons, exS, exSeq, exNil, exRet, exEx, exIf, exSet, exPar, exPut, exApp, exAug, ofE_ok, ofB_ok, ofEs_ok, andThen_nx, andThen_rt, Tg.putV, setAll, evE, evEs, evs, evn, ev1, ev2, evVar, evLit, evCon, evIf, evAnd, evOr, evCh, evTup, evLst, evCall, evSl, evPart, MP.part, evDget, evDin, evDget2, evDisp, evPs, pairK, toB, asB, notD, newK, frz, cel, siNew, siNew2, siSeq, evIt, siZip, siRng, siRng2, evLc, wipeE, Res.bind_ok, v1, v2, vn, view, views, datsOf, asKey, keyOf, putC, Bin.f, Cmp.f, Bf.f, Bn.f, isiD, isT, bD, negD, isD, isN, List.getElem?_cons_zero, List.getElem?_cons_succ, List.getElem?_nil, List.set_cons_zero, List.set_cons_succ, List.map_cons, List.map_nil, List.replicate, List.length_cons, List.length_nil, List.cons_append, List.nil_append, add_i, sub_i, int_i, int_b, len_l, len_t, tup_l, tup_t, list_l, list_t, eq_s, eq_i, lt_i, gt_i, le_i, ge_i, lt_s, Option.map_some, Option.map_none, Option.bind_some, Nat.reduceAdd, Int.reduceToNat, Int.reduceAdd, Int.reduceSub, Int.reduceNeg, Int.reduceMul, Int.reduceEq, Int.reduceLT, Int.reduceLE, cast_lit, seq_t, seq_l, if_true, ite_true, ite_false, if_false, and_true, true_and, and_self, Bool.false_eq_true, not_true, not_false_iff, decide_true, decide_false, Bool.not_true, Bool.not_false, Option.isSome_some, Option.isSome_none, envC, augD]
    rfl
  have haug : exS (T.cfg w n) (.aug 3 .add (.bin .sub (.bf .int [(.cmp .eq (.idx (.var 0) (.var 5)) (.lit (.str "(")))]) (.bf .int [(.cmp .eq (.idx (.var 0) (.var 5)) (.lit (.str ")")))]))) (envC z sg deep bg i) (memC fd) = .ok (.nx (envC z sg (deep + dl c) bg i)) (memC fd) := by
    rw [hd]
    simp (disch := first | omega | (simp only [List.length_cons, List.length_nil, List.length_map, List.length_append, List.length_reverse]; omega)) only [at0, at1, at2, at3, at4, idx_l, idx_t, rng_b, rng_b2, dec_le, dec_lt, add_t, add_l, mod_i, fdiv_i, pow_i, mul_i, exSs_nil, exSs_cons, exS, exSeq, exNil, exRet, exEx, exIf, exSet, exPar, exPut, exApp, exAug, ofE_ok, ofB_ok, ofEs_ok, andThen_nx, andThen_rt, Tg.putV, setAll, evE, evEs, evs, evn, ev1, ev2, evVar, evLit, evCon, evIf, evAnd, evOr, evCh, evTup, evLst, evCall, evSl, evPart, MP.part, evDget, evDin, evDget2, evDisp, evPs, pairK, toB, asB, notD, newK, frz, cel, siNew, siNew2, siSeq, evIt, siZip, siRng, siRng2, evLc, wipeE, Res.bind_ok, v1, v2, vn, view, views, datsOf, asKey, keyOf, putC, Bin.f, Cmp.f, Bf.f, Bn.f, isiD, isT, bD, negD, isD, isN, List.getElem?_cons_zero, List.getElem?_cons_succ, List.getElem?_nil, List.set_cons_zero, List.set_cons_succ, List.map_cons, List.map_nil, List.replicate, List.length_cons, List.length_nil, List.cons_append, List.nil_append, add_i, sub_i, int_i, int_b, len_l, len_t, tup_l, tup_t, list_l, list_t, eq_s, eq_i, lt_i, gt_i, le_i, ge_i, lt_s, Option.map_some, Option.map_none, Option.bind_some, Nat.reduceAdd, Int.reduceToNat, Int.reduceAdd, Int.reduceSub, Int.reduceNeg, Int.reduceMul, Int.reduceEq, Int.reduceLT, Int.reduceLE, cast_lit, seq_t, seq_l, if_true, ite_true, ite_false, if_false, and_true, true_and, and_self, Bool.false_eq_true, not_true, not_false_iff, decide_true, decide_false, Bool.not_true, Bool.not_false, Option.isSome_some, Option.isSome_none, envC, augD, e1, one_par, one_rap]
  unfold b_cut_up_2
  rw [exSs_step haug]
  by_cases h0 : deep + dl c = 0
  · have hh : decide (cutS z (some (i : Int)) (some ((i : Int) + (sg.length : Int))) = sg) = false := by
      cases q : decide (cutS z (some (i : Int)) (some ((i : Int) + (sg.length : Int))) = sg) with
      | false => rfl
      | true => exact absurd ⟨h0, (cut_is hi').mp q⟩ h
    rw [ife_f (M1 := memC fd) (by simp (disch := first | omega | (simp only [List.length_cons, List.length_nil, List.length_map, List.length_append, List.length_reverse]; omega)) only [at0, at1, at2, at3, at4, idx_l, idx_t, rng_b, rng_b2, dec_le, dec_lt, add_t, add_l, mod_i, fdiv_i, pow_i, mul_i, exSs_nil, exSs_cons, exS, exSeq, exNil, exRet, exEx, exIf, exSet, exPar, exPut, exApp, exAug, ofE_ok, ofB_ok, ofEs_ok, andThen_nx, andThen_rt, Tg.putV, setAll, evE, evEs, evs, evn, ev1, ev2, evVar, evLit, evCon, evIf, evAnd, evOr, evCh, evTup, evLst, evCall, evSl, evPart, MP.part, evDget, evDin, evDget2, evDisp, evPs, pairK, toB, asB, notD, newK, frz, cel, siNew, siNew2, siSeq, evIt, siZip, siRng, siRng2, evLc, wipeE, Res.bind_ok, v1, v2, vn, view, views, datsOf, asKey, keyOf, putC, Bin.f, Cmp.f, Bf.f, Bn.f, isiD, isT, bD, negD, isD, isN, List.getElem?_cons_zero, List.getElem?_cons_succ, List.getElem?_nil, List.set_cons_zero, List.set_cons_succ, List.map_cons, List.map_nil, List.replicate, List.length_cons, List.length_nil, List.cons_append, List.nil_append, add_i, sub_i, int_i, int_b, len_l, len_t, tup_l, tup_t, list_l, list_t, eq_s, eq_i, lt_i, gt_i, le_i, ge_i, lt_s, Option.map_some, Option.map_none, Option.bind_some, Nat.reduceAdd, Int.reduceToNat, Int.reduceAdd, Int.reduceSub, Int.reduceNeg, Int.reduceMul, Int.reduceEq, Int.reduceLT, Int.reduceLE, cast_lit, seq_t, seq_l, if_true, ite_true, ite_false, if_false, and_true, true_and, and_self, Bool.false_eq_true, not_true, not_false_iff, decide_true, decide_false, Bool.not_true, Bool.not_false, Option.isSome_some, Option.isSome_none, envC, h0, ls, sl, hh])]
    exact hgo
  · rw [ife_f (M1 := memC fd) (by simp (disch := first | omega | (simp only [List.length_cons, List.length_nil, List.length_map, List.length_append, List.length_reverse]; omega)) only [at0, at1, at2, at3, at4, idx_l, idx_t, rng_b, rng_b2, dec_le, dec_lt, add_t, add_l, mod_i, fdiv_i, pow_i, mul_i, exSs_nil, exSs_cons, exS, exSeq, exNil, exRet, exEx, exIf, exSet, exPar, exPut, exApp, exAug, ofE_ok, ofB_ok, ofEs_ok, andThen_nx, andThen_rt, Tg.putV, setAll, evE, evEs, evs, evn, ev1, ev2, evVar, evLit, evCon, evIf, evAnd, evOr, evCh, evTup, evLst, evCall, evSl, evPart, MP.part, evDget, evDin, evDget2, evDisp, evPs, pairK, toB, asB, notD, newK, frz, cel, siNew, siNew2, siSeq, evIt, siZip, siRng, siRng2, evLc, wipeE, Res.bind_ok, v1, v2, vn, view, views, datsOf, asKey, keyOf, putC, Bin.f, Cmp.f, Bf.f, Bn.f, isiD, isT, bD, negD, isD, isN, List.getElem?_cons_zero, List.getElem?_cons_succ, List.getElem?_nil, List.set_cons_zero, List.set_cons_succ, List.map_cons, List.map_nil, List.replicate, List.length_cons, List.length_nil, List.cons_append, List.nil_append, add_i, sub_i, int_i, int_b, len_l, len_t, tup_l, tup_t, list_l, list_t, eq_s, eq_i, lt_i, gt_i, le_i, ge_i, lt_s, Option.map_some, Option.map_none, Option.bind_some, Nat.reduceAdd, Int.reduceToNat, Int.reduceAdd, Int.reduceSub, Int.reduceNeg, Int.reduceMul, Int.reduceEq, Int.reduceLT, Int.reduceLE, cast_lit, seq_t, seq_l, if_true, ite_true, ite_false, if_false, and_true, true_and, and_self, Bool.false_eq_true, not_true, not_false_iff, decide_true, decide_false, Bool.not_true, Bool.not_false, Option.isSome_some, Option.isSome_none, envC, h0])]
    exact hgo
theorem step_cut {fd : List Str} {deep : Int} {bg i c : Nat} (hz : z.length ≤ 10000) (hs : sg.length ≤ 10) (hf : fd.length ≤ 100000) (hc : z.cps.toList[i]? = some c) (h0 : deep + dl c = 0) (h : hit z sg i) :
    exSs (T.cfg w n) b_cut_up_2 (envC z sg deep bg i) (memC fd) = .ok (.nx (envC z sg 0 (i + sg.length) (i + sg.length))) (memC (fd ++ [cutS z (some (bg : Int)) (some (i : Int))])) := by
  have hi : i < z.cps.toList.length := (List.getElem?_eq_some_iff.mp hc).1
  have hi' : i ≤ z.length := by simp [Str.length] at hi ⊢; omega
  have e1 := at_str hz hc
  have ls : lenD [.str sg] = some (.int sg.length) := len_s (by omega)
  have sl : ∀ d e : Int, sliceD (some d) (some e) (.str z) = some (.str (cutS z (some d) (some e))) := fun d e => if_pos (by omega)
  have hd : dl c = (if decide (c = 40) = true then 1 else 0) - (if decide (c = 41) = true then 1 else 0) := by simp [dl]
  have haug : exS (T.cfg w n) (.aug 3 .add (.bin .sub (.bf .int [(.cmp .eq (.idx (.var 0) (.var 5)) (.lit (.str "(")))]) (.bf .int [(.cmp .eq (.idx (.var 0) (.var 5)) (.lit (.str ")")))]))) (envC z sg deep bg i) (memC fd) = .ok (.nx (envC z sg (deep + dl c) bg i)) (memC fd) := by
    rw [hd]
    simp (disch := first | omega | (simp only [List.length_cons, List.length_nil, List.length_map, List.length_append, List.length_reverse]; omega)) only [at0, at1, at2, at3, at4, idx_l, idx_t, rng_b, rng_b2, dec_le, dec_lt, add_t, add_l, mod_i, fdiv_i, pow_i, mul_i, exSs_nil, exSs_cons, exS, exSeq, exNil, exRet, exEx, exIf, exSet, exPar, exPut, exApp, exAug, ofE_ok, ofB_ok, ofEs_ok, andThen_nx, andThen_rt, Tg.putV, setAll, evE, evEs, evs, evn, ev1, ev2, evVar, evLit, evCon, evIf, evAnd, evOr, evCh, evTup, evLst, evCall, evSl, evPart, MP.part, evDget, evDin, evDget2, evDisp, evPs, pairK, toB, asB, notD, newK, frz, cel, siNew, siNew2, siSeq, evIt, siZip, siRng, siRng2, evLc, wipeE, Res.bind_ok, v1, v2, vn, view, views, datsOf, asKey, keyOf, putC, Bin.f, Cmp.f, Bf.f, Bn.f, isiD, isT, bD, negD, isD, isN, List.getElem?_cons_zero, List.getElem?_cons_succ, List.getElem?_nil, List.set_cons_zero, List.set_cons_succ, List.map_cons, List.map_nil, List.replicate, List.length_cons, List.length_nil, List.cons_append, List.nil_append, add_i, sub_i, int_i, int_b, len_l, len_t, tup_l, tup_t, list_l, list_t, eq_s, eq_i, lt_i, gt_i, le_i, ge_i, lt_s, Option.map_some, Option.map_none, Option.bind_some, Nat.reduceAdd, Int.reduceToNat, Int.reduceAdd, Int.reduceSub, Int.reduceNeg, Int.reduceMul, Int.reduceEq, Int.reduceLT, Int.reduceLE, cast_lit, seq_t, seq_l, if_true, ite_true, ite_false, if_false, and_true, true_and, and_self, Bool.false_eq_true, not_true, not_false_iff, decide_true, decide_false, Bool.not_true, Bool.not_false, Option.isSome_some, Option.isSome_none, envC, augD, e1, one_par, one_rap]
  have hh : decide (cutS z (some (i : Int)) (some ((i : Int) + (sg.length : Int))) = sg) = true := (cut_is hi').mpr h
  have hcast : ((i : Int) + (sg.length : Int)) = ((i + sg.length : Nat) : Int) := by omega
  unfold b_cut_up_2
  rw [exSs_step haug, h0, ife_t (M1 := memC fd) (by simp (disch := first | omega | (simp only [List.length_cons, List.length_nil, List.length_map, List.length_append, List.length_reverse]; omega)) only [at0, at1, at2, at3, at4, idx_l, idx_t, rng_b, rng_b2, dec_le, dec_lt, add_t, add_l, mod_i, fdiv_i, pow_i, mul_i, exSs_nil, exSs_cons, exS, exSeq, exNil, exRet, exEx, exIf, exSet, exPar, exPut, exApp, exAug, ofE_ok, ofB_ok, ofEs_ok, andThen_nx, andThen_rt, Tg.putV, setAll, evE, evEs, evs, evn, ev1, ev2, evVar, evLit, evCon, evIf, evAnd, evOr, evCh, evTup, evLst, evCall, evSl, evPart, MP.part, evDget, evDin, evDget2, evDisp, evPs, pairK, toB, asB, notD, newK, frz, cel, siNew, siNew2, siSeq, evIt, siZip, siRng, siRng2, evLc, wipeE, Res.bind_ok, v1, v2, vn, view, views, datsOf, asKey, keyOf, putC, Bin.f, Cmp.f, Bf.f, Bn.f, isiD, isT, bD, negD, isD, isN, List.getElem?_cons_zero, List.getElem?_cons_succ, List.getElem?_nil, List.set_cons_zero, List.set_cons_succ, List.map_cons, List.map_nil, List.replicate, List.length_cons, List.length_nil, List.cons_append, List.nil_append, add_i, sub_i, int_i, int_b, len_l, len_t, tup_l, tup_t, list_l, list_t, eq_s, eq_i, lt_i, gt_i, le_i, ge_i, lt_s, Option.map_some, Option.map_none, Option.bind_some, Nat.reduceAdd, Int.reduceToNat, Int.reduceAdd, Int.reduceSub, Int.reduceNeg, Int.reduceMul, Int.reduceEq, Int.reduceLT, Int.reduceLE, cast_lit, seq_t, seq_l, if_true, ite_true, ite_false, if_false, and_true, true_and, and_self, Bool.false_eq_true, not_true, not_false_iff, decide_true, decide_false, Bool.not_true, Bool.not_false, Option.isSome_some, Option.isSome_none, envC, ls, sl, hh])]
  unfold b_cut_up_0
  rw [exSs_step (env1 := envC z sg 0 bg i) (M1 := memC (fd ++ [cutS z (some (bg : Int)) (some (i : Int))])) (by
    have hl : (fd.map fun x => Val.dat (.str x)).length < 16777216 := by rw [List.length_map]; omega
    simp (disch := first | omega | (simp only [List.length_cons, List.length_nil, List.length_map, List.length_append, List.length_reverse]; omega)) only [at0, at1, at2, at3, at4, idx_l, idx_t, rng_b, rng_b2, dec_le, dec_lt, add_t, add_l, mod_i, fdiv_i, pow_i, mul_i, exSs_nil, exSs_cons, exS, exSeq, exNil, exRet, exEx, exIf, exSet, exPar, exPut, exApp, exAug, ofE_ok, ofB_ok, ofEs_ok, andThen_nx, andThen_rt, Tg.putV, setAll, evE, evEs, evs, evn, ev1, ev2, evVar, evLit, evCon, evIf, evAnd, evOr, evCh, evTup, evLst, evCall, evSl, evPart, MP.part, evDget, evDin, evDget2, evDisp, evPs, pairK, toB, asB, notD, newK, frz, cel, siNew, siNew2, siSeq, evIt, siZip, siRng, siRng2, evLc, wipeE, Res.bind_ok, v1, v2, vn, view, views, datsOf, asKey, keyOf, putC, Bin.f, Cmp.f, Bf.f, Bn.f, isiD, isT, bD, negD, isD, isN, List.getElem?_cons_zero, List.getElem?_cons_succ, List.getElem?_nil, List.set_cons_zero, List.set_cons_succ, List.map_cons, List.map_nil, List.replicate, List.length_cons, List.length_nil, List.cons_append, List.nil_append, add_i, sub_i, int_i, int_b, len_l, len_t, tup_l, tup_t, list_l, list_t, eq_s, eq_i, lt_i, gt_i, le_i, ge_i, lt_s, Option.map_some, Option.map_none, Option.bind_some, Nat.reduceAdd, Int.reduceToNat, Int.reduceAdd, Int.reduceSub, Int.reduceNeg, Int.reduceMul, Int.reduceEq, Int.reduceLT, Int.reduceLE, cast_lit, seq_t, seq_l, if_true, ite_true, ite_false, if_false, and_true, true_and, and_self, Bool.false_eq_true, not_true, not_false_iff, decide_true, decide_false, Bool.not_true, Bool.not_false, Option.isSome_some, Option.isSome_none, envC, memC, lstOf, appC, sl, hl, List.map_append])]
  simp (disch := first | omega | (simp only [List.length_cons, List.length_nil, List.length_map, List.length_append, List.length_reverse]; omega)) only [at0, at1, at2, at3, at4, idx_l, idx_t, rng_b, rng_b2, dec_le, dec_lt, add_t, add_l, mod_i, fdiv_i, pow_i, mul_i, exSs_nil, exSs_cons, exS, exSeq, exNil, exRet, exEx, exIf, exSet, exPar, exPut, exApp, exAug, ofE_ok, ofB_ok, ofEs_ok, andThen_nx, andThen_rt, Tg.putV, setAll, evE, evEs, evs, evn, ev1, ev2, evVar, evLit, evCon, evIf, evAnd, evOr, evCh, evTup, evLst, evCall, evSl, evPart, MP.part, evDget, evDin, evDget2, evDisp, evPs, pairK, toB, asB, notD, newK, frz, cel, siNew, siNew2, siSeq, evIt, siZip, siRng, siRng2, evLc, wipeE, Res.bind_ok, v1, v2, vn, view, views, datsOf, asKey, keyOf, putC, Bin.f, Cmp.f, Bf.f, Bn.f, isiD, isT, bD, negD, isD, isN, List.getElem?_cons_zero, List.getElem?_cons_succ, List.getElem?_nil, List.set_cons_zero, List.set_cons_succ, List.map_cons, List.map_nil, List.replicate, List.length_cons, List.length_nil, List.cons_append, List.nil_append, add_i, sub_i, int_i, int_b, len_l, len_t, tup_l, tup_t, list_l, list_t, eq_s, eq_i, lt_i, gt_i, le_i, ge_i, lt_s, Option.map_some, Option.map_none, Option.bind_some, Nat.reduceAdd, Int.reduceToNat, Int.reduceAdd, Int.reduceSub, Int.reduceNeg, Int.reduceMul, Int.reduceEq, Int.reduceLT, Int.reduceLE, cast_lit, seq_t, seq_l, if_true, ite_true, ite_false, if_false, and_true, true_and, and_self, Bool.false_eq_true, not_true, not_false_iff, decide_true, decide_false, Bool.not_true, Bool.not_false, Option.isSome_some, Option.isSome_none, envC, ls, hcast]
abbrev lp (w : Mw) (n : Nat) (fuel : Nat) (z sg : Str) (fd : List Str) (deep : Int) (bg i : Nat) : Res Fl := whileS (evE (T.cfg w n) condC) (exSs (T.cfg w n) b_cut_up_2) fuel (envC z sg deep bg i) (memC fd)
theorem cond_is {fd : List Str} {deep : Int} {bg i : Nat} (hz : z.length ≤ 10000) : toB (evE (T.cfg w n) condC) (envC z sg deep bg i) (memC fd) = .ok (decide (i < z.length)) (memC fd) := by
  have ls : lenD [.str z] = some (.int z.length) := len_s (by omega)
  have e : decide ((i : Int) < (z.length : Int)) = decide (i < z.length) := by
    by_cases h : i < z.length
    · rw [decide_eq_true h, decide_eq_true (by omega)]
    · rw [decide_eq_false h, decide_eq_false (by omega)]
  simp (disch := first | omega | (simp only [List.length_cons, List.length_nil, List.length_map, List.length_append, List.length_reverse]; omega)) only [at0, at1, at2, at3, at4, idx_l, idx_t, rng_b, rng_b2, dec_le, dec_lt, add_t, add_l, mod_i, fdiv_i, pow_i, mul_i, exSs_nil, exSs_cons, exS, exSeq, exNil, exRet, exEx, exIf, exSet, exPar, exPut, exApp, exAug, ofE_ok, ofB_ok, ofEs_ok, andThen_nx, andThen_rt, Tg.putV, setAll, evE, evEs, evs, evn, ev1, ev2, evVar, evLit, evCon, evIf, evAnd, evOr, evCh, evTup, evLst, evCall, evSl, evPart, MP.part, evDget, evDin, evDget2, evDisp, evPs, pairK, toB, asB, notD, newK, frz, cel, siNew, siNew2, siSeq, evIt, siZip, siRng, siRng2, evLc, wipeE, Res.bind_ok, v1, v2, vn, view, views, datsOf, asKey, keyOf, putC, Bin.f, Cmp.f, Bf.f, Bn.f, isiD, isT, bD, negD, isD, isN, List.getElem?_cons_zero, List.getElem?_cons_succ, List.getElem?_nil, List.set_cons_zero, List.set_cons_succ, List.map_cons, List.map_nil, List.replicate, List.length_cons, List.length_nil, List.cons_append, List.nil_append, add_i, sub_i, int_i, int_b, len_l, len_t, tup_l, tup_t, list_l, list_t, eq_s, eq_i, lt_i, gt_i, le_i, ge_i, lt_s, Option.map_some, Option.map_none, Option.bind_some, Nat.reduceAdd, Int.reduceToNat, Int.reduceAdd, Int.reduceSub, Int.reduceNeg, Int.reduceMul, Int.reduceEq, Int.reduceLT, Int.reduceLE, cast_lit, seq_t, seq_l, if_true, ite_true, ite_false, if_false, and_true, true_and, and_self, Bool.false_eq_true, not_true, not_false_iff, decide_true, decide_false, Bool.not_true, Bool.not_false, Option.isSome_some, Option.isSome_none, envC, ls, e]
theorem lp_go {fuel : Nat} {fd : List Str} {deep : Int} {bg i c : Nat} (hz : z.length ≤ 10000) (hs : sg.length ≤ 10) (hc : z.cps.toList[i]? = some c) (h : ¬ (deep + dl c = 0 ∧ hit z sg i)) : lp w n (fuel + 1) z sg fd deep bg i = lp w n fuel z sg fd (deep + dl c) bg (i + 1) := by
  have hi : i < z.length := by have := (List.getElem?_eq_some_iff.mp hc).1; simp [Str.length] at this ⊢; omega
  unfold lp
  rw [whileS, cond_is hz, decide_eq_true hi, ofB_ok]
  simp only [step_go hz hs hc h]
theorem lp_cut {fuel : Nat} {fd : List Str} {deep : Int} {bg i c : Nat} (hz : z.length ≤ 10000) (hs : sg.length ≤ 10) (hf : fd.length ≤ 100000) (hc : z.cps.toList[i]? = some c) (h0 : deep + dl c = 0) (h : hit z sg i) :
    lp w n (fuel + 1) z sg fd deep bg i = lp w n fuel z sg (fd ++ [cutS z (some (bg : Int)) (some (i : Int))]) 0 (i + sg.length) (i + sg.length) := by
  have hi : i < z.length := by have := (List.getElem?_eq_some_iff.mp hc).1; simp [Str.length] at this ⊢; omega
  unfold lp
  rw [whileS, cond_is hz, decide_eq_true hi, ofB_ok]
  simp only [step_cut hz hs hf hc h0 h]
theorem dl_o {c : Nat} (h1 : c ≠ 40) (h2 : c ≠ 41) : dl c = 0 := by simp [dl, h1, h2]
theorem dl_40 : dl 40 = 1 := by decide
theorem dl_41 : dl 41 = -1 := by decide
theorem get_mid {pre p : List Nat} {c : Nat} (e : z.cps.toList = pre ++ c :: p) : z.cps.toList[pre.length]? = some c := by
  rw [e, List.getElem?_append_right (Nat.le_refl _)]
  simp
/-- inside brackets -/
theorem pass_in (hz : z.length ≤ 10000) (hs : sg.length ≤ 10) {p : List Nat} (hp : BalA p) : ∀ (pre rest : List Nat) (fuel : Nat) (fd : List Str) (deep : Int) (bg : Nat), z.cps.toList = pre ++ (p ++ rest) → 1 ≤ deep → lp w n (fuel + p.length) z sg fd deep bg pre.length = lp w n fuel z sg fd deep bg (pre.length + p.length) := by
  induction hp with
  | nil => intro pre rest fuel fd deep bg e hd; rfl
  | @ch c p h1 h2 _ ih =>
    intro pre rest fuel fd deep bg e hd
    have hc : z.cps.toList[pre.length]? = some c := get_mid (p := p ++ rest) e
    rw [List.length_cons, ← Nat.add_assoc, lp_go hz hs hc (by rw [dl_o h1 h2]; omega), dl_o h1 h2, Int.add_zero]
    have := ih (pre ++ [c]) rest fuel fd deep bg (by rw [e]; simp) hd
    rw [List.length_append, List.length_singleton] at this
    rw [this]
    congr 1
    omega
  | @par p q _ _ ih1 ih2 =>
    intro pre rest fuel fd deep bg e hd
    have hc : z.cps.toList[pre.length]? = some 40 := get_mid (p := p ++ (41 :: q) ++ rest) (by rw [e]; simp)
    have el : fuel + (40 :: (p ++ 41 :: q)).length = (((fuel + q.length) + 1) + p.length) + 1 := by simp; omega
    rw [el, lp_go hz hs hc (by rw [dl_40]; omega), dl_40]
    have k1 := ih1 (pre ++ [40]) (41 :: q ++ rest) ((fuel + q.length) + 1) fd (deep + 1) bg (by rw [e]; simp) (by omega)
    rw [List.length_append, List.length_singleton] at k1
    rw [k1]
    have hc2 : z.cps.toList[(pre ++ 40 :: p).length]? = some 41 := get_mid (p := q ++ rest) (by rw [e]; simp)
    have e2 : pre.length + 1 + p.length = (pre ++ 40 :: p).length := by simp; omega
    rw [e2, lp_go hz hs hc2 (by rw [dl_41]; omega), dl_41]
    have k2 := ih2 (pre ++ 40 :: (p ++ [41])) rest fuel fd deep bg (by rw [e]; simp) hd
    have e3 : (pre ++ 40 :: p).length + 1 = (pre ++ 40 :: (p ++ [41])).length := by simp; omega
    have e4 : deep + 1 + -1 = deep := by omega
    rw [e3, e4, k2]
    congr 1
    simp
    omega
/-- outside: no cut -/
theorem pass_out (hz : z.length ≤ 10000) (hs : sg.length ≤ 10) {b : Nat → Bool} (hb : b 40 = false) {rest : List Nat} (H : ∀ (c : Nat) (t : List Nat), (c = 41 ∨ b c = false) → (t = rest ∨ ∃ d r, t = d :: r ∧ b d = false) → ¬ (c :: t).take sg.length = sg.cps.toList) {p : List Nat} (hp : Bal b p) :
    ∀ (pre : List Nat) (fuel : Nat) (fd : List Str) (bg : Nat), z.cps.toList = pre ++ (p ++ rest) → lp w n (fuel + p.length) z sg fd 0 bg pre.length = lp w n fuel z sg fd 0 bg (pre.length + p.length) := by
  have hd : ∀ q : List Nat, Bal b q → (q ++ rest = rest ∨ ∃ d r, q ++ rest = d :: r ∧ b d = false) := by
    intro q hq
    cases hq with
    | nil => exact .inl rfl
    | ch h1 h2 h3 _ => exact .inr ⟨_, _, rfl, h3⟩
    | par _ _ => exact .inr ⟨_, _, rfl, hb⟩
  induction hp with
  | nil => intro pre fuel fd bg e; rfl
  | @ch c p h1 h2 h3 hp ih =>
    intro pre fuel fd bg e
    have hc : z.cps.toList[pre.length]? = some c := get_mid (p := p ++ rest) e
    have hn : ¬ (0 + dl c = 0 ∧ hit z sg pre.length) := by
      rintro ⟨_, h⟩
      unfold hit at h
      rw [e, List.drop_left] at h
      exact H c (p ++ rest) (.inr h3) (hd p hp) h
    rw [List.length_cons, ← Nat.add_assoc, lp_go hz hs hc hn, dl_o h1 h2, Int.add_zero]
    have := ih (pre ++ [c]) fuel fd bg (by rw [e]; simp)
    rw [List.length_append, List.length_singleton] at this
    rw [this]
    congr 1
    omega
  | @par p q hp hq ih2 =>
    intro pre fuel fd bg e
    have hc : z.cps.toList[pre.length]? = some 40 := get_mid (p := p ++ (41 :: q) ++ rest) (by rw [e]; simp)
    have el : fuel + (40 :: (p ++ 41 :: q)).length = (((fuel + q.length) + 1) + p.length) + 1 := by simp; omega
    rw [el, lp_go hz hs hc (by rw [dl_40]; omega), dl_40]
    have k1 := pass_in (w := w) (n := n) (sg := sg) hz hs hp (pre ++ [40]) (41 :: q ++ rest) ((fuel + q.length) + 1) fd (0 + 1) bg (by rw [e]; simp) (by omega)
    rw [List.length_append, List.length_singleton] at k1
    rw [k1]
    have hc2 : z.cps.toList[(pre ++ 40 :: p).length]? = some 41 := get_mid (p := q ++ rest) (by rw [e]; simp)
    have e2 : pre.length + 1 + p.length = (pre ++ 40 :: p).length := by simp; omega
    have hn : ¬ (0 + 1 + dl 41 = 0 ∧ hit z sg (pre ++ 40 :: p).length) := by
      rintro ⟨_, h⟩
      unfold hit at h
      have e' : z.cps.toList = (pre ++ 40 :: p) ++ (41 :: (q ++ rest)) := by rw [e]; simp
      rw [e', List.drop_left] at h
      exact H 41 (q ++ rest) (.inl rfl) (hd q hq) h
    rw [e2, lp_go hz hs hc2 hn, dl_41]
    have k2 := ih2 (pre ++ 40 :: (p ++ [41])) fuel fd bg (by rw [e]; simp)
    have e3 : (pre ++ 40 :: p).length + 1 = (pre ++ 40 :: (p ++ [41])).length := by simp; omega
    have e4 : (0 : Int) + 1 + -1 = 0 := by omega
    rw [e3, e4, k2]
    congr 1
    simp
    omega
theorem lp_end {fuel : Nat} {fd : List Str} {bg : Nat} (hz : z.length ≤ 10000) : lp w n (fuel + 1) z sg fd 0 bg z.length = .ok (.nx (envC z sg 0 bg z.length)) (memC fd) := by
  unfold lp
  rw [whileS, cond_is hz, decide_eq_false (Nat.lt_irrefl _), ofB_ok]
theorem cut_mid {pre p r : List Nat} (e : z.cps.toList = pre ++ (p ++ r)) : cutS z (some ((pre.length : Nat) : Int)) (some ((pre.length + p.length : Nat) : Int)) = ⟨p.toArray⟩ := by
  apply Str.ext'
  apply Array.toList_inj.mp
  have hl : z.length = (pre ++ (p ++ r)).length := by rw [← e]; simp [Str.length]
  have := tl_cut (z := z) (i := pre.length) (k := p.length) (by rw [hl]; simp)
  rw [Int.natCast_add, this, e, List.drop_left, List.take_left]
theorem cut_rest {pre p : List Nat} (e : z.cps.toList = pre ++ p) : cutS z (some ((pre.length : Nat) : Int)) none = ⟨p.toArray⟩ := by
  apply Str.ext'
  apply Array.toList_inj.mp
  have hl : z.length = (pre ++ p).length := by rw [← e]; simp [Str.length]
  unfold cutS
  rw [HT.sIx_nat, HT.sIx_none, Nat.min_eq_left (by rw [hl]; simp), hl]
  show (z.cps.toList.drop pre.length).take _ = p
  rw [e, List.drop_left]
  exact List.take_of_length_le (by simp)
theorem cut_run (hz : z.length ≤ 10000) (hs : sg.length ≤ 10) {b : Nat → Bool} (hb : b 40 = false) {s0 : Nat} {S0 : List Nat} (hsg : sg.cps.toList = s0 :: S0) (h40 : s0 ≠ 40) (h41 : s0 ≠ 41)
    (H : ∀ rest : List Nat, (rest = [] ∨ ∃ r, rest = (s0 :: S0) ++ r) → ∀ (c : Nat) (t : List Nat), (c = 41 ∨ b c = false) → (t = rest ∨ ∃ d r, t = d :: r ∧ b d = false) → ¬ (c :: t).take sg.length = sg.cps.toList) :
    ∀ (parts : List (List Nat)) (pre : List Nat) (fd : List Str), parts ≠ [] → (∀ p ∈ parts, Bal b p) → fd.length + parts.length ≤ 100000 → z.cps.toList = pre ++ TL.joinL (s0 :: S0) parts →
    ∃ (k bg : Nat) (fd' : List Str), k ≤ (TL.joinL (s0 :: S0) parts).length + 1 ∧ (∀ fuel, lp w n (fuel + k) z sg fd 0 pre.length pre.length = .ok (.nx (envC z sg 0 bg z.length)) (memC fd')) ∧ fd' ++ [cutS z (some (bg : Int)) none] = fd ++ parts.map fun p => ⟨p.toArray⟩
  | [], pre, fd, hne, _, _, _ => absurd rfl hne
  | [p], pre, fd, _, hp, hf, e => by
    have e0 : TL.joinL (s0 :: S0) [p] = p := rfl
    rw [e0] at e ⊢
    have hl : z.length = pre.length + p.length := by have := congrArg List.length e; simp [Str.length] at this ⊢; omega
    refine ⟨p.length + 1, pre.length, fd, Nat.le_refl _, fun fuel => ?_, ?_⟩
    · have h1 := pass_out (w := w) (n := n) (sg := sg) hz hs hb (H [] (.inl rfl)) (hp p (by simp)) pre (fuel + 1) fd pre.length (by rw [e]; simp)
      have e2 : fuel + (p.length + 1) = fuel + 1 + p.length := by omega
      rw [e2, h1, ← hl]
      exact lp_end hz
    · rw [cut_rest e]
      rfl
  | p :: q :: r, pre, fd, _, hp, hf, e => by
    have e0 : TL.joinL (s0 :: S0) (p :: q :: r) = p ++ ((s0 :: S0) ++ TL.joinL (s0 :: S0) (q :: r)) := rfl
    rw [e0] at e ⊢
    have hsl : sg.length = (s0 :: S0).length := by rw [← hsg]; simp [Str.length]
    have hc : z.cps.toList[(pre ++ p).length]? = some s0 := get_mid (p := S0 ++ TL.joinL (s0 :: S0) (q :: r)) (by rw [e]; simp)
    have hh : hit z sg (pre ++ p).length := by
      unfold hit
      have e' : z.cps.toList = (pre ++ p) ++ ((s0 :: S0) ++ TL.joinL (s0 :: S0) (q :: r)) := by rw [e]; simp
      rw [e', List.drop_left, hsl, List.take_left, hsg]
    have hcut : cutS z (some ((pre.length : Nat) : Int)) (some (((pre ++ p).length : Nat) : Int)) = ⟨p.toArray⟩ := by
      rw [List.length_append]
      exact cut_mid e
    obtain ⟨k, bg, fd', k1, k2, k3⟩ := cut_run hz hs hb hsg h40 h41 H (q :: r) (pre ++ p ++ (s0 :: S0)) (fd ++ [⟨p.toArray⟩]) (by simp) (fun x hx => hp x (by simp at hx ⊢; exact .inr hx)) (by simp at hf ⊢; omega) (by rw [e]; simp)
    refine ⟨p.length + (k + 1), bg, fd', by simp only [List.length_append] at k1 ⊢; have : (s0 :: S0).length = S0.length + 1 := rfl; omega, fun fuel => ?_, by rw [k3]; simp⟩
    have h1 := pass_out (w := w) (n := n) (sg := sg) hz hs hb (H _ (.inr ⟨_, rfl⟩)) (hp p (by simp)) pre (fuel + k + 1) fd pre.length e
    have e2 : fuel + (p.length + (k + 1)) = fuel + k + 1 + p.length := by omega
    have e3 : pre.length + p.length = (pre ++ p).length := by simp
    rw [e2, h1, e3, lp_cut hz hs (by omega) hc (by rw [dl_o h40 h41]; rfl) hh, hcut]
    have e4 : (pre ++ p).length + sg.length = (pre ++ p ++ (s0 :: S0)).length := by rw [hsl]; simp; omega
    rw [e4]
    exact k2 fuel
theorem f_cut : T.fn "cut_up" = some d_cut_up := by rfl
theorem cut_ok {M : Mem} (hz : z.length ≤ 10000) (hs : sg.length ≤ 10) {b : Nat → Bool} (hb : b 40 = false) {s0 : Nat} {S0 : List Nat} (hsg : sg.cps.toList = s0 :: S0) (h40 : s0 ≠ 40) (h41 : s0 ≠ 41)
    (H : ∀ rest : List Nat, (rest = [] ∨ ∃ r, rest = (s0 :: S0) ++ r) → ∀ (c : Nat) (t : List Nat), (c = 41 ∨ b c = false) → (t = rest ∨ ∃ d r, t = d :: r ∧ b d = false) → ¬ (c :: t).take sg.length = sg.cps.toList)
    {parts : List Str} (hne : parts ≠ []) (hp : ∀ p ∈ parts, Bal b p.cps.toList) (hl : parts.length ≤ 1000) (e : z = Txt.join sg parts) : callF w T (n + 1) "cut_up" [.dat (.str z), .dat (.str sg)] M = .ok (.dat (.list (parts.map .str))) M := by
  have e1 : z.cps.toList = [] ++ TL.joinL (s0 :: S0) (parts.map TL.tl) := by
    rw [← hsg]
    have : TL.tl z = TL.joinL (TL.tl sg) (parts.map TL.tl) := by
      rw [e]
      show TL.tl (Builtin.Str.glued sg parts) = _
      rw [StrLaws.glued_eq_join, TL.tl_join]
    exact this
  obtain ⟨k, bg, fd', k1, k2, k3⟩ := cut_run (w := w) (n := n) hz hs hb hsg h40 h41 H (parts.map TL.tl) [] [] (by simpa using hne) (fun p hp' => by
    obtain ⟨x, hx, rfl⟩ := List.mem_map.mp hp'
    exact hp x hx) (by simp; omega) e1
  have hk : k ≤ 20000 := by
    have : z.length = (TL.joinL (s0 :: S0) (parts.map TL.tl)).length := by have := congrArg List.length e1; simpa [Str.length] using this
    omega
  have k2' := k2 (20000 - k)
  have e3 : 20000 - k + k = 20000 := by omega
  rw [e3] at k2'
  have k4 : fd' ++ [cutS z (some (bg : Int)) none] = parts := by
    rw [k3]
    simp only [List.nil_append, List.map_map]
    have : (fun p : List Nat => (⟨p.toArray⟩ : Str)) ∘ TL.tl = id := by
      funext x
      exact TL.mk_tl x
    rw [this, List.map_id]
  have sl : sliceD (some (bg : Int)) none (.str z) = some (.str (cutS z (some (bg : Int)) none)) := if_pos (by omega)
  have hfl : fd'.length ≤ 1000 := by have := congrArg List.length k4; simp at this; omega
  have hdat : datsOf (fd'.map fun x => Val.dat (.str x)) = some (fd'.map .str) := by
    have : (fd'.map fun x => Val.dat (.str x)) = (fd'.map PyData.str).map Val.dat := by rw [List.map_map]; rfl
    rw [this, datsOf_map]
  have s1 : exS (T.cfg w n) (.par [2, 3, 4, 5] [(.lst true []), (.lit (.int 0)), (.lit (.int 0)), (.lit (.int 0))]) [some (.dat (.str z)), some (.dat (.str sg)), none, none, none, none] [] = .ok (.nx (envC z sg 0 0 0)) (memC []) := by
    simp (disch := first | omega | (simp only [List.length_cons, List.length_nil, List.length_map, List.length_append, List.length_reverse]; omega)) only [at0, at1, at2, at3, at4, idx_l, idx_t, rng_b, rng_b2, dec_le, dec_lt, add_t, add_l, mod_i, fdiv_i, pow_i, mul_i, exSs_nil, exSs_cons, exS, exSeq, exNil, exRet, exEx, exIf, exSet, exPar, exPut, exApp, exAug, ofE_ok, ofB_ok, ofEs_ok, andThen_nx, andThen_rt, Tg.putV, setAll, evE, evEs, evs, evn, ev1, ev2, evVar, evLit, evCon, evIf, evAnd, evOr, evCh, evTup, evLst, evCall, evSl, evPart, MP.part, evDget, evDin, evDget2, evDisp, evPs, pairK, toB, asB, notD, newK, frz, cel, siNew, siNew2, siSeq, evIt, siZip, siRng, siRng2, evLc, wipeE, Res.bind_ok, v1, v2, vn, view, views, datsOf, asKey, keyOf, putC, Bin.f, Cmp.f, Bf.f, Bn.f, isiD, isT, bD, negD, isD, isN, List.getElem?_cons_zero, List.getElem?_cons_succ, List.getElem?_nil, List.set_cons_zero, List.set_cons_succ, List.map_cons, List.map_nil, List.replicate, List.length_cons, List.length_nil, List.cons_append, List.nil_append, add_i, sub_i, int_i, int_b, len_l, len_t, tup_l, tup_t, list_l, list_t, eq_s, eq_i, lt_i, gt_i, le_i, ge_i, lt_s, Option.map_some, Option.map_none, Option.bind_some, Nat.reduceAdd, Int.reduceToNat, Int.reduceAdd, Int.reduceSub, Int.reduceNeg, Int.reduceMul, Int.reduceEq, Int.reduceLT, Int.reduceLE, cast_lit, seq_t, seq_l, if_true, ite_true, ite_false, if_false, and_true, true_and, and_self, Bool.false_eq_true, not_true, not_false_iff, decide_true, decide_false, Bool.not_true, Bool.not_false, Option.isSome_some, Option.isSome_none, ]
    rfl
  have s2 : exS (T.cfg w n) (.while 20000 condC b_cut_up_2) (envC z sg 0 0 0) (memC []) = .ok (.nx (envC z sg 0 bg z.length)) (memC fd') := by
    simp only [exS]
    exact k2'
  have body : exSs (T.cfg w n) d_cut_up.ir [some (.dat (.str z)), some (.dat (.str sg)), none, none, none, none] [] = .ok (.rt (.dat (.list (parts.map .str)))) (memC fd') := by
    show exSs _ (_ :: _ :: _) _ _ = _
    rw [exSs_step s1, exSs_step s2, exSs_one]
    simp (disch := first | omega | (simp only [List.length_cons, List.length_nil, List.length_map, List.length_append, List.length_reverse]; omega)) only [at0, at1, at2, at3, at4, idx_l, idx_t, rng_b, rng_b2, dec_le, dec_lt, add_t, add_l, mod_i, fdiv_i, pow_i, mul_i, exSs_nil, exSs_cons, exS, exSeq, exNil, exRet, exEx, exIf, exSet, exPar, exPut, exApp, exAug, ofE_ok, ofB_ok, ofEs_ok, andThen_nx, andThen_rt, Tg.putV, setAll, evE, evEs, evs, evn, ev1, ev2, evVar, evLit, evCon, evIf, evAnd, evOr, evCh, evTup, evLst, evCall, evSl, evPart, MP.part, evDget, evDin, evDget2, evDisp, evPs, pairK, toB, asB, notD, newK, frz, cel, siNew, siNew2, siSeq, evIt, siZip, siRng, siRng2, evLc, wipeE, Res.bind_ok, v1, v2, vn, view, views, datsOf, asKey, keyOf, putC, Bin.f, Cmp.f, Bf.f, Bn.f, isiD, isT, bD, negD, isD, isN, List.getElem?_cons_zero, List.getElem?_cons_succ, List.getElem?_nil, List.set_cons_zero, List.set_cons_succ, List.map_cons, List.map_nil, List.replicate, List.length_cons, List.length_nil, List.cons_append, List.nil_append, add_i, sub_i, int_i, int_b, len_l, len_t, tup_l, tup_t, list_l, list_t, eq_s, eq_i, lt_i, gt_i, le_i, ge_i, lt_s, Option.map_some, Option.map_none, Option.bind_some, Nat.reduceAdd, Int.reduceToNat, Int.reduceAdd, Int.reduceSub, Int.reduceNeg, Int.reduceMul, Int.reduceEq, Int.reduceLT, Int.reduceLE, cast_lit, seq_t, seq_l, if_true, ite_true, ite_false, if_false, and_true, true_and, and_self, Bool.false_eq_true, not_true, not_false_iff, decide_true, decide_false, Bool.not_true, Bool.not_false, Option.isSome_some, Option.isSome_none, envC, memC, hdat, sl, List.length_map]
    rw [← k4, List.map_append]
    rfl
  have start : callF w T (n + 1) "cut_up" [.dat (.str z), .dat (.str sg)] M = (match (match exSs (T.cfg w n) d_cut_up.ir [some (.dat (.str z)), some (.dat (.str sg)), none, none, none, none] [] with
      | .ok (.nx _) M1 => Res.ok (Val.dat .none) M1
      | .ok (.rt x) M1 => Res.ok x M1
      | .ok (.rz e _) M1 => Res.exc e M1
      | _ => Res.bad) with
    | .ok (.dat d) _ => Res.ok (Val.dat d) M
    | .exc e _ => Res.exc e M
    | _ => Res.bad) := by
    rw [callF_eq f_cut]
    rfl
  rw [start, body]
end
end LawX
set_option Elab.async false
set_option linter.all false
set_option maxRecDepth 100000
set_option maxHeartbeats 8000000
/-! PH7: the texts are balanced; they are cut as they were joined. -/
namespace LawX
open PySem PySem.Spec PyProof.Rows L2 MP
def bb (c : Nat) : Bool := c == 59 || c == 124
def b124 (c : Nat) : Bool := c == 124
def br1 (f s n : Str) : Str × Str × Str := (f, s, n)
def brAll (L N : List Str) : List (Str × Str × Str) := (L.flatMap fun s => N.map fun n => br1 "if" s n) ++ N.flatMap fun a => N.flatMap fun b => [br1 "same" a b, br1 "near" a b]
theorem br_mem {L N : List Str} {f a b : Str} (h : BrOk L N f a b) : (f, a, b) ∈ brAll L N := by
  unfold brAll
  cases h with
  | ife h1 h2 => exact List.mem_append_left _ (List.mem_flatMap.mpr ⟨_, h1, List.mem_map.mpr ⟨_, h2, rfl⟩⟩)
  | same h1 h2 _ => exact List.mem_append_right _ (List.mem_flatMap.mpr ⟨_, h1, List.mem_flatMap.mpr ⟨_, h2, by simp [br1]⟩⟩)
  | near h1 h2 _ => exact List.mem_append_right _ (List.mem_flatMap.mpr ⟨_, h1, List.mem_flatMap.mpr ⟨_, h2, by simp [br1]⟩⟩)
def plainB (c : Nat) : Bool := decide (c ≠ 40 ∧ c ≠ 41) && !bb c && decide (c ≠ 10)
section
variable {L N : List Str}
theorem ops_plain (h : LN L N) : (opsAll L N).all (fun p => (Txt.join " " (p.1 :: p.2)).cps.toList.all plainB && decide (0 < (Txt.join " " (p.1 :: p.2)).length)) = true := by
  obtain ⟨hL, hN⟩ := h
  rcases hL with rfl | rfl | rfl <;> rcases hN with rfl | rfl | rfl <;> decide +kernel
theorem brs_plain (h : LN L N) : (brAll L N).all (fun p => (Txt.join " " [p.1, p.2.1, p.2.2]).cps.toList.all plainB && ([p.1, p.2.1, p.2.2].all fun s => !(s.cps.toList.contains 32))) = true := by
  obtain ⟨hL, hN⟩ := h
  rcases hL with rfl | rfl | rfl <;> rcases hN with rfl | rfl | rfl <;> decide +kernel
theorem bal_plain {b : Nat → Bool} {p : List Nat} (h : p.all plainB = true) (hb : ∀ c, bb c = false → b c = false) : Bal b p := by
  refine (Bal.plain (b := bb) ?_).weak hb
  rw [List.all_eq_true] at h ⊢
  intro c hc
  have := h c hc
  unfold plainB at this
  exact (Bool.and_eq_true_iff.mp this).1
theorem bal_join {b : Nat → Bool} {S : List Nat} (hS : Bal b S) : ∀ {ps : List (List Nat)}, (∀ p ∈ ps, Bal b p) → Bal b (TL.joinL S ps)
  | [], _ => .nil
  | [p], h => h p (by simp)
  | p :: q :: r, h => by
    show Bal b (p ++ (S ++ TL.joinL S (q :: r)))
    exact (h p (by simp)).app (hS.app (bal_join hS fun x hx => h x (by simp at hx ⊢; exact .inr hx)))
theorem tl_txtjoin (y : Str) (xs : List Str) : (Txt.join y xs).cps.toList = TL.joinL y.cps.toList (xs.map TL.tl) := by
  show TL.tl (Builtin.Str.glued y xs) = _
  rw [StrLaws.glued_eq_join, TL.tl_join]
theorem app_tl (a b : Str) : (a ++ b).cps.toList = a.cps.toList ++ b.cps.toList := TL.tl_append a b
theorem br_chars (f a b : Str) (x y : List It) : (It.txt (.br f a b x y)).cps.toList = (Txt.join " " [f, a, b]).cps.toList ++ (32 :: 40 :: (((btxt x).cps.toList ++ ([32, 124, 32] ++ (btxt y).cps.toList)) ++ [41])) := by
  simp only [It.txt, app_tl, tl_txtjoin " | "]
  show _ ++ [32, 40] ++ ((btxt x).cps.toList ++ ([32, 124, 32] ++ (btxt y).cps.toList)) ++ [41] = _
  simp
mutual
theorem bal_it (h : LN L N) : ∀ i : It, i.ok L N → Bal bb i.txt.cps.toList
  | .op f as, ok => by
    have := List.all_eq_true.mp (ops_plain h) (f, as) (ops_mem ok)
    exact bal_plain (Bool.and_eq_true_iff.mp this).1 fun _ z => z
  | .br f a b x y, ok => by
    have := List.all_eq_true.mp (brs_plain h) (f, a, b) (br_mem ok.1)
    have hw := bal_plain (b := bb) (Bool.and_eq_true_iff.mp this).1 fun _ z => z
    have hx := bal_its h x ok.2.1
    have hy := bal_its h y ok.2.2
    rw [br_chars]
    refine hw.app (.ch (by decide) (by decide) (by decide) ?_)
    refine .par (q := []) ?_ .nil
    have w : ∀ {p : List Nat}, Bal b124 p → Bal (fun _ => false) p := fun hp => hp.weak fun _ _ => rfl
    exact ((w hx).app ((Bal.ch (by decide) (by decide) rfl (.ch (by decide) (by decide) rfl (.ch (by decide) (by decide) rfl .nil)) : Bal (fun _ => false) [32, 124, 32]).app (w hy))).any
theorem bal_its (h : LN L N) : ∀ is : List It, Its L N is → Bal b124 (btxt is).cps.toList
  | is, ok => by
    unfold btxt
    rw [tl_txtjoin]
    refine bal_join (.ch (by decide) (by decide) (by decide) (.ch (by decide) (by decide) (by decide) .nil)) fun p hp => ?_
    obtain ⟨t, ht, rfl⟩ := List.mem_map.mp hp
    exact bal_all h is ok t ht
theorem bal_all (h : LN L N) : ∀ is : List It, Its L N is → ∀ t ∈ txts is, Bal b124 t.cps.toList
  | [], _ => fun t ht => by simp [txts] at ht
  | i :: is, ok => fun t ht => by
    simp only [txts, List.mem_cons] at ht
    rcases ht with rfl | ht
    · exact (bal_it h i ok.1).weak fun c hc => by
        unfold bb at hc
        unfold b124
        simp at hc ⊢
        exact hc.2
    · exact bal_all h is ok.2 t ht
end
theorem bal_txts (h : LN L N) : ∀ is : List It, Its L N is → ∀ t ∈ txts is, Bal bb t.cps.toList
  | [], _ => fun t ht => by simp [txts] at ht
  | i :: is, ok => fun t ht => by
    simp only [txts, List.mem_cons] at ht
    rcases ht with rfl | ht
    · exact bal_it h i ok.1
    · exact bal_txts h is ok.2 t ht
theorem txt_pos (h : LN L N) {i : It} (ok : i.ok L N) : 0 < i.txt.length := by
  cases i with
  | op f as =>
    have := List.all_eq_true.mp (ops_plain h) (f, as) (ops_mem ok)
    exact of_decide_eq_true (Bool.and_eq_true_iff.mp this).2
  | br f a b x y =>
    have : (It.txt (.br f a b x y)).length = (It.txt (.br f a b x y)).cps.toList.length := by simp [Str.length]
    rw [this, br_chars]
    simp
    omega
end
section
variable {w : Mw} {n : Nat} {M : Mem} {L N : List Str}
theorem cut_body (h : LN L N) {is : List It} (ok : Its L N is) (hne : is ≠ []) (hl : sizes is ≤ 50) : callF w T (n + 1) "cut_up" [.dat (.str (btxt is)), .dat (.str "; ")] M = .ok (.dat (.list ((txts is).map .str))) M := by
  have hz := btxt_len h ok
  have hlen : (txts is).length = is.length := by rw [txts_map]; simp
  have := len_le is
  refine cut_ok (b := bb) (by omega) (by decide) (by decide) (s0 := 59) (S0 := [32]) (by rfl) (by decide) (by decide) ?_ (fun e => hne (by have := congrArg List.length e; rw [hlen] at this; simpa using this)) (bal_txts h is ok) (by omega) rfl
  intro rest _ c t hc _ e
  have e' : (c :: t).take 2 = [59, 32] := e
  have : c = 59 := by
    cases t with
    | nil => simp at e'
    | cons d r => simp at e'; exact e'.1
  subst this
  rcases hc with hc | hc
  · exact absurd hc (by decide)
  · exact absurd hc (by decide)
theorem cut_bar (h : LN L N) {x y : List It} (ox : Its L N x) (oy : Its L N y) (hl : sizes x + sizes y ≤ 50) : callF w T (n + 1) "cut_up" [.dat (.str (Txt.join " | " [btxt x, btxt y])), .dat (.str " | ")] M = .ok (.dat (.list [.str (btxt x), .str (btxt y)])) M := by
  have hz1 := btxt_len h ox
  have hz2 := btxt_len h oy
  have hj := join_len " | " [btxt x, btxt y]
  have c2 : (" | " : Str).length = 3 := by rfl
  simp only [List.map_cons, List.map_nil, List.sum_cons, List.sum_nil, List.length_cons, List.length_nil, c2] at hj
  refine cut_ok (b := b124) (parts := [btxt x, btxt y]) (by omega) (by decide) (by decide) (s0 := 32) (S0 := [124, 32]) (by rfl) (by decide) (by decide) ?_ (by simp) (fun p hp => by
    simp only [List.mem_cons, List.not_mem_nil, or_false] at hp
    rcases hp with rfl | rfl
    · exact bal_its h _ ox
    · exact bal_its h _ oy) (by simp) rfl
  intro rest hr c t hc ht e
  have e' : (c :: t).take 3 = [32, 124, 32] := e
  rcases ht with rfl | ⟨d, r, rfl, hd⟩
  · rcases hr with rfl | ⟨r, rfl⟩
    · simp at e'
    · simp at e'
  · cases r with
    | nil => simp at e'
    | cons d2 r2 =>
      simp at e'
      obtain ⟨_, e2, _⟩ := e'
      subst e2
      exact absurd hd (by decide)
end
end LawX
set_option Elab.async false
set_option linter.all false
set_option maxRecDepth 100000
set_option maxHeartbeats 8000000
/-! PH8: a text is read back. -/
namespace LawX
open PySem PySem.Spec PyProof.Rows L2 MP
section
variable {z : Str}
theorem len_tl : z.length = z.cps.toList.length := by simp [Str.length]
theorem of_tl {y : Str} {p : List Nat} (e : z.cps.toList = p) (e2 : y.cps.toList = p) : z = y := by
  apply Str.ext'
  apply Array.toList_inj.mp
  rw [e, e2]
theorem sIx_neg {n d k : Nat} (h : k + 1 ≤ n) : HT.sIx n d (some (-((k : Int) + 1))) = n - (k + 1) := by
  show (if (-((k : Int) + 1)) < 0 then (-((k : Int) + 1) + (n : Int)).toNat else _) = _
  rw [if_pos (by omega)]
  omega
theorem sIx_m1 {n d : Nat} (h : 1 ≤ n) : HT.sIx n d (some (-1)) = n - 1 := sIx_neg (k := 0) h
theorem cut_end {p : List Nat} {c : Nat} (e : z.cps.toList = p ++ [c]) : cutS z (some (-1)) none = ⟨#[c]⟩ := by
  have hl : z.length = p.length + 1 := by rw [len_tl, e]; simp
  refine of_tl ?_ rfl
  unfold cutS
  rw [sIx_m1 (by omega), HT.sIx_none, hl, Nat.add_sub_cancel]
  show (z.cps.toList.drop p.length).take (p.length + 1 - p.length) = [c]
  rw [e, List.drop_left, List.take_of_length_le (by simp)]
theorem cut_in {p q : List Nat} {c : Nat} {y : Str} (e : z.cps.toList = p ++ (q ++ [c])) (hy : y.cps.toList = q) : cutS z (some ((p.length : Nat) : Int)) (some (-1)) = y := by
  have hl : z.length = p.length + (q.length + 1) := by rw [len_tl, e]; simp
  refine of_tl (p := q) ?_ hy
  unfold cutS
  rw [sIx_m1 (by omega), HT.sIx_nat, Nat.min_eq_left (by omega), hl]
  have e2 : p.length + (q.length + 1) - 1 - p.length = q.length := by omega
  show (z.cps.toList.drop p.length).take _ = q
  rw [e2, e, List.drop_left, List.take_left]
theorem cut_fst {p q : List Nat} {y : Str} (e : z.cps.toList = p ++ q) (hy : y.cps.toList = p) : cutS z none (some ((p.length : Nat) : Int)) = y := by
  have hl : z.length = p.length + q.length := by rw [len_tl, e]; simp
  refine of_tl (p := p) ?_ hy
  unfold cutS
  rw [HT.sIx_none, HT.sIx_nat, Nat.min_eq_left (by omega), Nat.sub_zero]
  show (z.cps.toList.drop 0).take _ = p
  rw [e, List.drop_zero, List.take_left]
theorem find_at {p r : List Nat} (e : z.cps.toList = p ++ (32 :: 40 :: r)) (h : 40 ∉ p) : Txt.find z " (" = (p.length : Int) := by
  have c2 : (" (" : Str).length = 2 := by rfl
  have ht : (" (" : Str).cps.toList = [32, 40] := by rfl
  have hl : z.length = p.length + (r.length + 2) := by rw [len_tl, e]; simp
  have hat : StrLaws.At z " (" z.length p.length := by
    refine ⟨by rw [c2, hl]; omega, ?_⟩
    rw [StrLaws.subAt_eq, e, List.drop_left, c2, ht]
    rfl
  have hno : ∀ k, k < p.length → ¬ StrLaws.At z " (" z.length k := by
    rintro k hk ⟨_, ha⟩
    rw [StrLaws.subAt_eq, c2, ht, beq_iff_eq] at ha
    have h1 : z.cps.toList[k + 1]? = some 40 := by
      have : ((z.cps.toList.drop k).take 2)[1]? = some 40 := by rw [ha]; rfl
      rw [List.getElem?_take_of_lt (by omega), List.getElem?_drop] at this
      exact this
    rw [e] at h1
    by_cases hk2 : k + 1 < p.length
    · rw [List.getElem?_append_left hk2] at h1
      exact h (List.mem_of_getElem? h1)
    · have : k + 1 = p.length := by omega
      rw [this, List.getElem?_append_right (Nat.le_refl _), Nat.sub_self] at h1
      simp at h1
  rcases find_whole z " (" with ⟨_, h2⟩ | ⟨i, h1, h2, h3⟩
  · exact absurd hat (h2 _)
  · rw [h1]
    by_cases hi : i < p.length
    · exact absurd h2 (hno i hi)
    · by_cases hi2 : p.length < i
      · exact absurd hat (h3 _ hi2)
      · have : i = p.length := by omega
        rw [this]
end
theorem plainB_40 {p : List Nat} (h : p.all plainB = true) : 40 ∉ p := fun hm => by
  have := List.all_eq_true.mp h 40 hm
  exact absurd this (by decide)
theorem lcS_eqs {t : Tg} {elt : Sm} {M : Mem} {F : Str → Res Val} : ∀ {xs : List Str} {es : List PyData} {env : MP.Env}, (∀ x ∈ xs, ∃ env1, t.put (.str x) env = some env1 ∧ elt env1 M = F x) → xs.map F = es.map (fun e => .ok (.dat e) M) → lcS t none elt (xs.map .str) env M = .ok es M
  | [], [], _, _, _ => rfl
  | [], e :: es, _, _, h => by simp at h
  | x :: xs, [], _, _, h => by simp at h
  | x :: xs, e :: es, env, h, h2 => by
    simp only [List.map_cons, List.cons.injEq] at h2
    obtain ⟨env1, k1, k2⟩ := h x List.mem_cons_self
    have ih := lcS_eqs (t := t) (elt := elt) (M := M) (F := F) (xs := xs) (es := es) (env := env) (fun y hy => h y (List.mem_cons_of_mem _ hy)) h2.2
    simp only [List.map_cons, lcS, k1, k2, h2.1, Res.bind_ok, Res.nx, ih]
section
variable {w : Mw} {n : Nat} {M : Mem} {L N : List Str}
theorem op_in (h : LN L N) {f : Str} {as : List Str} (ok : OpOk L N f as) {deep : Int} : callF w T (n + 1) "item_in" [.dat (.str (It.txt (.op f as))), .dat (.int deep)] M = .ok (.dat (It.enc (.op f as))) M := by
  have key : (opsAll L N).map (fun p => callF w T (n + 1) "item_in" [.dat (.str (It.txt (.op p.1 p.2))), .dat (.int deep)] M) = (opsAll L N).map fun p => .ok (.dat (It.enc (.op p.1 p.2))) M := by
    obtain ⟨hL, hN⟩ := h
    rcases hL with rfl | rfl | rfl <;> rcases hN with rfl | rfl | rfl <;> kernel_rfl
  exact List.map_inj_left.mp key (f, as) (ops_mem ok)
theorem f_ii : T.fn "item_in" = some d_item_in := by rfl
theorem f_bi : T.fn "body_in" = some d_body_in := by rfl
mutual
theorem item_in (h : LN L N) : ∀ (i : It) (n : Nat) (deep : Int) (M : Mem), i.ok L N → 2 * i.depth + 2 ≤ n → deep + i.depth ≤ 6 → i.size ≤ 50 → callF w T n "item_in" [.dat (.str i.txt), .dat (.int deep)] M = .ok (.dat i.enc) M
  | .op f as, n, deep, M, ok, hn, hd, hs => by
    obtain ⟨m, rfl⟩ : ∃ m, n = m + 1 := ⟨n - 1, by omega⟩
    exact op_in h ok
  | .br f a b x y, n, deep, M, ok, hn, hd, hs => by
    have ok0 := ok
    obtain ⟨k1, k2, k3⟩ := ok
    simp only [It.depth] at hn hd
    have hs0 := hs
    simp only [It.size] at hs
    obtain ⟨m, rfl⟩ : ∃ m, n = m + 2 := ⟨n - 2, by omega⟩
    have ex := fun M => body_in h x (m + 1) (deep + 1) M k2 (by omega) (by omega) (by omega)
    have ey := fun M => body_in h y (m + 1) (deep + 1) M k3 (by omega) (by omega) (by omega)
    have hcb := fun M => cut_bar (w := w) (n := m) (M := M) h k2 k3 (by omega)
    have hpl := List.all_eq_true.mp (brs_plain h) (f, a, b) (br_mem k1)
    obtain ⟨hp1, hp2⟩ := Bool.and_eq_true_iff.mp hpl
    have hch := br_chars f a b x y
    have hlen := len_it h (.br f a b x y) ok0
    generalize ht : It.txt (.br f a b x y) = txt at hch hlen ⊢
    have hz : txt.length ≤ 16777216 := by omega
    have hfind : Txt.find txt " (" = ((Txt.join " " [f, a, b]).cps.toList.length : Int) := find_at hch (plainB_40 hp1)
    have hend : cutS txt (some (-1)) none = (")" : Str) := cut_end (p := (Txt.join " " [f, a, b]).cps.toList ++ (32 :: 40 :: ((btxt x).cps.toList ++ ([32, 124, 32] ++ (btxt y).cps.toList)))) (by rw [hch]; simp)
    have hin : cutS txt (some (((Txt.join " " [f, a, b]).cps.toList.length : Int) + 2)) (some (-1)) = Txt.join " | " [btxt x, btxt y] := by
      have e : (((Txt.join " " [f, a, b]).cps.toList.length : Int) + 2) = (((Txt.join " " [f, a, b]).cps.toList ++ [32, 40]).length : Nat) := by simp
      rw [e]
      refine cut_in (p := (Txt.join " " [f, a, b]).cps.toList ++ [32, 40]) (q := (btxt x).cps.toList ++ ([32, 124, 32] ++ (btxt y).cps.toList)) (c := 41) (by rw [hch]; simp) ?_
      rw [tl_txtjoin]
      rfl
    have hfst : cutS txt none (some ((Txt.join " " [f, a, b]).cps.toList.length : Int)) = Txt.join " " [f, a, b] := cut_fst (p := (Txt.join " " [f, a, b]).cps.toList) hch rfl
    have hsp : Txt.split (Txt.join " " [f, a, b]) " " = [f, a, b] := TL.split_join (s := 32) (S := []) rfl (by decide +kernel) (by simp) fun p hp hm => by
      have := List.all_eq_true.mp hp2 p hp
      simp only [Bool.not_eq_true', List.contains_eq_mem, decide_eq_false_iff_not] at this
      exact this hm
    have sl : ∀ lo hi : Option Int, sliceD lo hi (.str txt) = some (.str (cutS txt lo hi)) := fun lo hi => if_pos hz
    have hwl : (Txt.join " " [f, a, b]).length ≤ 5000 := by
      have e1 : txt.length = txt.cps.toList.length := len_tl
      have e2 : (Txt.join " " [f, a, b]).length = (Txt.join " " [f, a, b]).cps.toList.length := len_tl
      rw [hch, List.length_append] at e1
      omega
    generalize hk : (Txt.join " " [f, a, b]).cps.toList.length = k at hfind hin hfst
    have hlt : ¬ ((k : Int) < 0) := by omega
    have hne : decide ((")" : Str) = ")") = true := by rfl
    have hsplit : decide (((" " : Str).length == 0) = false ∧ (Txt.join " " [f, a, b]).length + 2 ≤ 16777216) = true := decide_eq_true ⟨by rfl, by omega⟩
    rw [callF_eq f_ii]
    unfold d_item_in
    simp (disch := first | omega | (simp only [List.length_cons, List.length_nil, List.length_map, List.length_append, List.length_reverse]; omega)) only [at0, at1, at2, at3, at4, idx_l, idx_t, rng_b, rng_b2, dec_le, dec_lt, add_t, add_l, mod_i, fdiv_i, pow_i, mul_i, exSs_nil, exSs_cons, exS, exSeq, exNil, exRet, exEx, exIf, exSet, exPar, exPut, exApp, exAug, ofE_ok, ofB_ok, ofEs_ok, andThen_nx, andThen_rt, Tg.putV, setAll, evE, evEs, evs, evn, ev1, ev2, evVar, evLit, evCon, evIf, evAnd, evOr, evCh, evTup, evLst, evCall, evSl, evPart, MP.part, evDget, evDin, evDget2, evDisp, evPs, pairK, toB, asB, notD, newK, frz, cel, siNew, siNew2, siSeq, evIt, siZip, siRng, siRng2, evLc, wipeE, Res.bind_ok, v1, v2, vn, view, views, datsOf, asKey, keyOf, putC, Bin.f, Cmp.f, Bf.f, Bn.f, isiD, isT, bD, negD, isD, isN, List.getElem?_cons_zero, List.getElem?_cons_succ, List.getElem?_nil, List.set_cons_zero, List.set_cons_succ, List.map_cons, List.map_nil, List.replicate, List.length_cons, List.length_nil, List.cons_append, List.nil_append, add_i, sub_i, int_i, int_b, len_l, len_t, tup_l, tup_t, list_l, list_t, eq_s, eq_i, lt_i, gt_i, le_i, ge_i, lt_s, Option.map_some, Option.map_none, Option.bind_some, Nat.reduceAdd, Int.reduceToNat, Int.reduceAdd, Int.reduceSub, Int.reduceNeg, Int.reduceMul, Int.reduceEq, Int.reduceLT, Int.reduceLE, cast_lit, seq_t, seq_l, if_true, ite_true, ite_false, if_false, and_true, true_and, and_self, Bool.false_eq_true, not_true, not_false_iff, decide_true, decide_false, Bool.not_true, Bool.not_false, Option.isSome_some, Option.isSome_none, Df.wrap, pureF, datas, runB, evFind, siSplit, hfind, hlt, sl, hend, hin, hfst, hsp, hne, hsplit, hcb, Res.nx, lcS, Tg.put, ex, ey, It.enc]
theorem body_in (h : LN L N) : ∀ (is : List It) (n : Nat) (deep : Int) (M : Mem), Its L N is → 2 * depths is + 3 ≤ n → deep + depths is ≤ 6 → sizes is ≤ 50 → callF w T n "body_in" [.dat (.str (btxt is)), .dat (.int deep)] M = .ok (.dat (.tuple (encs is))) M
  | is, n, deep, M, ok, hn, hd, hs => by
    obtain ⟨m, rfl⟩ : ∃ m, n = m + 2 := ⟨n - 2, by omega⟩
    have hi := items_in h is (m + 1) deep ok (by omega) (by omega) hs
    have hc : T.gl "MOST_DEEP" = some (.int 6) := by rfl
    have hdeep : ¬ (6 : Int) < deep := by omega
    rw [callF_eq f_bi]
    unfold d_body_in
    cases is with
    | nil =>
      have e0 : decide (btxt [] = ("" : Str)) = true := by rfl
      simp (disch := first | omega | (simp only [List.length_cons, List.length_nil, List.length_map, List.length_append, List.length_reverse]; omega)) only [at0, at1, at2, at3, at4, idx_l, idx_t, rng_b, rng_b2, dec_le, dec_lt, add_t, add_l, mod_i, fdiv_i, pow_i, mul_i, exSs_nil, exSs_cons, exS, exSeq, exNil, exRet, exEx, exIf, exSet, exPar, exPut, exApp, exAug, ofE_ok, ofB_ok, ofEs_ok, andThen_nx, andThen_rt, Tg.putV, setAll, evE, evEs, evs, evn, ev1, ev2, evVar, evLit, evCon, evIf, evAnd, evOr, evCh, evTup, evLst, evCall, evSl, evPart, MP.part, evDget, evDin, evDget2, evDisp, evPs, pairK, toB, asB, notD, newK, frz, cel, siNew, siNew2, siSeq, evIt, siZip, siRng, siRng2, evLc, wipeE, Res.bind_ok, v1, v2, vn, view, views, datsOf, asKey, keyOf, putC, Bin.f, Cmp.f, Bf.f, Bn.f, isiD, isT, bD, negD, isD, isN, List.getElem?_cons_zero, List.getElem?_cons_succ, List.getElem?_nil, List.set_cons_zero, List.set_cons_succ, List.map_cons, List.map_nil, List.replicate, List.length_cons, List.length_nil, List.cons_append, List.nil_append, add_i, sub_i, int_i, int_b, len_l, len_t, tup_l, tup_t, list_l, list_t, eq_s, eq_i, lt_i, gt_i, le_i, ge_i, lt_s, Option.map_some, Option.map_none, Option.bind_some, Nat.reduceAdd, Int.reduceToNat, Int.reduceAdd, Int.reduceSub, Int.reduceNeg, Int.reduceMul, Int.reduceEq, Int.reduceLT, Int.reduceLE, cast_lit, seq_t, seq_l, if_true, ite_true, ite_false, if_false, and_true, true_and, and_self, Bool.false_eq_true, not_true, not_false_iff, decide_true, decide_false, Bool.not_true, Bool.not_false, Option.isSome_some, Option.isSome_none, Df.wrap, pureF, datas, runB, hc, hdeep, e0, encs]
    | cons i0 is0 =>
      have e0 : decide (btxt (i0 :: is0) = ("" : Str)) = false := by
        refine decide_eq_false fun e => ?_
        have hp := txt_pos h ok.1
        have hl : (btxt (i0 :: is0)).length = 0 := by rw [e]; rfl
        rw [len_tl] at hp hl
        unfold btxt at hl
        rw [tl_txtjoin] at hl
        cases h2 : txts is0 with
        | nil =>
          simp only [txts, h2, List.map_cons, List.map_nil, TL.joinL] at hl
          exact absurd hl (by show ¬ (i0.txt.cps.toList.length = 0); omega)
        | cons q r =>
          simp only [txts, h2, List.map_cons, TL.joinL, List.length_append] at hl
          have : (TL.tl i0.txt).length = i0.txt.cps.toList.length := rfl
          omega
      have hcb := fun M => cut_body (w := w) (n := m) (M := M) h ok (by simp) hs
      have hlc : ∀ (elt : Sm) (env : MP.Env), (∀ x ∈ txts (i0 :: is0), ∃ env1, (Tg.nm 2).put (.str x) env = some env1 ∧ elt env1 [] = callF w T (m + 1) "item_in" [.dat (.str x), .dat (.int deep)] []) → lcS (.nm 2) none elt ((txts (i0 :: is0)).map .str) env [] = .ok (encs (i0 :: is0)) [] := fun elt env hh => lcS_eqs hh (hi [])
      have hln : (txts (i0 :: is0)).length ≤ 16777216 := by
        have := len_le (i0 :: is0)
        rw [txts_map, List.length_map]
        omega
      simp (disch := first | omega | (simp only [List.length_cons, List.length_nil, List.length_map, List.length_append, List.length_reverse]; omega)) only [at0, at1, at2, at3, at4, idx_l, idx_t, rng_b, rng_b2, dec_le, dec_lt, add_t, add_l, mod_i, fdiv_i, pow_i, mul_i, exSs_nil, exSs_cons, exS, exSeq, exNil, exRet, exEx, exIf, exSet, exPar, exPut, exApp, exAug, ofE_ok, ofB_ok, ofEs_ok, andThen_nx, andThen_rt, Tg.putV, setAll, evE, evEs, evs, evn, ev1, ev2, evVar, evLit, evCon, evIf, evAnd, evOr, evCh, evTup, evLst, evCall, evSl, evPart, MP.part, evDget, evDin, evDget2, evDisp, evPs, pairK, toB, asB, notD, newK, frz, cel, siNew, siNew2, siSeq, evIt, siZip, siRng, siRng2, evLc, wipeE, Res.bind_ok, v1, v2, vn, view, views, datsOf, asKey, keyOf, putC, Bin.f, Cmp.f, Bf.f, Bn.f, isiD, isT, bD, negD, isD, isN, List.getElem?_cons_zero, List.getElem?_cons_succ, List.getElem?_nil, List.set_cons_zero, List.set_cons_succ, List.map_cons, List.map_nil, List.replicate, List.length_cons, List.length_nil, List.cons_append, List.nil_append, add_i, sub_i, int_i, int_b, len_l, len_t, tup_l, tup_t, list_l, list_t, eq_s, eq_i, lt_i, gt_i, le_i, ge_i, lt_s, Option.map_some, Option.map_none, Option.bind_some, Nat.reduceAdd, Int.reduceToNat, Int.reduceAdd, Int.reduceSub, Int.reduceNeg, Int.reduceMul, Int.reduceEq, Int.reduceLT, Int.reduceLE, cast_lit, seq_t, seq_l, if_true, ite_true, ite_false, if_false, and_true, true_and, and_self, Bool.false_eq_true, not_true, not_false_iff, decide_true, decide_false, Bool.not_true, Bool.not_false, Option.isSome_some, Option.isSome_none, Df.wrap, pureF, datas, runB, hc, hdeep, e0, hcb, Res.nx]
      rw [hlc _ _ (fun x hx => ⟨_, rfl, by
        simp (disch := first | omega | (simp only [List.length_cons, List.length_nil, List.length_map, List.length_append, List.length_reverse]; omega)) only [at0, at1, at2, at3, at4, idx_l, idx_t, rng_b, rng_b2, dec_le, dec_lt, add_t, add_l, mod_i, fdiv_i, pow_i, mul_i, exSs_nil, exSs_cons, exS, exSeq, exNil, exRet, exEx, exIf, exSet, exPar, exPut, exApp, exAug, ofE_ok, ofB_ok, ofEs_ok, andThen_nx, andThen_rt, Tg.putV, setAll, evE, evEs, evs, evn, ev1, ev2, evVar, evLit, evCon, evIf, evAnd, evOr, evCh, evTup, evLst, evCall, evSl, evPart, MP.part, evDget, evDin, evDget2, evDisp, evPs, pairK, toB, asB, notD, newK, frz, cel, siNew, siNew2, siSeq, evIt, siZip, siRng, siRng2, evLc, wipeE, Res.bind_ok, v1, v2, vn, view, views, datsOf, asKey, keyOf, putC, Bin.f, Cmp.f, Bf.f, Bn.f, isiD, isT, bD, negD, isD, isN, List.getElem?_cons_zero, List.getElem?_cons_succ, List.getElem?_nil, List.set_cons_zero, List.set_cons_succ, List.map_cons, List.map_nil, List.replicate, List.length_cons, List.length_nil, List.cons_append, List.nil_append, add_i, sub_i, int_i, int_b, len_l, len_t, tup_l, tup_t, list_l, list_t, eq_s, eq_i, lt_i, gt_i, le_i, ge_i, lt_s, Option.map_some, Option.map_none, Option.bind_some, Nat.reduceAdd, Int.reduceToNat, Int.reduceAdd, Int.reduceSub, Int.reduceNeg, Int.reduceMul, Int.reduceEq, Int.reduceLT, Int.reduceLE, cast_lit, seq_t, seq_l, if_true, ite_true, ite_false, if_false, and_true, true_and, and_self, Bool.false_eq_true, not_true, not_false_iff, decide_true, decide_false, Bool.not_true, Bool.not_false, Option.isSome_some, Option.isSome_none, ]
        try rfl⟩)]
      simp (disch := first | omega | (simp only [List.length_cons, List.length_nil, List.length_map, List.length_append, List.length_reverse]; omega)) only [at0, at1, at2, at3, at4, idx_l, idx_t, rng_b, rng_b2, dec_le, dec_lt, add_t, add_l, mod_i, fdiv_i, pow_i, mul_i, exSs_nil, exSs_cons, exS, exSeq, exNil, exRet, exEx, exIf, exSet, exPar, exPut, exApp, exAug, ofE_ok, ofB_ok, ofEs_ok, andThen_nx, andThen_rt, Tg.putV, setAll, evE, evEs, evs, evn, ev1, ev2, evVar, evLit, evCon, evIf, evAnd, evOr, evCh, evTup, evLst, evCall, evSl, evPart, MP.part, evDget, evDin, evDget2, evDisp, evPs, pairK, toB, asB, notD, newK, frz, cel, siNew, siNew2, siSeq, evIt, siZip, siRng, siRng2, evLc, wipeE, Res.bind_ok, v1, v2, vn, view, views, datsOf, asKey, keyOf, putC, Bin.f, Cmp.f, Bf.f, Bn.f, isiD, isT, bD, negD, isD, isN, List.getElem?_cons_zero, List.getElem?_cons_succ, List.getElem?_nil, List.set_cons_zero, List.set_cons_succ, List.map_cons, List.map_nil, List.replicate, List.length_cons, List.length_nil, List.cons_append, List.nil_append, add_i, sub_i, int_i, int_b, len_l, len_t, tup_l, tup_t, list_l, list_t, eq_s, eq_i, lt_i, gt_i, le_i, ge_i, lt_s, Option.map_some, Option.map_none, Option.bind_some, Nat.reduceAdd, Int.reduceToNat, Int.reduceAdd, Int.reduceSub, Int.reduceNeg, Int.reduceMul, Int.reduceEq, Int.reduceLT, Int.reduceLE, cast_lit, seq_t, seq_l, if_true, ite_true, ite_false, if_false, and_true, true_and, and_self, Bool.false_eq_true, not_true, not_false_iff, decide_true, decide_false, Bool.not_true, Bool.not_false, Option.isSome_some, Option.isSome_none, ]
theorem items_in (h : LN L N) : ∀ (is : List It) (n : Nat) (deep : Int), Its L N is → 2 * depths is + 2 ≤ n → deep + depths is ≤ 6 → sizes is ≤ 50 → ∀ M, (txts is).map (fun t => callF w T n "item_in" [.dat (.str t), .dat (.int deep)] M) = (encs is).map fun e => .ok (.dat e) M
  | [], n, deep, ok, hn, hd, hs => fun M => rfl
  | i :: is, n, deep, ok, hn, hd, hs => fun M => by
    simp only [depths, sizes] at hn hs hd
    simp only [txts, encs, List.map_cons]
    rw [item_in h i n deep M ok.1 (by omega) (by omega) (by omega), items_in h is n deep ok.2 (by omega) (by omega) (by omega) M]
end
end
end LawX
set_option Elab.async false
set_option linter.all false
set_option maxRecDepth 100000
set_option maxHeartbeats 8000000
/-! PH9: read_program reads a program's text back. -/
namespace LawX
open PySem PySem.Spec PyProof.Rows L2 MP
/-! ### equal to itself -/
theorem eqv_strs : ∀ as : List Str, PyData.eqvAll (as.map .str) (as.map .str) = true
  | [] => by simp [PyData.eqvAll]
  | a :: as => by simp [PyData.eqvAll, PyData.eqv, eqv_strs as]
mutual
theorem eqv_it : ∀ i : It, PyData.eqv i.enc i.enc = true
  | .op f as => by simp [It.enc, PyData.eqv, PyData.eqvAll, eqv_strs as]
  | .br f a b x y => by simp [It.enc, PyData.eqv, PyData.eqvAll, eqv_its x, eqv_its y]
theorem eqv_its : ∀ is : List It, PyData.eqvAll (encs is) (encs is) = true
  | [] => by simp [encs, PyData.eqvAll]
  | i :: is => by simp [encs, PyData.eqvAll, eqv_it i, eqv_its is]
end
theorem eqv_prs : ∀ ls : List (Str × Str), PyData.eqvAll (ls.map fun p => .tuple [.str p.1, .str p.2]) (ls.map fun p => .tuple [.str p.1, .str p.2]) = true
  | [] => by simp [PyData.eqvAll]
  | a :: as => by simp [PyData.eqvAll, PyData.eqv, eqv_prs as]
theorem eqv_pr (p : Pr) : PyData.eqv p.enc p.enc = true := by
  simp [Pr.enc, Hd.ss, Hd.nms, PyData.eqv, PyData.eqvAll, eqv_its, eqv_strs, eqv_prs]
theorem shaped_pr {p : Pr} {lim : Nat} (ok : p.Ok lim) : SeqAt.shaped p.enc = true := by
  have ln := LN.of ok.h
  have k : lssAll.all (fun ls => (Hd.ss ⟨ls, []⟩).canLay0 && decide ((Hd.ss ⟨ls, []⟩).depth ≤ 10)) = true := by decide +kernel
  obtain ⟨k1, k2⟩ := Bool.and_eq_true_iff.mp (List.all_eq_true.mp k p.h.ls (ls_mem ok.h))
  have k2 := of_decide_eq_true k2
  have n1 : (Hd.nms ⟨[], p.h.ns⟩).canLay0 = true ∧ (Hd.nms ⟨[], p.h.ns⟩).depth ≤ 10 := by
    obtain ⟨_, hN⟩ := ln
    rcases hN with e | e | e <;> rw [e] <;> decide +kernel
  have d1 := dep_its p.its
  have d2 := ok.d
  unfold SeqAt.shaped
  have l : p.enc.canLay0 = true := by
    have a1 : p.h.ss.canLay0 = true := k1
    have a2 : p.h.nms.canLay0 = true := n1.1
    simp only [Pr.enc, PyData.canLay0, PyData.canLayAll0, a1, a2, lay_its ln p.its ok.i, Bool.and_self]
  rw [l, Bool.true_and]
  refine decide_eq_true ?_
  have a1 : p.h.ss.depth ≤ 10 := k2
  have a2 : p.h.nms.depth ≤ 10 := n1.2
  simp only [Pr.enc, PyData.depth, PyData.depthAll]
  omega
theorem eq_pr {p : Pr} {lim : Nat} (ok : p.Ok lim) : eqD p.enc p.enc = some true := by
  have e : eqD p.enc p.enc = if SeqAt.shaped p.enc && SeqAt.shaped p.enc then some (PyData.eqv p.enc p.enc) else none := rfl
  rw [e, shaped_pr ok, eqv_pr]
  rfl
/-! ### no line end inside -/
theorem joinL_no {c : Nat} {S : List Nat} (hS : c ∉ S) : ∀ {ps : List (List Nat)}, (∀ p ∈ ps, c ∉ p) → c ∉ TL.joinL S ps
  | [], _ => by simp [TL.joinL]
  | [p], h => h p (by simp)
  | p :: q :: r, h => by
    show c ∉ p ++ (S ++ TL.joinL S (q :: r))
    have := joinL_no hS (ps := q :: r) fun x hx => h x (by simp at hx ⊢; exact .inr hx)
    have h0 := h p (by simp)
    simp only [List.mem_append]
    rintro (h1 | h1 | h1)
    · exact h0 h1
    · exact hS h1
    · exact this h1
theorem plainB_10 {p : List Nat} (h : p.all plainB = true) : 10 ∉ p := fun hm => by
  have := List.all_eq_true.mp h 10 hm
  exact absurd this (by decide)
section
variable {L N : List Str}
mutual
theorem no_it (h : LN L N) : ∀ i : It, i.ok L N → 10 ∉ i.txt.cps.toList
  | .op f as, ok => plainB_10 (Bool.and_eq_true_iff.mp (List.all_eq_true.mp (ops_plain h) (f, as) (ops_mem ok))).1
  | .br f a b x y, ok => by
    have hw := plainB_10 (Bool.and_eq_true_iff.mp (List.all_eq_true.mp (brs_plain h) (f, a, b) (br_mem ok.1))).1
    have hx := no_its h x ok.2.1
    have hy := no_its h y ok.2.2
    rw [br_chars]
    simp only [List.mem_append, List.mem_cons, List.not_mem_nil, or_false]
    intro hh
    rcases hh with hh | hh | hh | (hh | ((hh | hh | hh) | hh)) | hh
    · exact hw hh
    · exact absurd hh (by decide)
    · exact absurd hh (by decide)
    · exact hx hh
    · exact absurd hh (by decide)
    · exact absurd hh (by decide)
    · exact absurd hh (by decide)
    · exact hy hh
    · exact absurd hh (by decide)
theorem no_its (h : LN L N) : ∀ is : List It, Its L N is → 10 ∉ (btxt is).cps.toList
  | is, ok => by
    unfold btxt
    rw [tl_txtjoin]
    refine joinL_no (by decide) fun p hp => ?_
    obtain ⟨t, ht, rfl⟩ := List.mem_map.mp hp
    exact no_all h is ok t ht
theorem no_all (h : LN L N) : ∀ is : List It, Its L N is → ∀ t ∈ txts is, 10 ∉ t.cps.toList
  | [], _ => fun t ht => by simp [txts] at ht
  | i :: is, ok => fun t ht => by
    simp only [txts, List.mem_cons] at ht
    rcases ht with e | ht
    · rw [e]; exact no_it h i ok.1
    · exact no_all h is ok.2 t ht
end
end
def snl (ls : List (Str × Str)) : Str := Txt.join ", " (sline ⟨ls, []⟩)
theorem lines_ok {p : Pr} {lim : Nat} (ok : p.Ok lim) : Txt.split (ptxt p) "\n" = [snl p.h.ls, Txt.join " " p.h.ns, btxt p.its] := by
  have ln := LN.of ok.h
  have k : lssAll.all (fun ls => !((snl ls).cps.toList.contains 10)) = true := by decide +kernel
  have k1 := List.all_eq_true.mp k p.h.ls (ls_mem ok.h)
  simp only [Bool.not_eq_true', List.contains_eq_mem, decide_eq_false_iff_not] at k1
  have n1 : 10 ∉ (Txt.join " " p.h.ns).cps.toList := by
    obtain ⟨_, hN⟩ := ln
    rcases hN with e | e | e <;> rw [e] <;> decide +kernel
  refine TL.split_join (s := 10) (S := []) rfl (by decide +kernel) (by simp) fun x hx => ?_
  simp only [List.mem_cons, List.not_mem_nil, or_false] at hx
  rcases hx with rfl | rfl | rfl
  · exact k1
  · exact n1
  · exact no_its ln p.its ok.i
section
variable {w : Mw} {n : Nat} {M : Mem}
abbrev envR (t : Str) (p : Pr) (x : Option Val) : MP.Env := [some (.dat (.str t)), some (.dat (.list [.str (snl p.h.ls), .str (Txt.join " " p.h.ns), .str (btxt p.its)])), x, none, none]
abbrev stS : S := (.set (.nm 2) (.bf .tup [(.lc false .seq [(.split false (.idx (.var 1) (.lit (.int 0))) (.lit (.str ", ")))] (.nm 4) [("part", 4)] [] (.bf .tup [(.split false (.var 4) (.lit (.str " ")))]))]))
theorem stores_in {p : Pr} (ok : p.h.Ok) {t : Str} : exS (T.cfg w n) stS (envR t p none) M = .ok (.nx (envR t p (some (.dat p.h.ss)))) M := by
  have key : ∀ (nl bl : Str), lssAll.map (fun ls => exS (T.cfg w n) stS [some (.dat (.str t)), some (.dat (.list [.str (snl ls), .str nl, .str bl])), none, none, none] M) = lssAll.map fun ls => .ok (.nx [some (.dat (.str t)), some (.dat (.list [.str (snl ls), .str nl, .str bl])), some (.dat (Hd.ss ⟨ls, []⟩)), none, none]) M := by
    intro nl bl
    kernel_rfl
  exact List.map_inj_left.mp (key _ _) p.h.ls (ls_mem ok)
theorem f_rp : T.fn "read_program" = some d_read_program := by rfl
theorem back_ok {p : Pr} {lim : Nat} (ok : p.Ok lim) (hl : lim ≤ 24) : callF w T (n + 21) "read_program" [.dat (.str (ptxt p))] M = .ok (.dat p.enc) M := by
  have ln := LN.of ok.h
  obtain ⟨t1, _, t3⟩ := texts_ok (w := w) (n := n) (M := []) ok hl
  have hsp := lines_ok ok
  have hd := ok.d
  have hs := ok.s
  have e1 := isp_ok (w := w) (n := n) (M := []) ok hl
  have e2 := body_in (w := w) ln p.its (n + 20) 1 [] ok.i (by omega) (by omega) (by omega)
  have e3 : Txt.split (Txt.join " " p.h.ns) " " = p.h.ns := by
    obtain ⟨_, hN⟩ := ln
    rcases hN with e | e | e <;> rw [e] <;> decide +kernel
  have hq : decide ((("\n" : Str).length == 0) = false ∧ (ptxt p).length + 2 ≤ 16777216) = true := decide_eq_true ⟨by rfl, by omega⟩
  have hnl : (Txt.join " " p.h.ns).length ≤ 1000 := by
    obtain ⟨_, hN⟩ := ln
    rcases hN with e | e | e <;> rw [e] <;> decide +kernel
  have hq2 : decide (((" " : Str).length == 0) = false ∧ (Txt.join " " p.h.ns).length + 2 ≤ 16777216) = true := decide_eq_true ⟨by rfl, by omega⟩
  have s3 := stores_in (w := w) (n := n + 20) (M := []) ok.h (t := ptxt p)
  simp only [Pr.enc, Hd.nms] at e1 t1
  have body : exSs (T.cfg w (n + 20)) d_read_program.ir [some (.dat (.str (ptxt p))), none, none, none, none] [] = .ok (.rt (.dat p.enc)) [] := by
    show exSs _ (_ :: _ :: _ :: _ :: _ :: _ :: _) _ _ = _
    rw [exSs_step (env1 := [some (.dat (.str (ptxt p))), none, none, none, none]) (M1 := []) (by simp (disch := first | omega | (simp only [List.length_cons, List.length_nil, List.length_map, List.length_append, List.length_reverse]; omega)) only [at0, at1, at2, at3, at4, idx_l, idx_t, rng_b, rng_b2, dec_le, dec_lt, add_t, add_l, mod_i, fdiv_i, pow_i, mul_i, exSs_nil, exSs_cons, exS, exSeq, exNil, exRet, exEx, exIf, exSet, exPar, exPut, exApp, exAug, ofE_ok, ofB_ok, ofEs_ok, andThen_nx, andThen_rt, Tg.putV, setAll, evE, evEs, evs, evn, ev1, ev2, evVar, evLit, evCon, evIf, evAnd, evOr, evCh, evTup, evLst, evCall, evSl, evPart, MP.part, evDget, evDin, evDget2, evDisp, evPs, pairK, toB, asB, notD, newK, frz, cel, siNew, siNew2, siSeq, evIt, siZip, siRng, siRng2, evLc, wipeE, Res.bind_ok, v1, v2, vn, view, views, datsOf, asKey, keyOf, putC, Bin.f, Cmp.f, Bf.f, Bn.f, isiD, isT, bD, negD, isD, isN, List.getElem?_cons_zero, List.getElem?_cons_succ, List.getElem?_nil, List.set_cons_zero, List.set_cons_succ, List.map_cons, List.map_nil, List.replicate, List.length_cons, List.length_nil, List.cons_append, List.nil_append, add_i, sub_i, int_i, int_b, len_l, len_t, tup_l, tup_t, list_l, list_t, eq_s, eq_i, lt_i, gt_i, le_i, ge_i, lt_s, Option.map_some, Option.map_none, Option.bind_some, Nat.reduceAdd, Int.reduceToNat, Int.reduceAdd, Int.reduceSub, Int.reduceNeg, Int.reduceMul, Int.reduceEq, Int.reduceLT, Int.reduceLE, cast_lit, seq_t, seq_l, if_true, ite_true, ite_false, if_false, and_true, true_and, and_self, Bool.false_eq_true, not_true, not_false_iff, decide_true, decide_false, Bool.not_true, Bool.not_false, Option.isSome_some, Option.isSome_none, ])]
    rw [exSs_step (env1 := envR (ptxt p) p none) (M1 := []) (by
      simp (disch := first | omega | (simp only [List.length_cons, List.length_nil, List.length_map, List.length_append, List.length_reverse]; omega)) only [at0, at1, at2, at3, at4, idx_l, idx_t, rng_b, rng_b2, dec_le, dec_lt, add_t, add_l, mod_i, fdiv_i, pow_i, mul_i, exSs_nil, exSs_cons, exS, exSeq, exNil, exRet, exEx, exIf, exSet, exPar, exPut, exApp, exAug, ofE_ok, ofB_ok, ofEs_ok, andThen_nx, andThen_rt, Tg.putV, setAll, evE, evEs, evs, evn, ev1, ev2, evVar, evLit, evCon, evIf, evAnd, evOr, evCh, evTup, evLst, evCall, evSl, evPart, MP.part, evDget, evDin, evDget2, evDisp, evPs, pairK, toB, asB, notD, newK, frz, cel, siNew, siNew2, siSeq, evIt, siZip, siRng, siRng2, evLc, wipeE, Res.bind_ok, v1, v2, vn, view, views, datsOf, asKey, keyOf, putC, Bin.f, Cmp.f, Bf.f, Bn.f, isiD, isT, bD, negD, isD, isN, List.getElem?_cons_zero, List.getElem?_cons_succ, List.getElem?_nil, List.set_cons_zero, List.set_cons_succ, List.map_cons, List.map_nil, List.replicate, List.length_cons, List.length_nil, List.cons_append, List.nil_append, add_i, sub_i, int_i, int_b, len_l, len_t, tup_l, tup_t, list_l, list_t, eq_s, eq_i, lt_i, gt_i, le_i, ge_i, lt_s, Option.map_some, Option.map_none, Option.bind_some, Nat.reduceAdd, Int.reduceToNat, Int.reduceAdd, Int.reduceSub, Int.reduceNeg, Int.reduceMul, Int.reduceEq, Int.reduceLT, Int.reduceLE, cast_lit, seq_t, seq_l, if_true, ite_true, ite_false, if_false, and_true, true_and, and_self, Bool.false_eq_true, not_true, not_false_iff, decide_true, decide_false, Bool.not_true, Bool.not_false, Option.isSome_some, Option.isSome_none, siSplit, hsp, hq, Res.nx]
      try rfl)]
    rw [exSs_step (env1 := envR (ptxt p) p none) (M1 := []) (by simp (disch := first | omega | (simp only [List.length_cons, List.length_nil, List.length_map, List.length_append, List.length_reverse]; omega)) only [at0, at1, at2, at3, at4, idx_l, idx_t, rng_b, rng_b2, dec_le, dec_lt, add_t, add_l, mod_i, fdiv_i, pow_i, mul_i, exSs_nil, exSs_cons, exS, exSeq, exNil, exRet, exEx, exIf, exSet, exPar, exPut, exApp, exAug, ofE_ok, ofB_ok, ofEs_ok, andThen_nx, andThen_rt, Tg.putV, setAll, evE, evEs, evs, evn, ev1, ev2, evVar, evLit, evCon, evIf, evAnd, evOr, evCh, evTup, evLst, evCall, evSl, evPart, MP.part, evDget, evDin, evDget2, evDisp, evPs, pairK, toB, asB, notD, newK, frz, cel, siNew, siNew2, siSeq, evIt, siZip, siRng, siRng2, evLc, wipeE, Res.bind_ok, v1, v2, vn, view, views, datsOf, asKey, keyOf, putC, Bin.f, Cmp.f, Bf.f, Bn.f, isiD, isT, bD, negD, isD, isN, List.getElem?_cons_zero, List.getElem?_cons_succ, List.getElem?_nil, List.set_cons_zero, List.set_cons_succ, List.map_cons, List.map_nil, List.replicate, List.length_cons, List.length_nil, List.cons_append, List.nil_append, add_i, sub_i, int_i, int_b, len_l, len_t, tup_l, tup_t, list_l, list_t, eq_s, eq_i, lt_i, gt_i, le_i, ge_i, lt_s, Option.map_some, Option.map_none, Option.bind_some, Nat.reduceAdd, Int.reduceToNat, Int.reduceAdd, Int.reduceSub, Int.reduceNeg, Int.reduceMul, Int.reduceEq, Int.reduceLT, Int.reduceLE, cast_lit, seq_t, seq_l, if_true, ite_true, ite_false, if_false, and_true, true_and, and_self, Bool.false_eq_true, not_true, not_false_iff, decide_true, decide_false, Bool.not_true, Bool.not_false, Option.isSome_some, Option.isSome_none, ])]
    rw [exSs_step s3]
    simp (disch := first | omega | (simp only [List.length_cons, List.length_nil, List.length_map, List.length_append, List.length_reverse]; omega)) only [at0, at1, at2, at3, at4, idx_l, idx_t, rng_b, rng_b2, dec_le, dec_lt, add_t, add_l, mod_i, fdiv_i, pow_i, mul_i, exSs_nil, exSs_cons, exS, exSeq, exNil, exRet, exEx, exIf, exSet, exPar, exPut, exApp, exAug, ofE_ok, ofB_ok, ofEs_ok, andThen_nx, andThen_rt, Tg.putV, setAll, evE, evEs, evs, evn, ev1, ev2, evVar, evLit, evCon, evIf, evAnd, evOr, evCh, evTup, evLst, evCall, evSl, evPart, MP.part, evDget, evDin, evDget2, evDisp, evPs, pairK, toB, asB, notD, newK, frz, cel, siNew, siNew2, siSeq, evIt, siZip, siRng, siRng2, evLc, wipeE, Res.bind_ok, v1, v2, vn, view, views, datsOf, asKey, keyOf, putC, Bin.f, Cmp.f, Bf.f, Bn.f, isiD, isT, bD, negD, isD, isN, List.getElem?_cons_zero, List.getElem?_cons_succ, List.getElem?_nil, List.set_cons_zero, List.set_cons_succ, List.map_cons, List.map_nil, List.replicate, List.length_cons, List.length_nil, List.cons_append, List.nil_append, add_i, sub_i, int_i, int_b, len_l, len_t, tup_l, tup_t, list_l, list_t, eq_s, eq_i, lt_i, gt_i, le_i, ge_i, lt_s, Option.map_some, Option.map_none, Option.bind_some, Nat.reduceAdd, Int.reduceToNat, Int.reduceAdd, Int.reduceSub, Int.reduceNeg, Int.reduceMul, Int.reduceEq, Int.reduceLT, Int.reduceLE, cast_lit, seq_t, seq_l, if_true, ite_true, ite_false, if_false, and_true, true_and, and_self, Bool.false_eq_true, not_true, not_false_iff, decide_true, decide_false, Bool.not_true, Bool.not_false, Option.isSome_some, Option.isSome_none, siSplit, e3, hq2, Res.nx, e2, e1, t1]
    rfl
  rw [callF_eq f_rp]
  show (match (match exSs (T.cfg w (n + 20)) d_read_program.ir [some (.dat (.str (ptxt p))), none, none, none, none] [] with
      | .ok (.nx _) M1 => Res.ok (Val.dat .none) M1
      | .ok (.rt x) M1 => Res.ok x M1
      | .ok (.rz e _) M1 => Res.exc e M1
      | _ => Res.bad) with
    | .ok (.dat d) _ => Res.ok (Val.dat d) M
    | .exc e _ => Res.exc e M
    | _ => Res.bad) = _
  rw [body]
theorem f_pt : T.fn "program_text" = some d_program_text := by rfl
theorem ptext_ok {p : Pr} {lim : Nat} (ok : p.Ok lim) (hl : lim ≤ 24) : callF w T (n + 22) "program_text" [.dat p.enc] M = .ok (.dat (.str (ptxt p))) M := by
  have e1 := need_ok (w := w) (n := n) (M := []) ok hl
  have e2 := (texts_ok (w := w) (n := n + 1) (M := []) ok hl).1
  rw [callF_eq f_pt]
  unfold d_program_text
  simp (disch := first | omega | (simp only [List.length_cons, List.length_nil, List.length_map, List.length_append, List.length_reverse]; omega)) only [at0, at1, at2, at3, at4, idx_l, idx_t, rng_b, rng_b2, dec_le, dec_lt, add_t, add_l, mod_i, fdiv_i, pow_i, mul_i, exSs_nil, exSs_cons, exS, exSeq, exNil, exRet, exEx, exIf, exSet, exPar, exPut, exApp, exAug, ofE_ok, ofB_ok, ofEs_ok, andThen_nx, andThen_rt, Tg.putV, setAll, evE, evEs, evs, evn, ev1, ev2, evVar, evLit, evCon, evIf, evAnd, evOr, evCh, evTup, evLst, evCall, evSl, evPart, MP.part, evDget, evDin, evDget2, evDisp, evPs, pairK, toB, asB, notD, newK, frz, cel, siNew, siNew2, siSeq, evIt, siZip, siRng, siRng2, evLc, wipeE, Res.bind_ok, v1, v2, vn, view, views, datsOf, asKey, keyOf, putC, Bin.f, Cmp.f, Bf.f, Bn.f, isiD, isT, bD, negD, isD, isN, List.getElem?_cons_zero, List.getElem?_cons_succ, List.getElem?_nil, List.set_cons_zero, List.set_cons_succ, List.map_cons, List.map_nil, List.replicate, List.length_cons, List.length_nil, List.cons_append, List.nil_append, add_i, sub_i, int_i, int_b, len_l, len_t, tup_l, tup_t, list_l, list_t, eq_s, eq_i, lt_i, gt_i, le_i, ge_i, lt_s, Option.map_some, Option.map_none, Option.bind_some, Nat.reduceAdd, Int.reduceToNat, Int.reduceAdd, Int.reduceSub, Int.reduceNeg, Int.reduceMul, Int.reduceEq, Int.reduceLT, Int.reduceLE, cast_lit, seq_t, seq_l, if_true, ite_true, ite_false, if_false, and_true, true_and, and_self, Bool.false_eq_true, not_true, not_false_iff, decide_true, decide_false, Bool.not_true, Bool.not_false, Option.isSome_some, Option.isSome_none, Df.wrap, pureF, datas, runB, e1, e2]
end
end LawX
set_option Elab.async false
set_option linter.all false
set_option maxRecDepth 100000
set_option maxHeartbeats 8000000
/-! PH10: the law. -/
namespace LawX
open PySem PySem.Spec PyProof.Rows L2 MP
section
variable {w : Mw}
abbrev envW (s : PyData) (cell : Option Val) (x3 : Option Val) (deck x5 x6 : Option Val) : MP.Env := [some (.dat s), cell, none, x3, deck, x5, x6]
theorem turn_one {s : PyData} {cell x3 x5 x6 : Option Val} {nd : Nat} {c : Int} {M : Mem} (hd : DeckAt M nd c) (hc : c + 1000000 < 1073741824) :
    ∃ y3 y6 M', exSs (T.cfg w 99) b_law_0 (envW s cell x3 (some (.ob nd)) x5 x6) M = .ok (.nx (envW s cell y3 (some (.ob nd)) x5 y6)) M' ∧ DeckAt M' nd (c + 1000000) := by
  obtain ⟨p, M', e1, ok, d1, _⟩ := prog_at (w := w) (n := 93) (lim := 14) hd (by omega) hc
  have e2 := fun M => ptext_ok (w := w) (n := 77) (M := M) ok (by omega)
  have e3 := fun M => (texts_ok (w := w) (n := 79) (M := M) ok (by omega)).2.1
  have e4 := fun M => back_ok (w := w) (n := 78) (M := M) ok (by omega)
  have e5 := eq_pr ok
  have k1 : callF w T 99 "_law_program" [.ob nd, .dat (.int 14)] M = .ok (.dat (Pr.enc p)) M' := e1
  refine ⟨some (.dat p.enc), some (.dat (.str (ptxt p))), M', ?_, d1⟩
  unfold b_law_0
  simp (disch := first | omega | (simp only [List.length_cons, List.length_nil, List.length_map, List.length_append, List.length_reverse]; omega)) only [at0, at1, at2, at3, at4, idx_l, idx_t, rng_b, rng_b2, dec_le, dec_lt, add_t, add_l, mod_i, fdiv_i, pow_i, mul_i, exSs_nil, exSs_cons, exS, exSeq, exNil, exRet, exEx, exIf, exSet, exPar, exPut, exApp, exAug, ofE_ok, ofB_ok, ofEs_ok, andThen_nx, andThen_rt, Tg.putV, setAll, evE, evEs, evs, evn, ev1, ev2, evVar, evLit, evCon, evIf, evAnd, evOr, evCh, evTup, evLst, evCall, evSl, evPart, MP.part, evDget, evDin, evDget2, evDisp, evPs, pairK, toB, asB, notD, newK, frz, cel, siNew, siNew2, siSeq, evIt, siZip, siRng, siRng2, evLc, wipeE, Res.bind_ok, v1, v2, vn, view, views, datsOf, asKey, keyOf, putC, Bin.f, Cmp.f, Bf.f, Bn.f, isiD, isT, bD, negD, isD, isN, List.getElem?_cons_zero, List.getElem?_cons_succ, List.getElem?_nil, List.set_cons_zero, List.set_cons_succ, List.map_cons, List.map_nil, List.replicate, List.length_cons, List.length_nil, List.cons_append, List.nil_append, add_i, sub_i, int_i, int_b, len_l, len_t, tup_l, tup_t, list_l, list_t, eq_s, eq_i, lt_i, gt_i, le_i, ge_i, lt_s, Option.map_some, Option.map_none, Option.bind_some, Nat.reduceAdd, Int.reduceToNat, Int.reduceAdd, Int.reduceSub, Int.reduceNeg, Int.reduceMul, Int.reduceEq, Int.reduceLT, Int.reduceLE, cast_lit, seq_t, seq_l, if_true, ite_true, ite_false, if_false, and_true, true_and, and_self, Bool.false_eq_true, not_true, not_false_iff, decide_true, decide_false, Bool.not_true, Bool.not_false, Option.isSome_some, Option.isSome_none, envW, k1, e2, e3, e4, e5]
theorem turns_ok {s : PyData} {cell : Option Val} {nd : Nat} : ∀ (ds : List PyData) (x3 x5 x6 : Option Val) (c : Int) (M : Mem), DeckAt M nd c → c + ds.length * 1000000 < 1073741824 →
    ∃ y3 y5 y6 M', forS (.nm 5) (exSs (T.cfg w 99) b_law_0) ds (envW s cell x3 (some (.ob nd)) x5 x6) M = .ok (.nx (envW s cell y3 (some (.ob nd)) y5 y6)) M'
  | [], x3, x5, x6, c, M, _, _ => ⟨x3, x5, x6, M, by rw [forS]⟩
  | d :: ds, x3, x5, x6, c, M, hd, hc => by
    simp only [List.length_cons] at hc
    obtain ⟨y3, y6, M', e1, d1⟩ := turn_one (w := w) (s := s) (cell := cell) (x3 := x3) (x5 := some (.dat d)) (x6 := x6) hd (by omega)
    obtain ⟨z3, z5, z6, M2, e2⟩ := turns_ok (s := s) (cell := cell) ds y3 (some (.dat d)) y6 _ M' d1 (by omega)
    refine ⟨z3, z5, z6, M2, ?_⟩
    rw [loop_step (env1 := envW s cell x3 (some (.ob nd)) (some (.dat d)) x6) rfl e1]
    exact e2
theorem cell_one {s : PyData} {i : Int} {x3 x4 x5 x6 : Option Val} {M : Mem} : ∃ y3 y4 y5 y6 M', exSs (T.cfg w 99) b_law_1 (envW s (some (.dat (.int i))) x3 x4 x5 x6) M = .ok (.nx (envW s (some (.dat (.int i))) y3 y4 y5 y6)) M' := by
  obtain ⟨M1, e1, d1, _⟩ := deck_at (w := w) (n := 98) (M := M) (cell := i) (salt := 69) (by omega) (by omega)
  have k1 : callF w T 99 "_law_deck" [.dat (.int i), .dat (.int 69)] M = .ok (.ob M.length) M1 := e1
  obtain ⟨y3, y5, y6, M2, e2⟩ := turns_ok (w := w) (s := s) (cell := some (.dat (.int i))) [.int 0, .int 1, .int 2] x3 x5 x6 0 M1 d1 (by simp)
  have hr : ∀ env M, evIt .rng1 [evE (T.cfg w 99) (.lit (.int 3))] env M = .ok [.int 0, .int 1, .int 2] M := fun env M => by rfl
  refine ⟨y3, some (.ob M.length), y5, y6, M2, ?_⟩
  unfold b_law_1
  rw [exSs_step (env1 := envW s (some (.dat (.int i))) x3 (some (.ob M.length)) x5 x6) (M1 := M1) (by simp (disch := first | omega | (simp only [List.length_cons, List.length_nil, List.length_map, List.length_append, List.length_reverse]; omega)) only [at0, at1, at2, at3, at4, idx_l, idx_t, rng_b, rng_b2, dec_le, dec_lt, add_t, add_l, mod_i, fdiv_i, pow_i, mul_i, exSs_nil, exSs_cons, exS, exSeq, exNil, exRet, exEx, exIf, exSet, exPar, exPut, exApp, exAug, ofE_ok, ofB_ok, ofEs_ok, andThen_nx, andThen_rt, Tg.putV, setAll, evE, evEs, evs, evn, ev1, ev2, evVar, evLit, evCon, evIf, evAnd, evOr, evCh, evTup, evLst, evCall, evSl, evPart, MP.part, evDget, evDin, evDget2, evDisp, evPs, pairK, toB, asB, notD, newK, frz, cel, siNew, siNew2, siSeq, evIt, siZip, siRng, siRng2, evLc, wipeE, Res.bind_ok, v1, v2, vn, view, views, datsOf, asKey, keyOf, putC, Bin.f, Cmp.f, Bf.f, Bn.f, isiD, isT, bD, negD, isD, isN, List.getElem?_cons_zero, List.getElem?_cons_succ, List.getElem?_nil, List.set_cons_zero, List.set_cons_succ, List.map_cons, List.map_nil, List.replicate, List.length_cons, List.length_nil, List.cons_append, List.nil_append, add_i, sub_i, int_i, int_b, len_l, len_t, tup_l, tup_t, list_l, list_t, eq_s, eq_i, lt_i, gt_i, le_i, ge_i, lt_s, Option.map_some, Option.map_none, Option.bind_some, Nat.reduceAdd, Int.reduceToNat, Int.reduceAdd, Int.reduceSub, Int.reduceNeg, Int.reduceMul, Int.reduceEq, Int.reduceLT, Int.reduceLE, cast_lit, seq_t, seq_l, if_true, ite_true, ite_false, if_false, and_true, true_and, and_self, Bool.false_eq_true, not_true, not_false_iff, decide_true, decide_false, Bool.not_true, Bool.not_false, Option.isSome_some, Option.isSome_none, envW, k1]), exSs_one]
  simp only [exS, exFor, List.map_cons, List.map_nil, hr]
  exact e2
theorem cells_ok {s : PyData} : ∀ (ds : List PyData) (x1 x3 x4 x5 x6 : Option Val) (M : Mem), (∀ d ∈ ds, ∃ i, d = .int i) →
    ∃ y1 y3 y4 y5 y6 M', forS (.nm 1) (exSs (T.cfg w 99) b_law_1) ds (envW s x1 x3 x4 x5 x6) M = .ok (.nx (envW s y1 y3 y4 y5 y6)) M'
  | [], x1, x3, x4, x5, x6, M, _ => ⟨x1, x3, x4, x5, x6, M, by rw [forS]⟩
  | d :: ds, x1, x3, x4, x5, x6, M, h => by
    obtain ⟨i, rfl⟩ := h _ List.mem_cons_self
    obtain ⟨y3, y4, y5, y6, M', e1⟩ := cell_one (w := w) (s := s) (i := i) (x3 := x3) (x4 := x4) (x5 := x5) (x6 := x6) (M := M)
    obtain ⟨z1, z3, z4, z5, z6, M2, e2⟩ := cells_ok (s := s) ds (some (.dat (.int i))) y3 y4 y5 y6 M' fun d hd => h d (List.mem_cons_of_mem _ hd)
    refine ⟨z1, z3, z4, z5, z6, M2, ?_⟩
    rw [loop_step (env1 := envW s (some (.dat (.int i))) x3 x4 x5 x6) rfl e1]
    exact e2
theorem tail_ok {s : PyData} {x1 x3 x4 x5 x6 : Option Val} {M : Mem} : exSs (T.cfg w 99) d_law.ir.tail (envW s x1 x3 x4 x5 x6) M = .ok (.rt (.dat (.bool true))) M := by
  kernel_rfl
theorem f_law : T.fn "law" = some d_law := by rfl
theorem cut_ints {ns : List Int} {lo hi : Option Int} : ∀ d ∈ cutD (.int 0 :: ns.map .int) lo hi, ∃ i, d = PyData.int i := by
  intro d hd
  have hm := List.mem_of_mem_drop (List.mem_of_mem_take hd)
  rcases List.mem_cons.mp hm with rfl | hm
  · exact ⟨0, rfl⟩
  · obtain ⟨i, _, rfl⟩ := List.mem_map.mp hm
    exact ⟨i, rfl⟩
end
theorem says : LawSays T 100 63 := by
  intro w ns hn
  obtain ⟨y1, y3, y4, y5, y6, M', e⟩ := cells_ok (w := w) (s := lawData ns) (cutD (.int 0 :: ns.map .int) none (some 10)) none none none none none [] cut_ints
  refine ⟨M', ?_⟩
  have hl : ([PyData.int 0] : List PyData).length + (ns.map PyData.int).length ≤ 16777216 := by simp; omega
  have ha : addD (.list [.int 0]) (.list (ns.map .int)) = some (.list (.int 0 :: ns.map .int)) := add_l hl
  have sl : sliceD none (some 10) (.list (.int 0 :: ns.map .int)) = some (.list (cutD (.int 0 :: ns.map .int) none (some 10))) := rfl
  have hit : evIt .seq [evE (T.cfg w 99) (.sl (.bin .add (.lst false [(.lit (.int 0))]) (.var 0)) [] [(.lit (.int 10))])] (envW (lawData ns) none none none none none) [] = .ok (cutD (.int 0 :: ns.map .int) none (some 10)) [] := by
    simp (disch := first | omega | (simp only [List.length_cons, List.length_nil, List.length_map, List.length_append, List.length_reverse]; omega)) only [at0, at1, at2, at3, at4, idx_l, idx_t, rng_b, rng_b2, dec_le, dec_lt, add_t, add_l, mod_i, fdiv_i, pow_i, mul_i, exSs_nil, exSs_cons, exS, exSeq, exNil, exRet, exEx, exIf, exSet, exPar, exPut, exApp, exAug, ofE_ok, ofB_ok, ofEs_ok, andThen_nx, andThen_rt, Tg.putV, setAll, evE, evEs, evs, evn, ev1, ev2, evVar, evLit, evCon, evIf, evAnd, evOr, evCh, evTup, evLst, evCall, evSl, evPart, MP.part, evDget, evDin, evDget2, evDisp, evPs, pairK, toB, asB, notD, newK, frz, cel, siNew, siNew2, siSeq, evIt, siZip, siRng, siRng2, evLc, wipeE, Res.bind_ok, v1, v2, vn, view, views, datsOf, asKey, keyOf, putC, Bin.f, Cmp.f, Bf.f, Bn.f, isiD, isT, bD, negD, isD, isN, List.getElem?_cons_zero, List.getElem?_cons_succ, List.getElem?_nil, List.set_cons_zero, List.set_cons_succ, List.map_cons, List.map_nil, List.replicate, List.length_cons, List.length_nil, List.cons_append, List.nil_append, add_i, sub_i, int_i, int_b, len_l, len_t, tup_l, tup_t, list_l, list_t, eq_s, eq_i, lt_i, gt_i, le_i, ge_i, lt_s, Option.map_some, Option.map_none, Option.bind_some, Nat.reduceAdd, Int.reduceToNat, Int.reduceAdd, Int.reduceSub, Int.reduceNeg, Int.reduceMul, Int.reduceEq, Int.reduceLT, Int.reduceLE, cast_lit, seq_t, seq_l, if_true, ite_true, ite_false, if_false, and_true, true_and, and_self, Bool.false_eq_true, not_true, not_false_iff, decide_true, decide_false, Bool.not_true, Bool.not_false, Option.isSome_some, Option.isSome_none, envW, lawData, ha, sl]
  have s1 : exS (T.cfg w 99) (.for (.nm 1) .seq [(.sl (.bin .add (.lst false [(.lit (.int 0))]) (.var 0)) [] [(.lit (.int 10))])] b_law_1) (envW (lawData ns) none none none none none) [] = .ok (.nx (envW (lawData ns) y1 y3 y4 y5 y6)) M' := by
    simp only [exS, exFor, evEs, hit]
    exact e
  have body : exSs (T.cfg w 99) d_law.ir (envW (lawData ns) none none none none none) [] = .ok (.rt (.dat (.bool true))) M' := by
    show exSs _ (_ :: d_law.ir.tail) _ _ = _
    rw [exSs_step s1]
    exact tail_ok
  rw [callF_eq (n := 99) f_law]
  show (match exSs (T.cfg w 99) d_law.ir (envW (lawData ns) none none none none none) [] with
      | .ok (.nx _) M1 => Res.ok (Val.dat .none) M1
      | .ok (.rt x) M1 => Res.ok x M1
      | .ok (.rz e _) M1 => Res.exc e M1
      | _ => Res.bad) = _
  rw [body]
end LawX
open PySem PySem.W PySem.Calls PyProof.Rows in
theorem holds (says : MP.LawSays LawX.T 100 63) : PySem.Challenge.rw_casealone_k12_texts_there_and_back.Holds := by
  w_on; o_law
  refine HandSHeadRun.head_any (r := OpenLaw.row PySem.Challenge.rw_casealone_k12_texts_there_and_back) (q := view (OpenLaw.row PySem.Challenge.rw_casealone_k12_texts_there_and_back).prog [40]) (H := LawX.hk) (ob := LawX.ob) (M := 4000) (loose := LawX.names) (d := HandSHeadRun.topDef (OpenLaw.row PySem.Challenge.rw_casealone_k12_texts_there_and_back).prog 40) (kwd := []) LawX.ob_eq
    (by kernel_rfl) (fun s => by kernel_rfl) LawX.run (by kernel_rfl) (by kernel_rfl) (by kernel_rfl) (by rfl) (by first | assumption | decide +kernel) (by decide +kernel) ⟨rfl, rfl, rfl, rfl, rfl, by decide +kernel⟩ ?hw ?hc
  case hw => w_witness2
  case hc => exact MP.law_end LawX.tabOk rfl (by decide) (by kernel_rfl) ⟨rfl, by decide, by decide⟩ rfl rfl (by kernel_rfl) says
theorem PySem.Challenge.cw_casealone_k12_texts_there_and_back_holds : PySem.Challenge.rw_casealone_k12_texts_there_and_back.Holds := by
  exact holds LawX.says
