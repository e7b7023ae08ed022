import PyProof.Rows.All
import Wide.All
import OpenK.AllK
import Wide.FinOn
import HandS.ForMost
import HandS.IsInst
import HandS.TupAny
import HandS.Strs
import HandS.Style
import HandS.Zip
import HandS.DeepEq
import HandS.SortInts
import KE.GoesMore
import KE.DataMinMax
import HandS.RevTup
import HandS.SetFor
import HandS.TupMul
import HandS.Conv
import HandS.WideBits
import HandS.Exc
import HandS.ExcOwn
import HandS.ExcIs
import HandS.WordsExc
import PyProof.P3In
import PySem.Challenge.RW_everyedition_k98_whole_most_in_time_and
set_option Elab.async false
set_option linter.all false
set_option maxRecDepth 100000
/-! The data layer: what a def computes over plain data, over the hand layer's readings. -/
namespace E
open PySem L2

/-- plain data -/
inductive D where
  | non | bl (b : Bool) | int (i : Int) | str (s : Str) | tup (l : List D) | lst (l : List D) | dic

abbrev Ex (H H' : Hp) : Prop := ∀ a o, H a = some o → H' a = some o
theorem Ex.refl (H : Hp) : Ex H H := fun _ _ h => h
theorem Ex.trans {H H1 H2 : Hp} (a : Ex H H1) (b : Ex H1 H2) : Ex H H2 := fun x o h => b x o (a x o h)
theorem Ex.new {H : Hp} {p : Addr} {o : HO} (h : H p = none) : Ex H (upd H p o) := fun a u e => by
  rw [upd_ne (ne_of_none e h)]
  exact e
theorem Ex.none {H H' : Hp} {p : Addr} (e : Ex H H') (h : H' p = none) : H p = none := by
  cases h1 : H p with
  | none => rfl
  | some o => rw [e p o h1] at h; cases h

/-! ### what a value stands for -/
mutual
inductive Dn (F : Hp) : V → D → Prop
  | non : Dn F .non .non
  | bl (b : Bool) : Dn F (.bl b) (.bl b)
  | int (i : Int) : Dn F (.int i) (.int i)
  | str (s : Str) : Dn F (.str s) (.str s)
  | tup {a : Addr} {xs : List V} {ds : List D} : F a = some (.tup xs) → DnL F xs ds → Dn F (.ref a) (.tup ds)
  | lst {a : Addr} {xs : List V} {ds : List D} : F a = some (.lst xs) → DnL F xs ds → Dn F (.ref a) (.lst ds)
  | dic {a : Addr} : F a = some (.dK []) → Dn F (.ref a) .dic
inductive DnL (F : Hp) : List V → List D → Prop
  | nil : DnL F [] []
  | cons {x : V} {d : D} {xs : List V} {ds : List D} : Dn F x d → DnL F xs ds → DnL F (x :: xs) (d :: ds)
end
mutual
theorem Dn.mono {F F' : Hp} (e : Ex F F') : ∀ {v : V} {d : D}, Dn F v d → Dn F' v d
  | _, _, .non => .non
  | _, _, .bl b => .bl b
  | _, _, .int i => .int i
  | _, _, .str s => .str s
  | _, _, .tup h l => .tup (e _ _ h) (DnL.mono e l)
  | _, _, .lst h l => .lst (e _ _ h) (DnL.mono e l)
  | _, _, .dic h => .dic (e _ _ h)
theorem DnL.mono {F F' : Hp} (e : Ex F F') : ∀ {vs : List V} {ds : List D}, DnL F vs ds → DnL F' vs ds
  | _, _, .nil => .nil
  | _, _, .cons h l => .cons (Dn.mono e h) (DnL.mono e l)
end
theorem DnL.len {F : Hp} : ∀ {vs : List V} {ds : List D}, DnL F vs ds → vs.length = ds.length
  | _, _, .nil => rfl
  | _, _, .cons _ l => congrArg (· + 1) (DnL.len l)
theorem DnL.app {F : Hp} : ∀ {vs ws : List V} {ds es : List D}, DnL F vs ds → DnL F ws es → DnL F (vs ++ ws) (ds ++ es)
  | _, _, _, _, .nil, s => s
  | _, _, _, _, .cons h l, s => .cons h (DnL.app l s)
theorem DnL.get {F : Hp} : ∀ {vs : List V} {ds : List D} (i : Nat) {d : D}, DnL F vs ds → ds[i]? = some d → ∃ v, vs[i]? = some v ∧ Dn F v d
  | _, _, 0, _, .cons h _, e => by simp at e; subst e; exact ⟨_, rfl, h⟩
  | _, _, i + 1, d, .cons _ l, e => by
    obtain ⟨v, h1, h2⟩ := DnL.get i l (by simpa using e)
    exact ⟨v, by simpa using h1, h2⟩
theorem DnL.getV {F : Hp} : ∀ {vs : List V} {ds : List D} (i : Nat) {v : V}, DnL F vs ds → vs[i]? = some v → ∃ d, ds[i]? = some d ∧ Dn F v d
  | _, _, 0, _, .cons h _, e => by simp at e; subst e; exact ⟨_, rfl, h⟩
  | _, _, i + 1, d, .cons _ l, e => by
    obtain ⟨v, h1, h2⟩ := DnL.getV i l (by simpa using e)
    exact ⟨v, by simpa using h1, h2⟩
theorem DnL.take {F : Hp} : ∀ {vs : List V} {ds : List D} (n : Nat), DnL F vs ds → DnL F (vs.take n) (ds.take n)
  | _, _, 0, _ => .nil
  | _, _, _ + 1, .nil => .nil
  | _, _, n + 1, .cons h l => .cons h (DnL.take n l)
theorem DnL.drop {F : Hp} : ∀ {vs : List V} {ds : List D} (n : Nat), DnL F vs ds → DnL F (vs.drop n) (ds.drop n)
  | _, _, 0, h => h
  | _, _, _ + 1, .nil => .nil
  | _, _, n + 1, .cons _ l => DnL.drop n l
theorem DnL.set {F : Hp} {x : V} {d : D} (h : Dn F x d) : ∀ {vs : List V} {ds : List D} (n : Nat), DnL F vs ds → DnL F (vs.set n x) (ds.set n d)
  | _, _, _, .nil => .nil
  | _, _, 0, .cons _ l => .cons h l
  | _, _, n + 1, .cons q l => .cons q (DnL.set h n l)
theorem DnL.erase {F : Hp} : ∀ {vs : List V} {ds : List D} (n : Nat), DnL F vs ds → DnL F (vs.eraseIdx n) (ds.eraseIdx n)
  | _, _, _, .nil => .nil
  | _, _, 0, .cons _ l => l
  | _, _, n + 1, .cons q l => .cons q (DnL.erase n l)
theorem DnL.rev {F : Hp} : ∀ {vs : List V} {ds : List D}, DnL F vs ds → DnL F vs.reverse ds.reverse
  | _, _, .nil => .nil
  | _, _, .cons q l => by
    rw [List.reverse_cons, List.reverse_cons]
    exact DnL.app (DnL.rev l) (.cons q .nil)
theorem DnL.ints {F : Hp} : ∀ {vs : List V} (ns : List Int), DnL F vs (ns.map D.int) → vs = ns.map V.int
  | _, [], .nil => rfl
  | _, _ :: r, .cons h l => by cases h; rw [DnL.ints r l]; rfl
theorem DnL.bls {F : Hp} : ∀ {vs : List V} (ns : List Bool), DnL F vs (ns.map D.bl) → vs = ns.map V.bl
  | _, [], .nil => rfl
  | _, _ :: r, .cons h l => by cases h; rw [DnL.bls r l]; rfl
theorem DnL.of_ints {F : Hp} : ∀ (ns : List Int), DnL F (ns.map V.int) (ns.map D.int)
  | [] => .nil
  | i :: r => .cons (.int i) (DnL.of_ints r)
theorem DnL.pair {F : Hp} {P : V × D → Prop} : ∀ {vs : List V} {ds : List D}, DnL F vs ds → ∀ x ∈ vs.zip ds, Dn F x.1 x.2
  | _, _, .nil, x, h => by simp at h
  | _, _, .cons q l, x, h => by
    rw [List.zip_cons_cons, List.mem_cons] at h
    rcases h with rfl | h
    · exact q
    · exact DnL.pair (P := P) l x h
theorem DnL.of_all {F : Hp} : ∀ {vs : List V} {ds : List D}, vs.length = ds.length → (∀ x ∈ vs.zip ds, Dn F x.1 x.2) → DnL F vs ds
  | [], [], _, _ => .nil
  | [], _ :: _, h, _ => by simp at h
  | _ :: _, [], h, _ => by simp at h
  | v :: vs, d :: ds, h, k => .cons (k (v, d) (by simp)) (DnL.of_all (by simpa using h) fun x hx => k x (by rw [List.zip_cons_cons]; exact List.mem_cons_of_mem _ hx))

/-! ### the state -/
/-- from (F, H) to (F', H'): F is what is known for good, H all that is tracked; h (if any) may change -/
structure Ext (ho : Option Addr) (F H F' H' : Hp) : Prop where
  ff : Ex F F'
  fh : Ex F' H'
  hh : ∀ a o, ho ≠ some a → H a = some o → H' a = some o
  dj : ∀ a, F a = none → H a ≠ none → F' a = none
theorem Ext.refl {ho : Option Addr} {F H : Hp} (h : Ex F H) : Ext ho F H F H := ⟨Ex.refl F, h, fun _ _ _ e => e, fun _ h _ => h⟩
theorem Ext.weak {ho : Option Addr} {F H F' H' : Hp} (e : Ext none F H F' H') : Ext ho F H F' H' := ⟨e.ff, e.fh, fun a o _ h => e.hh a o (by intro q; cases q) h, e.dj⟩

inductive Sl where
  | d (d : D) | m (k : Nat) | h | u

def SlOk (F : Hp) (ps : List Addr) (ho : Option Addr) (o : Option V) : Sl → Prop
  | .u => True
  | .d d => ∃ v, o = some v ∧ Dn F v d
  | .m k => ∃ p, o = some (.ref p) ∧ ps[k]? = some p
  | .h => ∃ h, ho = some h ∧ o = some (.ref h)

/-- the hand: five cells, of which the first is a list of whole numbers from 0 on that stays -/
structure Hand (F H : Hp) (h : Addr) : Prop where
  fr : F h = none
  ex : ∃ (c : Addr) (cs : List Int) (i1 i2 i3 i4 : Int), H h = some (.lst [.ref c, .int i1, .int i2, .int i3, .int i4]) ∧ F c = some (.lst (cs.map V.int)) ∧ (∀ c ∈ cs, 0 ≤ c) ∧ 0 ≤ i1 ∧ 0 ≤ i2 ∧ 0 ≤ i3 ∧ 0 ≤ i4 ∧ cs.length ≤ 63

structure At (ho : Option Addr) (F0 H0 : Hp) (F : Hp) (ps : List Addr) (sl : List Sl) (ms : List (List D)) (ex : List (V × D)) (σ : L2.St) (H : Hp) : Prop where
  ext : Ext ho F0 H0 F H
  nd : ps.Nodup
  len : ps.length = ms.length
  mu : ∀ (k : Nat) (p : Addr) (ds : List D), ps[k]? = some p → ms[k]? = some ds → H0 p = none ∧ F p = none ∧ ho ≠ some p ∧ ∃ xs, H p = some (.lst xs) ∧ DnL F xs ds
  sln : σ.length = sl.length
  slo : ∀ (i : Nat) (s : Sl), sl[i]? = some s → ∃ o, σ[i]? = some o ∧ SlOk F ps ho o s
  pen : ∀ x ∈ ex, Dn F x.1 x.2
  hand : ∀ h, ho = some h → Hand F H h

section
variable {ho : Option Addr} {F0 H0 F H : Hp} {ps : List Addr} {sl : List Sl} {ms : List (List D)} {ex : List (V × D)} {σ : L2.St}
theorem At.fh (a : At ho F0 H0 F ps sl ms ex σ H) : Ex F H := a.ext.fh
theorem SlOk.mono {F F' : Hp} {ps ps' : List Addr} {o : Option V} {s : Sl} (e : Ex F F') (hp : ∀ (k : Nat) (p : Addr), ps[k]? = some p → ps'[k]? = some p) (h : SlOk F ps ho o s) : SlOk F' ps' ho o s := by
  cases s with
  | u => trivial
  | d d => obtain ⟨v, q, r⟩ := h; exact ⟨v, q, r.mono e⟩
  | m k => obtain ⟨p, q, r⟩ := h; exact ⟨p, q, hp k p r⟩
  | h => exact h
/-- the step: F and H grow (all that is tracked stays, but the hand) -/
theorem At.step {F' H' : Hp} (a : At ho F0 H0 F ps sl ms ex σ H) (e : Ext ho F H F' H') (hd : ∀ h, ho = some h → Hand F' H' h) : At ho F0 H0 F' ps sl ms ex σ H' where
  ext := ⟨a.ext.ff.trans e.ff, e.fh, fun b o hb q => e.hh b o hb (a.ext.hh b o hb q), fun b h0 h1 => e.dj b (a.ext.dj b h0 h1) (by
    by_cases hb : ho = some b
    · obtain ⟨c, cs, i1, i2, i3, i4, q, _⟩ := (a.hand b hb).ex
      rw [q]; intro z; cases z
    · cases q : H0 b with
      | none => exact absurd q h1
      | some o => rw [a.ext.hh b o hb q]; intro z; cases z)⟩
  nd := a.nd
  len := a.len
  mu := fun k p ds h1 h2 => by
    obtain ⟨m1, m2, m3, xs, m4, m5⟩ := a.mu k p ds h1 h2
    exact ⟨m1, e.dj p m2 (by rw [m4]; intro z; cases z), m3, xs, e.hh p _ m3 m4, m5.mono e.ff⟩
  sln := a.sln
  slo := fun i s h => by
    obtain ⟨o, q, r⟩ := a.slo i s h
    exact ⟨o, q, r.mono e.ff fun _ _ z => z⟩
  pen := fun x hx => (a.pen x hx).mono e.ff
  hand := hd
/-- .. where the hand stays, too -/
theorem At.step0 {F' H' : Hp} (a : At ho F0 H0 F ps sl ms ex σ H) (e : Ext none F H F' H') : At ho F0 H0 F' ps sl ms ex σ H' :=
  a.step e.weak fun h hh => by
    obtain ⟨f, c, cs, i1, i2, i3, i4, q, r, rest⟩ := a.hand h hh
    exact ⟨e.dj h f (by rw [q]; intro z; cases z), c, cs, i1, i2, i3, i4, e.hh h _ (by intro z; cases z) q, e.ff c _ r, rest⟩
/-- a new tuple, list, dict of data, known for good -/
theorem At.laid {p : Addr} {o : HO} (a : At ho F0 H0 F ps sl ms ex σ H) (hp : H p = none) : At ho F0 H0 (upd F p o) ps sl ms ex σ (upd H p o) :=
  a.step0 ⟨Ex.new (a.fh.none hp), fun b u q => by
    by_cases hb : b = p
    · subst hb; rw [upd_same] at q; rw [upd_same]; exact q
    · rw [upd_ne hb] at q; rw [upd_ne hb]; exact a.fh b u q, fun b u _ q => by rw [upd_ne (ne_of_none q hp)]; exact q, fun b h0 h1 => by
    have hb : b ≠ p := fun z => by subst z; exact h1 hp
    rw [upd_ne hb]; exact h0⟩
theorem At.push {v : V} {d : D} (a : At ho F0 H0 F ps sl ms ex σ H) (h : Dn F v d) : At ho F0 H0 F ps sl ms ((v, d) :: ex) σ H :=
  ⟨a.ext, a.nd, a.len, a.mu, a.sln, a.slo, fun x hx => (List.mem_cons.mp hx).elim (fun e => by rw [e]; exact h) (a.pen x), a.hand⟩
theorem At.drop {ex' : List (V × D)} (a : At ho F0 H0 F ps sl ms ex σ H) (h : ∀ x ∈ ex', x ∈ ex) : At ho F0 H0 F ps sl ms ex' σ H :=
  ⟨a.ext, a.nd, a.len, a.mu, a.sln, a.slo, fun x hx => a.pen x (h x hx), a.hand⟩
theorem At.pop {x : V × D} (a : At ho F0 H0 F ps sl ms (x :: ex) σ H) : At ho F0 H0 F ps sl ms ex σ H := a.drop fun _ h => List.mem_cons_of_mem _ h
theorem At.top {v : V} {d : D} (a : At ho F0 H0 F ps sl ms ((v, d) :: ex) σ H) : Dn F v d := a.pen (v, d) List.mem_cons_self
/-- a slot is stored -/
theorem At.store {v : V} {s : Sl} (a : At ho F0 H0 F ps sl ms ex σ H) (i : Nat) (h : SlOk F ps ho (some v) s) : At ho F0 H0 F ps (sl.set i s) ms ex (σ.set i (some v)) H :=
  ⟨a.ext, a.nd, a.len, a.mu, by rw [List.length_set, List.length_set]; exact a.sln, fun j t q => by
    by_cases hj : i = j
    · subst hj
      by_cases hi : i < sl.length
      · rw [List.getElem?_set_self hi] at q
        cases q
        exact ⟨some v, by rw [List.getElem?_set_self (by rw [a.sln]; exact hi)], h⟩
      · rw [List.getElem?_eq_none (by rw [List.length_set]; omega)] at q
        cases q
    · rw [List.getElem?_set_ne hj] at q
      obtain ⟨o, e, r⟩ := a.slo j t q
      exact ⟨o, by rw [List.getElem?_set_ne hj]; exact e, r⟩, a.pen, a.hand⟩
/-- a new list of one's own -/
theorem At.own {p : Addr} {xs : List V} {ds : List D} (a : At ho F0 H0 F ps sl ms ex σ H) (hp : H p = none) (h : DnL F xs ds) : At ho F0 H0 F (ps ++ [p]) sl (ms ++ [ds]) ex σ (upd H p (.lst xs)) := by
  have e : Ext none F H F (upd H p (.lst xs)) := ⟨Ex.refl F, a.fh.trans (Ex.new hp), fun b u _ q => by rw [upd_ne (ne_of_none q hp)]; exact q, fun _ h _ => h⟩
  have b := a.step0 e
  have hh : ho ≠ some p := fun z => by
    obtain ⟨c, cs, i1, i2, i3, i4, q, _⟩ := (a.hand p z).ex
    rw [hp] at q; cases q
  have h0 : H0 p = none := by
    cases q : H0 p with
    | none => rfl
    | some o => rw [a.ext.hh p o hh q] at hp; cases hp
  refine ⟨b.ext, ?_, by simp [a.len], fun k q es h1 h2 => ?_, b.sln, fun i s h => ?_, b.pen, b.hand⟩
  · refine List.nodup_append.mpr ⟨a.nd, by simp, fun x hx y hy => ?_⟩
    have ey : y = p := by simpa using hy
    subst ey
    intro z
    subst z
    obtain ⟨k, hk⟩ := List.getElem?_of_mem hx
    have hl : k < ms.length := by rw [← a.len]; exact (List.getElem?_eq_some_iff.mp hk).1
    obtain ⟨_, _, _, xs', q, _⟩ := a.mu k x _ hk (List.getElem?_eq_getElem hl)
    rw [hp] at q; cases q
  · by_cases hk : k < ps.length
    · rw [List.getElem?_append_left hk] at h1
      rw [List.getElem?_append_left (by rw [← a.len]; exact hk)] at h2
      exact b.mu k q es h1 h2
    · rw [List.getElem?_append_right (by omega)] at h1
      rw [List.getElem?_append_right (by rw [← a.len]; omega)] at h2
      have e1 : k - ps.length = 0 := by
        cases z : k - ps.length with
        | zero => rfl
        | succ n => rw [z] at h1; simp at h1
      rw [e1] at h1
      rw [show k - ms.length = 0 by rw [← a.len]; exact e1] at h2
      simp at h1 h2
      subst h1 h2
      exact ⟨h0, a.fh.none hp, hh, xs, upd_same, h⟩
  · obtain ⟨o, e1, r⟩ := b.slo i s h
    exact ⟨o, e1, r.mono (Ex.refl F) fun k q z => by rw [List.getElem?_append_left (List.getElem?_eq_some_iff.mp z).1]; exact z⟩
/-- a list of one's own is written -/
theorem At.put {k : Nat} {p : Addr} {xs : List V} {ds : List D} (a : At ho F0 H0 F ps sl ms ex σ H) (hp : ps[k]? = some p) (h : DnL F xs ds) : At ho F0 H0 F ps sl (ms.set k ds) ex σ (upd H p (.lst xs)) := by
  have hk : k < ps.length := (List.getElem?_eq_some_iff.mp hp).1
  have hk' : k < ms.length := by rw [← a.len]; exact hk
  obtain ⟨m1, m2, m3, ys, m4, m5⟩ := a.mu k p _ hp (List.getElem?_eq_getElem hk')
  have hF : ∀ b o, F b = some o → b ≠ p := fun b o q z => by subst z; rw [m2] at q; cases q
  refine ⟨⟨a.ext.ff, fun b o q => by rw [upd_ne (hF b o q)]; exact a.fh b o q, fun b o hb q => ?_, a.ext.dj⟩, a.nd, by rw [List.length_set]; exact a.len, fun j q es h1 h2 => ?_, a.sln, a.slo, a.pen, fun h hh => ?_⟩
  · have : b ≠ p := fun z => by subst z; rw [m1] at q; cases q
    rw [upd_ne this]; exact a.ext.hh b o hb q
  · by_cases hj : k = j
    · subst hj
      rw [hp] at h1; cases h1
      rw [List.getElem?_set_self hk'] at h2; cases h2
      exact ⟨m1, m2, m3, xs, upd_same, h⟩
    · rw [List.getElem?_set_ne hj] at h2
      have hq : q ≠ p := fun z => by
        subst z
        obtain ⟨g1, e1⟩ := List.getElem?_eq_some_iff.mp hp
        obtain ⟨g2, e2⟩ := List.getElem?_eq_some_iff.mp h1
        exact hj ((List.getElem_inj a.nd).mp (e1.trans e2.symm))
      obtain ⟨n1, n2, n3, zs, n4, n5⟩ := a.mu j q es h1 h2
      exact ⟨n1, n2, n3, zs, by rw [upd_ne hq]; exact n4, n5⟩
  · obtain ⟨f, c, cs, i1, i2, i3, i4, q, r⟩ := a.hand h hh
    have : h ≠ p := fun z => by subst z; exact m3 hh
    exact ⟨f, c, cs, i1, i2, i3, i4, by rw [upd_ne this]; exact q, r⟩
/-- the last list of one's own is known for good from now on -/
theorem At.freeze {p : Addr} {ds : List D} {F1 : Hp} {ex1 : List (V × D)} {H1 : Hp} (a1 : At ho F0 H0 F1 ps sl ms ex1 σ H1) (a : At ho F0 H0 F (ps ++ [p]) sl (ms ++ [ds]) ex σ H) : ∃ F', At ho F0 H0 F' ps sl ms ((.ref p, .lst ds) :: ex) σ H := by
  obtain ⟨m1, m2, m3, xs, m4, m5⟩ := a.mu ps.length p ds (by rw [List.getElem?_append_right (Nat.le_refl _)]; simp) (by rw [a1.len, List.getElem?_append_right (Nat.le_refl _)]; simp)
  have hF : ∀ b o, F b = some o → b ≠ p := fun b o q z => by subst z; rw [m2] at q; cases q
  have ef : Ex F (upd F p (.lst xs)) := Ex.new m2
  refine ⟨upd F p (.lst xs), ⟨a.ext.ff.trans ef, fun b o q => ?_, a.ext.hh, fun b h0 h1 => ?_⟩, a1.nd, a1.len, fun k q es h1 h2 => ?_, a1.sln, fun i s h => ?_, fun x hx => ?_, fun h hh => ?_⟩
  · by_cases hb : b = p
    · subst hb; rw [upd_same] at q; cases q; exact m4
    · rw [upd_ne hb] at q; exact a.fh b o q
  · have hb : b ≠ p := fun z => by subst z; exact h1 m1
    rw [upd_ne hb]; exact a.ext.dj b h0 h1
  · have hk := (List.getElem?_eq_some_iff.mp h1).1
    obtain ⟨n1, n2, n3, zs, n4, n5⟩ := a.mu k q es (by rw [List.getElem?_append_left hk]; exact h1) (by rw [List.getElem?_append_left (by rw [← a1.len]; exact hk)]; exact h2)
    have hq : q ≠ p := fun z => by
      subst z
      have nd := a.nd
      rw [List.nodup_append] at nd
      exact nd.2.2 q (List.mem_of_getElem? h1) q (by simp) rfl
    exact ⟨n1, by rw [upd_ne hq]; exact n2, n3, zs, n4, n5.mono ef⟩
  · obtain ⟨o, e, r⟩ := a.slo i s h
    obtain ⟨o1, e1, r1⟩ := a1.slo i s h
    rw [e] at e1; cases e1
    refine ⟨o, e, ?_⟩
    cases s with
    | u => trivial
    | d d => obtain ⟨v, q, r⟩ := r; exact ⟨v, q, r.mono ef⟩
    | m k => exact r1
    | h => exact r
  · rcases List.mem_cons.mp hx with rfl | hx
    · exact .lst upd_same (m5.mono ef)
    · exact (a.pen x hx).mono ef
  · obtain ⟨f, c, cs, i1, i2, i3, i4, q, r, rest⟩ := a.hand h hh
    have : h ≠ p := fun z => by subst z; exact m3 hh
    exact ⟨by rw [upd_ne this]; exact f, c, cs, i1, i2, i3, i4, q, ef c _ r, rest⟩
end
end E
set_option Elab.async false
set_option linter.all false
set_option maxRecDepth 100000
/-! Judgements over the data layer; expressions. -/
namespace E
open PySem L2

/-- an expression: a datum of R, all else as it was -/
def Er (sl : List Sl) (ms : List (List D)) (t : TE) (R : D → Prop) : Prop :=
  ∀ (ho : Option Addr) (F0 H0 F : Hp) (ps : List Addr) (ex : List (V × D)) (σ : L2.St) (H : Hp), At ho F0 H0 F ps sl ms ex σ H →
    ∀ Q : VK, (∀ v d F' H', R d → At ho F0 H0 F' ps sl ms ((v, d) :: ex) σ H' → Q v H') → t σ H Q
abbrev Ed (sl : List Sl) (ms : List (List D)) (t : TE) (d : D) : Prop := Er sl ms t (· = d)
/-- a new list of one's own -/
def El (sl : List Sl) (ms : List (List D)) (t : TE) (R : List D → Prop) : Prop :=
  ∀ (ho : Option Addr) (F0 H0 F : Hp) (ps : List Addr) (ex : List (V × D)) (σ : L2.St) (H : Hp), At ho F0 H0 F ps sl ms ex σ H →
    ∀ Q : VK, (∀ p ds F' H', R ds → At ho F0 H0 F' (ps ++ [p]) sl (ms ++ [ds]) ex σ H' → Q (.ref p) H') → t σ H Q
/-- a test -/
def Et (sl : List Sl) (ms : List (List D)) (t : TT) (B : Bool → Prop) : Prop :=
  ∀ (ho : Option Addr) (F0 H0 F : Hp) (ps : List Addr) (ex : List (V × D)) (σ : L2.St) (H : Hp), At ho F0 H0 F ps sl ms ex σ H →
    ∀ Q : Bool → Hp → Prop, (∀ b F' H', B b → At ho F0 H0 F' ps sl ms ex σ H' → Q b H') → t σ H Q
/-- arguments -/
def Ea (sl : List Sl) (ms : List (List D)) (t : TA) (R : List D → Prop) : Prop :=
  ∀ (ho : Option Addr) (F0 H0 F : Hp) (ps : List Addr) (ex : List (V × D)) (σ : L2.St) (H : Hp), At ho F0 H0 F ps sl ms ex σ H →
    ∀ Q : List V → Hp → Prop, (∀ vs ds F' H', R ds → At ho F0 H0 F' ps sl ms ex σ H' → DnL F' vs ds → Q vs H') → t σ H Q
abbrev Ead (sl : List Sl) (ms : List (List D)) (t : TA) (ds : List D) : Prop := Ea sl ms t (· = ds)
/-- an operation on values -/
def R1 (r : V → Hp → VK → Prop) (x : D) (R : D → Prop) : Prop :=
  ∀ (F H : Hp) (v : V), Ex F H → Dn F v x → ∀ Q : VK, (∀ u d F' H', R d → Ext none F H F' H' → Dn F' u d → Q u H') → r v H Q
def R2 (r : L2.R2) (x y : D) (R : D → Prop) : Prop :=
  ∀ (F H : Hp) (v w : V), Ex F H → Dn F v x → Dn F w y → ∀ Q : VK, (∀ u d F' H', R d → Ext none F H F' H' → Dn F' u d → Q u H') → r v w H Q
def Rc (r : List V → Hp → VK → Prop) (xs : List D) (R : D → Prop) : Prop :=
  ∀ (F H : Hp) (vs : List V), Ex F H → DnL F vs xs → ∀ Q : VK, (∀ u d F' H', R d → Ext none F H F' H' → Dn F' u d → Q u H') → r vs H Q

section
variable {sl : List Sl} {ms : List (List D)} {t u : TE} {R R' Ra Rb : D → Prop} {d e : D} {ta tb tc : TE}
theorem Er.mono (h : Er sl ms t R) (k : ∀ d, R d → R' d) : Er sl ms t R' := fun ho F0 H0 F ps ex σ H a Q q => h ho F0 H0 F ps ex σ H a Q fun v d F' H' r => q v d F' H' (k d r)
theorem El.mono {R R' : List D → Prop} (h : El sl ms t R) (k : ∀ d, R d → R' d) : El sl ms t R' := fun ho F0 H0 F ps ex σ H a Q q => h ho F0 H0 F ps ex σ H a Q fun v d F' H' r => q v d F' H' (k d r)
theorem Et.mono {t : TT} {B B' : Bool → Prop} (h : Et sl ms t B) (k : ∀ b, B b → B' b) : Et sl ms t B' := fun ho F0 H0 F ps ex σ H a Q q => h ho F0 H0 F ps ex σ H a Q fun b F' H' r => q b F' H' (k b r)
theorem El.er {R : List D → Prop} (h : El sl ms t R) : Er sl ms t fun d => ∃ ds, R ds ∧ d = .lst ds := fun ho F0 H0 F ps ex σ H a Q q => h ho F0 H0 F ps ex σ H a Q fun p ds F' H' r a' => by
  obtain ⟨F2, b⟩ := At.freeze a a'
  exact q _ _ F2 H' ⟨ds, r, rfl⟩ b
theorem El.ed {ds : List D} (h : El sl ms t (· = ds)) : Ed sl ms t (.lst ds) := h.er.mono fun d ⟨es, e1, e2⟩ => by rw [e2, e1]
theorem ed_var {i : Nat} (h : sl[i]? = some (.d d)) : Ed sl ms (tVar i) d := fun ho F0 H0 F ps ex σ H a Q q => by
  obtain ⟨o, e, v, rfl, r⟩ := a.slo i _ h
  exact ⟨v, e, q v d F H rfl (a.push r)⟩
theorem ed_int {i : Int} : Ed sl ms (tC (.int i)) (.int i) := fun ho F0 H0 F ps ex σ H a Q q => q _ _ F H rfl (a.push (.int i))
theorem ed_bl {i : Bool} : Ed sl ms (tC (.bl i)) (.bl i) := fun ho F0 H0 F ps ex σ H a Q q => q _ _ F H rfl (a.push (.bl i))
theorem ed_str {i : Str} : Ed sl ms (tC (.str i)) (.str i) := fun ho F0 H0 F ps ex σ H a Q q => q _ _ F H rfl (a.push (.str i))
theorem ed_non : Ed sl ms (tC .non) .non := fun ho F0 H0 F ps ex σ H a Q q => q _ _ F H rfl (a.push .non)
theorem er_un {r : V → Hp → VK → Prop} (h : Er sl ms ta Ra) (k : ∀ x, Ra x → R1 r x R) : Er sl ms (tUn r ta) R := fun ho F0 H0 F ps ex σ H a Q q =>
  h ho F0 H0 F ps ex σ H a _ fun v d F1 H1 rd a1 => k d rd F1 H1 v a1.fh a1.top Q fun u e F2 H2 re x du => q u e F2 H2 re ((a1.pop.step0 x).push du)
theorem er_op {r : L2.R2} (h : Er sl ms ta Ra) (h' : Er sl ms tb Rb) (k : ∀ x y, Ra x → Rb y → R2 r x y R) : Er sl ms (tOp r ta tb) R := fun ho F0 H0 F ps ex σ H a Q q =>
  h ho F0 H0 F ps ex σ H a _ fun v d F1 H1 rd a1 => h' ho F0 H0 F1 ps _ σ H1 a1 _ fun w e F2 H2 re a2 =>
    k d e rd re F2 H2 v w a2.fh a2.pop.top a2.top Q fun u g F3 H3 rg x du => q u g F3 H3 rg ((a2.pop.pop.step0 x).push du)
theorem ed_op {r : L2.R2} {x y : D} (h : Ed sl ms ta x) (h' : Ed sl ms tb y) (k : R2 r x y R) : Er sl ms (tOp r ta tb) R := er_op h h' fun _ _ e1 e2 => by subst e1 e2; exact k
theorem ed_un {r : V → Hp → VK → Prop} {x : D} (h : Ed sl ms ta x) (k : R1 r x R) : Er sl ms (tUn r ta) R := er_un h fun _ e1 => by subst e1; exact k
theorem ea_nil : Ead sl ms tNil [] := fun ho F0 H0 F ps ex σ H a Q q => q [] [] F H rfl a .nil
theorem ea_cons {tr : TA} {Rs : List D → Prop} (h : Er sl ms ta Ra) (h' : Ea sl ms tr Rs) : Ea sl ms (tCons ta tr) fun ds => ∃ d es, ds = d :: es ∧ Ra d ∧ Rs es := fun ho F0 H0 F ps ex σ H a Q q =>
  h ho F0 H0 F ps ex σ H a _ fun v d F1 H1 rd a1 => h' ho F0 H0 F1 ps _ σ H1 a1 _ fun vs es F2 H2 re a2 l => q (v :: vs) (d :: es) F2 H2 ⟨d, es, rfl, rd, re⟩ a2.pop (.cons a2.top l)
theorem Ea.mono {t : TA} {R R' : List D → Prop} (h : Ea sl ms t R) (k : ∀ d, R d → R' d) : Ea sl ms t R' := fun ho F0 H0 F ps ex σ H a Q q => h ho F0 H0 F ps ex σ H a Q fun v d F' H' r => q v d F' H' (k d r)
theorem ead_cons {tr : TA} {es : List D} (h : Ed sl ms ta d) (h' : Ead sl ms tr es) : Ead sl ms (tCons ta tr) (d :: es) := (ea_cons h h').mono fun ds ⟨x, ys, e1, e2, e3⟩ => by rw [e1, e2, e3]
theorem er_tup {tr : TA} {Rs : List D → Prop} (h : Ea sl ms tr Rs) (hl : ∀ ds, Rs ds → ds.length ≤ 100000) : Er sl ms (tTup tr) fun d => ∃ ds, d = .tup ds ∧ Rs ds := fun ho F0 H0 F ps ex σ H a Q q =>
  h ho F0 H0 F ps ex σ H a _ fun vs ds F1 H1 rd a1 l => ⟨by rw [l.len]; exact Nat.le_trans (hl ds rd) (by decide), fun p hp => q (.ref p) (.tup ds) (upd F1 p (.tup vs)) _ ⟨ds, rfl, rd⟩
    ((a1.laid hp).push (.tup upd_same (l.mono (Ex.new (a1.fh.none hp)))))⟩
theorem ed_tup {tr : TA} {ds : List D} (h : Ead sl ms tr ds) (hl : ds.length ≤ 100000) : Ed sl ms (tTup tr) (.tup ds) := (er_tup h fun _ e => by rw [e]; exact hl).mono fun d ⟨es, e1, e2⟩ => by rw [e1, e2]
theorem el_lst {tr : TA} {Rs : List D → Prop} (h : Ea sl ms tr Rs) (hl : ∀ ds, Rs ds → ds.length ≤ 100000) : El sl ms (tLst tr) Rs := fun ho F0 H0 F ps ex σ H a Q q =>
  h ho F0 H0 F ps ex σ H a _ fun vs ds F1 H1 rd a1 l => ⟨by rw [l.len]; exact Nat.le_trans (hl ds rd) (by decide), fun p hp => q p ds F1 _ rd (a1.own hp l)⟩
theorem er_cb {r : List V → Hp → VK → Prop} {tr : TA} {Rs : List D → Prop} (h : Ea sl ms tr Rs) (k : ∀ ds, Rs ds → Rc r ds R) : Er sl ms (tCB r tr) R := fun ho F0 H0 F ps ex σ H a Q q =>
  h ho F0 H0 F ps ex σ H a _ fun vs ds F1 H1 rd a1 l => k ds rd F1 H1 vs a1.fh l Q fun u e F2 H2 re x du => q u e F2 H2 re ((a1.step0 x).push du)
theorem ed_cb {r : List V → Hp → VK → Prop} {tr : TA} {ds : List D} (h : Ead sl ms tr ds) (k : Rc r ds R) : Er sl ms (tCB r tr) R := er_cb h fun _ e => by subst e; exact k

/-! ### tests -/
theorem et_B {B : Bool → Prop} (h : Er sl ms ta fun d => ∃ b, d = .bl b ∧ B b) : Et sl ms (tB ta) B := fun ho F0 H0 F ps ex σ H a Q q =>
  h ho F0 H0 F ps ex σ H a _ fun v d F1 H1 ⟨b, e, rb⟩ a1 => by
    subst e
    cases a1.top
    exact ⟨b, rfl, q b F1 H1 rb a1.pop⟩
theorem et_test {B : Bool → Prop} (h : Er sl ms ta fun d => ∃ b, d = .bl b ∧ B b) : Et sl ms (tTest ta) B := fun ho F0 H0 F ps ex σ H a Q q =>
  h ho F0 H0 F ps ex σ H a _ fun v d F1 H1 ⟨b, e, rb⟩ a1 => by
    subst e
    cases a1.top
    exact ⟨b, rfl, q b F1 H1 rb a1.pop⟩
theorem et_Bd {b : Bool} (h : Ed sl ms ta (.bl b)) : Et sl ms (tB ta) (· = b) := et_B (h.mono fun _ e => ⟨b, e, rfl⟩)
theorem et_testd {b : Bool} (h : Ed sl ms ta (.bl b)) : Et sl ms (tTest ta) (· = b) := et_test (h.mono fun _ e => ⟨b, e, rfl⟩)
theorem et_and {t u : TT} {B C : Bool → Prop} (h : Et sl ms t B) (h' : B true → Et sl ms u C) : Et sl ms (tAnd t u) fun b => (b = false ∧ B false) ∨ (B true ∧ C b) := fun ho F0 H0 F ps ex σ H a Q q =>
  h ho F0 H0 F ps ex σ H a _ fun b F1 H1 rb a1 => by
    cases b with
    | true => exact h' rb ho F0 H0 F1 ps ex σ H1 a1 Q fun c F2 H2 rc a2 => q c F2 H2 (.inr ⟨rb, rc⟩) a2
    | false => exact q false F1 H1 (.inl ⟨rfl, rb⟩) a1
theorem et_or {t u : TT} {B C : Bool → Prop} (h : Et sl ms t B) (h' : B false → Et sl ms u C) : Et sl ms (tOr t u) fun b => (b = true ∧ B true) ∨ (B false ∧ C b) := fun ho F0 H0 F ps ex σ H a Q q =>
  h ho F0 H0 F ps ex σ H a _ fun b F1 H1 rb a1 => by
    cases b with
    | false => exact h' rb ho F0 H0 F1 ps ex σ H1 a1 Q fun c F2 H2 rc a2 => q c F2 H2 (.inr ⟨rb, rc⟩) a2
    | true => exact q true F1 H1 (.inl ⟨rfl, rb⟩) a1
theorem et_not {t : TT} {B : Bool → Prop} (h : Et sl ms t B) : Et sl ms (tNot t) fun b => B (!b) := fun ho F0 H0 F ps ex σ H a Q q =>
  h ho F0 H0 F ps ex σ H a _ fun b F1 H1 rb a1 => q (!b) F1 H1 (by show B (!!b); rw [Bool.not_not]; exact rb) a1
theorem etd_and {t u : TT} {b c : Bool} (h : Et sl ms t (· = b)) (h' : b = true → Et sl ms u (· = c)) : Et sl ms (tAnd t u) (· = (b && c)) := (et_and h fun e => h' e.symm).mono fun x z => by
  rcases z with ⟨e1, e2⟩ | ⟨e1, e2⟩
  · rw [e1, ← e2]; rfl
  · rw [e2, ← e1]; rfl
theorem etd_or {t u : TT} {b c : Bool} (h : Et sl ms t (· = b)) (h' : b = false → Et sl ms u (· = c)) : Et sl ms (tOr t u) (· = (b || c)) := (et_or h fun e => h' e.symm).mono fun x z => by
  rcases z with ⟨e1, e2⟩ | ⟨e1, e2⟩
  · rw [e1, ← e2]; rfl
  · rw [e2, ← e1]; rfl
theorem etd_not {t : TT} {b : Bool} (h : Et sl ms t (· = b)) : Et sl ms (tNot t) (· = !b) := (et_not h).mono fun x z => by rw [← z, Bool.not_not]
theorem edv_and {b : Bool} (h : Ed sl ms ta (.bl b)) (h' : b = true → Er sl ms tb R) (hf : b = false → R (.bl false)) : Er sl ms (tAndV ta tb) R := fun ho F0 H0 F ps ex σ H a Q q =>
  h ho F0 H0 F ps ex σ H a _ fun v d F1 H1 e a1 => by
    subst e
    cases a1.top
    refine ⟨b, rfl, ?_⟩
    cases b with
    | true => exact h' rfl ho F0 H0 F1 ps ex σ H1 a1.pop Q q
    | false => exact q _ _ F1 H1 (hf rfl) a1
theorem edv_or {b : Bool} (h : Ed sl ms ta (.bl b)) (h' : b = false → Er sl ms tb R) (hf : b = true → R (.bl true)) : Er sl ms (tOrV ta tb) R := fun ho F0 H0 F ps ex σ H a Q q =>
  h ho F0 H0 F ps ex σ H a _ fun v d F1 H1 e a1 => by
    subst e
    cases a1.top
    refine ⟨b, rfl, ?_⟩
    cases b with
    | false => exact h' rfl ho F0 H0 F1 ps ex σ H1 a1.pop Q q
    | true => exact q _ _ F1 H1 (hf rfl) a1
theorem edv_not {b : Bool} (h : Ed sl ms ta (.bl b)) : Ed sl ms (tNotV ta) (.bl !b) := fun ho F0 H0 F ps ex σ H a Q q =>
  h ho F0 H0 F ps ex σ H a _ fun v d F1 H1 e a1 => by
    subst e
    cases a1.top
    exact ⟨b, rfl, q _ _ F1 H1 rfl (a1.pop.push (.bl _))⟩
theorem er_if {t : TT} {B : Bool → Prop} (h : Et sl ms t B) (h1 : B true → Er sl ms ta R) (h2 : B false → Er sl ms tb R) : Er sl ms (tIf t ta tb) R := fun ho F0 H0 F ps ex σ H a Q q =>
  h ho F0 H0 F ps ex σ H a _ fun b F1 H1 rb a1 => by
    cases b with
    | true => exact h1 rb ho F0 H0 F1 ps ex σ H1 a1 Q q
    | false => exact h2 rb ho F0 H0 F1 ps ex σ H1 a1 Q q
theorem el_if {t : TT} {B : Bool → Prop} {R : List D → Prop} (h : Et sl ms t B) (h1 : B true → El sl ms ta R) (h2 : B false → El sl ms tb R) : El sl ms (tIf t ta tb) R := fun ho F0 H0 F ps ex σ H a Q q =>
  h ho F0 H0 F ps ex σ H a _ fun b F1 H1 rb a1 => by
    cases b with
    | true => exact h1 rb ho F0 H0 F1 ps ex σ H1 a1 Q q
    | false => exact h2 rb ho F0 H0 F1 ps ex σ H1 a1 Q q

/-! ### numbers, equality -/
theorem r2_I0 {g : Int → Int → V} {i j : Int} {d : D} (hg : ∀ F, Dn F (g i j) d) : R2 (rI0 g) (.int i) (.int j) (· = d) := fun F H v w eh hv hw Q q => by
  cases hv; cases hw
  exact ⟨i, j, rfl, rfl, q _ _ F H rfl (Ext.refl eh) (hg F)⟩
theorem r2_I {C : Int → Int → Prop} {g : Int → Int → V} {i j : Int} {d : D} (hc : C i j) (hg : ∀ F, Dn F (g i j) d) : R2 (rI C g) (.int i) (.int j) (· = d) := fun F H v w eh hv hw Q q => by
  cases hv; cases hw
  exact ⟨i, j, rfl, rfl, hc, q _ _ F H rfl (Ext.refl eh) (hg F)⟩
theorem r2_add {i j : Int} : R2 (rI0 fun i j => .int (i + j)) (.int i) (.int j) (· = .int (i + j)) := r2_I0 fun _ => .int _
theorem r2_sub {i j : Int} : R2 (rI0 fun i j => .int (i - j)) (.int i) (.int j) (· = .int (i - j)) := r2_I0 fun _ => .int _
theorem r2_mul {i j : Int} (h : CMul i j) : R2 (rI CMul fun i j => .int (i * j)) (.int i) (.int j) (· = .int (i * j)) := r2_I h fun _ => .int _
theorem r2_mod {i j : Int} (h : 0 < j) : R2 (rI (fun _ j => 0 < j) fun i j => .int (i % j)) (.int i) (.int j) (· = .int (i % j)) := r2_I h fun _ => .int _
theorem r2_div {i j : Int} (h : CDiv i j) : R2 (rI CDiv fun i j => .int (i / j)) (.int i) (.int j) (· = .int (i / j)) := r2_I h fun _ => .int _
theorem r2_pow {i j : Int} (h : CPow i j) : R2 (rI CPow fun i j => .int (i ^ j.toNat)) (.int i) (.int j) (· = .int (i ^ j.toNat)) := r2_I h fun _ => .int _
theorem r2_B {p : Int → Int → Bool} {i j : Int} : R2 (rI0 fun i j => .bl (p i j)) (.int i) (.int j) (· = .bl (p i j)) := r2_I0 fun _ => .bl _
theorem r2_eqI {i j : Int} : R2 rEq (.int i) (.int j) (· = .bl (decide (i = j))) := fun F H v w eh hv hw Q q => by
  cases hv; cases hw
  refine ⟨rfl, ?_⟩
  have e : decide (V.int i = V.int j) = decide (i = j) := by
    by_cases h : i = j
    · subst h; rw [decide_eq_true rfl, decide_eq_true rfl]
    · rw [decide_eq_false h, decide_eq_false fun z => h (V.int.inj z)]
  rw [e]
  exact q _ _ F H rfl (Ext.refl eh) (.bl _)
theorem r2_neI {i j : Int} : R2 rNe (.int i) (.int j) (· = .bl (!decide (i = j))) := fun F H v w eh hv hw Q q => by
  cases hv; cases hw
  refine ⟨rfl, ?_⟩
  have e : decide (V.int i = V.int j) = decide (i = j) := by
    by_cases h : i = j
    · subst h; rw [decide_eq_true rfl, decide_eq_true rfl]
    · rw [decide_eq_false h, decide_eq_false fun z => h (V.int.inj z)]
  rw [e]
  exact q _ _ F H rfl (Ext.refl eh) (.bl _)
theorem r2_neS {i j : Str} : R2 rNe (.str i) (.str j) (· = .bl (!decide (i = j))) := fun F H v w eh hv hw Q q => by
  cases hv; cases hw
  refine ⟨rfl, ?_⟩
  have e : decide (V.str i = V.str j) = decide (i = j) := by
    by_cases h : i = j
    · subst h; rw [decide_eq_true rfl, decide_eq_true rfl]
    · rw [decide_eq_false h, decide_eq_false fun z => h (V.str.inj z)]
  rw [e]
  exact q _ _ F H rfl (Ext.refl eh) (.bl _)
theorem r2_eqS {i j : Str} : R2 rEq (.str i) (.str j) (· = .bl (decide (i = j))) := fun F H v w eh hv hw Q q => by
  cases hv; cases hw
  refine ⟨rfl, ?_⟩
  have e : decide (V.str i = V.str j) = decide (i = j) := by
    by_cases h : i = j
    · subst h; rw [decide_eq_true rfl, decide_eq_true rfl]
    · rw [decide_eq_false h, decide_eq_false fun z => h (V.str.inj z)]
  rw [e]
  exact q _ _ F H rfl (Ext.refl eh) (.bl _)

/-! ### sequences -/
variable {K : PySem.W.Frag}
theorem sq_l {F H : Hp} {a : Addr} {xs : List V} (e : Ex F H) (h : F a = some (.lst xs)) : SqL K H a xs := .inl (.inl (e _ _ h))
theorem sq_t {F H : Hp} {a : Addr} {xs : List V} (e : Ex F H) (h : F a = some (.tup xs)) : SqT K H a xs := .inl (.inl (e _ _ h))
theorem DnL.atI {F : Hp} {vs : List V} {ds : List D} {i : Int} {d : D} (h : DnL F vs ds) (e : L2.atI ds i = some d) : ∃ v, L2.atI vs i = some v ∧ Dn F v d := by
  unfold L2.atI at e ⊢
  rw [h.len]
  cases q : ixN ds.length i with
  | none => rw [q] at e; cases e
  | some j =>
    rw [q] at e
    exact DnL.get j h e
theorem r2_ixT {ds : List D} {i : Int} (h : L2.atI ds i = some d) : R2 (rIxT K) (.tup ds) (.int i) (· = d) := fun F H v w eh hv hw Q q => by
  cases hv with
  | tup ha hl =>
    cases hw
    obtain ⟨x, e1, e2⟩ := hl.atI h
    exact ⟨_, _, i, x, rfl, rfl, sq_t eh ha, e1, q x d F H rfl (Ext.refl eh) e2⟩
theorem r2_ixL {ds : List D} {i : Int} (h : L2.atI ds i = some d) : R2 (rIxL K) (.lst ds) (.int i) (· = d) := fun F H v w eh hv hw Q q => by
  cases hv with
  | lst ha hl =>
    cases hw
    obtain ⟨x, e1, e2⟩ := hl.atI h
    exact ⟨_, _, i, x, rfl, rfl, sq_l eh ha, e1, q x d F H rfl (Ext.refl eh) e2⟩
theorem Ext.new {F H : Hp} {p : Addr} {o : HO} (e : Ex F H) (hp : H p = none) : Ext none F H (upd F p o) (upd H p o) :=
  ⟨Ex.new (e.none hp), fun b u q => by
    by_cases hb : b = p
    · subst hb; rw [upd_same] at q; rw [upd_same]; exact q
    · rw [upd_ne hb] at q; rw [upd_ne hb]; exact e b u q, fun b u _ q => by rw [upd_ne (ne_of_none q hp)]; exact q, fun b h0 h1 => by
    have hb : b ≠ p := fun z => by subst z; exact h1 hp
    rw [upd_ne hb]; exact h0⟩
theorem r2_cat {ds es : List D} (hn : ds.length + es.length ≤ 100000) : R2 (rCatA K) (.tup ds) (.tup es) (· = .tup (ds ++ es)) := fun F H v w eh hv hw Q q => by
  cases hv with
  | tup ha hl =>
    cases hw with
    | tup hb hm =>
      refine ⟨_, _, _, _, rfl, rfl, sq_t eh ha, sq_t eh hb, by rw [hl.len, hm.len]; exact Nat.le_trans hn (by decide), fun e => ?_, fun e1 e2 => ?_, fun _ _ p hp => ?_⟩
      · subst e; cases hl
        exact q _ _ F H rfl (Ext.refl eh) (.tup hb hm)
      · subst e2; cases hm
        exact q _ _ F H rfl (Ext.refl eh) (by rw [List.append_nil]; exact .tup ha hl)
      · exact q _ _ _ _ rfl (Ext.new eh hp) (.tup upd_same ((hl.app hm).mono (Ex.new (eh.none hp))))
/-- a slice of a tuple -/
def cutD (ds : List D) (lo hi : Option Int) : List D := (ds.drop (HT.sIx ds.length 0 lo)).take (HT.sIx ds.length ds.length hi - HT.sIx ds.length 0 lo)
def Po (sl : List Sl) (ms : List (List D)) (t : TO) (o : Option Int) : Prop :=
  ∀ (ho : Option Addr) (F0 H0 F : Hp) (ps : List Addr) (ex : List (V × D)) (σ : L2.St) (H : Hp), At ho F0 H0 F ps sl ms ex σ H →
    ∀ Q : Option Int → Hp → Prop, (∀ F' H', At ho F0 H0 F' ps sl ms ex σ H' → Q o H') → t σ H Q
theorem po_n : Po sl ms tNoPart none := fun ho F0 H0 F ps ex σ H a Q q => q F H a
theorem po_s {i : Int} (h : Ed sl ms ta (.int i)) : Po sl ms (tPart ta) (some i) := fun ho F0 H0 F ps ex σ H a Q q =>
  h ho F0 H0 F ps ex σ H a _ fun v d F1 H1 e a1 => by
    subst e
    cases a1.top
    exact ⟨i, rfl, q F1 H1 a1.pop⟩
theorem ed_slT {ds : List D} {tl th : TO} {lo hi : Option Int} (h : Ed sl ms ta (.tup ds)) (h1 : Po sl ms tl lo) (h2 : Po sl ms th hi) : Ed sl ms (tSl (rSlA K) ta tl th) (.tup (cutD ds lo hi)) := fun ho F0 H0 F ps ex σ H a Q q =>
  h ho F0 H0 F ps ex σ H a _ fun v d F1 H1 e a1 => h1 ho F0 H0 F1 ps _ σ H1 a1 _ fun F2 H2 a2 => h2 ho F0 H0 F2 ps _ σ H2 a2 _ fun F3 H3 a3 => by
    subst e
    cases a3.top with
    | @tup p xs _ ha hl =>
      have hc : DnL F3 (cutV xs lo hi) (cutD ds lo hi) := by
        unfold cutV cutD
        rw [hl.len]
        exact (hl.drop _).take _
      refine ⟨p, xs, rfl, sq_t a3.fh ha, fun z => ?_, fun _ y hy => ?_⟩
      · refine q _ _ F3 H3 rfl (a3.pop.push ?_)
        have e1 : cutD ds lo hi = ds := by
          unfold cutD
          rw [← hl.len, z.1, z.2, hl.len]
          simp
        rw [e1]
        exact .tup ha hl
      · exact q _ _ _ _ rfl ((a3.pop.laid hy).push (.tup upd_same (hc.mono (Ex.new (a3.fh.none hy)))))
theorem rc_len {x : D} {n : Nat} (h : (∃ ds, x = .tup ds ∧ n = ds.length) ∨ ∃ ds, x = .lst ds ∧ n = ds.length) : Rc (fun xs H Q => ∃ p ys, xs = [.ref p] ∧ (SqL K H p ys ∨ SqT K H p ys) ∧ Q (.int ys.length) H) [x] (· = .int n) := fun F H vs eh hl Q q => by
  cases hl with
  | cons hx hr =>
    cases hr
    rcases h with ⟨ds, rfl, rfl⟩ | ⟨ds, rfl, rfl⟩
    · cases hx with
      | tup ha hl => exact ⟨_, _, rfl, .inr (sq_t eh ha), by rw [hl.len]; exact q _ _ F H rfl (Ext.refl eh) (.int _)⟩
    · cases hx with
      | lst ha hl => exact ⟨_, _, rfl, .inl (sq_l eh ha), by rw [hl.len]; exact q _ _ F H rfl (Ext.refl eh) (.int _)⟩
theorem rc_all {bs : List Bool} : Rc (rAll K) [.lst (bs.map D.bl)] (· = .bl (bs.all id)) := fun F H vs eh hl Q q => by
  cases hl with
  | cons hx hr =>
    cases hr
    cases hx with
    | lst ha hl =>
      rw [DnL.bls bs hl] at ha
      exact ⟨_, bs, rfl, sq_l eh ha, q _ _ F H rfl (Ext.refl eh) (.bl _)⟩
theorem rc_any {bs : List Bool} : Rc (rAny K) [.lst (bs.map D.bl)] (· = .bl (bs.any id)) := fun F H vs eh hl Q q => by
  cases hl with
  | cons hx hr =>
    cases hr
    cases hx with
    | lst ha hl =>
      rw [DnL.bls bs hl] at ha
      exact ⟨_, bs, rfl, sq_l eh ha, q _ _ F H rfl (Ext.refl eh) (.bl _)⟩
theorem rc_sum {ns : List Int} : Rc (rSum K) [.lst (ns.map D.int)] (· = .int ns.sum) := fun F H vs eh hl Q q => by
  cases hl with
  | cons hx hr =>
    cases hr
    cases hx with
    | lst ha hl =>
      rw [DnL.ints ns hl] at ha
      exact ⟨_, ns, rfl, sq_l eh ha, q _ _ F H rfl (Ext.refl eh) (.int _)⟩
theorem rc_max {ns : List Int} {m : Int} (h0 : 0 < ns.length) (h : ∀ k, k ∈ ns → (∀ y, y ∈ ns → y ≤ k) → k = m) : Rc (rMax K) [.lst (ns.map D.int)] (· = .int m) := fun F H vs eh hl Q q => by
  cases hl with
  | cons hx hr =>
    cases hr
    cases hx with
    | lst ha hl =>
      rw [DnL.ints ns hl] at ha
      exact ⟨_, ns, rfl, sq_l eh ha, h0, fun k hk hy => by rw [h k hk hy]; exact q _ _ F H rfl (Ext.refl eh) (.int _)⟩
theorem rc_min2 {i j : Int} : Rc (fun xs H Q => ∃ i j, xs = [.int i, .int j] ∧ Q (.int (if j < i then j else i)) H) [.int i, .int j] (· = .int (if j < i then j else i)) := fun F H vs eh hl Q q => by
  cases hl with
  | cons hx hr =>
    cases hr with
    | cons hy hr =>
      cases hr; cases hx; cases hy
      exact ⟨i, j, rfl, q _ _ F H rfl (Ext.refl eh) (.int _)⟩
theorem rc_max2 {i j : Int} : Rc (fun xs H Q => ∃ i j, xs = [.int i, .int j] ∧ Q (.int (if j > i then j else i)) H) [.int i, .int j] (· = .int (if j > i then j else i)) := fun F H vs eh hl Q q => by
  cases hl with
  | cons hx hr =>
    cases hr with
    | cons hy hr =>
      cases hr; cases hx; cases hy
      exact ⟨i, j, rfl, q _ _ F H rfl (Ext.refl eh) (.int _)⟩
theorem rc_abs {i : Int} : Rc (fun xs H Q => ∃ i, xs = [.int i] ∧ Q (.int (if i < 0 then -i else i)) H) [.int i] (· = .int (if i < 0 then -i else i)) := fun F H vs eh hl Q q => by
  cases hl with
  | cons hx hr =>
    cases hr; cases hx
    exact ⟨i, rfl, q _ _ F H rfl (Ext.refl eh) (.int _)⟩
theorem rc_intI {i : Int} : Rc (fun xs H Q => (∃ i, xs = [.int i] ∧ Q (.int i) H) ∨ ∃ k, xs = [.bl k] ∧ Q (.int (if k then 1 else 0)) H) [.int i] (· = .int i) := fun F H vs eh hl Q q => by
  cases hl with
  | cons hx hr =>
    cases hr; cases hx
    exact .inl ⟨i, rfl, q _ _ F H rfl (Ext.refl eh) (.int _)⟩
/-- x in a tuple of whole numbers -/
theorem inV_ints {k : Int} : ∀ ns : List Int, inV (.int k) (ns.map V.int) = decide (k ∈ ns)
  | [] => by simp [inV]
  | n :: r => by
    have ih := inV_ints (k := k) r
    unfold inV at ih ⊢
    rw [List.map_cons, List.any_cons, ih]
    show ((n == k) || decide (k ∈ r)) = decide (k ∈ n :: r)
    by_cases h : n = k
    · subst h; simp
    · have h' : ¬ k = n := fun z => h z.symm
      simp [h, h']
theorem flat_ints : ∀ ns : List Int, (ns.map V.int).all flatV = true
  | [] => rfl
  | _ :: r => by rw [List.map_cons, List.all_cons, flat_ints r]; rfl
theorem r2_inT {ns : List Int} {k : Int} : R2 (rIn K false) (.int k) (.tup (ns.map D.int)) (· = .bl (decide (k ∈ ns))) := fun F H v w eh hv hw Q q => by
  cases hv
  cases hw with
  | tup ha hl =>
    rw [DnL.ints ns hl] at ha
    refine ⟨_, _, rfl, .inr (sq_t eh ha), rfl, flat_ints ns, ?_⟩
    show Q (.bl (inV (.int k) (ns.map V.int))) H
    rw [inV_ints]
    exact q _ _ F H rfl (Ext.refl eh) (.bl _)

/-! ### isinstance -/
def tyD : D → String
  | .non => "NoneType" | .bl _ => "bool" | .int _ => "int" | .str _ => "str" | .tup _ => "tuple" | .lst _ => "list" | .dic => "dict"
theorem Dn.ty {F H : Hp} {v : V} : ∀ {x : D}, Ex F H → Dn F v x → TyX K H v (.type (tyD x))
  | _, _, .non => .base .non
  | _, _, .bl b => .base (.bl b)
  | _, _, .int i => .base (.int i)
  | _, _, .str s => .base (.str s)
  | _, e, .tup h _ => .base (.tup (e _ _ h))
  | _, e, .lst h _ => .base (.lst (e _ _ h))
  | _, e, .dic h => .base (.dK (e _ _ h))
/-- isinstance(e, T), T a built-in type's name -/
theorem ed_isi {n : String} {b : Bool} {x : D} (h : Ed sl ms ta x) (hk : kitB (tyD x) n = some b) : Ed sl ms (tCB (rIsi K) (tCons ta (tCons (tC (.ty n)) tNil))) (.bl b) := fun ho F0 H0 F ps ex σ H a Q q =>
  h ho F0 H0 F ps ex σ H a _ fun v d F1 H1 e a1 => by
    subst e
    exact ⟨v, .ty n, _, .type n, b, rfl, .ty n, a1.top.ty a1.fh, kit_ty hk, q _ _ F1 H1 rfl (a1.pop.push (.bl b))⟩
end
end E
set_option Elab.async false
set_option linter.all false
set_option maxRecDepth 100000
/-! Statements, loops, comprehensions, defs over the data layer. -/
namespace E
open PySem L2

structure Out where
  nx : List Sl → List (List D) → Prop
  rt : D → Prop
  bk : List Sl → List (List D) → Prop := fun _ _ => False
  ct : List Sl → List (List D) → Prop := fun _ _ => False

/-- a statement -/
def Sr (sl : List Sl) (ms : List (List D)) (t : TS) (O : Out) : Prop :=
  ∀ (ho : Option Addr) (F0 H0 F : Hp) (ps : List Addr) (ex : List (V × D)) (σ : L2.St) (H : Hp), At ho F0 H0 F ps sl ms ex σ H → ∀ Z : Ends,
    (∀ sl' ms' F' ps' σ' H', O.nx sl' ms' → At ho F0 H0 F' ps' sl' ms' ex σ' H' → Z.nx σ' H') →
    (∀ v d F' H', O.rt d → Ext ho F0 H0 F' H' → (∀ h, ho = some h → Hand F' H' h) → Dn F' v d → Z.rt v H') →
    (∀ sl' ms' F' ps' σ' H', O.bk sl' ms' → At ho F0 H0 F' ps' sl' ms' ex σ' H' → Z.bk σ' H') →
    (∀ sl' ms' F' ps' σ' H', O.ct sl' ms' → At ho F0 H0 F' ps' sl' ms' ex σ' H' → Z.ct σ' H') → t Z σ H
section
variable {sl sl' : List Sl} {ms : List (List D)} {O : Out} {t u : TS} {te ta : TE} {R : D → Prop} {d : D}
theorem sr_seq (h : Sr sl ms t { O with nx := fun sl' ms' => Sr sl' ms' u O }) : Sr sl ms (tSeq t u) O := fun ho F0 H0 F ps ex σ H a Z n r b c =>
  h ho F0 H0 F ps ex σ H a { Z with nx := u Z } (fun sl' ms' F' ps' σ' H' k a' => k ho F0 H0 F' ps' ex σ' H' a' Z n r b c) r b c
theorem sr_next (h : O.nx sl ms) : Sr sl ms tNext O := fun ho F0 H0 F ps ex σ H a Z n r b c => n sl ms F ps σ H h a
theorem sr_cont (h : O.ct sl ms) : Sr sl ms tCont O := fun ho F0 H0 F ps ex σ H a Z n r b c => c sl ms F ps σ H h a
theorem sr_break (h : O.bk sl ms) : Sr sl ms tBreak O := fun ho F0 H0 F ps ex σ H a Z n r b c => b sl ms F ps σ H h a
theorem sr_set {i : Nat} (h : Er sl ms te R) (k : ∀ d, R d → O.nx (sl.set i (.d d)) ms) : Sr sl ms (tAsg te (gName i)) O := fun ho F0 H0 F ps ex σ H a Z n r b c =>
  h ho F0 H0 F ps ex σ H a _ fun v d F' H' rd a' => n _ _ F' ps _ H' (k d rd) (a'.pop.store i ⟨v, rfl, a'.top⟩)
theorem sr_setL {i : Nat} {R : List D → Prop} (h : El sl ms te R) (k : ∀ ds, R ds → O.nx (sl.set i (.m ms.length)) (ms ++ [ds])) : Sr sl ms (tAsg te (gName i)) O := fun ho F0 H0 F ps ex σ H a Z n r b c =>
  h ho F0 H0 F ps ex σ H a _ fun p ds F' H' rd a' => n _ _ F' _ _ H' (k ds rd) (a'.store i ⟨p, rfl, by rw [← a.len, List.getElem?_append_right (Nat.le_refl _)]; simp⟩)
theorem sr_if {tc : TT} {B : Bool → Prop} (h : Et sl ms tc B) (h1 : B true → Sr sl ms t O) (h2 : B false → Sr sl ms u O) : Sr sl ms (tIfS tc t u) O := fun ho F0 H0 F ps ex σ H a Z n r b c =>
  h ho F0 H0 F ps ex σ H a _ fun x F' H' rb a' => by
    cases x with
    | true => exact h1 rb ho F0 H0 F' ps ex σ H' a' Z n r b c
    | false => exact h2 rb ho F0 H0 F' ps ex σ H' a' Z n r b c
theorem sr_ret (h : Er sl ms te R) (k : ∀ d, R d → O.rt d) : Sr sl ms (tRet te) O := fun ho F0 H0 F ps ex σ H a Z n r b c =>
  h ho F0 H0 F ps ex σ H a _ fun v d F' H' rd a' => r v d F' H' (k d rd) a'.ext a'.hand a'.top
theorem sr_retN (k : O.rt .non) : Sr sl ms tRetN O := fun ho F0 H0 F ps ex σ H a Z n r b c => r .non .non F H k a.ext a.hand .non
theorem sr_drop (h : Er sl ms te R) (k : O.nx sl ms) : Sr sl ms (tDrop te) O := fun ho F0 H0 F ps ex σ H a Z n r b c =>
  h ho F0 H0 F ps ex σ H a _ fun v d F' H' rd a' => n _ _ F' ps _ H' k a'.pop
theorem Sr.mono {O' : Out} (h : Sr sl ms t O) (k1 : ∀ s m, O.nx s m → O'.nx s m) (k2 : ∀ d, O.rt d → O'.rt d) (k3 : ∀ s m, O.bk s m → O'.bk s m) (k4 : ∀ s m, O.ct s m → O'.ct s m) : Sr sl ms t O' := fun ho F0 H0 F ps ex σ H a Z n r b c =>
  h ho F0 H0 F ps ex σ H a Z (fun s m F' ps' σ' H' e a' => n s m F' ps' σ' H' (k1 s m e) a') (fun v d F' H' e => r v d F' H' (k2 d e)) (fun s m F' ps' σ' H' e a' => b s m F' ps' σ' H' (k3 s m e) a') (fun s m F' ps' σ' H' e a' => c s m F' ps' σ' H' (k4 s m e) a')

/-! ### lists of one's own -/
theorem At.ml {ho : Option Addr} {F0 H0 F H : Hp} {ps : List Addr} {ex : List (V × D)} {σ : L2.St} {i k : Nat} {ds : List D} (a : At ho F0 H0 F ps sl ms ex σ H) (hs : sl[i]? = some (.m k)) (hm : ms[k]? = some ds) :
    ∃ p xs, σ[i]? = some (some (.ref p)) ∧ ps[k]? = some p ∧ H p = some (.lst xs) ∧ DnL F xs ds := by
  obtain ⟨o, e, p, rfl, hp⟩ := a.slo i _ hs
  obtain ⟨_, _, _, xs, h1, h2⟩ := a.mu k p ds hp hm
  exact ⟨p, xs, e, hp, h1, h2⟩
variable {K : PySem.W.Frag}
/-- x.append(e) -/
theorem sr_app {i k : Nat} {ds : List D} (hs : sl[i]? = some (.m k)) (hm : ms[k]? = some ds) (h : Er sl ms te R) (hl : ds.length < 100000) (kk : ∀ d, R d → O.nx sl (ms.set k (ds ++ [d]))) :
    Sr sl ms (tDrop (tBM K "list" rAppend (tVar i) (tCons te tNil))) O := fun ho F0 H0 F ps ex σ H a Z n r b c => by
  obtain ⟨p, xs, e, hp, h1, h2⟩ := a.ml hs hm
  refine ⟨_, e, .inl ⟨rfl, _, .inl (.inl h1)⟩, h ho F0 H0 F ps ex σ H a _ fun v d F' H' rd a' => ?_⟩
  obtain ⟨p', ys, e', hp', h1', h2'⟩ := a'.ml hs hm
  rw [hp] at hp'; cases hp'
  exact ⟨p, ys, v, rfl, rfl, h1', by rw [h2'.len]; exact Nat.lt_trans hl (by decide), n _ _ F' ps _ _ (kk d rd) (a'.pop.put hp (h2'.app (.cons a'.top .nil)))⟩
/-- len, an item, the sum of a list of one's own -/
theorem ed_lenM {i k : Nat} {ds : List D} (hs : sl[i]? = some (.m k)) (hm : ms[k]? = some ds) : Ed sl ms (tCB (fun xs H Q => ∃ p ys, xs = [.ref p] ∧ (SqL K H p ys ∨ SqT K H p ys) ∧ Q (.int ys.length) H) (tCons (tVar i) tNil)) (.int ds.length) := fun ho F0 H0 F ps ex σ H a Q q => by
  obtain ⟨p, xs, e, hp, h1, h2⟩ := a.ml hs hm
  exact ⟨_, e, p, xs, rfl, .inl (.inl (.inl h1)), by rw [h2.len]; exact q _ _ F H rfl (a.push (.int _))⟩
theorem ed_sumM {i k : Nat} {ns : List Int} (hs : sl[i]? = some (.m k)) (hm : ms[k]? = some (ns.map D.int)) : Ed sl ms (tCB (rSum K) (tCons (tVar i) tNil)) (.int ns.sum) := fun ho F0 H0 F ps ex σ H a Q q => by
  obtain ⟨p, xs, e, hp, h1, h2⟩ := a.ml hs hm
  rw [DnL.ints ns h2] at h1
  exact ⟨_, e, p, ns, rfl, .inl (.inl h1), q _ _ F H rfl (a.push (.int _))⟩
theorem er_ixM {i k : Nat} {ds : List D} {tb : TE} {Rb : D → Prop} (hs : sl[i]? = some (.m k)) (hm : ms[k]? = some ds) (hb : Er sl ms tb Rb) (kk : ∀ x, Rb x → ∃ (n : Int) (d : D), x = .int n ∧ L2.atI ds n = some d ∧ R d) : Er sl ms (tOp (rIxL K) (tVar i) tb) R := fun ho F0 H0 F ps ex σ H a Q q => by
  obtain ⟨p, xs, e, hp, h1, h2⟩ := a.ml hs hm
  refine ⟨_, e, hb ho F0 H0 F ps ex σ H a _ fun v d F' H' rd a' => ?_⟩
  obtain ⟨p', ys, e', hp', h1', h2'⟩ := a'.ml hs hm
  rw [hp] at hp'; cases hp'
  obtain ⟨n, d', rfl, e1, r1⟩ := kk d rd
  cases a'.top
  obtain ⟨x, e2, e3⟩ := h2'.atI e1
  exact ⟨p, ys, n, x, rfl, rfl, .inl (.inl h1'), e2, q x d' F' H' r1 (a'.pop.push e3)⟩
/-- tuple(xs), xs of one's own; the list itself, from now on known for good -/
theorem ed_tupleM {i k : Nat} {ds : List D} (hs : sl[i]? = some (.m k)) (hm : ms[k]? = some ds) : Ed sl ms (tCB (fun xs H Q => ∃ p ys, xs = [.ref p] ∧ ((SqL K H p ys ∧ ∀ l, H l = none → Q (.ref l) (upd H l (.tup ys))) ∨ (SqT K H p ys ∧ Q (.ref p) H))) (tCons (tVar i) tNil)) (.tup ds) := fun ho F0 H0 F ps ex σ H a Q q => by
  obtain ⟨p, xs, e, hp, h1, h2⟩ := a.ml hs hm
  exact ⟨_, e, p, xs, rfl, .inl ⟨.inl (.inl h1), fun l hl => q _ _ _ _ rfl ((a.laid hl).push (.tup upd_same (h2.mono (Ex.new (a.fh.none hl)))))⟩⟩
theorem rc_tupleL {ds : List D} : Rc (fun xs H Q => ∃ p ys, xs = [.ref p] ∧ ((SqL K H p ys ∧ ∀ l, H l = none → Q (.ref l) (upd H l (.tup ys))) ∨ (SqT K H p ys ∧ Q (.ref p) H))) [.lst ds] (· = .tup ds) := fun F H vs eh hl Q q => by
  cases hl with
  | cons hx hr =>
    cases hr
    cases hx with
    | lst ha hl => exact ⟨_, _, rfl, .inl ⟨sq_l eh ha, fun l hn => q _ _ _ _ rfl (Ext.new eh hn) (.tup upd_same (hl.mono (Ex.new (eh.none hn))))⟩⟩
theorem rc_tupleT {ds : List D} : Rc (fun xs H Q => ∃ p ys, xs = [.ref p] ∧ ((SqL K H p ys ∧ ∀ l, H l = none → Q (.ref l) (upd H l (.tup ys))) ∨ (SqT K H p ys ∧ Q (.ref p) H))) [.tup ds] (· = .tup ds) := fun F H vs eh hl Q q => by
  cases hl with
  | cons hx hr =>
    cases hr
    cases hx with
    | tup ha hl => exact ⟨_, _, rfl, .inr ⟨sq_t eh ha, q _ _ F H rfl (Ext.refl eh) (.tup ha hl)⟩⟩
/-- list(xs): a new list -/
theorem el_list {x : D} {ds : List D} (h : Ed sl ms ta x) (hx : x = .tup ds ∨ x = .lst ds) : El sl ms (tCB (fun xs H Q => ∃ p ys, xs = [.ref p] ∧ (SqL K H p ys ∨ SqT K H p ys) ∧ ∀ l, H l = none → Q (.ref l) (upd H l (.lst ys))) (tCons ta tNil)) (· = ds) := fun ho F0 H0 F ps ex σ H a Q q =>
  h ho F0 H0 F ps ex σ H a _ fun v d F1 H1 e a1 => by
    subst e
    rcases hx with rfl | rfl
    · cases a1.top with
      | tup ha hl => exact ⟨_, _, rfl, .inr (sq_t a1.fh ha), fun l hn => q l ds F1 _ rfl (a1.pop.own hn hl)⟩
    · cases a1.top with
      | lst ha hl => exact ⟨_, _, rfl, .inl (sq_l a1.fh ha), fun l hn => q l ds F1 _ rfl (a1.pop.own hn hl)⟩
/-- a list of one's own is handed back -/
theorem sr_retM {i k : Nat} {ds : List D} (hs : sl[i]? = some (.m k)) (hm : ms[k]? = some ds) (kk : O.rt (.lst ds)) : Sr sl ms (tRet (tVar i)) O := fun ho F0 H0 F ps ex σ H a Z n r b c => by
  obtain ⟨p, xs, e, hp, h1, h2⟩ := a.ml hs hm
  obtain ⟨m1, m2, m3, _⟩ := a.mu k p ds hp hm
  have ef : Ex F (upd F p (.lst xs)) := Ex.new m2
  refine ⟨_, e, r _ _ (upd F p (.lst xs)) H kk ⟨a.ext.ff.trans ef, fun b o q => ?_, a.ext.hh, fun b h0 hb1 => ?_⟩ (fun h hh => ?_) (.lst upd_same (h2.mono ef))⟩
  · by_cases hb : b = p
    · subst hb; rw [upd_same] at q; cases q; exact h1
    · rw [upd_ne hb] at q; exact a.fh b o q
  · have hb : b ≠ p := fun z => by subst z; exact hb1 m1
    rw [upd_ne hb]; exact a.ext.dj b h0 hb1
  · obtain ⟨f, c, cs, i1, i2, i3, i4, q, r, rest⟩ := a.hand h hh
    have : h ≠ p := fun z => by subst z; exact m3 hh
    exact ⟨by rw [upd_ne this]; exact f, c, cs, i1, i2, i3, i4, q, ef c _ r, rest⟩

end
end E
set_option Elab.async false
set_option linter.all false
set_option maxRecDepth 100000
/-! The weakest readings of the text; targets, what is walked. -/
namespace E
open PySem PySem.Spec PyProof.Rows L2

section
variable (X : Cx)
def wE (e : Expr) : TE := fun σ H Q => ∀ pins s, Inv X pins σ H s → wpAny (model X.prog X.w) X.A (eval e X.env) (EP X pins σ Q) X.xe s
def wT (e : Expr) : TT := fun σ H Q => ∀ pins s, Inv X pins σ H s → wpAny (model X.prog X.w) X.A (isTrue e X.env (eval e X.env)) (TP X pins σ Q) X.xe s
def wA (es : List Expr) : TA := fun σ H Q => ∀ pos pins s, Inv X pins σ H s → wpAny (model X.prog X.w) X.A (spliced (backTo pos (starEach es X.env))) (AP X pins σ Q) X.xe s
def wS (st : Stmt) : TS := fun D σ H => ∀ pins s, Inv X pins σ H s → wpAny (model X.prog X.w) X.A (exec st X.env) (SP X pins D) X.xe s
def wSs (st : List Stmt) : TS := fun D σ H => ∀ pins s, Inv X pins σ H s → wpAny (model X.prog X.w) X.A (execs st X.env) (SP X pins D) X.xe s
def wG (tg : Expr) : TG := fun v σ H Q => ∀ pins s u, Inv X pins σ H s → RelV v u → wpAny (model X.prog X.w) X.A (assign tg X.env u) (fun _ s' => ∃ σ' H', Inv X pins σ' H' s' ∧ Q σ' H') X.xe s
def wGs (ts : List Expr) : TGs := fun vs σ H Q => ∀ pins s us, Inv X pins σ H s → Vals vs us → wpAny (model X.prog X.w) X.A (assignInOrder ((assignEach ts X.env).map (·.2)) us) (fun _ s' => ∃ σ' H', Inv X pins σ' H' s' ∧ Q σ' H') X.xe s
def wI (tg iter : Expr) : TI := fun σ H R => ∀ pins s, Inv X pins σ H s → wpAny (model X.prog X.w) X.A (eval iter X.env) (fun v s1 => wpAny (model X.prog X.w) X.A (pyIter v) (PIE X pins σ tg R) X.xe s1) X.xe s
def wO (e : Option Expr) : TO := fun σ H Q => ∀ pins s, Inv X pins σ H s → wpAny (model X.prog X.w) X.A (evalPart e X.env) (fun u s' => ∃ o H', Inv X pins σ H' s' ∧ IsPart u o ∧ Q o H') X.xe s
def wTs (ifs : List Expr) : TT := fun σ H Q => ∀ pins s, Inv X pins σ H s → wpAny (model X.prog X.w) X.A (forIn ifs true fun c r => if r = true then do let ok ← isTrue c X.env (eval c X.env); pure (ForInStep.yield ok) else pure (ForInStep.yield r)) (TP X pins σ Q) X.xe s
end
section
variable {X : Cx}
theorem pe_w {e : Expr} : PE X e (wE X e) := ⟨fun pins s _ _ _ I h => h pins s I⟩
theorem pt_w {e : Expr} : PT X e (wT X e) := ⟨fun pins s _ _ _ I h => h pins s I⟩
theorem pa_w {e : List Expr} : PA X e (wA X e) := ⟨fun pos pins s _ _ _ I h => h pos pins s I⟩
theorem ps_w {e : Stmt} : PS X e (wS X e) := ⟨fun pins s _ _ _ I h => h pins s I⟩
theorem pss_w {e : List Stmt} : PSs X e (wSs X e) := ⟨fun pins s _ _ _ I h => h pins s I⟩
theorem pg_w {e : Expr} : PG X e (wG X e) := ⟨fun pins s _ _ _ u _ I r h => h pins s u I r⟩
theorem pgs_w {e : List Expr} : PGs X e (wGs X e) := ⟨fun pins s _ _ _ us _ I r h => h pins s us I r⟩
theorem pi_w {tg e : Expr} : PI X tg e (wI X tg e) := ⟨fun pins s _ _ _ I h => h pins s I⟩
theorem po_w {e : Option Expr} : PO X e (wO X e) := ⟨fun pins s _ _ _ I h => h pins s I⟩
theorem pts_w {e : List Expr} : PTs X e (wTs X e) := ⟨fun pins s _ _ _ I h => h pins s I⟩
variable {sl sl' : List Sl} {ms : List (List D)} {R : D → Prop} {O : Out}
theorem Er.of {e : Expr} {t : TE} (h : PE X e t) (q : Er sl ms t R) : Er sl ms (wE X e) R := fun ho F0 H0 F ps ex σ H a Q k pins s I => h.run pins s σ H Q I (q ho F0 H0 F ps ex σ H a Q k)
theorem El.of {e : Expr} {t : TE} {R : List D → Prop} (h : PE X e t) (q : El sl ms t R) : El sl ms (wE X e) R := fun ho F0 H0 F ps ex σ H a Q k pins s I => h.run pins s σ H Q I (q ho F0 H0 F ps ex σ H a Q k)
theorem Et.of {e : Expr} {t : TT} {B : Bool → Prop} (h : PT X e t) (q : Et sl ms t B) : Et sl ms (wT X e) B := fun ho F0 H0 F ps ex σ H a Q k pins s I => h.run pins s σ H Q I (q ho F0 H0 F ps ex σ H a Q k)
theorem Et.ofs {e : List Expr} {t : TT} {B : Bool → Prop} (h : PTs X e t) (q : Et sl ms t B) : Et sl ms (wTs X e) B := fun ho F0 H0 F ps ex σ H a Q k pins s I => h.run pins s σ H Q I (q ho F0 H0 F ps ex σ H a Q k)
theorem Ea.of {e : List Expr} {t : TA} {R : List D → Prop} (h : PA X e t) (q : Ea sl ms t R) : Ea sl ms (wA X e) R := fun ho F0 H0 F ps ex σ H a Q k pos pins s I => h.run pos pins s σ H Q I (q ho F0 H0 F ps ex σ H a Q k)
theorem Sr.of {e : Stmt} {t : TS} (h : PS X e t) (q : Sr sl ms t O) : Sr sl ms (wS X e) O := fun ho F0 H0 F ps ex σ H a Z n r b c pins s I => h.run pins s σ H Z I (q ho F0 H0 F ps ex σ H a Z n r b c)
theorem Sr.ofs {e : List Stmt} {t : TS} (h : PSs X e t) (q : Sr sl ms t O) : Sr sl ms (wSs X e) O := fun ho F0 H0 F ps ex σ H a Z n r b c pins s I => h.run pins s σ H Z I (q ho F0 H0 F ps ex σ H a Z n r b c)
end

/-! ### the forms with the wish behind -/
section
variable {sl sl' : List Sl} {ms : List (List D)} {R : D → Prop} {O : Out} {ta tb tc : TE} {d : D}
theorem Er.done {t : TE} (h : Ed sl ms t d) (k : R d) : Er sl ms t R := h.mono fun _ e => by rw [e]; exact k
theorem er_op' {r : L2.R2} (h : Er sl ms ta fun x => Er sl ms tb fun y => R2 r x y R) : Er sl ms (tOp r ta tb) R := fun ho F0 H0 F ps ex σ H a Q q =>
  h ho F0 H0 F ps ex σ H a _ fun v d F1 H1 rd a1 => rd ho F0 H0 F1 ps _ σ H1 a1 _ fun w e F2 H2 re a2 =>
    re F2 H2 v w a2.fh a2.pop.top a2.top Q fun u g F3 H3 rg x du => q u g F3 H3 rg ((a2.pop.pop.step0 x).push du)
theorem er_un' {r : V → Hp → VK → Prop} (h : Er sl ms ta fun x => R1 r x R) : Er sl ms (tUn r ta) R := er_un h fun _ k => k
theorem R1.done {r : V → Hp → VK → Prop} {x : D} (h : R1 r x (· = d)) (k : R d) : R1 r x R := fun F H v e hv Q q => h F H v e hv Q fun u d' F' H' ed => q u d' F' H' (by rw [ed]; exact k)
theorem R2.done {r : L2.R2} {x y : D} (h : R2 r x y (· = d)) (k : R d) : R2 r x y R := fun F H v w e hv hw Q q => h F H v w e hv hw Q fun u d' F' H' ed => q u d' F' H' (by rw [ed]; exact k)
theorem Rc.done {r : List V → Hp → VK → Prop} {xs : List D} (h : Rc r xs (· = d)) (k : R d) : Rc r xs R := fun F H vs e hv Q q => h F H vs e hv Q fun u d' F' H' ed => q u d' F' H' (by rw [ed]; exact k)
theorem ea_cons' {tr : TA} {Rs : List D → Prop} (h : Er sl ms ta fun d => Ea sl ms tr fun ds => Rs (d :: ds)) : Ea sl ms (tCons ta tr) Rs := fun ho F0 H0 F ps ex σ H a Q q =>
  h ho F0 H0 F ps ex σ H a _ fun v d F1 H1 rd a1 => rd ho F0 H0 F1 ps _ σ H1 a1 _ fun vs es F2 H2 re a2 l => q (v :: vs) (d :: es) F2 H2 re a2.pop (.cons a2.top l)
theorem ea_nil' {Rs : List D → Prop} (h : Rs []) : Ea sl ms tNil Rs := ea_nil.mono fun _ e => by rw [e]; exact h
theorem er_tup' {tr : TA} (h : Ea sl ms tr fun ds => ds.length ≤ 100000 ∧ R (.tup ds)) : Er sl ms (tTup tr) R := (er_tup h fun _ e => e.1).mono fun d ⟨ds, e, _, r⟩ => by rw [e]; exact r
theorem el_lst' {tr : TA} {Rl : List D → Prop} (h : Ea sl ms tr fun ds => ds.length ≤ 100000 ∧ Rl ds) : El sl ms (tLst tr) Rl := (el_lst h fun _ e => e.1).mono fun _ e => e.2
theorem El.er' (h : El sl ms ta fun ds => R (.lst ds)) : Er sl ms ta R := h.er.mono fun d ⟨ds, r, e⟩ => by rw [e]; exact r
theorem er_cb' {r : List V → Hp → VK → Prop} {tr : TA} (h : Ea sl ms tr fun ds => Rc r ds R) : Er sl ms (tCB r tr) R := er_cb h fun _ k => k
theorem et_B' {B : Bool → Prop} (h : Er sl ms ta fun d => ∃ b, d = .bl b ∧ B b) : Et sl ms (tB ta) B := et_B h
theorem er_if' {t : TT} (h : Et sl ms t fun b => (b = true → Er sl ms ta R) ∧ (b = false → Er sl ms tb R)) : Er sl ms (tIf t ta tb) R := er_if h (fun k => k.1 rfl) (fun k => k.2 rfl)
theorem el_if' {t : TT} {R : List D → Prop} (h : Et sl ms t fun b => (b = true → El sl ms ta R) ∧ (b = false → El sl ms tb R)) : El sl ms (tIf t ta tb) R := el_if h (fun k => k.1 rfl) (fun k => k.2 rfl)
theorem er_andV (h : Er sl ms ta fun d => ∃ b, d = .bl b ∧ (b = true → Er sl ms tb R) ∧ (b = false → R (.bl false))) : Er sl ms (tAndV ta tb) R := fun ho F0 H0 F ps ex σ H a Q q =>
  h ho F0 H0 F ps ex σ H a _ fun v d F1 H1 ⟨b, e, k1, k2⟩ a1 => by
    subst e
    cases a1.top
    refine ⟨b, rfl, ?_⟩
    cases b with
    | true => exact k1 rfl ho F0 H0 F1 ps ex σ H1 a1.pop Q q
    | false => exact q _ _ F1 H1 (k2 rfl) a1
theorem er_orV (h : Er sl ms ta fun d => ∃ b, d = .bl b ∧ (b = false → Er sl ms tb R) ∧ (b = true → R (.bl true))) : Er sl ms (tOrV ta tb) R := fun ho F0 H0 F ps ex σ H a Q q =>
  h ho F0 H0 F ps ex σ H a _ fun v d F1 H1 ⟨b, e, k1, k2⟩ a1 => by
    subst e
    cases a1.top
    refine ⟨b, rfl, ?_⟩
    cases b with
    | false => exact k1 rfl ho F0 H0 F1 ps ex σ H1 a1.pop Q q
    | true => exact q _ _ F1 H1 (k2 rfl) a1
theorem er_notV (h : Er sl ms ta fun d => ∃ b, d = .bl b ∧ R (.bl !b)) : Er sl ms (tNotV ta) R := fun ho F0 H0 F ps ex σ H a Q q =>
  h ho F0 H0 F ps ex σ H a _ fun v d F1 H1 ⟨b, e, k⟩ a1 => by
    subst e
    cases a1.top
    exact ⟨b, rfl, q _ _ F1 H1 k (a1.pop.push (.bl _))⟩
theorem et_and' {t u : TT} {C : Bool → Prop} (h : Et sl ms t fun b => (b = true → Et sl ms u C) ∧ (b = false → C false)) : Et sl ms (tAnd t u) C := fun ho F0 H0 F ps ex σ H a Q q =>
  h ho F0 H0 F ps ex σ H a _ fun b F1 H1 rb a1 => by
    cases b with
    | true => exact rb.1 rfl ho F0 H0 F1 ps ex σ H1 a1 Q q
    | false => exact q false F1 H1 (rb.2 rfl) a1
theorem et_or' {t u : TT} {C : Bool → Prop} (h : Et sl ms t fun b => (b = false → Et sl ms u C) ∧ (b = true → C true)) : Et sl ms (tOr t u) C := fun ho F0 H0 F ps ex σ H a Q q =>
  h ho F0 H0 F ps ex σ H a _ fun b F1 H1 rb a1 => by
    cases b with
    | false => exact rb.1 rfl ho F0 H0 F1 ps ex σ H1 a1 Q q
    | true => exact q true F1 H1 (rb.2 rfl) a1
theorem et_not' {t : TT} {B : Bool → Prop} (h : Et sl ms t fun b => B (!b)) : Et sl ms (tNot t) B := fun ho F0 H0 F ps ex σ H a Q q =>
  h ho F0 H0 F ps ex σ H a _ fun b F1 H1 rb a1 => q (!b) F1 H1 rb a1
/-- a op b op' c, the first two tested -/
theorem er_chain {r r' : L2.R2} (h : Er sl ms ta fun x => Er sl ms tb fun y => ∃ b, R2 r x y (· = .bl b) ∧ (b = true → Er sl ms tc fun z => R2 r' y z R) ∧ (b = false → R (.bl false))) : Er sl ms (tChain r r' ta tb tc) R := fun ho F0 H0 F ps ex σ H a Q q =>
  h ho F0 H0 F ps ex σ H a _ fun v d F1 H1 rd a1 => rd ho F0 H0 F1 ps _ σ H1 a1 _ fun w e F2 H2 ⟨b, re, k1, k2⟩ a2 =>
    re F2 H2 v w a2.fh a2.pop.top a2.top _ fun u g F3 H3 rg x du => by
      subst rg
      cases du
      refine ⟨b, rfl, ?_⟩
      have a3 := a2.step0 x
      cases b with
      | true =>
        rw [if_pos rfl]
        exact k1 rfl ho F0 H0 F3 ps _ σ H3 a3 _ fun z f F4 H4 rf a4 => rf F4 H4 w z a4.fh a4.pop.top a4.top Q fun u' g' F5 H5 rg' x' du' => q u' g' F5 H5 rg' ((a4.pop.pop.pop.step0 x').push du')
      | false =>
        rw [if_neg Bool.false_ne_true]
        exact q _ _ F3 H3 (k2 rfl) (a3.pop.pop.push (.bl false))
/-- a statement -/
theorem sr_set' {i : Nat} (h : Er sl ms ta fun d => O.nx (sl.set i (.d d)) ms) : Sr sl ms (tAsg ta (gName i)) O := sr_set h fun _ k => k
theorem sr_setL' {i : Nat} (h : El sl ms ta fun ds => O.nx (sl.set i (.m ms.length)) (ms ++ [ds])) : Sr sl ms (tAsg ta (gName i)) O := sr_setL h fun _ k => k
theorem sr_ret' (h : Er sl ms ta O.rt) : Sr sl ms (tRet ta) O := sr_ret h fun _ k => k
theorem sr_drop' (h : Er sl ms ta fun _ => O.nx sl ms) : Sr sl ms (tDrop ta) O := fun ho F0 H0 F ps ex σ H a Z n r b c =>
  h ho F0 H0 F ps ex σ H a _ fun v d F' H' rd a' => n _ _ F' ps _ H' rd a'.pop
theorem sr_if' {t u : TS} {tc : TT} (h : Et sl ms tc fun b => (b = true → Sr sl ms t O) ∧ (b = false → Sr sl ms u O)) : Sr sl ms (tIfS tc t u) O := sr_if h (fun k => k.1 rfl) (fun k => k.2 rfl)
theorem sr_app' {K : PySem.W.Frag} {i k : Nat} {ds : List D} (hs : sl[i]? = some (.m k)) (hm : ms[k]? = some ds) (hl : ds.length < 100000) (h : Er sl ms ta fun d => O.nx sl (ms.set k (ds ++ [d]))) :
    Sr sl ms (tDrop (tBM K "list" rAppend (tVar i) (tCons ta tNil))) O := sr_app hs hm h hl fun _ k => k
end

/-! ### slots forgotten -/
section
variable {ho : Option Addr} {F0 H0 F H : Hp} {ps : List Addr} {sl sl' : List Sl} {ms : List (List D)} {ex : List (V × D)} {σ σ' : L2.St}
/-- sl' knows less -/
def Less (sl' sl : List Sl) : Prop := sl'.length = sl.length ∧ ∀ (i : Nat) (s : Sl), sl'[i]? = some s → s = .u ∨ sl[i]? = some s
theorem At.less (a : At ho F0 H0 F ps sl ms ex σ H) (h : Less sl' sl) : At ho F0 H0 F ps sl' ms ex σ H :=
  ⟨a.ext, a.nd, a.len, a.mu, a.sln.trans h.1.symm, fun i s e => by
    rcases h.2 i s e with rfl | q
    · have hi := (List.getElem?_eq_some_iff.mp e).1
      exact ⟨σ[i]'(by rw [a.sln, ← h.1]; exact hi), List.getElem?_eq_getElem _, trivial⟩
    · exact a.slo i s q, a.pen, a.hand⟩
theorem At.other {vs : List Nat} (a : At ho F0 H0 F ps sl ms ex σ H) (hl : σ'.length = σ.length) (hu : ∀ j ∈ vs, ∀ s, sl[j]? = some s → s = .u) (h : ∀ j, j ∉ vs → σ'[j]? = σ[j]?) : At ho F0 H0 F ps sl ms ex σ' H :=
  ⟨a.ext, a.nd, a.len, a.mu, hl.trans a.sln, fun i s e => by
    by_cases hi : i ∈ vs
    · have := hu i hi s e
      subst this
      have hi := (List.getElem?_eq_some_iff.mp e).1
      exact ⟨σ'[i]'(by rw [hl, a.sln]; exact hi), List.getElem?_eq_getElem _, trivial⟩
    · rw [h i hi]; exact a.slo i s e, a.pen, a.hand⟩
theorem Sr.less {t : TS} {O : Out} (h : Sr sl' ms t O) (l : Less sl' sl) : Sr sl ms t O := fun ho F0 H0 F ps ex σ H a => h ho F0 H0 F ps ex σ H (a.less l)
end

/-! ### targets -/
structure Eg (sl : List Sl) (g : TG) (d : D) (tv : List Nat) (sl' : List Sl) : Prop where
  len : sl'.length = sl.length
  st : ∀ j, j ∉ tv → sl'[j]? = sl[j]?
  run : ∀ (ms : List (List D)) (ho : Option Addr) (F0 H0 F : Hp) (ps : List Addr) (ex : List (V × D)) (σ : L2.St) (H : Hp) (v : V), At ho F0 H0 F ps sl ms ex σ H → Dn F v d →
    ∀ Q : L2.St → Hp → Prop, (∀ F' σ' H', Ex F F' → At ho F0 H0 F' ps sl' ms ex σ' H' → (∀ j, j ∉ tv → σ'[j]? = σ[j]?) → Q σ' H') → g v σ H Q
structure Egs (sl : List Sl) (g : TGs) (ds : List D) (tv : List Nat) (sl' : List Sl) : Prop where
  len : sl'.length = sl.length
  st : ∀ j, j ∉ tv → sl'[j]? = sl[j]?
  run : ∀ (ms : List (List D)) (ho : Option Addr) (F0 H0 F : Hp) (ps : List Addr) (ex : List (V × D)) (σ : L2.St) (H : Hp) (vs : List V), At ho F0 H0 F ps sl ms ex σ H → DnL F vs ds →
    ∀ Q : L2.St → Hp → Prop, (∀ F' σ' H', Ex F F' → At ho F0 H0 F' ps sl' ms ex σ' H' → (∀ j, j ∉ tv → σ'[j]? = σ[j]?) → Q σ' H') → g vs σ H Q
section
variable {sl sl' : List Sl} {g : TG} {d : D} {K : PySem.W.Frag} {X : Cx}
theorem eg_name {i : Nat} : Eg sl (gName i) d [i] (sl.set i (.d d)) := ⟨List.length_set, fun j hj => by rw [List.getElem?_set_ne (fun z => hj (by simp [z]))], fun ms ho F0 H0 F ps ex σ H v a h Q q =>
  q F _ H (Ex.refl F) (a.store i ⟨v, rfl, h⟩) fun j hj => by rw [List.getElem?_set_ne (fun z => hj (by simp [z]))]⟩
theorem egs_nil : Egs sl gNil [] [] sl := ⟨rfl, fun _ _ => rfl, fun ms ho F0 H0 F ps ex σ H vs a h Q q => by
  cases h
  exact ⟨rfl, q F σ H (Ex.refl F) a fun _ _ => rfl⟩⟩
theorem egs_cons {gs : TGs} {ds : List D} {tv tw : List Nat} {sl1 sl2 : List Sl} (h : Eg sl g d tv sl1) (h' : Egs sl1 gs ds tw sl2) : Egs sl (gCons g gs) (d :: ds) (tv ++ tw) sl2 :=
  ⟨h'.len.trans h.len, fun j hj => by rw [h'.st j fun z => hj (List.mem_append_right _ z), h.st j fun z => hj (List.mem_append_left _ z)], fun ms ho F0 H0 F ps ex σ H vs a l Q q => by
  cases l with
  | cons hx hr =>
    exact ⟨_, _, rfl, h.run ms ho F0 H0 F ps ex σ H _ a hx _ fun F1 σ1 H1 e1 a1 k1 => h'.run ms ho F0 H0 F1 ps ex σ1 H1 _ a1 (hr.mono e1) _ fun F2 σ2 H2 e2 a2 k2 =>
      q F2 σ2 H2 (e1.trans e2) a2 fun j hj => by
        rw [k2 j fun z => hj (List.mem_append_right _ z), k1 j fun z => hj (List.mem_append_left _ z)]⟩⟩
theorem eg_tup {gs : TGs} {ds : List D} {n : Nat} {tv : List Nat} {sl1 : List Sl} (hn : ds.length = n) (h : Egs sl gs ds tv sl1) : Eg sl (gTup K n gs) (.tup ds) tv sl1 := ⟨h.len, h.st, fun ms ho F0 H0 F ps ex σ H v a hv Q q => by
  cases hv with
  | tup ha hl => exact ⟨_, _, rfl, sq_t a.fh ha, by rw [hl.len]; exact hn, h.run ms ho F0 H0 F ps ex σ H _ a hl Q q⟩⟩
theorem Eg.of {e : Expr} {g : TG} {tv : List Nat} (h : PG X e g) (q : Eg sl g d tv sl') : Eg sl (wG X e) d tv sl' := ⟨q.len, q.st, fun ms ho F0 H0 F ps ex σ H v a dv Q k pins s u I r => h.run pins s σ H v u Q I r (q.run ms ho F0 H0 F ps ex σ H v a dv Q k)⟩
theorem Egs.of {e : List Expr} {g : TGs} {ds : List D} {tv : List Nat} (h : PGs X e g) (q : Egs sl g ds tv sl') : Egs sl (wGs X e) ds tv sl' := ⟨q.len, q.st, fun ms ho F0 H0 F ps ex σ H v a dv Q k pins s u I r => h.run pins s σ H v u Q I r (q.run ms ho F0 H0 F ps ex σ H v a dv Q k)⟩
end

/-! ### what is walked -/
/-- fx: the list of one's own that is walked -/
def Walk (fx : Option (Nat × List D)) (J : It) (ps : List Addr) (pins : List (V × D)) (items : List D) : Prop := ∀ F1 H1, Ex F1 H1 → (∀ x ∈ pins, Dn F1 x.1 x.2) →
  (∀ k ds, fx = some (k, ds) → ∃ p xs, ps[k]? = some p ∧ H1 p = some (.lst xs) ∧ DnL F1 xs ds) →
  (∀ i d, items[i]? = some d → J.go i H1 ∧ ∀ x H2, J.yld i H1 x H2 → ∃ F2, Ext none F1 H1 F2 H2 ∧ Dn F2 x d) ∧ J.stop items.length H1
def Ei (sl : List Sl) (ms : List (List D)) (wi : TI) (fx : Option (Nat × List D)) (K : List D → Prop) : Prop :=
  (∀ k ds, fx = some (k, ds) → ms[k]? = some ds) ∧ ∀ (ho : Option Addr) (F0 H0 F : Hp) (ps : List Addr) (ex : List (V × D)) (σ : L2.St) (H : Hp), At ho F0 H0 F ps sl ms ex σ H →
    ∀ R : It → Hp → Prop, (∀ J F' H' pins items, K items → At ho F0 H0 F' ps sl ms (pins ++ ex) σ H' → Walk fx J ps pins items → R J H') → wi σ H R
section
variable {sl sl' : List Sl} {ms : List (List D)} {ta tb : TE} {tr : TA} {K : List D → Prop} {Kf : PySem.W.Frag} {X : Cx}
theorem Ei.of {tg e : Expr} {w : TI} {fx : Option (Nat × List D)} (h : PI X tg e w) (q : Ei sl ms w fx K) : Ei sl ms (wI X tg e) fx K := ⟨q.1, fun ho F0 H0 F ps ex σ H a R k pins s I => h.run pins s σ H R I (q.2 ho F0 H0 F ps ex σ H a R k)⟩
theorem nofx {ms : List (List D)} : ∀ k ds, (none : Option (Nat × List D)) = some (k, ds) → ms[k]? = some ds := fun _ _ h => by cases h
theorem ei_tup (h : Er sl ms ta fun x => ∃ ds, x = .tup ds ∧ K ds) : Ei sl ms (iTup Kf ta) none K := ⟨nofx, fun ho F0 H0 F ps ex σ H a Rr q =>
  h ho F0 H0 F ps ex σ H a _ fun v d F1 H1 ⟨ds, e, k⟩ a1 => by
    subst e
    obtain ⟨p, xs, rfl, ha, hl⟩ : ∃ p xs, v = .ref p ∧ F1 p = some (.tup xs) ∧ DnL F1 xs ds := by cases a1.top with | tup ha hl => exact ⟨_, _, rfl, ha, hl⟩
    refine ⟨p, rfl, ⟨xs, sq_t a1.fh ha⟩, q _ F1 H1 [(.ref p, .tup ds)] ds k a1 fun F2 H2 e2 hp _ => ?_⟩
    cases hp _ (List.mem_singleton.mpr rfl) with
    | @tup _ ys _ ha hl =>
      refine ⟨fun i d hd => ?_, ys, sq_t e2 ha, by rw [hl.len]; exact Nat.le_refl _⟩
      obtain ⟨x, hx, hxd⟩ := hl.get i hd
      refine ⟨⟨ys, x, sq_t e2 ha, hx⟩, fun y H3 hy => ?_⟩
      obtain ⟨rfl, hy⟩ := hy
      have z := hy ys (sq_t e2 ha)
      rw [hx] at z; cases z
      exact ⟨F2, Ext.refl e2, hxd⟩⟩
theorem ei_lst (h : Er sl ms ta fun x => ∃ ds, x = .lst ds ∧ K ds) : Ei sl ms (iList Kf ta) none K := ⟨nofx, fun ho F0 H0 F ps ex σ H a Rr q =>
  h ho F0 H0 F ps ex σ H a _ fun v d F1 H1 ⟨ds, e, k⟩ a1 => by
    subst e
    obtain ⟨p, xs, rfl, ha, hl⟩ : ∃ p xs, v = .ref p ∧ F1 p = some (.lst xs) ∧ DnL F1 xs ds := by cases a1.top with | lst ha hl => exact ⟨_, _, rfl, ha, hl⟩
    refine ⟨p, rfl, ⟨xs, sq_l a1.fh ha⟩, q _ F1 H1 [(.ref p, .lst ds)] ds k a1 fun F2 H2 e2 hp _ => ?_⟩
    cases hp _ (List.mem_singleton.mpr rfl) with
    | @lst _ ys _ ha hl =>
      refine ⟨fun i d hd => ?_, ys, sq_l e2 ha, by rw [hl.len]; exact Nat.le_refl _⟩
      obtain ⟨x, hx, hxd⟩ := hl.get i hd
      refine ⟨⟨ys, x, sq_l e2 ha, hx⟩, fun y H3 hy => ?_⟩
      obtain ⟨rfl, hy⟩ := hy
      have z := hy ys (sq_l e2 ha)
      rw [hx] at z; cases z
      exact ⟨F2, Ext.refl e2, hxd⟩⟩
/-- 0, 1, .. as data -/
def numbers (n : Nat) : List D := (List.range n).map fun i => .int (i : Nat)
theorem numbers_len {n : Nat} : (numbers n).length = n := by simp [numbers]
theorem numbers_get {n i : Nat} {d : D} (h : (numbers n)[i]? = some d) : i < n ∧ d = .int (i : Nat) := by
  unfold numbers at h
  rw [List.getElem?_map] at h
  by_cases hi : i < n
  · rw [List.getElem?_range hi] at h
    exact ⟨hi, by cases h; rfl⟩
  · rw [List.getElem?_eq_none (by simpa using Nat.le_of_not_lt hi)] at h
    cases h
theorem ei_range (h : Er sl ms ta fun x => ∃ n : Nat, x = .int n ∧ n < 2 ^ 62 ∧ K (numbers n)) : Ei sl ms (iRng1 (tCons ta tNil)) none K := ⟨nofx, fun ho F0 H0 F ps ex σ H a Rr q =>
  h ho F0 H0 F ps ex σ H a _ fun v d F1 H1 ⟨n, e, hn, k⟩ a1 => by
    subst e
    cases a1.top
    refine ⟨n, rfl, by omega, by omega, q _ F1 H1 [] _ k a1.pop fun F2 H2 e2 _ _ => ⟨fun i d hd => ?_, ?_⟩⟩
    · obtain ⟨hi, rfl⟩ := numbers_get hd
      refine ⟨by show i < (n : Int).toNat; omega, fun x H3 hy => ?_⟩
      obtain ⟨rfl, rfl⟩ := hy
      exact ⟨F2, Ext.refl e2, by rw [Int.zero_add]; exact .int _⟩
    · show (n : Int).toNat ≤ (numbers n).length
      rw [numbers_len]
      omega⟩
/-- the pairs of enumerate -/
def enumFrom : Nat → List D → List D
  | _, [] => []
  | n, d :: ds => .tup [.int (n : Nat), d] :: enumFrom (n + 1) ds
abbrev enumD (ds : List D) : List D := enumFrom 0 ds
theorem enumFrom_len : ∀ {n : Nat} {ds : List D}, (enumFrom n ds).length = ds.length
  | _, [] => rfl
  | n, _ :: ds => congrArg (· + 1) (enumFrom_len (ds := ds))
theorem enumFrom_get : ∀ {n : Nat} {ds : List D} {i : Nat} {d : D}, (enumFrom n ds)[i]? = some d → ∃ x, ds[i]? = some x ∧ d = .tup [.int ((n + i : Nat) : Int), x]
  | _, [], _, _, h => by simp [enumFrom] at h
  | n, x :: ds, 0, d, h => by simp [enumFrom] at h; exact ⟨x, rfl, by rw [← h]; rfl⟩
  | n, x :: ds, i + 1, d, h => by
    obtain ⟨y, h1, h2⟩ := enumFrom_get (n := n + 1) (ds := ds) (i := i) (by simpa [enumFrom] using h)
    exact ⟨y, by simpa using h1, by rw [h2, show n + 1 + i = n + (i + 1) by omega]⟩
theorem enumD_get {ds : List D} {i : Nat} {d : D} (h : (enumD ds)[i]? = some d) : ∃ x, ds[i]? = some x ∧ d = .tup [.int (i : Nat), x] := by
  obtain ⟨x, h1, h2⟩ := enumFrom_get h
  exact ⟨x, h1, by rw [h2, Nat.zero_add]⟩
theorem ei_enumL (h : Er sl ms ta fun x => ∃ ds, x = .lst ds ∧ K (enumD ds)) : Ei sl ms (iEnum Kf (tCons ta tNil)) none K := ⟨nofx, fun ho F0 H0 F ps ex σ H a Rr q =>
  h ho F0 H0 F ps ex σ H a _ fun v d F1 H1 ⟨ds, e, k⟩ a1 => by
    subst e
    obtain ⟨p, xs, rfl, ha, hl⟩ : ∃ p xs, v = .ref p ∧ F1 p = some (.lst xs) ∧ DnL F1 xs ds := by cases a1.top with | lst ha hl => exact ⟨_, _, rfl, ha, hl⟩
    refine ⟨p, xs, rfl, sq_l a1.fh ha, q _ F1 H1 [(.ref p, .lst ds)] _ k a1 fun F2 H2 e2 hp _ => ?_⟩
    cases hp _ (List.mem_singleton.mpr rfl) with
    | @lst _ ys _ ha hl =>
      refine ⟨fun i d hd => ?_, ys, sq_l e2 ha, by rw [hl.len, enumFrom_len]; exact Nat.le_refl _⟩
      obtain ⟨z, hz, rfl⟩ := enumD_get hd
      obtain ⟨x, hx, hxd⟩ := hl.get i hz
      refine ⟨⟨ys, x, sq_l e2 ha, hx⟩, fun y H3 hy => ?_⟩
      obtain ⟨T, x', rfl, hT, rfl, hy⟩ := hy
      have w := hy ys (sq_l e2 ha)
      rw [hx] at w; cases w
      have ef := Ex.new (o := HO.tup [.int (i : Nat), x]) (e2.none hT)
      exact ⟨_, Ext.new e2 hT, .tup upd_same (.cons (.int _) (.cons (hxd.mono ef) .nil))⟩⟩
theorem ei_enumM {i k : Nat} {ds : List D} (hs : sl[i]? = some (.m k)) (hm : ms[k]? = some ds) (hk : K (enumD ds)) : Ei sl ms (iEnum Kf (tCons (tVar i) tNil)) (some (k, ds)) K := ⟨fun k' ds' e => by cases e; exact hm, fun ho F0 H0 F ps ex σ H a Rr q => by
  obtain ⟨p, xs, e, hp, h1, h2⟩ := a.ml hs hm
  refine ⟨_, e, p, xs, rfl, .inl (.inl h1), q _ F H [] _ hk a fun F2 H2 e2 _ hx => ?_⟩
  obtain ⟨p', ys, hp', hH, hl⟩ := hx k ds rfl
  rw [hp] at hp'; cases hp'
  refine ⟨fun i d hd => ?_, ys, .inl (.inl hH), by rw [hl.len, enumFrom_len]; exact Nat.le_refl _⟩
  obtain ⟨z, hz, rfl⟩ := enumD_get hd
  obtain ⟨x, hx, hxd⟩ := hl.get i hz
  refine ⟨⟨ys, x, .inl (.inl hH), hx⟩, fun y H3 hy => ?_⟩
  obtain ⟨T, x', rfl, hT, rfl, hy⟩ := hy
  have w := hy ys (.inl (.inl hH))
  rw [hx] at w; cases w
  have ef := Ex.new (o := HO.tup [.int (i : Nat), x]) (e2.none hT)
  exact ⟨_, Ext.new e2 hT, .tup upd_same (.cons (.int _) (.cons (hxd.mono ef) .nil))⟩⟩
/-- the pairs of zip -/
def zipD (ds es : List D) : List D := (ds.zip es).map fun p => .tup [p.1, p.2]
theorem zipD_get {ds es : List D} {i : Nat} {d : D} (h : (zipD ds es)[i]? = some d) : ∃ x y, ds[i]? = some x ∧ es[i]? = some y ∧ d = .tup [x, y] := by
  unfold zipD at h
  rw [List.getElem?_map] at h
  cases e : (ds.zip es)[i]? with
  | none => rw [e] at h; cases h
  | some p =>
    rw [e] at h
    cases h
    rw [List.getElem?_zip_eq_some] at e
    exact ⟨p.1, p.2, e.1, e.2, rfl⟩
theorem ei_zipT (h : Er sl ms ta fun x => Er sl ms tb fun y => ∃ ds es, x = .tup ds ∧ y = .tup es ∧ K (zipD ds es)) : Ei sl ms (RZ.iZipA Kf (tCons ta (tCons tb tNil))) none K := ⟨nofx, fun ho F0 H0 F ps ex σ H a Rr q =>
  h ho F0 H0 F ps ex σ H a _ fun v d F1 H1 h' a1 => h' ho F0 H0 F1 ps _ σ H1 a1 _ fun w d' F2 H2 ⟨ds, es, e, e', k⟩ a2 => by
    subst e e'
    obtain ⟨p, xs, rfl, ha, hl⟩ : ∃ p xs, v = .ref p ∧ F2 p = some (.tup xs) ∧ DnL F2 xs ds := by cases a2.pop.top with | tup ha hl => exact ⟨_, _, rfl, ha, hl⟩
    obtain ⟨p', xs', rfl, ha', hl'⟩ : ∃ p xs, w = .ref p ∧ F2 p = some (.tup xs) ∧ DnL F2 xs es := by cases a2.top with | tup ha hl => exact ⟨_, _, rfl, ha, hl⟩
    refine ⟨p, p', xs, xs', rfl, .inr ⟨sq_t a2.fh ha, sq_t a2.fh ha', q _ F2 H2 [(.ref p', .tup es), (.ref p, .tup ds)] _ k a2 fun F3 H3 e3 hp _ => ?_⟩⟩
    have hq := hp (.ref p, .tup ds) (by simp)
    cases hp (.ref p', .tup es) (by simp) with
    | @tup _ zs _ hb hm =>
      cases hq with
      | @tup _ ys _ ha hl =>
        refine ⟨fun i d hd => ?_, ys, zs, sq_t e3 ha, sq_t e3 hb, ?_⟩
        · obtain ⟨x, y, hx, hy, rfl⟩ := zipD_get hd
          obtain ⟨x, hx, hxd⟩ := hl.get i hx
          obtain ⟨y, hy, hyd⟩ := hm.get i hy
          refine ⟨⟨ys, zs, x, y, sq_t e3 ha, sq_t e3 hb, hx, hy⟩, fun u H4 hu => ?_⟩
          obtain ⟨T, x', y', rfl, hT, rfl, h1, h2⟩ := hu
          have w := h1 ys (sq_t e3 ha)
          rw [hx] at w; cases w
          have w := h2 zs (sq_t e3 hb)
          rw [hy] at w; cases w
          have ef := Ex.new (o := HO.tup [x, y]) (e3.none hT)
          exact ⟨_, Ext.new e3 hT, .tup upd_same (.cons (hxd.mono ef) (.cons (hyd.mono ef) .nil))⟩
        · rw [hl.len, hm.len]
          show ds.length ≤ (zipD ds es).length ∨ es.length ≤ (zipD ds es).length
          unfold zipD
          rw [List.length_map, List.length_zip]
          omega⟩
end
end E
set_option Elab.async false
set_option linter.all false
set_option maxRecDepth 100000
/-! Defs that may ask for the repr of nested data: nothing is shown already when they are called. -/
namespace E
open PySem PySem.Spec PyProof.Rows L2

structure RoomG (k : Nat) (A : Around) : Prop where
  rm : Room k A
  gu : A.guards = some []
theorem RoomG.mono {j k : Nat} {A : Around} (r : RoomG k A) (h : j ≤ k) : RoomG j A := ⟨r.rm.mono h, r.gu⟩
theorem RoomG.deeper {k : Nat} {A : Around} (r : RoomG (k + 1) A) (env : Env) : RoomG k (A.deeper env) := ⟨r.rm.deeper env, r.gu⟩
/-- as FnOk -/
structure FnG (P : Program) (w : World) (K : PySem.W.Frag) (mg : Str → Option Value) (base : Heap) (k : Nat) (f : Addr) (fd : FuncData) (ps : List Str) (sp : Sp) : Prop where
  len : ∀ vs H Q E, sp vs H Q E → vs.length = ps.length
  run : ∀ (A : Around) (outer : List Env) (s : Shared) (H : Hp) (args : Args) (us : List Value) (vs : List V) (Q : VK) (E : XK), RoomG k A → Env0 P w K mg base A outer s H → BindsTo s fd args (ps.zip us) → Vals vs us → sp vs H Q E →
    codeAny (model P w) A (.call (.ref f) args) (CR CX0 outer P w H s Q E) s
section
variable {P : Program} {w : World} {K : PySem.W.Frag} {mg : Str → Option Value} {base : Heap}
theorem FnG.mono {j k : Nat} {f : Addr} {fd : FuncData} {ps : List Str} {sp : Sp} (F : FnG P w K mg base j f fd ps sp) (h : j ≤ k) : FnG P w K mg base k f fd ps sp := ⟨F.len, fun A outer s H args us vs Q E hr => F.run A outer s H args us vs Q E (hr.mono h)⟩
/-- a def by its body -/
theorem fun_G {x : Str} {st : Stmt} {f : Addr} {fd : FuncData} {N ps : List Str} {k : Nat} {sp : Sp} (F : Fun K x x st f fd) (S : FnScope N ps (defScope st)) (len : ∀ vs H Q E, sp vs H Q E → vs.length = ps.length)
    (hbody : ∀ (cdv : Value) (A : Around) (outer : List Env) (s : Shared) (H : Hp) (vs : List V) (Q : VK) (E : XK), RoomG k (A.deeper (envOfC x (defScope st) s.heap.objs.size f cdv)) → sp vs H Q E →
      ∃ t, PSs (cxOf CX0 P w K mg base N x (defScope st) f cdv A outer s H E).nox (defBody st) t ∧ t { nx := fun _ H' => Q .non H', rt := Q } (L2.start N vs) H) : FnG P w K mg base (k + 1) f fd ps sp := by
  obtain ⟨oc, od, kV, doc, pm, an, cdv, ct, osl, rfl, lk, hcd⟩ := F.ex
  refine ⟨len, fun A outer s H args us vs Q E hr e0 hb r hsp => ?_⟩
  have hl := len _ _ _ _ hsp
  have KX : K.In s.heap := e0.mod.kin.keeps fun b o e => (e0.bs b o e).1
  have lim : s.heap.NoLimit := e0.mod.nolimit.keeps fun b o e => (e0.bs b o e).1
  have hkind : ∀ y ∈ ps.zip us, (defScope st).names.lookup y.1 = some .local ∨ ((defScope st).names.lookup y.1 = some .cell ∧ ((cellsFrom (s.heap.objs.size + 1) (defScope st).names []).lookup y.1).isSome = true) := fun ⟨n, v⟩ hy => by
    rcases S.par n (List.of_mem_zip hy).1 with q | q
    · exact .inl q
    · exact .inr ⟨q, PySem.W.cellsFrom_some _ _ _ (.inl q)⟩
  refine codeAny_call_function hr.rm.depth (KX _ _ lk) rfl S.co S.gen rfl (PySem.W.codeRec_of KX hcd) (hb _ _ _ _ ?_)
  refine wpAny_newFunctionEnv_cells S.kind hkind fun env he s1 x => ?_
  subst he
  refine ⟨lim.keeps x.toInCall.keep, codeAny_func ?_⟩
  obtain ⟨t, ht, hq⟩ := hbody cdv A outer s H vs Q E (hr.deeper _) hsp
  have I : Inv (cxOf CX0 P w K mg base N _ (defScope st) f cdv A outer s H E) [] (L2.start N vs) H s1 := inv_start S hr.rm.hd e0 hl r x
  refine wpAny_mono (ht.nox.run [] s1 (L2.start N vs) H _ I hq) (fun fl s' hs => ?_) fun e s' hs => hs
  cases fl with
  | ret u =>
    obtain ⟨v, σ', H', J, rv, q⟩ := hs
    exact ⟨v, H', J.os, J.bare, J.base, J.hok, rv, q⟩
  | next =>
    obtain ⟨σ', H', J, q⟩ := hs
    exact ⟨V.non, H', J.os, J.bare, J.base, J.hok, rfl, q⟩
  | brk =>
    obtain ⟨_, _, _, q⟩ := hs
    exact False.elim q
  | cont =>
    obtain ⟨_, _, _, q⟩ := hs
    exact False.elim q
end
section
variable {X : Cx} {x : Str} {p pos : Pos} {e : Expr} {es : List Expr} {t : TA} {k : Nat} {f : Addr} {fd : FuncData} {ps : List Str} {sp : Sp}
theorem pe_callG (F : FnG X.prog X.w X.K X.mg X.base k f fd ps sp) (hr : RoomG k X.A) (hg : Gl X x) (hm : X.mg x = some (.ref f)) (hk : PySem.W.keepIn X.K (.ref f) = true) (hb : Binds X.K fd ps [])
    (ha : PA X (e :: es) t) (hdb : (x == ("__debug__" : Str)) = false := by decide) (he : starEach (e :: es) X.env = (false, eval e X.env) :: starEach es X.env := by rfl) (hpl : (backTo pos (starEach es X.env)).any (·.1) = false := by rfl) :
    PE X (.Call (.Name x p) (e :: es) [] pos) (tCall sp [] E0 t) := by
  refine ⟨fun pins s σ H Q I h => ?_⟩
  refine wpAny_Call_Name_kw (ld_glob I hg hm ?_ hdb)
  refine PySem.W.callWith_K (h₀ := X.base) I.ok.mod.kin hk (thn (ha.run pos pins s σ H _ I h) fun us s1 ⟨vs, H1, I1, r, q⟩ => ⟨I1.kIn, ?_⟩) he hpl
  have q : sp (vs ++ []) H1 Q E0 := q
  rw [List.append_nil] at q
  have hl : us.length = ps.length := by rw [← r.length]; exact F.len _ _ _ _ q
  have hbt := hb s1 us I1.kIn (by rw [List.append_nil]; exact hl)
  rw [List.append_nil] at hbt
  refine wpAny_call (codeAny_mono (F.run X.A X.stack s1 H1 ⟨us, []⟩ us vs Q E0 hr I1.env0 hbt r q) fun r s' hq => ?_)
  cases r with
  | error e => exact False.elim hq
  | ok fl =>
    cases fl with
    | ret u => exact I1.after hq
    | next => exact False.elim hq
    | brk => exact False.elim hq
    | cont => exact False.elim hq
end
/-- the end: from the law's promise to the walk -/
theorem law_G {P : Program} {w : World} {K : PySem.W.Frag} {mg mb : Str → Option Value} {k : Nat} {fa a : Addr} {fd : FuncData} {x : Str} {sp : Sp} {s₁ : Shared} {vs : List Value} {ns : List Int}
    (KX : K.In s₁.heap) (hns : s₁.heap.Ns mainGlobals mg) (hb : s₁.heap.Ns builtinsNs mb) (hbb : ∀ x : Str, x ≠ "__name__" → mb x = bootBuiltins x) (hlim : s₁.heap.NoLimit) (hg : s₁.gens = #[])
    (ha : s₁.heap.get? a = some { cls := .type "list", data := .seq vs.toArray }) (hi : IntsAre vs ns) (hl : ns.length ≤ sizeLine) (hr : RoomG k callerA)
    (F : ∀ base : Heap, K.In base → base.Ns mainGlobals mg → FnG P w K mg base k fa fd [x] sp) (hbind : ∀ (s : Shared) (u : Value), BindsTo s fd ⟨[u], []⟩ [(x, u)])
    (hsp : ∀ H : Hp, Only H → SqL K H a (ns.map V.int) → sp [.ref a] H (fun v _ => v = .bl true) fun _ _ _ => False) :
    codeAny (model P w) callerA (.call (.ref fa) ⟨[.ref a], []⟩) (fun r s' => r = .ok (.ret (.bool true)) ∧ OldK s₁.heap s'.heap ∧ s'.os = s₁.os ∧ AllBare s'.gens) s₁ := by
  have rv := vals_ints hi
  have main : ∀ H : Hp, Only H → SqL K H a (ns.map V.int) → HOk P w H s₁.heap → (∀ b, H b ≠ none → b = a) → (H a ≠ none → K.lookup a = none) →
      codeAny (model P w) callerA (.call (.ref fa) ⟨[.ref a], []⟩) (fun r s' => r = .ok (.ret (.bool true)) ∧ OldK s₁.heap s'.heap ∧ s'.os = s₁.os ∧ AllBare s'.gens) s₁ := by
    intro H hO hS hok hA hK
    have nodict : ∀ {b : Addr} {o : Obj} {es : Array DictEntry} {ep : Nat}, s₁.heap.get? b = some o → o.data = .dict es ep → H b = none := fun {b o es ep} e d => by
      cases q : H b with
      | none => rfl
      | some u =>
        have e' : b = a := hA b (by rw [q]; simp)
        subst e'
        rw [ha] at e; cases e
        cases (show Data.seq vs.toArray _ = Data.dict es ep from d)
    have space : ∀ {b : Addr} {m : Str → Option Value}, s₁.heap.Ns b m → (hidT s₁.heap H).Ns b m := fun {b m} ⟨o, es, ep, e, d, r⟩ => ⟨o, es, ep, hidT_get e (nodict e d), d, r⟩
    have kin : K.In (hidT s₁.heap H) := fun b o e => hidT_get (KX b o e) (by
      cases q : H b with
      | none => rfl
      | some u =>
        have e' : b = a := hA b (by rw [q]; simp)
        subst e'
        rw [hK (by rw [q]; simp)] at e; cases e)
    have e0 : Env0 P w K mg (hidT s₁.heap H) callerA [] s₁ H := ⟨rfl, ⟨kin, space hns, ⟨mb, space hb, hbb⟩, let ⟨mc, h1, h2⟩ := hlim; ⟨mc, space h1, h2⟩⟩, fun b o e => of_hidT e, Nat.le_of_eq (hidT_size _ _), trivial, fun b hb => absurd (show b ∈ ([] : List Addr) from hb) (by simp), hok, .of_eq hg⟩
    refine codeAny_mono ((F _ kin (space hns)).run callerA [] s₁ H ⟨[.ref a], []⟩ [.ref a] [.ref a] _ _ hr e0 (hbind s₁ (.ref a)) (.cons rfl .nil) (hsp H hO hS)) fun r s' h => ?_
    cases r with
    | error e => exact False.elim h
    | ok fl =>
      cases fl with
      | next => exact False.elim h
      | brk => exact False.elim h
      | cont => exact False.elim h
      | ret u =>
        obtain ⟨v, H', os, bare, un, hok', r', q⟩ := h
        have q' : v = .bl true := q
        subst q'
        obtain rfl : u = Value.bool true := r'
        refine ⟨rfl, OldK.of_keep fun b o e => ?_, os, bare⟩
        cases q : H b with
        | none => exact un.keep b o e q (by intro z; exact absurd (show b ∈ ([] : List Addr) from z) (by simp)) (by simp)
        | some u =>
          rcases hO b with z | ⟨ob, xs, z⟩
          · rw [q] at z; cases z
          · obtain ⟨e1, _⟩ := hok b _ z
            obtain ⟨e2, _⟩ := hok' b _ (un.frzs b ob _ z)
            rw [e] at e1; cases e1
            exact e2
  cases hk : K.lookup a with
  | some o =>
    have e := KX a o hk
    rw [ha] at e
    cases e
    exact main (fun _ => none) (fun _ => .inl rfl) (.inr ⟨_, vs.toArray, _, hk, rfl, rfl, rfl, by rw [List.size_toArray, hi.length]; exact hl, by simpa using rv⟩) (fun b u z => by cases (show (none : Option HO) = some u from z)) (fun b z => absurd rfl z) fun z => absurd rfl z
  | none =>
    refine main (fun b => if b = a then some (.frz { cls := .type "list", data := .seq vs.toArray } (.lst (ns.map V.int))) else none) (fun b => ?_) (.inl (.inr ⟨{ cls := .type "list", data := .seq vs.toArray }, if_pos rfl⟩)) (fun b u z => ?_) (fun b z => ?_) fun _ => hk
    · by_cases hb : b = a
      · exact .inr ⟨_, _, if_pos hb⟩
      · exact .inl (if_neg hb)
    · by_cases hb : b = a
      · have z' := (if_pos hb).symm.trans z
        cases z'
        subst hb
        exact ⟨ha, by rw [List.length_map]; exact hl, vs, _, rv, ha⟩
      · cases (if_neg hb).symm.trans z
    · by_cases hb : b = a
      · exact hb
      · exact absurd (if_neg hb) z
theorem walk_G {l : PySem.W.OpenLaw} {n k : Nat} {q : Program} {loose : List Str} {XP : (Str → Option Value) → Heap → Prop} {YP : World → Heap → Prop} {d : DefRec} {K : Params → PySem.W.Frag} {sp : PySem.W.Frag → Sp} {x : Str}
    (hn : l.most = some n) (hn2 : n ≤ sizeLine) (hdf : d.params.defaults = []) (hr : RoomG k callerA) (hY : ∀ (w : World) (h : Heap), YP w h → (K w.params).In h)
    (F : ∀ (w : World) (mg : Str → Option Value) (fa : Addr) (h : Heap), (K w.params).In h → h.Ns mainGlobals mg → mg d.name = some (.ref fa) →
      ∃ fd : FuncData, (∀ (s : Shared) (u : Value), BindsTo s fd ⟨[u], []⟩ [(x, u)]) ∧ ∀ base : Heap, (K w.params).In base → base.Ns mainGlobals mg → FnG l.prog w (K w.params) mg base k fa fd [x] (sp (K w.params)))
    (hsp : ∀ (K : PySem.W.Frag) (H : Hp) (a : Addr) (ns : List Int), ns.length ≤ n → Only H → SqL K H a (ns.map V.int) → sp K [.ref a] H (fun v _ => v = .bl true) fun _ _ _ => False) :
    PySem.W.WalkO q loose XP YP l.row.toRowW d [] (fun f vs => PySem.call f vs) := by
  refine Att.attach_call hn hdf fun w s₀ s₁ mg mb fa o pm cd doc a vs ns G Y ho hd hcd hmg hobj hints hlen hg => ?_
  obtain ⟨fd, hb, hF⟩ := F w mg fa _ (hY w _ Y) G.T.g hmg
  exact law_G (hY w _ Y) G.T.g G.T.b G.T.builtins G.T.nolimit hg hobj hints (Nat.le_trans hlen hn2) hr hF hb fun H hO hS => hsp _ H a ns hlen hO hS
end E
set_option Elab.async false
set_option linter.all false
set_option maxRecDepth 100000
/-! Loops, comprehensions, calls, defs. -/
namespace E
open PySem PySem.Spec PyProof.Rows L2

section
variable {sl sl' : List Sl} {ms : List (List D)} {O : Out}
theorem sr_for' {wi : TI} {g : TG} {tb : TS} (h : Ei sl ms wi none fun items => ∃ Pv : Nat → List Sl → List (List D) → Prop, Pv 0 sl ms ∧
    (∀ i d sl1 ms1, items[i]? = some d → Pv i sl1 ms1 → ∃ tv sl2, Eg sl1 g d tv sl2 ∧ Sr sl2 ms1 tb { nx := Pv (i + 1), rt := O.rt, bk := O.nx, ct := Pv (i + 1) }) ∧
    ∀ sl1 ms1, Pv items.length sl1 ms1 → O.nx sl1 ms1) : Sr sl ms (tFor wi g tb) O := fun ho F0 H0 F ps ex σ H a Z n r b c =>
  h.2 ho F0 H0 F ps ex σ H a _ fun J F1 H1 pins items ⟨Pv, p0, step, fin⟩ a1 wk => by
    have wk' : ∀ {F2 H2 ps2 sl2 ms2 σ2}, At ho F0 H0 F2 ps2 sl2 ms2 (pins ++ ex) σ2 H2 → _ := fun {F2 H2 ps2 sl2 ms2 σ2} a2 => wk F2 H2 a2.fh (fun x hx => a2.pen x (List.mem_append_left _ hx)) (fun k ds e => by cases e)
    refine ⟨fun i m σ H => m = items.length - i ∧ i ≤ items.length ∧ ∃ sl1 ms1 F2 ps2, Pv i sl1 ms1 ∧ At ho F0 H0 F2 ps2 sl1 ms1 (pins ++ ex) σ H, ⟨_, rfl, Nat.zero_le _, _, _, _, _, p0, a1⟩, ?_⟩
    rintro i m σ2 H2 ⟨rfl, hi, sl1, ms1, F2, ps2, pv, a2⟩
    obtain ⟨w1, w2⟩ := wk' a2
    by_cases hlt : i < items.length
    · obtain ⟨g1, g2⟩ := w1 i _ (List.getElem?_eq_getElem hlt)
      refine .inr ⟨g1, fun σ H => ∃ sl1 ms1 F2 ps2, Pv (i + 1) sl1 ms1 ∧ At ho F0 H0 F2 ps2 sl1 ms1 (pins ++ ex) σ H, fun σ' H' p' => ⟨items.length - (i + 1), by omega, rfl, hlt, p'⟩, fun x H3 y => ?_⟩
      obtain ⟨F3, e3, d3⟩ := g2 x H3 y
      obtain ⟨tv, sl2, eg, sr⟩ := step i _ sl1 ms1 (List.getElem?_eq_getElem hlt) pv
      refine eg.run ms1 ho F0 H0 F3 ps2 (pins ++ ex) σ2 H3 x (a2.step0 e3) d3 _ fun F4 σ4 H4 e4 a4 _ => ?_
      exact sr ho F0 H0 F4 ps2 (pins ++ ex) σ4 H4 a4 _ (fun s l F' ps' σ' H' p a' => ⟨s, l, F', ps', p, a'⟩) (fun v d F' H' => r v d F' H')
        (fun s l F' ps' σ' H' p a' => n s l F' ps' σ' H' p (a'.drop fun _ hx => List.mem_append_right _ hx)) (fun s l F' ps' σ' H' p a' => ⟨s, l, F', ps', p, a'⟩)
    · have e : i = items.length := by omega
      subst e
      exact .inl ⟨w2, n _ _ _ _ _ _ (fin _ _ pv) (a2.drop fun _ hx => List.mem_append_right _ hx)⟩
theorem sr_while' {c : TT} {tb : TS} (Pv : Nat → List Sl → List (List D) → Prop) (h0 : ∃ m, Pv m sl ms)
    (hs : ∀ m sl1 ms1, Pv m sl1 ms1 → Et sl1 ms1 c fun b => (b = true → Sr sl1 ms1 tb { nx := fun s l => ∃ m', m' < m ∧ Pv m' s l, rt := O.rt, bk := O.nx, ct := fun s l => ∃ m', m' < m ∧ Pv m' s l }) ∧ (b = false → O.nx sl1 ms1)) :
    Sr sl ms (tWhile c tb) O := fun ho F0 H0 F ps ex σ H a Z n r b ct => by
  refine ⟨fun m σ H => ∃ sl1 ms1 F2 ps2, Pv m sl1 ms1 ∧ At ho F0 H0 F2 ps2 sl1 ms1 ex σ H, (let ⟨m, p⟩ := h0; ⟨m, _, _, _, _, p, a⟩), ?_⟩
  rintro m σ2 H2 ⟨sl1, ms1, F2, ps2, pv, a2⟩
  refine hs m sl1 ms1 pv ho F0 H0 F2 ps2 ex σ2 H2 a2 _ fun b F3 H3 ⟨k1, k2⟩ a3 => ?_
  cases b with
  | true =>
    rw [if_pos rfl]
    refine ⟨fun σ H => ∃ m', m' < m ∧ ∃ sl1 ms1 F2 ps2, Pv m' sl1 ms1 ∧ At ho F0 H0 F2 ps2 sl1 ms1 ex σ H, fun σ' H' z => z, ?_⟩
    exact k1 rfl ho F0 H0 F3 ps2 ex σ2 H3 a3 _ (fun s l F' ps' σ' H' ⟨m', hm, p⟩ a' => ⟨m', hm, s, l, F', ps', p, a'⟩) (fun v d F' H' => r v d F' H')
      (fun s l F' ps' σ' H' p a' => n s l F' ps' σ' H' p a') (fun s l F' ps' σ' H' ⟨m', hm, p⟩ a' => ⟨m', hm, s, l, F', ps', p, a'⟩)
  | false =>
    rw [if_neg Bool.false_ne_true]
    exact n _ _ _ _ _ _ (k2 rfl) a3
/-- a comprehension; Pv: what has come by turn i -/
theorem wipe_same {σ σ' : L2.St} {vs : List Nat} (hl : σ'.length = σ.length) (h : ∀ j, j ∉ vs → σ'[j]? = (wipe σ vs)[j]?) : wipe σ' vs = wipe σ vs := by
  have key : ∀ (vs : List Nat) (τ : L2.St) (j : Nat), j ∈ vs → j < τ.length → (wipe τ vs)[j]? = some none := by
    intro vs
    induction vs with
    | nil => intro τ j h; cases h
    | cons v r ih =>
      intro τ j hj hl
      show ((wipe τ r).set v none)[j]? = _
      by_cases e : v = j
      · subst e; rw [List.getElem?_set_self (by rw [wipe_length]; exact hl)]
      · rw [List.getElem?_set_ne e]
        rcases List.mem_cons.mp hj with z | z
        · exact absurd z.symm e
        · exact ih τ j z hl
  refine List.ext_getElem? fun j => ?_
  by_cases hj : j ∈ vs
  · by_cases hb : j < σ.length
    · rw [key vs σ' j hj (by rw [hl]; exact hb), key vs σ j hj hb]
    · rw [List.getElem?_eq_none (by rw [wipe_length]; omega), List.getElem?_eq_none (by rw [wipe_length]; omega)]
  · rw [wipe_out hj, h j hj]
theorem el_lc' {wi : TI} {g : TG} {tt : TT} {te : TE} {vs : List Nat} {fx : Option (Nat × List D)} {R : List D → Prop} (hv : ∀ j ∈ vs, ∀ s, sl[j]? = some s → s = .u)
    (h : Ei sl ms wi fx fun items => items.length < 100000 ∧ ∃ Pv : Nat → List D → Prop, Pv 0 [] ∧
      (∀ i d acc, items[i]? = some d → Pv i acc → ∃ tv sl2, Eg sl g d tv sl2 ∧ (∀ j ∈ tv, j ∈ vs) ∧ Et sl2 (ms ++ [acc]) tt fun b => (b = true → Er sl2 (ms ++ [acc]) te fun y => Pv (i + 1) (acc ++ [y])) ∧ (b = false → Pv (i + 1) acc)) ∧
      ∀ acc, Pv items.length acc → R acc) : El sl ms (tLc wi g tt te vs) R := fun ho F0 H0 F ps ex σ H a Q q =>
  h.2 ho F0 H0 F ps ex σ H a _ fun J F1 H1 pins items ⟨hn, Pv, p0, step, fin⟩ a1 wk => by
    intro Dd hD
    have aw : ∀ {F ps ms ex σ H}, At ho F0 H0 F ps sl ms ex σ H → At ho F0 H0 F ps sl ms ex (wipe σ vs) H := fun {F ps ms ex σ H} a => a.other (vs := vs) (wipe_length _ _) hv fun j hj => wipe_out hj
    have b1 : At ho F0 H0 F1 (ps ++ [Dd]) sl (ms ++ [[]]) (pins ++ ex) (wipe σ vs) (upd H1 Dd (.lst [])) := aw (a1.own hD .nil)
    refine ⟨fun i m H => m = items.length - i ∧ i ≤ items.length ∧ ∃ acc F2, acc.length ≤ i ∧ Pv i acc ∧ At ho F0 H0 F2 (ps ++ [Dd]) sl (ms ++ [acc]) (pins ++ ex) (wipe σ vs) H, ⟨_, rfl, Nat.zero_le _, [], _, Nat.zero_le _, p0, b1⟩, ?_⟩
    rintro i m H2 ⟨rfl, hi, acc, F2, hacc, pv, a2⟩
    obtain ⟨w1, w2⟩ := wk F2 H2 a2.fh (fun x hx => a2.pen x (List.mem_append_left _ hx)) (fun k ds e => by
      have hk := h.1 k ds e
      have hkl : k < ms.length := (List.getElem?_eq_some_iff.mp hk).1
      have hkp : k < ps.length := by rw [a.len]; exact hkl
      have e1 : (ps ++ [Dd])[k]? = some ps[k] := by rw [List.getElem?_append_left hkp]; exact List.getElem?_eq_getElem hkp
      obtain ⟨_, _, _, xs, m1, m2⟩ := a2.mu k _ ds e1 (by rw [List.getElem?_append_left hkl]; exact hk)
      exact ⟨_, xs, List.getElem?_eq_getElem hkp, m1, m2⟩)
    by_cases hlt : i < items.length
    · obtain ⟨g1, g2⟩ := w1 i _ (List.getElem?_eq_getElem hlt)
      refine .inr ⟨g1, fun H => ∃ acc F2, acc.length ≤ i + 1 ∧ Pv (i + 1) acc ∧ At ho F0 H0 F2 (ps ++ [Dd]) sl (ms ++ [acc]) (pins ++ ex) (wipe σ vs) H, fun H' p' => ⟨items.length - (i + 1), by omega, rfl, hlt, p'⟩, fun x H3 y => ?_⟩
      obtain ⟨F3, e3, d3⟩ := g2 x H3 y
      obtain ⟨tv, sl2, eg, htv, ett⟩ := step i _ acc (List.getElem?_eq_getElem hlt) pv
      refine eg.run (ms ++ [acc]) ho F0 H0 F3 (ps ++ [Dd]) (pins ++ ex) (wipe σ vs) H3 x (a2.step0 e3) d3 _ fun F4 σ4 H4 e4 a4 k4 => ?_
      have hl4 : σ4.length = (wipe σ vs).length := by rw [a4.sln, eg.len, a2.sln]
      have back : ∀ {F ms ex H}, At ho F0 H0 F (ps ++ [Dd]) sl2 ms ex σ4 H → At ho F0 H0 F (ps ++ [Dd]) sl ms ex (wipe σ vs) H := fun {F ms ex H} a' =>
        At.other (vs := vs) (a'.less (sl' := sl) ⟨eg.len.symm, fun j s e => by
          by_cases hj : j ∈ vs
          · exact .inl (hv j hj s e)
          · exact .inr (by rw [eg.st j fun z => hj (htv j z)]; exact e)⟩) hl4.symm hv fun j hj => (k4 j fun z => hj (htv j z)).symm
      refine ⟨wipe_same (by rw [hl4, wipe_length]) fun j hj => k4 j fun z => hj (htv j z), ?_⟩
      refine ett ho F0 H0 F4 (ps ++ [Dd]) (pins ++ ex) σ4 H4 a4 _ fun b F5 H5 ⟨k1, k2⟩ a5 => ?_
      cases b with
      | false =>
        rw [if_neg Bool.false_ne_true]
        exact ⟨acc, F5, by omega, k2 rfl, back a5⟩
      | true =>
        rw [if_pos rfl]
        refine k1 rfl ho F0 H0 F5 (ps ++ [Dd]) (pins ++ ex) σ4 H5 a5 _ fun v d F6 H6 pd a6 => ?_
        have hpk : (ps ++ [Dd])[ps.length]? = some Dd := by rw [List.getElem?_append_right (Nat.le_refl _)]; simp
        have hmk : (ms ++ [acc])[ps.length]? = some acc := by rw [a.len, List.getElem?_append_right (Nat.le_refl _)]; simp
        obtain ⟨_, _, _, xs, m1, m2⟩ := a6.mu ps.length Dd acc hpk hmk
        refine ⟨xs, m1, by rw [m2.len]; exact Nat.lt_of_le_of_lt hacc (Nat.lt_of_lt_of_le (Nat.lt_trans hlt hn) (by decide)), acc ++ [d], F6, by rw [List.length_append, List.length_singleton]; omega, pd, ?_⟩
        have a7 := a6.pop.put hpk (m2.app (.cons a6.top .nil))
        rw [show (ms ++ [acc]).set ps.length (acc ++ [d]) = ms ++ [acc ++ [d]] by rw [a.len, List.set_append_right _ _ (Nat.le_refl _)]; simp] at a7
        exact back a7
    · have e : i = items.length := by omega
      subst e
      refine .inl ⟨w2, q Dd acc F2 H2 (fin _ pv) ?_⟩
      exact At.other (vs := vs) (a2.drop fun _ hx => List.mem_append_right _ hx) (wipe_length _ _).symm hv fun j hj => (wipe_out hj).symm

/-! ### promises, calls -/
def spD (n : Nat) (Pre : List D → Prop) (Post : List D → D → Prop) : Sp := fun vs H Q _ => ∃ F ds, Ex F H ∧ DnL F vs ds ∧ ds.length = n ∧ Pre ds ∧
  ∀ u d F' H', Post ds d → Ext none F H F' H' → Dn F' u d → Q u H'
/-- .. the hand ahead -/
def spH (n : Nat) (Pre : List D → Prop) (Post : List D → D → Prop) : Sp := fun vs H Q _ => ∃ h ws F ds, vs = .ref h :: ws ∧ Ex F H ∧ Hand F H h ∧ DnL F ws ds ∧ ds.length = n ∧ Pre ds ∧
  ∀ u d F' H', Post ds d → Ext (some h) F H F' H' → Hand F' H' h → Dn F' u d → Q u H'
theorem er_call {n : Nat} {Pre : List D → Prop} {Post : List D → D → Prop} {E : XK} {t : TA} {R : D → Prop} (h : Ea sl ms t fun ds => ds.length = n ∧ Pre ds ∧ ∀ d, Post ds d → R d) : Er sl ms (tCall (spD n Pre Post) [] E t) R := fun ho F0 H0 F ps ex σ H a Q q =>
  h ho F0 H0 F ps ex σ H a _ fun vs ds F1 H1 ⟨hn, hp, hr⟩ a1 l => ⟨F1, ds, a1.fh, by rw [List.append_nil]; exact l, hn, hp, fun u d F' H' p x du => q u d F' H' (hr d p) ((a1.step0 x).push du)⟩
theorem er_callH {n i : Nat} {Pre : List D → Prop} {Post : List D → D → Prop} {E : XK} {t : TA} {R : D → Prop} (hs : sl[i]? = some .h) (h : Ea sl ms t fun ds => ds.length = n ∧ Pre ds ∧ ∀ d, Post ds d → R d) : Er sl ms (tCall (spH n Pre Post) [] E (tCons (tVar i) t)) R := fun ho F0 H0 F ps ex σ H a Q q => by
  obtain ⟨o, e, hd, hh, rfl⟩ := a.slo i _ hs
  refine ⟨_, e, h ho F0 H0 F ps ex σ H a _ fun vs ds F1 H1 ⟨hn, hp, hr⟩ a1 l => ?_⟩
  refine ⟨hd, vs, F1, ds, by rw [List.append_nil], a1.fh, a1.hand hd hh, l, hn, hp, fun u d F' H' p x hd' du => q u d F' H' (hr d p) ((a1.step (hh ▸ x) fun h' e' => ?_).push du)⟩
  rw [hh] at e'; cases e'
  exact hd'
end

/-! ### defs -/
section
variable {P : Program} {w : World} {K : PySem.W.Frag} {mg : Str → Option Value} {base : Heap}
abbrev cx (P : Program) (w : World) (K : PySem.W.Frag) (mg : Str → Option Value) (base : Heap) (N : List Str) (x : Str) (st : Stmt) (f : Addr) (cdv : Value) (A : Around) (outer : List Env) (s : Shared) (H : Hp) (E : XK) : Cx := (cxOf CX0 P w K mg base N x (defScope st) f cdv A outer s H E).nox
theorem at_start {F H : Hp} {ho : Option Addr} {vs : List V} {sl : List Sl} {m : Nat} (e : Ex F H) (hl : vs.length = sl.length) (hs : ∀ (i : Nat) (v : V) (s : Sl), vs[i]? = some v → sl[i]? = some s → SlOk F [] ho (some v) s) (hh : ∀ h, ho = some h → Hand F H h) :
    At ho F H F [] (sl ++ List.replicate m .u) [] [] (vs.map some ++ List.replicate m none) H :=
  ⟨Ext.refl e, List.nodup_nil, rfl, fun k p ds h => by simp at h, by simp [hl], fun i s h => by
    by_cases hi : i < sl.length
    · have hi' : i < vs.length := by rw [hl]; exact hi
      rw [List.getElem?_append_left hi] at h
      refine ⟨some vs[i], by rw [List.getElem?_append_left (by rw [List.length_map]; exact hi'), List.getElem?_map, List.getElem?_eq_getElem hi']; rfl, hs i _ s (List.getElem?_eq_getElem hi') h⟩
    · rw [List.getElem?_append_right (by omega)] at h
      have hm : i - sl.length < m := by
        have := (List.getElem?_eq_some_iff.mp h).1
        rwa [List.length_replicate] at this
      rw [List.getElem?_replicate, if_pos hm] at h
      cases h
      exact ⟨none, by rw [List.getElem?_append_right (by rw [List.length_map]; omega), List.getElem?_replicate, if_pos (by rw [List.length_map, hl]; exact hm)], trivial⟩, fun x hx => by simp at hx, hh⟩
theorem ok_D {x : Str} {st : Stmt} {f : Addr} {fd : FuncData} {N ps : List Str} {k n m : Nat} {Pre : List D → Prop} {Post : List D → D → Prop} (F : Fun K x x st f fd) (S : FnScope N ps (defScope st)) (hn : ps.length = n) (hm : N.length = n + m)
    (hb : ∀ (cdv : Value) (A : Around) (outer : List Env) (s : Shared) (H : Hp) (E : XK) (ds : List D), RoomG k (A.deeper (envOfC x (defScope st) s.heap.objs.size f cdv)) → ds.length = n → Pre ds →
      Sr (ds.map .d ++ List.replicate m .u) [] (wSs (cx P w K mg base N x st f cdv A outer s H E) (defBody st)) { nx := fun _ _ => Post ds .non, rt := Post ds }) :
    FnG P w K mg base (k + 1) f fd ps (spD n Pre Post) := by
  refine fun_G F S (fun vs H Q E h => ?_) (fun cdv A outer s H vs Q E hr h => ?_)
  · obtain ⟨F, ds, _, l, e, _⟩ := h
    rw [l.len, e, hn]
  · obtain ⟨F0, ds, e, l, hl, hp, q⟩ := h
    refine ⟨_, pss_w, ?_⟩
    have a0 : At none F0 H F0 [] (ds.map .d ++ List.replicate m .u) [] [] (L2.start N vs) H := by
      have := at_start (m := m) (vs := vs) (sl := ds.map .d) (ho := none) e (by rw [List.length_map]; exact l.len) (fun i v s h1 h2 => by
        rw [List.getElem?_map] at h2
        cases h3 : ds[i]? with
        | none => rw [h3] at h2; cases h2
        | some d =>
          rw [h3] at h2; cases h2
          obtain ⟨v', h4, h5⟩ := l.get i h3
          rw [h1] at h4; cases h4
          exact ⟨v, rfl, h5⟩) (fun h hh => by cases hh)
      rw [show L2.start N vs = vs.map some ++ List.replicate m none by unfold L2.start; rw [l.len, hl, hm]; congr 2; omega]
      exact this
    exact hb cdv A outer s H E ds hr hl hp none F0 H F0 [] [] (L2.start N vs) H a0 _ (fun _ _ F' _ _ H' p a' => q _ _ F' H' p a'.ext .non) (fun v d F' H' p x _ dv => q v d F' H' p x dv) (fun _ _ _ _ _ _ z => z.elim) (fun _ _ _ _ _ _ z => z.elim)
theorem ok_H {x : Str} {st : Stmt} {f : Addr} {fd : FuncData} {N ps : List Str} {k n m : Nat} {Pre : List D → Prop} {Post : List D → D → Prop} (F : Fun K x x st f fd) (S : FnScope N ps (defScope st)) (hn : ps.length = n + 1) (hm : N.length = n + 1 + m)
    (hb : ∀ (cdv : Value) (A : Around) (outer : List Env) (s : Shared) (H : Hp) (E : XK) (ds : List D), RoomG k (A.deeper (envOfC x (defScope st) s.heap.objs.size f cdv)) → ds.length = n → Pre ds →
      Sr (.h :: ds.map .d ++ List.replicate m .u) [] (wSs (cx P w K mg base N x st f cdv A outer s H E) (defBody st)) { nx := fun _ _ => Post ds .non, rt := Post ds }) :
    FnG P w K mg base (k + 1) f fd ps (spH n Pre Post) := by
  refine fun_G F S (fun vs H Q E h => ?_) (fun cdv A outer s H vs Q E hr h => ?_)
  · obtain ⟨h, ws, F, ds, rfl, _, _, l, e, _⟩ := h
    rw [List.length_cons, l.len, e, hn]
  · obtain ⟨h, ws, F0, ds, rfl, e, hd, l, hl, hp, q⟩ := h
    refine ⟨_, pss_w, ?_⟩
    have a0 : At (some h) F0 H F0 [] (.h :: ds.map .d ++ List.replicate m .u) [] [] (L2.start N (.ref h :: ws)) H := by
      have := at_start (m := m) (vs := .ref h :: ws) (sl := .h :: ds.map .d) (ho := some h) e (by rw [List.length_cons, List.length_cons, List.length_map, l.len]) (fun i v s h1 h2 => by
        cases i with
        | zero => simp at h1 h2; subst h1 h2; exact ⟨h, rfl, rfl⟩
        | succ i =>
          rw [List.getElem?_cons_succ] at h1 h2
          rw [List.getElem?_map] at h2
          cases h3 : ds[i]? with
          | none => rw [h3] at h2; cases h2
          | some d =>
            rw [h3] at h2; cases h2
            obtain ⟨v', h4, h5⟩ := l.get i h3
            rw [h1] at h4; cases h4
            exact ⟨v, rfl, h5⟩) (fun h' hh => by cases hh; exact hd)
      rw [show L2.start N (.ref h :: ws) = (V.ref h :: ws).map some ++ List.replicate m none by unfold L2.start; rw [List.length_cons, l.len, hl, hm]; congr 2; omega]
      exact this
    exact hb cdv A outer s H E ds hr hl hp (some h) F0 H F0 [] [] (L2.start N (.ref h :: ws)) H a0 _ (fun _ _ F' _ _ H' p a' => q _ _ F' H' p a'.ext (a'.hand h rfl) .non) (fun v d F' H' p x hd' dv => q v d F' H' p x (hd' h rfl) dv) (fun _ _ _ _ _ _ z => z.elim) (fun _ _ _ _ _ _ z => z.elim)
/-- a def that may be called by its name -/
structure Cl (P : Program) (w : World) (K : PySem.W.Frag) (mg : Str → Option Value) (base : Heap) (k : Nat) (x : Str) (sp : Sp) : Prop where
  ex : ∃ (f : Addr) (fd : FuncData) (ps : List Str), FnG P w K mg base k f fd ps sp ∧ mg x = some (.ref f) ∧ PySem.W.keepIn K (.ref f) = true ∧ Binds K fd ps []
/-- .. as it stands in the text -/
structure Df (K : PySem.W.Frag) (mg : Str → Option Value) (x : Str) (st : Stmt) (ps : List Str) (f : Addr) (fd : FuncData) : Prop where
  fn : Fun K x x st f fd
  mgf : mg x = some (.ref f)
  bd : Binds K fd ps []
theorem Df.cl {x : Str} {st : Stmt} {ps : List Str} {f : Addr} {fd : FuncData} {k : Nat} {sp : Sp} (d : Df K mg x st ps f fd) (h : FnG P w K mg base k f fd ps sp) : Cl P w K mg base k x sp := ⟨f, fd, ps, h, d.mgf, d.fn.kp, d.bd⟩
end
end E
set_option Elab.async false
set_option linter.all false
set_option maxRecDepth 100000
/-! The rules by the text: expressions. -/
namespace E
open PySem PySem.Spec PyProof.Rows L2

section
variable {X : Cx} {sl : List Sl} {ms : List (List D)} {R : D → Prop} {B : Bool → Prop} {pos p p2 : Pos} {a b c e : Expr} {es rest : List Expr} {x : Str} {d : D}
/-! ### leaves -/
theorem j_var (i : Nat) (hN : X.N[i]? = some x) (h : sl[i]? = some (.d d)) (k : R d) (hv : Vis X.env.scope x := by first | exact Or.inl rfl | exact Or.inr (Or.inl rfl) | exact Or.inr (Or.inr rfl)) (hd : (x == ("__debug__" : Str)) = false := by decide)
    (hcd : (x == ("__classdict__" : Str)) = false := by decide) : Er sl ms (wE X (.Name x pos)) R := Er.of (pv i hN hv hd hcd) (Er.done (ed_var h) k)
theorem j_int {i j} (k : R (.int i)) : Er sl ms (wE X (.Constant (.int i) j pos)) R := Er.of pe_int (Er.done ed_int k)
theorem j_bl {i j} (k : R (.bl i)) : Er sl ms (wE X (.Constant (.bool i) j pos)) R := Er.of pe_bl (Er.done ed_bl k)
theorem j_str {i j} (k : R (.str i)) : Er sl ms (wE X (.Constant (.str i) j pos)) R := Er.of pe_str (Er.done ed_str k)
theorem j_non {j} (k : R .non) : Er sl ms (wE X (.Constant .none j pos)) R := Er.of pe_non (Er.done ed_non k)
theorem j_gint {i : Int} (hm : ∃ u, X.mg x = some u ∧ RelV (.int i) u) (k : R (.int i)) (hg : Gl X x := by rfl) (hd : (x == ("__debug__" : Str)) = false := by decide) : Er sl ms (wE X (.Name x pos)) R :=
  Er.of (let ⟨_, h, r⟩ := hm; pe_glob hg h r hd) (Er.done ed_int k)
/-! ### numbers, comparisons -/
theorem j_add (h : Er sl ms (wE X a) fun x => Er sl ms (wE X b) fun y => ∃ i j, x = .int i ∧ y = .int j ∧ R (.int (i + j))) : Er sl ms (wE X (.BinOp a .Add b pos)) R :=
  Er.of (pe_op op_add pe_w pe_w) (er_op' (h.mono fun _ h => h.mono fun _ ⟨_, _, e1, e2, k⟩ => by rw [e1, e2]; exact R2.done r2_add k))
theorem j_sub (h : Er sl ms (wE X a) fun x => Er sl ms (wE X b) fun y => ∃ i j, x = .int i ∧ y = .int j ∧ R (.int (i - j))) : Er sl ms (wE X (.BinOp a .Sub b pos)) R :=
  Er.of (pe_op op_sub pe_w pe_w) (er_op' (h.mono fun _ h => h.mono fun _ ⟨_, _, e1, e2, k⟩ => by rw [e1, e2]; exact R2.done r2_sub k))
theorem j_mul (h : Er sl ms (wE X a) fun x => Er sl ms (wE X b) fun y => ∃ i j, x = .int i ∧ y = .int j ∧ CMul i j ∧ R (.int (i * j))) : Er sl ms (wE X (.BinOp a .Mult b pos)) R :=
  Er.of (pe_op op_mul pe_w pe_w) (er_op' (h.mono fun _ h => h.mono fun _ ⟨_, _, e1, e2, hc, k⟩ => by rw [e1, e2]; exact R2.done (r2_mul hc) k))
theorem j_mod (h : Er sl ms (wE X a) fun x => Er sl ms (wE X b) fun y => ∃ i j, x = .int i ∧ y = .int j ∧ 0 < j ∧ R (.int (i % j))) : Er sl ms (wE X (.BinOp a .Mod b pos)) R :=
  Er.of (pe_op op_mod pe_w pe_w) (er_op' (h.mono fun _ h => h.mono fun _ ⟨_, _, e1, e2, hc, k⟩ => by rw [e1, e2]; exact R2.done (r2_mod hc) k))
theorem j_div (h : Er sl ms (wE X a) fun x => Er sl ms (wE X b) fun y => ∃ i j, x = .int i ∧ y = .int j ∧ CDiv i j ∧ R (.int (i / j))) : Er sl ms (wE X (.BinOp a .FloorDiv b pos)) R :=
  Er.of (pe_op op_fdiv pe_w pe_w) (er_op' (h.mono fun _ h => h.mono fun _ ⟨_, _, e1, e2, hc, k⟩ => by rw [e1, e2]; exact R2.done (r2_div hc) k))
theorem j_pow (h : Er sl ms (wE X a) fun x => Er sl ms (wE X b) fun y => ∃ i j, x = .int i ∧ y = .int j ∧ CPow i j ∧ R (.int (i ^ j.toNat))) : Er sl ms (wE X (.BinOp a .Pow b pos)) R :=
  Er.of (pe_op op_pow pe_w pe_w) (er_op' (h.mono fun _ h => h.mono fun _ ⟨_, _, e1, e2, hc, k⟩ => by rw [e1, e2]; exact R2.done (r2_pow hc) k))
theorem j_neg (h : Er sl ms (wE X a) fun x => ∃ i, x = .int i ∧ R (.int (-i))) : Er sl ms (wE X (.UnaryOp .USub a pos)) R :=
  Er.of (pe_un un_neg pe_w) (er_un' (h.mono fun _ ⟨i, e, k⟩ => by
    subst e
    intro F H v eh hv Q q
    cases hv
    exact ⟨i, rfl, q _ _ F H k (Ext.refl eh) (.int _)⟩))
theorem j_cat (h : Er sl ms (wE X a) fun x => Er sl ms (wE X b) fun y => ∃ i j, x = .tup i ∧ y = .tup j ∧ i.length + j.length ≤ 100000 ∧ R (.tup (i ++ j))) : Er sl ms (wE X (.BinOp a .Add b pos)) R :=
  Er.of (pe_op op_catA pe_w pe_w) (er_op' (h.mono fun _ h => h.mono fun _ ⟨_, _, e1, e2, hc, k⟩ => by rw [e1, e2]; exact R2.done (r2_cat hc) k))
/-- the comparisons' readings -/
inductive Cm (X : Cx) : CmpOp → D → D → Bool → Prop
  | lt (i j : Int) : Cm X .Lt (.int i) (.int j) (decide (i < j))
  | le (i j : Int) : Cm X .LtE (.int i) (.int j) (decide (i ≤ j))
  | gt (i j : Int) : Cm X .Gt (.int i) (.int j) (decide (j < i))
  | ge (i j : Int) : Cm X .GtE (.int i) (.int j) (decide (j ≤ i))
  | eq (i j : Int) : Cm X .Eq (.int i) (.int j) (decide (i = j))
  | ne (i j : Int) : Cm X .NotEq (.int i) (.int j) (!decide (i = j))
  | eqS (i j : Str) : Cm X .Eq (.str i) (.str j) (decide (i = j))
  | neS (i j : Str) : Cm X .NotEq (.str i) (.str j) (!decide (i = j))
  | isnot (i j : Bool) : Cm X .IsNot (.bl i) (.bl j) (!decide (i = j))
  | isb (i j : Bool) : Cm X .Is (.bl i) (.bl j) (decide (i = j))
  | inT (i : Int) (js : List Int) : Cm X .In (.int i) (.tup (js.map D.int)) (decide (i ∈ js))
def cmR (K : PySem.W.Frag) : CmpOp → L2.R2
  | .Lt => rI0 fun i j => .bl (decide (i < j))
  | .LtE => rI0 fun i j => .bl (decide (i ≤ j))
  | .Gt => rI0 fun i j => .bl (decide (j < i))
  | .GtE => rI0 fun i j => .bl (decide (j ≤ i))
  | .Eq => rEq
  | .NotEq => rNe
  | .IsNot => rNotB
  | .Is => rIsB
  | .In => rIn K false
  | .NotIn => fun _ _ _ _ => False
theorem cmR_ok : ∀ op, OpR X (compareOp op) (cmR X.K op)
  | .Lt => op_lt | .LtE => op_le | .Gt => op_gt | .GtE => op_ge | .Eq => op_eq | .NotEq => op_ne | .IsNot => op_notBl | .Is => op_isBl | .In => op_in_seq | .NotIn => fun _ _ _ _ _ _ _ _ _ _ _ _ h => h.elim
theorem Cm.r2 {op : CmpOp} {x y : D} {b : Bool} (h : Cm X op x y b) : R2 (cmR X.K op) x y (· = .bl b) := by
  cases h with
  | lt => exact r2_B
  | le => exact r2_B
  | gt => exact r2_B
  | ge => exact r2_B
  | eq => exact r2_eqI
  | ne => exact r2_neI
  | eqS => exact r2_eqS
  | neS => exact r2_neS
  | isnot i j =>
    intro F H v w eh hv hw Q q
    cases hv; cases hw
    exact ⟨i, j, rfl, rfl, q _ _ F H rfl (Ext.refl eh) (.bl _)⟩
  | isb i j =>
    intro F H v w eh hv hw Q q
    cases hv; cases hw
    exact ⟨i, j, rfl, rfl, q _ _ F H rfl (Ext.refl eh) (.bl _)⟩
  | inT => exact r2_inT
theorem j_cmp {op : CmpOp} (h : Er sl ms (wE X a) fun x => Er sl ms (wE X b) fun y => ∃ t, Cm X op x y t ∧ R (.bl t)) (hm : behindInMarks op b = false := by first | exact nobehind _ (by decide) (by decide) | rfl) : Er sl ms (wE X (.Compare a [op] [b] pos)) R :=
  Er.of (pe_cmpR (cmR_ok op) pe_w pe_w hm) (er_op' (h.mono fun _ h => h.mono fun _ ⟨_, e, k⟩ => R2.done e.r2 k))
theorem jt_cmp {op : CmpOp} (h : Er sl ms (wE X a) fun x => Er sl ms (wE X b) fun y => ∃ t, Cm X op x y t ∧ B t) (hm : behindInMarks op b = false := by first | exact nobehind _ (by decide) (by decide) | rfl) : Et sl ms (wT X (.Compare a [op] [b] pos)) B :=
  Et.of (pt_cmpR (cmR_ok op) pe_w pe_w hm) (et_test (er_op' (h.mono fun _ h => h.mono fun _ ⟨t, e, k⟩ => R2.done e.r2 ⟨t, rfl, k⟩)))
theorem j_chain {op op' : CmpOp} (h : Er sl ms (wE X a) fun x => Er sl ms (wE X b) fun y => ∃ t, Cm X op x y t ∧ (t = true → Er sl ms (wE X c) fun z => ∃ t', Cm X op' y z t' ∧ R (.bl t')) ∧ (t = false → R (.bl false))) (hm : lastMarks [op, op'] [b, c] = false := by with_unfolding_all rfl) : Er sl ms (wE X (.Compare a [op, op'] [b, c] pos)) R :=
  Er.of (pe_chain (cmR_ok op) (cmR_ok op') pe_w pe_w pe_w hm) (er_chain (h.mono fun _ h => h.mono fun _ ⟨t, e, k1, k2⟩ => ⟨t, e.r2, fun et => (k1 et).mono fun _ ⟨_, e', k⟩ => R2.done e'.r2 k, k2⟩))
theorem jt_chain {op op' : CmpOp} (h : Er sl ms (wE X a) fun x => Er sl ms (wE X b) fun y => ∃ t, Cm X op x y t ∧ (t = true → Er sl ms (wE X c) fun z => ∃ t', Cm X op' y z t' ∧ B t') ∧ (t = false → B false)) (hm : lastMarks [op, op'] [b, c] = false := by with_unfolding_all rfl) : Et sl ms (wT X (.Compare a [op, op'] [b, c] pos)) B :=
  Et.of (pt_chain (cmR_ok op) (cmR_ok op') pe_w pe_w pe_w hm) (et_test (er_chain (h.mono fun _ h => h.mono fun _ ⟨t, e, k1, k2⟩ => ⟨t, e.r2, fun et => (k1 et).mono fun _ ⟨t', e', k⟩ => R2.done e'.r2 ⟨t', rfl, k⟩, fun et => ⟨false, rfl, k2 et⟩⟩)))
/-! ### and, or, not, if -/
theorem j_and (h : Er sl ms (wE X a) fun d => ∃ t, d = .bl t ∧ (t = true → Er sl ms (wE X (.BoolOp .And (b :: rest) pos)) R) ∧ (t = false → R (.bl false))) : Er sl ms (wE X (.BoolOp .And (a :: b :: rest) pos)) R := Er.of (pe_and pe_w pe_w) (er_andV h)
theorem j_or (h : Er sl ms (wE X a) fun d => ∃ t, d = .bl t ∧ (t = false → Er sl ms (wE X (.BoolOp .Or (b :: rest) pos)) R) ∧ (t = true → R (.bl true))) : Er sl ms (wE X (.BoolOp .Or (a :: b :: rest) pos)) R := Er.of (pe_or pe_w pe_w) (er_orV h)
theorem j_one {op} (h : Er sl ms (wE X a) R) : Er sl ms (wE X (.BoolOp op [a] pos)) R := Er.of (pe_one pe_w) h
theorem j_not (h : Er sl ms (wE X a) fun d => ∃ t, d = .bl t ∧ R (.bl !t)) : Er sl ms (wE X (.UnaryOp .Not a pos)) R := Er.of (pe_not pe_w) (er_notV h)
/-- a test whatever its whole is -/
def wW (X : Cx) (e : Expr) : TT := fun σ H Q => ∀ whole pins s, Inv X pins σ H s → wpAny (model X.prog X.w) X.A (isTrue e X.env whole) (TP X pins σ Q) X.xe s
theorem pw_w : PW X e (wW X e) := ⟨fun wh pins s _ _ _ I h => h wh pins s I⟩
theorem Et.ofw {t : TT} (h : PW X e t) (q : Et sl ms t B) : Et sl ms (wW X e) B := fun ho F0 H0 F ps ex σ H a Q k wh pins s I => h.run wh pins s σ H Q I (q ho F0 H0 F ps ex σ H a Q k)
theorem jt_w (h : Et sl ms (wW X e) B) : Et sl ms (wT X e) B := Et.of pw_w.pt h
theorem jw_and (h : Et sl ms (wT X a) fun t => (t = true → Et sl ms (wW X (.BoolOp .And (b :: rest) pos)) B) ∧ (t = false → B false)) : Et sl ms (wW X (.BoolOp .And (a :: b :: rest) pos)) B := Et.ofw (pw_and pt_w pw_w) (et_and' h)
theorem jw_or (h : Et sl ms (wT X a) fun t => (t = false → Et sl ms (wW X (.BoolOp .Or (b :: rest) pos)) B) ∧ (t = true → B true)) : Et sl ms (wW X (.BoolOp .Or (a :: b :: rest) pos)) B := Et.ofw (pw_or pt_w pw_w) (et_or' h)
theorem jw_and1 (h : Et sl ms (wT X a) B) : Et sl ms (wW X (.BoolOp .And [a] pos)) B := Et.ofw (pw_and1 pt_w) h
theorem jw_or1 (h : Et sl ms (wT X a) B) : Et sl ms (wW X (.BoolOp .Or [a] pos)) B := Et.ofw (pw_or1 pt_w) h
theorem jt_not (h : Et sl ms (wT X a) fun t => B !t) : Et sl ms (wT X (.UnaryOp .Not a pos)) B := Et.of (pt_not pt_w) (et_not' h)
theorem jt_val (h : Er sl ms (wE X e) fun d => ∃ t, d = .bl t ∧ B t) (he : ∀ whole, isTrue e X.env whole = (do let v ← whole; standAt e.pos; holding [v] (truthy v)) := by intro _; rfl) : Et sl ms (wT X e) B := Et.of (pt_val pe_w he) (et_B' h)
theorem j_if (h : Et sl ms (wT X c) fun t => (t = true → Er sl ms (wE X a) R) ∧ (t = false → Er sl ms (wE X b) R)) : Er sl ms (wE X (.IfExp c a b pos)) R := Er.of (pe_ifExp pt_w pe_w pe_w) (er_if' h)
theorem jl_if {R : List D → Prop} (h : Et sl ms (wT X c) fun t => (t = true → El sl ms (wE X a) R) ∧ (t = false → El sl ms (wE X b) R)) : El sl ms (wE X (.IfExp c a b pos)) R := El.of (pe_ifExp pt_w pe_w pe_w) (el_if' h)
/-! ### arguments, displays -/
theorem j_nil {Rs : List D → Prop} (k : Rs []) : Ea sl ms (wA X []) Rs := Ea.of pa_nil (ea_nil' k)
theorem j_cons {Rs : List D → Prop} (h : Er sl ms (wE X e) fun d => Ea sl ms (wA X es) fun ds => Rs (d :: ds)) (hs : starEach (e :: es) X.env = (false, eval e X.env) :: starEach es X.env := by rfl) : Ea sl ms (wA X (e :: es)) Rs := Ea.of (pa_cons pe_w pa_w hs) (ea_cons' h)
theorem j_tup {x1} (h : Ea sl ms (wA X es) fun ds => ds.length ≤ 100000 ∧ R (.tup ds)) : Er sl ms (wE X (.Tuple es x1 pos)) R := Er.of (pe_tup pa_w) (er_tup' h)
theorem jl_lst {R : List D → Prop} (h : Ea sl ms (wA X es) fun ds => ds.length ≤ 100000 ∧ R ds) : El sl ms (wE X (.List es pos)) R := El.of (pe_lst pa_w) (el_lst' h)
theorem j_lst (h : Ea sl ms (wA X es) fun ds => ds.length ≤ 100000 ∧ R (.lst ds)) : Er sl ms (wE X (.List es pos)) R := (jl_lst (R := fun ds => R (.lst ds)) h).er'
theorem j_dic (k : R .dic) : Er sl ms (wE X (.Dict [] [] pos)) R := Er.of pe_dnewK fun ho F0 H0 F ps ex σ H a Q q p hp => q _ _ _ _ k ((a.laid hp).push (.dic upd_same))
/-! ### items, slices -/
theorem j_ixT (h : Er sl ms (wE X a) fun x => Er sl ms (wE X b) fun y => ∃ ds i d, x = .tup ds ∧ y = .int i ∧ L2.atI ds i = some d ∧ R d) (hs : PlainIx b := by intro _ _; rfl) : Er sl ms (wE X (.Subscript a b pos)) R :=
  Er.of (pe_ix ix_tup pe_w pe_w hs) (er_op' (h.mono fun _ h => h.mono fun _ ⟨_, _, _, e1, e2, e3, k⟩ => by rw [e1, e2]; exact R2.done (r2_ixT e3) k))
theorem j_ixL (h : Er sl ms (wE X a) fun x => Er sl ms (wE X b) fun y => ∃ ds i d, x = .lst ds ∧ y = .int i ∧ L2.atI ds i = some d ∧ R d) (hs : PlainIx b := by intro _ _; rfl) : Er sl ms (wE X (.Subscript a b pos)) R :=
  Er.of (pe_ix ix_list pe_w pe_w hs) (er_op' (h.mono fun _ h => h.mono fun _ ⟨_, _, _, e1, e2, e3, k⟩ => by rw [e1, e2]; exact R2.done (r2_ixL e3) k))
theorem j_ixM (i : Nat) {k : Nat} {ds : List D} (hN : X.N[i]? = some x) (hs : sl[i]? = some (.m k)) (hm : ms[k]? = some ds) (h : Er sl ms (wE X b) fun y => ∃ (n : Int) (d : D), y = .int n ∧ L2.atI ds n = some d ∧ R d) (hp : PlainIx b := by intro _ _; rfl)
    (hv : Vis X.env.scope x := by first | exact Or.inl rfl | exact Or.inr (Or.inl rfl) | exact Or.inr (Or.inr rfl)) (hd : (x == ("__debug__" : Str)) = false := by decide) (hcd : (x == ("__classdict__" : Str)) = false := by decide) :
    Er sl ms (wE X (.Subscript (.Name x p) b pos)) R := Er.of (pe_ix ix_list (pv i hN hv hd hcd) pe_w hp) (er_ixM hs hm h fun _ k => k)
def Op (sl : List Sl) (ms : List (List D)) (t : TO) (K : Option Int → Prop) : Prop :=
  ∀ (ho : Option Addr) (F0 H0 F : Hp) (ps : List Addr) (ex : List (V × D)) (σ : L2.St) (H : Hp), At ho F0 H0 F ps sl ms ex σ H →
    ∀ Q : Option Int → Hp → Prop, (∀ o F' H', K o → At ho F0 H0 F' ps sl ms ex σ H' → Q o H') → t σ H Q
theorem jo_n {K : Option Int → Prop} (k : K none) : Op sl ms (wO X none) K := fun ho F0 H0 F ps ex σ H a Q q pins s I => po_none.run pins s σ H Q I (q none F H k a)
theorem jo_s {K : Option Int → Prop} (h : Er sl ms (wE X e) fun d => ∃ i, d = .int i ∧ K (some i)) : Op sl ms (wO X (some e)) K := fun ho F0 H0 F ps ex σ H a Q q pins s I => (po_some pe_w).run pins s σ H Q I (h ho F0 H0 F ps ex σ H a _ fun v d F1 H1 ⟨i, e, k⟩ a1 => by
  subst e
  cases a1.top
  exact ⟨i, rfl, q _ F1 H1 k a1.pop⟩)
theorem j_slT {lo hi : Option Expr} (h : Er sl ms (wE X a) fun x => Op sl ms (wO X lo) fun l => Op sl ms (wO X hi) fun u => ∃ ds, x = .tup ds ∧ R (.tup (cutD ds l u))) : Er sl ms (wE X (.Subscript a (.Slice lo hi none p2) pos)) R :=
  Er.of (pe_slice sl_tupA pe_w po_w po_w) fun ho F0 H0 F ps ex σ H a Q q => h ho F0 H0 F ps ex σ H a _ fun v d F1 H1 h1 a1 => h1 ho F0 H0 F1 ps _ σ H1 a1 _ fun l F2 H2 h2 a2 => h2 ho F0 H0 F2 ps _ σ H2 a2 _ fun u F3 H3 ⟨ds, e, k⟩ a3 => by
    subst e
    obtain ⟨p, xs, rfl, ha, hl⟩ : ∃ p xs, v = .ref p ∧ F3 p = some (.tup xs) ∧ DnL F3 xs ds := by cases a3.top with | tup ha hl => exact ⟨_, _, rfl, ha, hl⟩
    have hc : DnL F3 (cutV xs l u) (cutD ds l u) := by
      unfold cutV cutD
      rw [hl.len]
      exact (hl.drop _).take _
    refine ⟨p, xs, rfl, sq_t a3.fh ha, fun z => ?_, fun _ y hy => ?_⟩
    · refine q _ _ F3 H3 k (a3.pop.push ?_)
      have e1 : cutD ds l u = ds := by
        unfold cutD
        rw [← hl.len, z.1, z.2, hl.len]
        simp
      rw [e1]
      exact .tup ha hl
    · exact q _ _ _ _ k ((a3.pop.laid hy).push (.tup upd_same (hc.mono (Ex.new (a3.fh.none hy)))))
theorem j_slL {lo hi : Option Expr} (h : Er sl ms (wE X a) fun x => Op sl ms (wO X lo) fun l => Op sl ms (wO X hi) fun u => ∃ ds, x = .lst ds ∧ R (.lst (cutD ds l u))) : Er sl ms (wE X (.Subscript a (.Slice lo hi none p2) pos)) R :=
  Er.of (pe_slice sl_list pe_w po_w po_w) fun ho F0 H0 F ps ex σ H a Q q => h ho F0 H0 F ps ex σ H a _ fun v d F1 H1 h1 a1 => h1 ho F0 H0 F1 ps _ σ H1 a1 _ fun l F2 H2 h2 a2 => h2 ho F0 H0 F2 ps _ σ H2 a2 _ fun u F3 H3 ⟨ds, e, k⟩ a3 => by
    subst e
    obtain ⟨p, xs, rfl, ha, hl⟩ : ∃ p xs, v = .ref p ∧ F3 p = some (.lst xs) ∧ DnL F3 xs ds := by cases a3.top with | lst ha hl => exact ⟨_, _, rfl, ha, hl⟩
    have hc : DnL F3 (cutV xs l u) (cutD ds l u) := by
      unfold cutV cutD
      rw [hl.len]
      exact (hl.drop _).take _
    exact ⟨p, xs, rfl, sq_l a3.fh ha, fun y hy => q _ _ _ _ k ((a3.pop.laid hy).push (.lst upd_same (hc.mono (Ex.new (a3.fh.none hy)))))⟩
/-! ### built-in functions -/
theorem j_len (hm : X.mg "len" = none) (h : Er sl ms (wE X e) fun x => ∃ n : Nat, ((∃ ds, x = .tup ds ∧ n = ds.length) ∨ ∃ ds, x = .lst ds ∧ n = ds.length) ∧ R (.int n)) (hg : Gl X "len" := by rfl) (he : starEach [e] X.env = (false, eval e X.env) :: starEach [] X.env := by rfl) :
    Er sl ms (wE X (.Call (.Name "len" p) [e] [] pos)) R := Er.of (pe_callB call_len_seq hg hm PySem.boot_len (pa_cons pe_w pa_nil he) (he := he)) (er_cb' (ea_cons' (h.mono fun _ ⟨_, e, k⟩ => ea_nil' (Rc.done (rc_len e) k))))
theorem j_lenM (i : Nat) {k : Nat} {ds : List D} (hN : X.N[i]? = some x) (hs : sl[i]? = some (.m k)) (hk : ms[k]? = some ds) (hm : X.mg "len" = none) (k : R (.int ds.length)) (hg : Gl X "len" := by rfl) (he : starEach [.Name x p2] X.env = (false, eval (.Name x p2) X.env) :: starEach [] X.env := by rfl)
    (hv : Vis X.env.scope x := by first | exact Or.inl rfl | exact Or.inr (Or.inl rfl) | exact Or.inr (Or.inr rfl)) (hd : (x == ("__debug__" : Str)) = false := by decide) (hcd : (x == ("__classdict__" : Str)) = false := by decide) :
    Er sl ms (wE X (.Call (.Name "len" p) [.Name x p2] [] pos)) R := Er.of (pe_callB call_len_seq hg hm PySem.boot_len (pa_cons (pv i hN hv hd hcd) pa_nil he) (he := he)) (Er.done (ed_lenM hs hk) k)
theorem j_sumM (i : Nat) {k : Nat} {ns : List Int} (hc : X.calm = true) (hN : X.N[i]? = some x) (hs : sl[i]? = some (.m k)) (hk : ms[k]? = some (ns.map D.int)) (hm : X.mg "sum" = none) (k : R (.int ns.sum)) (hg : Gl X "sum" := by rfl) (he : starEach [.Name x p2] X.env = (false, eval (.Name x p2) X.env) :: starEach [] X.env := by rfl)
    (hv : Vis X.env.scope x := by first | exact Or.inl rfl | exact Or.inr (Or.inl rfl) | exact Or.inr (Or.inr rfl)) (hd : (x == ("__debug__" : Str)) = false := by decide) (hcd : (x == ("__classdict__" : Str)) = false := by decide) :
    Er sl ms (wE X (.Call (.Name "sum" p) [.Name x p2] [] pos)) R := Er.of (pe_callB (cr_sum hc) hg hm (by decide +kernel) (pa_cons (pv i hN hv hd hcd) pa_nil he) (he := he)) (Er.done (ed_sumM hs hk) k)
theorem j_tupleM (i : Nat) {k : Nat} {ds : List D} (hN : X.N[i]? = some x) (hs : sl[i]? = some (.m k)) (hk : ms[k]? = some ds) (hm : X.mg "tuple" = none) (k : R (.tup ds)) (hg : Gl X "tuple" := by rfl) (he : starEach [.Name x p2] X.env = (false, eval (.Name x p2) X.env) :: starEach [] X.env := by rfl)
    (hv : Vis X.env.scope x := by first | exact Or.inl rfl | exact Or.inr (Or.inl rfl) | exact Or.inr (Or.inr rfl)) (hd : (x == ("__debug__" : Str)) = false := by decide) (hcd : (x == ("__classdict__" : Str)) = false := by decide) :
    Er sl ms (wE X (.Call (.Name "tuple" p) [.Name x p2] [] pos)) R := Er.of (pe_callTy call_tuple_of hg hm boot_tuple (pa_cons (pv i hN hv hd hcd) pa_nil he) (he := he)) (Er.done (ed_tupleM hs hk) k)
theorem j_tupleL (hm : X.mg "tuple" = none) (h : Er sl ms (wE X e) fun x => ∃ ds, x = .lst ds ∧ R (.tup ds)) (hg : Gl X "tuple" := by rfl) (he : starEach [e] X.env = (false, eval e X.env) :: starEach [] X.env := by rfl) :
    Er sl ms (wE X (.Call (.Name "tuple" p) [e] [] pos)) R := Er.of (pe_callTy call_tuple_of hg hm boot_tuple (pa_cons pe_w pa_nil he) (he := he)) (er_cb' (ea_cons' (h.mono fun _ ⟨_, e, k⟩ => ea_nil' (by rw [e]; exact Rc.done rc_tupleL k))))
theorem jl_list {R : List D → Prop} (hm : X.mg "list" = none) (h : Er sl ms (wE X e) fun x => ∃ ds, (x = .tup ds ∨ x = .lst ds) ∧ R ds) (hg : Gl X "list" := by rfl) (he : starEach [e] X.env = (false, eval e X.env) :: starEach [] X.env := by rfl) :
    El sl ms (wE X (.Call (.Name "list" p) [e] [] pos)) R := El.of (pe_callTy call_list_of hg hm boot_list (pa_cons pe_w pa_nil he) (he := he)) fun ho F0 H0 F ps ex σ H a Q q => h ho F0 H0 F ps ex σ H a _ fun v d F1 H1 ⟨ds, e, k⟩ a1 => by
  rcases e with rfl | rfl
  · cases a1.top with
    | tup ha hl => exact ⟨_, _, rfl, .inr (sq_t a1.fh ha), fun l hn => q l ds F1 _ k (a1.pop.own hn hl)⟩
  · cases a1.top with
    | lst ha hl => exact ⟨_, _, rfl, .inl (sq_l a1.fh ha), fun l hn => q l ds F1 _ k (a1.pop.own hn hl)⟩
theorem j_list (hm : X.mg "list" = none) (h : Er sl ms (wE X e) fun x => ∃ ds, (x = .tup ds ∨ x = .lst ds) ∧ R (.lst ds)) (hg : Gl X "list" := by rfl) (he : starEach [e] X.env = (false, eval e X.env) :: starEach [] X.env := by rfl) :
    Er sl ms (wE X (.Call (.Name "list" p) [e] [] pos)) R := (jl_list (R := fun ds => R (.lst ds)) hm h hg he).er'
theorem j_isi {n : String} (hm : X.mg "isinstance" = none) (hn : X.mg (Str.ofString n) = none) (hb : bootBuiltins (Str.ofString n) = some (.type n)) (h : Er sl ms (wE X e) fun x => ∃ t, kitB (tyD x) n = some t ∧ R (.bl t)) (hg : Gl X "isinstance" := by rfl) (hg2 : Gl X (Str.ofString n) := by rfl)
    (hnn : Str.ofString n ≠ "__name__" := by decide +kernel) (hdd : (Str.ofString n == ("__debug__" : Str)) = false := by decide +kernel)
    (he : starEach [e, .Name (Str.ofString n) p2] X.env = (false, eval e X.env) :: starEach [.Name (Str.ofString n) p2] X.env := by rfl) (he2 : starEach [.Name (Str.ofString n) p2] X.env = (false, eval (.Name (Str.ofString n) p2) X.env) :: starEach [] X.env := by rfl)
    (hpl : (backTo pos (starEach [.Name (Str.ofString n) p2] X.env)).any (·.1) = false := by rfl) :
    Er sl ms (wE X (.Call (.Name "isinstance" p) [e, .Name (Str.ofString n) p2] [] pos)) R :=
  Er.of (pe_callB call_isi hg hm (by decide +kernel) (pa_cons pe_w (pa_cons (pe_bltn (v := .ty n) hg2 hn hb rfl hnn hdd) pa_nil he2) he) (he := he) (hpl := hpl)) fun ho F0 H0 F ps ex σ H a Q q => h ho F0 H0 F ps ex σ H a _ fun v d F1 H1 ⟨t, e, k⟩ a1 =>
    ⟨v, .ty n, _, .type n, t, rfl, .ty n, a1.top.ty a1.fh, kit_ty e, q _ _ F1 H1 k (a1.pop.push (.bl t))⟩
theorem j_all (hc : X.calm = true) (hm : X.mg "all" = none) (h : Er sl ms (wE X e) fun x => ∃ bs, x = .lst (List.map D.bl bs) ∧ R (.bl (bs.all id))) (hg : Gl X "all" := by rfl) (he : starEach [e] X.env = (false, eval e X.env) :: starEach [] X.env := by rfl) :
    Er sl ms (wE X (.Call (.Name "all" p) [e] [] pos)) R := Er.of (pe_callB (cr_all hc) hg hm (by decide +kernel) (pa_cons pe_w pa_nil he) (he := he)) (er_cb' (ea_cons' (h.mono fun _ ⟨_, e, k⟩ => ea_nil' (by rw [e]; exact Rc.done rc_all k))))
theorem j_any (hc : X.calm = true) (hm : X.mg "any" = none) (h : Er sl ms (wE X e) fun x => ∃ bs, x = .lst (List.map D.bl bs) ∧ R (.bl (bs.any id))) (hg : Gl X "any" := by rfl) (he : starEach [e] X.env = (false, eval e X.env) :: starEach [] X.env := by rfl) :
    Er sl ms (wE X (.Call (.Name "any" p) [e] [] pos)) R := Er.of (pe_callB (cr_any hc) hg hm (by decide +kernel) (pa_cons pe_w pa_nil he) (he := he)) (er_cb' (ea_cons' (h.mono fun _ ⟨_, e, k⟩ => ea_nil' (by rw [e]; exact Rc.done rc_any k))))
theorem j_sum (hc : X.calm = true) (hm : X.mg "sum" = none) (h : Er sl ms (wE X e) fun x => ∃ ns, x = .lst (List.map D.int ns) ∧ R (.int ns.sum)) (hg : Gl X "sum" := by rfl) (he : starEach [e] X.env = (false, eval e X.env) :: starEach [] X.env := by rfl) :
    Er sl ms (wE X (.Call (.Name "sum" p) [e] [] pos)) R := Er.of (pe_callB (cr_sum hc) hg hm (by decide +kernel) (pa_cons pe_w pa_nil he) (he := he)) (er_cb' (ea_cons' (h.mono fun _ ⟨_, e, k⟩ => ea_nil' (by rw [e]; exact Rc.done rc_sum k))))
theorem j_max (hc : X.calm = true) (hm : X.mg "max" = none) (h : Er sl ms (wE X e) fun x => ∃ ns m, x = .lst (List.map D.int ns) ∧ 0 < ns.length ∧ (∀ k, k ∈ ns → (∀ y, y ∈ ns → y ≤ k) → k = m) ∧ R (.int m)) (hg : Gl X "max" := by rfl) (he : starEach [e] X.env = (false, eval e X.env) :: starEach [] X.env := by rfl) :
    Er sl ms (wE X (.Call (.Name "max" p) [e] [] pos)) R := Er.of (pe_callB (cr_max hc) hg hm (by decide +kernel) (pa_cons pe_w pa_nil he) (he := he)) (er_cb' (ea_cons' (h.mono fun _ ⟨_, _, e, h0, h1, k⟩ => ea_nil' (by rw [e]; exact Rc.done (rc_max h0 h1) k))))
theorem j_min2 (hc : X.calm = true) (hm : X.mg "min" = none) (h : Er sl ms (wE X a) fun x => Er sl ms (wE X b) fun y => ∃ i j, x = .int i ∧ y = .int j ∧ R (.int (if j < i then j else i))) (hg : Gl X "min" := by rfl) (he : starEach [a, b] X.env = (false, eval a X.env) :: starEach [b] X.env := by rfl)
    (he2 : starEach [b] X.env = (false, eval b X.env) :: starEach [] X.env := by rfl) (hpl : (backTo pos (starEach [b] X.env)).any (·.1) = false := by rfl) :
    Er sl ms (wE X (.Call (.Name "min" p) [a, b] [] pos)) R := Er.of (pe_callB (call_min2 hc) hg hm (by decide +kernel) (pa_cons pe_w (pa_cons pe_w pa_nil he2) he) (he := he) (hpl := hpl)) (er_cb' (ea_cons' (h.mono fun _ h => ea_cons' (h.mono fun _ ⟨_, _, e, e', k⟩ => ea_nil' (by rw [e, e']; exact Rc.done rc_min2 k)))))
theorem j_max2 (hc : X.calm = true) (hm : X.mg "max" = none) (h : Er sl ms (wE X a) fun x => Er sl ms (wE X b) fun y => ∃ i j, x = .int i ∧ y = .int j ∧ R (.int (if j > i then j else i))) (hg : Gl X "max" := by rfl) (he : starEach [a, b] X.env = (false, eval a X.env) :: starEach [b] X.env := by rfl)
    (he2 : starEach [b] X.env = (false, eval b X.env) :: starEach [] X.env := by rfl) (hpl : (backTo pos (starEach [b] X.env)).any (·.1) = false := by rfl) :
    Er sl ms (wE X (.Call (.Name "max" p) [a, b] [] pos)) R := Er.of (pe_callB (call_max2 hc) hg hm (by decide +kernel) (pa_cons pe_w (pa_cons pe_w pa_nil he2) he) (he := he) (hpl := hpl)) (er_cb' (ea_cons' (h.mono fun _ h => ea_cons' (h.mono fun _ ⟨_, _, e, e', k⟩ => ea_nil' (by rw [e, e']; exact Rc.done rc_max2 k)))))
theorem j_sorted (hm : X.mg "sorted" = none) (h : Er sl ms (wE X e) fun x => ∃ ns, x = .lst (List.map D.int ns) ∧ ∀ ns' : List Int, ns'.Perm ns → ns'.Pairwise (· ≤ ·) → R (.lst (ns'.map D.int))) (hg : Gl X "sorted" := by rfl) (he : starEach [e] X.env = (false, eval e X.env) :: starEach [] X.env := by rfl) :
    Er sl ms (wE X (.Call (.Name "sorted" p) [e] [] pos)) R := Er.of (pe_callB cr_sortedI hg hm (by decide +kernel) (pa_cons pe_w pa_nil he) (he := he)) fun ho F0 H0 F ps ex σ H a Q q => h ho F0 H0 F ps ex σ H a _ fun v d F1 H1 ⟨ns, e, k⟩ a1 => by
  subst e
  obtain ⟨p, xs, rfl, ha, hl⟩ : ∃ p xs, v = .ref p ∧ F1 p = some (.lst xs) ∧ DnL F1 xs (ns.map D.int) := by cases a1.top with | lst ha hl => exact ⟨_, _, rfl, ha, hl⟩
  rw [DnL.ints ns hl] at ha
  exact ⟨p, ns, rfl, sq_l a1.fh ha, fun ns' y h1 h2 hy => q _ _ _ _ (k ns' h1 h2) ((a1.pop.laid hy).push (.lst upd_same (DnL.of_ints ns')))⟩
/-! ### calls -/
theorem j_call {k j n : Nat} {Pre : List D → Prop} {Post : List D → D → Prop} (c : Cl X.prog X.w X.K X.mg X.base k x (spD n Pre Post)) (hr : RoomG j X.A) (hk : k ≤ j) (h : Ea sl ms (wA X (e :: es)) fun ds => ds.length = n ∧ Pre ds ∧ ∀ d, Post ds d → R d) (hg : Gl X x := by rfl)
    (hdb : (x == ("__debug__" : Str)) = false := by decide) (he : starEach (e :: es) X.env = (false, eval e X.env) :: starEach es X.env := by rfl) (hpl : (backTo pos (starEach es X.env)).any (·.1) = false := by rfl) :
    Er sl ms (wE X (.Call (.Name x p) (e :: es) [] pos)) R := by
  obtain ⟨f, fd, ps, F, hm, kp, b⟩ := c.ex
  exact Er.of (pe_callG F (hr.mono hk) hg hm kp b pa_w hdb he hpl) (er_call h)
theorem j_callH (i : Nat) {k j n : Nat} {xh : Str} {Pre : List D → Prop} {Post : List D → D → Prop} (c : Cl X.prog X.w X.K X.mg X.base k x (spH n Pre Post)) (hr : RoomG j X.A) (hk : k ≤ j) (hN : X.N[i]? = some xh) (hs : sl[i]? = some .h) (h : Ea sl ms (wA X es) fun ds => ds.length = n ∧ Pre ds ∧ ∀ d, Post ds d → R d) (hg : Gl X x := by rfl)
    (hdb : (x == ("__debug__" : Str)) = false := by decide) (he : starEach (.Name xh p2 :: es) X.env = (false, eval (.Name xh p2) X.env) :: starEach es X.env := by rfl) (hpl : (backTo pos (starEach es X.env)).any (·.1) = false := by rfl)
    (hv : Vis X.env.scope xh := by first | exact Or.inl rfl | exact Or.inr (Or.inl rfl) | exact Or.inr (Or.inr rfl)) (hd : (xh == ("__debug__" : Str)) = false := by decide) (hcd : (xh == ("__classdict__" : Str)) = false := by decide) :
    Er sl ms (wE X (.Call (.Name x p) (.Name xh p2 :: es) [] pos)) R := by
  obtain ⟨f, fd, ps, F, hm, kp, b⟩ := c.ex
  exact Er.of (pe_callG F (hr.mono hk) hg hm kp b (pa_cons (pv i hN hv hd hcd) pa_w he) hdb he hpl) (er_callH hs h)
end
end E
set_option Elab.async false
set_option linter.all false
set_option maxRecDepth 100000
/-! The rules by the text: comprehensions, statements. -/
namespace E
open PySem PySem.Spec PyProof.Rows L2

section
variable {X : Cx} {sl sl' : List Sl} {ms : List (List D)} {R : D → Prop} {B : Bool → Prop} {pos p p2 p3 : Pos} {a b c e : Expr} {es rest : List Expr} {x y : Str} {d : D} {O : Out}
/-! ### comprehensions -/
/-- in each state of the block -/
def Blk (X : Cx) (scope : Scope) (φ : Cx → Prop) : Prop := ∀ (s : Shared) (H : Hp) (C : Addr) (cl : List (Str × Addr)) (fp : List Addr), φ (X.blk s H scope (compEnvC scope cl C X.env) fp)
theorem jl_lc {elt tg iter : Expr} {ifs : List Expr} {scope : Scope} (own : List (Str × Nat)) {fx : Option (Nat × List D)} {R : List D → Prop} (hc : X.calm = true) (hN : X.N.Nodup) (ok : BlkOk X.N X.env.scope scope own)
    (hv : ∀ j ∈ own.map (·.2), ∀ s, sl[j]? = some s → s = .u)
    (h : Ei sl ms (wI X tg iter) fx fun items => items.length < 100000 ∧ ∃ Pv : Nat → List D → Prop, Pv 0 [] ∧
      (∀ i d acc, items[i]? = some d → Pv i acc → ∃ tv sl2, Blk X scope (fun Y => Eg sl (wG Y tg) d tv sl2) ∧ (∀ j ∈ tv, j ∈ own.map (·.2)) ∧
        Blk X scope fun Y => Et sl2 (ms ++ [acc]) (wTs Y ifs) fun b => (b = true → Blk X scope fun Z => Er sl2 (ms ++ [acc]) (wE Z elt) fun y => Pv (i + 1) (acc ++ [y])) ∧ (b = false → Pv (i + 1) acc)) ∧
      ∀ acc, Pv items.length acc → R acc)
    (hs : ∀ x, foldedSetIterable iter X.env x = pure x := by intro _; rfl) : El sl ms (wE X (.ListComp elt [⟨tg, iter, ifs, 0⟩] scope pos)) R := by
  have key : El sl ms (tLc (wI X tg iter) (fun v σ H Q => ∀ (s : Shared) (H' : Hp) (C : Addr) (cl : List (Str × Addr)) (fp : List Addr), wG (X.blk s H' scope (compEnvC scope cl C X.env) fp) tg v σ H Q)
      (fun σ H Q => ∀ (s : Shared) (H' : Hp) (C : Addr) (cl : List (Str × Addr)) (fp : List Addr), wTs (X.blk s H' scope (compEnvC scope cl C X.env) fp) ifs σ H Q)
      (fun σ H Q => ∀ (s : Shared) (H' : Hp) (C : Addr) (cl : List (Str × Addr)) (fp : List Addr), wE (X.blk s H' scope (compEnvC scope cl C X.env) fp) elt σ H Q) (own.map (·.2))) R := by
    refine el_lc' hv ⟨h.1, fun ho F0 H0 F ps ex σ H a Rr q => h.2 ho F0 H0 F ps ex σ H a Rr fun J F' H' pins items ⟨hl, Pv, p0, step, fin⟩ a' wk => q J F' H' pins items ⟨hl, Pv, p0, fun i d acc hd pv => ?_, fin⟩ a' wk⟩
    obtain ⟨tv, sl2, g1, g2, g3⟩ := step i d acc hd pv
    have g0 := g1 X.s_0 X.H_0 0 [] []
    refine ⟨tv, sl2, ⟨g0.len, g0.st, fun ms ho F0 H0 F ps ex σ H v a dv Q k s H' C cl fp => (g1 s H' C cl fp).run ms ho F0 H0 F ps ex σ H v a dv Q k⟩, g2, ?_⟩
    intro ho F0 H0 F ps ex σ H a Q k s H' C cl fp
    refine g3 s H' C cl fp ho F0 H0 F ps ex σ H a Q fun b F' H'' ⟨k1, k2⟩ a' => k b F' H'' ⟨fun e => ?_, k2⟩ a'
    intro ho F0 H0 F ps ex σ H a Q k s H' C cl fp
    exact k1 e s H' C cl fp ho F0 H0 F ps ex σ H a Q k
  exact El.of (pe_lc hc hN pi_w ok (fun s H' C cl fp => ⟨fun pins s1 σ H v u Q I r h => h s H' C cl fp pins s1 u I r⟩) (fun s H' C cl fp => ⟨fun pins s1 σ H Q I h => h s H' C cl fp pins s1 I⟩) (fun s H' C cl fp => ⟨fun pins s1 σ H Q I h => h s H' C cl fp pins s1 I⟩) hs) key
/-- what comes is known: the items that pass p, by f -/
theorem jl_lcF {elt tg iter : Expr} {ifs : List Expr} {scope : Scope} (own : List (Str × Nat)) {fx : Option (Nat × List D)} {R : List D → Prop} (hc : X.calm = true) (hN : X.N.Nodup) (ok : BlkOk X.N X.env.scope scope own)
    (hv : ∀ j ∈ own.map (·.2), ∀ s, sl[j]? = some s → s = .u)
    (h : Ei sl ms (wI X tg iter) fx fun items => items.length < 100000 ∧ ∃ (p : D → Bool) (f : D → D),
      (∀ d acc, d ∈ items → ∃ tv sl2, Blk X scope (fun Y => Eg sl (wG Y tg) d tv sl2) ∧ (∀ j ∈ tv, j ∈ own.map (·.2)) ∧
        Blk X scope fun Y => Et sl2 (ms ++ [acc]) (wTs Y ifs) fun b => b = p d ∧ (b = true → Blk X scope fun Z => Er sl2 (ms ++ [acc]) (wE Z elt) fun y => y = f d)) ∧
      R ((items.filter p).map f))
    (hs : ∀ x, foldedSetIterable iter X.env x = pure x := by intro _; rfl) : El sl ms (wE X (.ListComp elt [⟨tg, iter, ifs, 0⟩] scope pos)) R := by
  refine jl_lc own (fx := fx) hc hN ok hv ⟨h.1, fun ho F0 H0 F ps ex σ H a Rr q => h.2 ho F0 H0 F ps ex σ H a Rr fun J F' H' pins items ⟨hl, pp, f, step, fin⟩ a' wk => q J F' H' pins items ⟨hl, fun i acc => acc = ((items.take i).filter pp).map f, by simp, fun i d acc hd pv => ?_, fun acc e => by rw [e, List.take_length]; exact fin⟩ a' wk⟩ hs
  obtain ⟨tv, sl2, g1, g2, g3⟩ := step d acc (List.mem_of_getElem? hd)
  have hn : (items.take (i + 1)).filter pp = (items.take i).filter pp ++ [d].filter pp := by rw [List.take_add_one, hd, List.filter_append]; rfl
  refine ⟨tv, sl2, g1, g2, fun s H C cl fp => (g3 s H C cl fp).mono fun b ⟨e, k⟩ => ⟨fun eb s H C cl fp => (k eb s H C cl fp).mono fun y ey => ?_, fun eb => ?_⟩⟩
  · show acc ++ [y] = List.map f (List.filter pp (List.take (i + 1) items))
    have pv : acc = List.map f (List.filter pp (List.take i items)) := pv
    rw [hn, pv, ey, List.map_append, show [d].filter pp = [d] by rw [List.filter_cons, if_pos (by rw [← e]; exact eb)]; rfl]; rfl
  · show acc = List.map f (List.filter pp (List.take (i + 1) items))
    have pv : acc = List.map f (List.filter pp (List.take i items)) := pv
    rw [hn, pv, show [d].filter pp = [] by rw [List.filter_cons, if_neg (by rw [← e, eb]; exact Bool.false_ne_true)]; rfl, List.append_nil]
theorem jts_nil {B : Bool → Prop} (k : B true) : Et sl ms (wTs X []) B := Et.ofs pts_nil fun ho F0 H0 F ps ex σ H a Q q => q true F H k a
theorem jts_one {B : Bool → Prop} (h : Et sl ms (wT X c) B) : Et sl ms (wTs X [c]) B := Et.ofs (pts_one pt_w) h
/-! ### what is walked -/
theorem ji_tup {tg : Expr} {K : List D → Prop} (h : Er sl ms (wE X e) fun x => ∃ ds, x = .tup ds ∧ K ds) : Ei sl ms (wI X tg e) none K := Ei.of (pi_tup pe_w) (ei_tup h)
theorem ji_lst {tg : Expr} {K : List D → Prop} (h : Er sl ms (wE X e) fun x => ∃ ds, x = .lst ds ∧ K ds) : Ei sl ms (wI X tg e) none K := Ei.of (pi_list pe_w) (ei_lst h)
theorem ji_range {tg : Expr} {K : List D → Prop} (hm : X.mg "range" = none) (h : Er sl ms (wE X e) fun x => ∃ n : Nat, x = .int n ∧ n < 2 ^ 62 ∧ K (numbers n)) (hg : Gl X "range" := by rfl) (hs : starEach [e] X.env = [(false, eval e X.env)] := by rfl) (hs2 : starEach [e] X.env = (false, eval e X.env) :: starEach [] X.env := by rfl) :
    Ei sl ms (wI X tg (.Call (.Name "range" p) [e] [] pos)) none K := Ei.of (pi_range1 hg hm (pa_cons pe_w pa_nil hs2) hs) (ei_range h)
theorem ji_enumL {elts kk tpos} {K : List D → Prop} (hm : X.mg "enumerate" = none) (h : Er sl ms (wE X e) fun x => ∃ ds, x = .lst ds ∧ K (enumD ds)) (hg : Gl X "enumerate" := by rfl) (hs : starEach [e] X.env = [(false, eval e X.env)] := by rfl) (hs2 : starEach [e] X.env = (false, eval e X.env) :: starEach [] X.env := by rfl) :
    Ei sl ms (wI X (.Tuple elts kk tpos) (.Call (.Name "enumerate" p) [e] [] pos)) none K := Ei.of (pi_enum hg hm (pa_cons pe_w pa_nil hs2) hs) (ei_enumL h)
theorem ji_enumM {elts kk tpos} {K : List D → Prop} (i : Nat) {k : Nat} {ds : List D} (hN : X.N[i]? = some x) (hsl : sl[i]? = some (.m k)) (hk : ms[k]? = some ds) (hm : X.mg "enumerate" = none) (h : K (enumD ds)) (hg : Gl X "enumerate" := by rfl) (hs : starEach [.Name x p2] X.env = [(false, eval (.Name x p2) X.env)] := by rfl) (hs2 : starEach [.Name x p2] X.env = (false, eval (.Name x p2) X.env) :: starEach [] X.env := by rfl)
    (hv : Vis X.env.scope x := by first | exact Or.inl rfl | exact Or.inr (Or.inl rfl) | exact Or.inr (Or.inr rfl)) (hd : (x == ("__debug__" : Str)) = false := by decide) (hcd : (x == ("__classdict__" : Str)) = false := by decide) :
    Ei sl ms (wI X (.Tuple elts kk tpos) (.Call (.Name "enumerate" p) [.Name x p2] [] pos)) (some (k, ds)) K := Ei.of (pi_enum hg hm (pa_cons (pv i hN hv hd hcd) pa_nil hs2) hs) (ei_enumM hsl hk h)
theorem ji_zipT {elts kk tpos} {K : List D → Prop} (hm : X.mg "zip" = none) (h : Er sl ms (wE X a) fun x => Er sl ms (wE X b) fun y => ∃ ds es, x = .tup ds ∧ y = .tup es ∧ K (zipD ds es)) (hg : Gl X "zip" := by rfl) (hs : starEach [a, b] X.env = (false, eval a X.env) :: starEach [b] X.env := by rfl)
    (hs2 : starEach [b] X.env = (false, eval b X.env) :: starEach [] X.env := by rfl) (hpl : (backTo pos (starEach [b] X.env)).any (·.1) = false := by rfl) :
    Ei sl ms (wI X (.Tuple elts kk tpos) (.Call (.Name "zip" p) [a, b] [] pos)) none K := Ei.of (RZ.pi_zipA hg hm (pa_cons pe_w (pa_cons pe_w pa_nil hs2) hs) hs hpl) (ei_zipT h)
/-! ### targets -/
theorem jg_name (i : Nat) (hN : X.N.Nodup) (hi : X.N[i]? = some x) (hx : Loc X.env.scope x := by first | exact Or.inl rfl | exact Or.inr rfl) (hf : X.fn x = true ∨ X.env.scope.names.lookup x = some .local := by first | exact .inl rfl | exact .inr rfl) : Eg sl (wG X (.Name x pos)) d [i] (sl.set i (.d d)) :=
  Eg.of (pg_name hN hi hx hf) eg_name
theorem jg_tup {es : List Expr} {k : Nat} {ds : List D} {tv : List Nat} (hc : X.calm = true) (h : Egs sl (wGs X es) ds tv sl') (hn : (assignEach es X.env).length = ds.length := by rfl) (hst : (assignEach es X.env).findIdx? (·.1) = none := by rfl) : Eg sl (wG X (.Tuple es k pos)) (.tup ds) tv sl' :=
  Eg.of (pg_tup hc pgs_w hn hst) (eg_tup rfl h)
theorem jgs_nil : Egs sl (wGs X []) [] [] sl := Egs.of pgs_nil egs_nil
theorem jgs_cons {es : List Expr} {ds : List D} {tv tw : List Nat} {sl1 : List Sl} (h : Eg sl (wG X e) d tv sl1) (h' : Egs sl1 (wGs X es) ds tw sl') (hs : (assignEach (e :: es) X.env).map (·.2) = assign e X.env :: (assignEach es X.env).map (·.2) := by rfl) : Egs sl (wGs X (e :: es)) (d :: ds) (tv ++ tw) sl' :=
  Egs.of (pgs_cons pg_w pgs_w hs) (egs_cons h h')
/-! ### statements -/
theorem jss_nil (k : O.nx sl ms) : Sr sl ms (wSs X []) O := Sr.ofs pss_nil (sr_next k)
theorem jss_cons {st : Stmt} {rest : List Stmt} (h : Sr sl ms (wS X st) { O with nx := fun s m => Sr s m (wSs X rest) O }) : Sr sl ms (wSs X (st :: rest)) O := Sr.ofs (pss_cons ps_w pss_w) (sr_seq h)
theorem jss_one {st : Stmt} (h : Sr sl ms (wS X st) O) : Sr sl ms (wSs X [st]) O := Sr.ofs (pss_one ps_w) h
theorem js_set (i : Nat) (hN : X.N.Nodup) (hi : X.N[i]? = some x) (h : Er sl ms (wE X e) fun d => O.nx (sl.set i (.d d)) ms) (hx : Loc X.env.scope x := by first | exact Or.inl rfl | exact Or.inr rfl) (hs : swapsWith e (some (.Name x p)) pos.line X.env = pure false := by rfl)
    (hf : X.fn x = true ∨ X.env.scope.names.lookup x = some .local := by first | exact .inl rfl | exact .inr rfl) : Sr sl ms (wS X (.Assign [.Name x p] e pos)) O := Sr.of (ps_set hN hi hx pe_w hs hf) (sr_set' h)
theorem js_setL (i : Nat) (hN : X.N.Nodup) (hi : X.N[i]? = some x) (h : El sl ms (wE X e) fun ds => O.nx (sl.set i (.m ms.length)) (ms ++ [ds])) (hx : Loc X.env.scope x := by first | exact Or.inl rfl | exact Or.inr rfl) (hs : swapsWith e (some (.Name x p)) pos.line X.env = pure false := by rfl)
    (hf : X.fn x = true ∨ X.env.scope.names.lookup x = some .local := by first | exact .inl rfl | exact .inr rfl) : Sr sl ms (wS X (.Assign [.Name x p] e pos)) O := Sr.of (ps_set hN hi hx pe_w hs hf) (sr_setL' h)
theorem js_ret (h : Er sl ms (wE X e) O.rt) : Sr sl ms (wS X (.Return (some e) pos)) O := Sr.of (ps_ret pe_w) (sr_ret' h)
theorem js_retM (i : Nat) {k : Nat} {ds : List D} (hN : X.N[i]? = some x) (hs : sl[i]? = some (.m k)) (hm : ms[k]? = some ds) (kk : O.rt (.lst ds)) (hv : Vis X.env.scope x := by first | exact Or.inl rfl | exact Or.inr (Or.inl rfl) | exact Or.inr (Or.inr rfl)) (hd : (x == ("__debug__" : Str)) = false := by decide) (hcd : (x == ("__classdict__" : Str)) = false := by decide) :
    Sr sl ms (wS X (.Return (some (.Name x p)) pos)) O := Sr.of (ps_ret (pv i hN hv hd hcd)) (sr_retM hs hm kk)
theorem js_retN (k : O.rt .non) : Sr sl ms (wS X (.Return none pos)) O := Sr.of ps_retN (sr_retN k)
theorem js_expr (h : Er sl ms (wE X e) fun _ => O.nx sl ms) (hs : swapsWith e none pos.line X.env = pure false := by rfl) : Sr sl ms (wS X (.Expr e pos)) O := Sr.of (ps_expr pe_w hs) (sr_drop' h)
theorem js_if {t u : List Stmt} (h : Et sl ms (wT X c) fun b => (b = true → Sr sl ms (wSs X t) O) ∧ (b = false → Sr sl ms (wSs X u) O)) : Sr sl ms (wS X (.If c t u pos)) O := Sr.of (ps_if pt_w pss_w pss_w) (sr_if' h)
theorem js_for {tg iter : Expr} {body : List Stmt} (hp : PassesOwn (model X.prog X.w) X.A X.env X.xe) (hc : X.calm = true) (h : Ei sl ms (wI X tg iter) none fun items => ∃ Pv : Nat → List Sl → List (List D) → Prop, Pv 0 sl ms ∧
    (∀ i d sl1 ms1, items[i]? = some d → Pv i sl1 ms1 → ∃ tv sl2, Eg sl1 (wG X tg) d tv sl2 ∧ Sr sl2 ms1 (wSs X body) { nx := Pv (i + 1), rt := O.rt, bk := O.nx, ct := Pv (i + 1) }) ∧
    ∀ sl1 ms1, Pv items.length sl1 ms1 → O.nx sl1 ms1) (hs : ∀ x, foldedSetIterable iter X.env x = pure x := by intro _; rfl) : Sr sl ms (wS X (.For tg iter body [] pos)) O := Sr.of (ps_for hp hc pi_w pg_w pss_w hs) (sr_for' h)
theorem js_while {body : List Stmt} (hp : PassesOwn (model X.prog X.w) X.A X.env X.xe) (Pv : Nat → List Sl → List (List D) → Prop) (h0 : ∃ m, Pv m sl ms)
    (hs : ∀ m sl1 ms1, Pv m sl1 ms1 → Et sl1 ms1 (wT X c) fun b => (b = true → Sr sl1 ms1 (wSs X body) { nx := fun s l => ∃ m', m' < m ∧ Pv m' s l, rt := O.rt, bk := O.nx, ct := fun s l => ∃ m', m' < m ∧ Pv m' s l }) ∧ (b = false → O.nx sl1 ms1)) :
    Sr sl ms (wS X (.While c body [] pos)) O := Sr.of (ps_while hp pt_w pss_w) (sr_while' Pv h0 hs)
theorem js_app (i : Nat) {k : Nat} {ds : List D} {ap : Pos} (hN : X.N[i]? = some x) (hs : sl[i]? = some (.m k)) (hm : ms[k]? = some ds) (hl : ds.length < 100000) (h : Er sl ms (wE X e) fun d => O.nx sl (ms.set k (ds ++ [d])))
    (hv : Vis X.env.scope x := by first | exact Or.inl rfl | exact Or.inr (Or.inl rfl) | exact Or.inr (Or.inr rfl)) (hd : (x == ("__debug__" : Str)) = false := by decide) (hcd : (x == ("__classdict__" : Str)) = false := by decide)
    (hbase : attributeBase (.Name x p) "append" X.env (eval (.Name x p) X.env) = eval (.Name x p) X.env := by rfl)
    (hfew : ((backTo p2 (starEach [e] X.env)).all (fun x => !x.1) && (backToKw p2 (keywordEach [] X.env)).all (fun x => x.1.isSome) && decide (([e] : List Expr).length + ([] : List Keyword).length + (if ([] : List Keyword).isEmpty then 0 else 1) < 30)) = true := by rfl)
    (hline : (ap.endLine == p2.line) = true := by rfl) (hse : starEach [e] X.env = (false, eval e X.env) :: starEach [] X.env := by rfl) (hplain : (backTo p2 (starEach [] X.env)).any (·.1) = false := by rfl)
    (hsw : swapsWith (.Call (.Attribute (.Name x p) "append" ap) [e] [] p2) none pos.line X.env = pure false := by rfl) :
    Sr sl ms (wS X (.Expr (.Call (.Attribute (.Name x p) "append" ap) [e] [] p2) pos)) O :=
  Sr.of (ps_expr (pe_bm PySem.F.plainAttrs_list PySem.F.slot_list_append PySem.F.type_list_append mt_append (pv i hN hv hd hcd) (pa_cons pe_w pa_nil hse) hbase hfew hline hse hplain) hsw) (sr_app' hs hm hl h)
/-- nothing comes here -/
theorem js_never {st : Stmt} (h : False) : Sr sl ms (wS X st) O := h.elim
/-- x[b] = e, x a list of one's own -/
theorem js_setM (i : Nat) {k : Nat} {tp : Pos} (hN : X.N[i]? = some x) (hs : sl[i]? = some (.m k)) (h : Er sl ms (wE X e) fun d => Er sl ms (wE X b) fun y => ∃ (ds : List D) (n : Int) (j : Nat), ms[k]? = some ds ∧ y = .int n ∧ ixN ds.length n = some j ∧ O.nx sl (ms.set k (ds.set j d)))
    (hv : Vis X.env.scope x := by first | exact Or.inl rfl | exact Or.inr (Or.inl rfl) | exact Or.inr (Or.inr rfl)) (hd : (x == ("__debug__" : Str)) = false := by decide) (hcd : (x == ("__classdict__" : Str)) = false := by decide)
    (ha : ∀ v, assign (.Subscript (.Name x p) b tp) X.env v = (do
      let ov ← holding [v] (eval (.Name x p) X.env)
      let iv ← holding [v, ov] (eval b X.env)
      standAt tp
      holding [v, ov, iv] (setItem ov iv v)
      release [v, ov, iv] []) := by intro _; rfl)
    (hsw : swapsWithSole [.Subscript (.Name x p) b tp] e pos.line X.env = pure false := by rfl) (hw : swappedStores [.Subscript (.Name x p) b tp] e X.env = pure none := by rfl)
    (h1 : (assignEach [.Subscript (.Name x p) b tp] X.env).map (·.2) = [assign (.Subscript (.Name x p) b tp) X.env] := by rfl) :
    Sr sl ms (wS X (.Assign [.Subscript (.Name x p) b tp] e pos)) O :=
  Sr.of (ps_asg pe_w (pg_sub (pv i hN hv hd hcd) pe_w set_list ha) hsw hw h1) fun ho F0 H0 F ps ex σ H a Z nx rt bk ct => h ho F0 H0 F ps ex σ H a _ fun v d F1 H1 h1 a1 => by
    obtain ⟨o, eo, q, rfl, hq⟩ := a1.slo i _ hs
    refine ⟨_, eo, h1 ho F0 H0 F1 ps _ σ H1 a1 _ fun w y F2 H2 ⟨ds, n, j, hm, ey, hj, k1⟩ a2 => ?_⟩
    subst ey
    cases a2.top
    obtain ⟨_, _, _, xs, h2, h3⟩ := a2.mu k q ds hq hm
    exact ⟨q, xs, n, j, rfl, rfl, h2, by rw [h3.len]; exact hj, nx _ _ F2 ps σ _ k1 (a2.pop.pop.put hq (h3.set a2.pop.top j))⟩
theorem get_listN : PGet X (fun x y H Q => ∃ p xs i v, x = .ref p ∧ y = .int i ∧ SqL X.K H p xs ∧ 0 ≤ i ∧ L2.atI xs i = some v ∧ Q v H) := by
  intro pins s σ H o i ov iv Q I ro ri h
  obtain ⟨p, xs, k, z, rfl, rfl, hq, h0, he, q⟩ := h
  cases ro
  obtain ⟨t, rfl⟩ := ri
  obtain ⟨its, r, pl, hz⟩ := I.list hq
  obtain ⟨j, h1, h2, h3, h4, h5⟩ := atI_get he
  obtain ⟨w, ew, rw'⟩ := r.get h2
  have hl := r.length
  have hj : k.toNat = j := by
    rw [seqIndex_of h0 h5] at h1
    exact Option.some.inj h1
  have hn := line63
  exact wpAny_getItem_list pl.isList h0 (by omega) (by rw [hj]; simpa using ew) ⟨z, H, I, rw', q⟩
/-- x[b] -= e, x a list of one's own -/
theorem js_augM (i : Nat) {k : Nat} {tp : Pos} (hN : X.N[i]? = some x) (hs : sl[i]? = some (.m k)) (h : Er sl ms (wE X b) fun y => ∃ (ds : List D) (n : Int) (j : Nat) (u : Int), ms[k]? = some ds ∧ y = .int n ∧ 0 ≤ n ∧ ixN ds.length n = some j ∧ ds[j]? = some (.int u) ∧ Er sl ms (wE X e) fun z => ∃ t : Int, z = .int t ∧ O.nx sl (ms.set k (ds.set j (.int (u - t)))))
    (hv : Vis X.env.scope x := by first | exact Or.inl rfl | exact Or.inr (Or.inl rfl) | exact Or.inr (Or.inr rfl)) (hd : (x == ("__debug__" : Str)) = false := by decide) (hcd : (x == ("__classdict__" : Str)) = false := by decide)
    (ha : ∀ ov iv new, augStore b ov iv new = (do holding [new, ov, iv] (setItem ov iv new); release [new, ov, iv] []; pure .next) := by intros; rfl) :
    Sr sl ms (wS X (.AugAssign (.Subscript (.Name x p) b tp) .Sub e pos)) O :=
  Sr.of (ps_augS (pv i hN hv hd hcd) pe_w get_listN pe_w ip_sub set_list ha) fun ho F0 H0 F ps ex σ H a Z nx rt bk ct => by
    obtain ⟨o, eo, q, rfl, hq⟩ := a.slo i _ hs
    refine ⟨_, eo, h ho F0 H0 F ps ex σ H a _ fun w y F2 H2 ⟨ds, n, j, u, hm, ey, h0, hj, hu, k1⟩ a2 => ?_⟩
    subst ey
    cases a2.top
    obtain ⟨_, _, _, xs, h2, h3⟩ := a2.mu k q ds hq hm
    have hat : L2.atI ds n = some (.int u) := by unfold L2.atI; rw [hj]; exact hu
    obtain ⟨zv, hz, dz⟩ := h3.atI hat
    cases dz
    refine ⟨q, xs, n, _, rfl, rfl, .inl (.inl h2), h0, hz, k1 ho F0 H0 F2 ps _ σ H2 a2 _ fun v d F3 H3 ⟨t, et, k2⟩ a3 => ?_⟩
    subst et
    cases a3.top
    obtain ⟨_, _, _, ys, h4, h5⟩ := a3.mu k q ds hq hm
    exact ⟨u, t, rfl, rfl, q, ys, n, j, rfl, rfl, h4, by rw [h5.len]; exact hj, nx _ _ F3 ps σ _ k2 (a3.pop.pop.put hq (h5.set (.int (u - t)) j))⟩
/-- x, y = a, b: two plain local names -/
theorem js_par {kt k2 pt2 px py pt} (i j : Nat) (hc : X.calm = true) (hN : X.N.Nodup) (hi : X.N[i]? = some x) (hj : X.N[j]? = some y) (hij : i ≠ j) (h : Er sl ms (wE X a) fun d => Er sl ms (wE X b) fun d' => O.nx ((sl.set i (.d d)).set j (.d d')) ms)
    (hx : X.env.scope.names.lookup x = some .local := by rfl) (hy : X.env.scope.names.lookup y = some .local := by rfl) (hw : swappedStores [.Tuple [.Name x px, .Name y py] kt pt] (.Tuple [a, b] k2 pt2) X.env = pure (some [x, y]) := by rfl)
    (hs : swapsWithSole [.Tuple [.Name x px, .Name y py] kt pt] (.Tuple [a, b] k2 pt2) pos.line X.env = pure false := by rfl) (he : starEach [a, b] X.env = (false, eval a X.env) :: starEach [b] X.env := by rfl) (he2 : starEach [b] X.env = (false, eval b X.env) :: starEach [] X.env := by rfl) :
    Sr sl ms (wS X (.Assign [.Tuple [.Name x px, .Name y py] kt pt] (.Tuple [a, b] k2 pt2) pos)) O :=
  Sr.of (ps_par hc hN hi hj hij hx hy (pa_cons pe_w (pa_cons pe_w pa_nil he2) he) hw hs) fun ho F0 H0 F ps ex σ H at0 Z nx rt bk ct => h ho F0 H0 F ps ex σ H at0 _ fun v d F1 H1 h1 a1 => h1 ho F0 H0 F1 ps _ σ H1 a1 _ fun w d' F2 H2 k a2 =>
    ⟨v, w, rfl, nx _ _ F2 ps _ H2 k ((a2.pop.pop.store (s := .d d) i ⟨v, rfl, a2.pop.top⟩).store (s := .d d') j ⟨w, rfl, a2.top⟩)⟩
theorem js_parMM {kt k2 pt2 px py pt} (i j : Nat) (hc : X.calm = true) (hN : X.N.Nodup) (hi : X.N[i]? = some x) (hj : X.N[j]? = some y) (hij : i ≠ j) (h : El sl ms (wE X a) fun d => El sl (ms ++ [d]) (wE X b) fun d' => O.nx ((sl.set i (.m ms.length)).set j (.m (ms.length + 1))) (ms ++ [d] ++ [d']))
    (hx : X.env.scope.names.lookup x = some .local := by rfl) (hy : X.env.scope.names.lookup y = some .local := by rfl) (hw : swappedStores [.Tuple [.Name x px, .Name y py] kt pt] (.Tuple [a, b] k2 pt2) X.env = pure (some [x, y]) := by rfl)
    (hs : swapsWithSole [.Tuple [.Name x px, .Name y py] kt pt] (.Tuple [a, b] k2 pt2) pos.line X.env = pure false := by rfl) (he : starEach [a, b] X.env = (false, eval a X.env) :: starEach [b] X.env := by rfl) (he2 : starEach [b] X.env = (false, eval b X.env) :: starEach [] X.env := by rfl) :
    Sr sl ms (wS X (.Assign [.Tuple [.Name x px, .Name y py] kt pt] (.Tuple [a, b] k2 pt2) pos)) O :=
  Sr.of (ps_par hc hN hi hj hij hx hy (pa_cons pe_w (pa_cons pe_w pa_nil he2) he) hw hs) fun ho F0 H0 F ps ex σ H at0 Z nx rt bk ct => h ho F0 H0 F ps ex σ H at0 _ fun p1 d F1 H1 h1 a1 => h1 ho F0 H0 F1 (ps ++ [p1]) _ σ H1 a1 _ fun p2 d' F2 H2 k a2 => by
    have e0 := at0.len
    have e1 : (ps ++ [p1] ++ [p2])[ms.length]? = some p1 := by rw [← e0, List.getElem?_append_left (by simp), List.getElem?_append_right (Nat.le_refl _)]; simp
    have e2 : (ps ++ [p1] ++ [p2])[ms.length + 1]? = some p2 := by rw [← e0, List.getElem?_append_right (by simp)]; simp
    exact ⟨.ref p1, .ref p2, rfl, nx _ _ F2 _ _ H2 k ((a2.store (s := .m ms.length) i ⟨p1, rfl, e1⟩).store (s := .m (ms.length + 1)) j ⟨p2, rfl, e2⟩)⟩
/-- .. through a tuple: names that a block knows -/
theorem js_tupMM {kt k2 pt2 px py pt} (i j : Nat) (hc : X.calm = true) (hN : X.N.Nodup) (hi : X.N[i]? = some x) (hj : X.N[j]? = some y) (hij : i ≠ j) (h : El sl ms (wE X a) fun d => El sl (ms ++ [d]) (wE X b) fun d' => O.nx ((sl.set i (.m ms.length)).set j (.m (ms.length + 1))) (ms ++ [d] ++ [d']))
    (hx : Loc X.env.scope x := by first | exact Or.inl rfl | exact Or.inr rfl) (hy : Loc X.env.scope y := by first | exact Or.inl rfl | exact Or.inr rfl) (hfx : X.fn x = true ∨ X.env.scope.names.lookup x = some .local := by first | exact .inl rfl | exact .inr rfl) (hfy : X.fn y = true ∨ X.env.scope.names.lookup y = some .local := by first | exact .inl rfl | exact .inr rfl)
    (hw : swappedStores [.Tuple [.Name x px, .Name y py] kt pt] (.Tuple [a, b] k2 pt2) X.env = pure none := by rfl)
    (hs : swapsWithSole [.Tuple [.Name x px, .Name y py] kt pt] (.Tuple [a, b] k2 pt2) pos.line X.env = pure false := by rfl) (he : starEach [a, b] X.env = (false, eval a X.env) :: starEach [b] X.env := by rfl) (he2 : starEach [b] X.env = (false, eval b X.env) :: starEach [] X.env := by rfl)
    (hg1 : (assignEach [.Name x px, .Name y py] X.env).map (·.2) = assign (.Name x px) X.env :: (assignEach [.Name y py] X.env).map (·.2) := by rfl) (hg2 : (assignEach [.Name y py] X.env).map (·.2) = assign (.Name y py) X.env :: (assignEach [] X.env).map (·.2) := by rfl)
    (hn : (assignEach [.Name x px, .Name y py] X.env).length = 2 := by rfl) (hst : (assignEach [.Name x px, .Name y py] X.env).findIdx? (·.1) = none := by rfl)
    (h1 : (assignEach [.Tuple [.Name x px, .Name y py] kt pt] X.env).map (·.2) = [assign (.Tuple [.Name x px, .Name y py] kt pt) X.env] := by rfl) :
    Sr sl ms (wS X (.Assign [.Tuple [.Name x px, .Name y py] kt pt] (.Tuple [a, b] k2 pt2) pos)) O :=
  Sr.of (ps_asg (pe_tup (pa_cons pe_w (pa_cons pe_w pa_nil he2) he)) (pg_tup (n := 2) hc (pgs_cons (pg_name hN hi hx hfx) (pgs_cons (pg_name hN hj hy hfy) pgs_nil hg2) hg1) hn hst) hs hw h1) fun ho F0 H0 F ps ex σ H at0 Z nx rt bk ct => h ho F0 H0 F ps ex σ H at0 _ fun p1 d F1 H1 h1 a1 => h1 ho F0 H0 F1 (ps ++ [p1]) _ σ H1 a1 _ fun p2 d' F2 H2 k a2 => by
    have e0 := at0.len
    have e1 : (ps ++ [p1] ++ [p2])[ms.length]? = some p1 := by rw [← e0, List.getElem?_append_left (by simp), List.getElem?_append_right (Nat.le_refl _)]; simp
    have e2 : (ps ++ [p1] ++ [p2])[ms.length + 1]? = some p2 := by rw [← e0, List.getElem?_append_right (by simp)]; simp
    refine ⟨(by show 2 ≤ sizeLine; decide), fun T hT => ⟨T, [.ref p1, .ref p2], rfl, .inl (.inl upd_same), rfl, _, _, rfl, _, _, rfl, rfl, nx _ _ F2 (ps ++ [p1] ++ [p2]) _ _ k ?_⟩⟩
    have a3 := a2.step0 (F' := F2) (H' := upd H2 T (.tup [.ref p1, .ref p2])) ⟨Ex.refl F2, fun b o q => by rw [upd_ne (ne_of_none (a2.fh b o q) hT)]; exact a2.fh b o q, fun b o _ q => by rw [upd_ne (ne_of_none q hT)]; exact q, fun _ h _ => h⟩
    exact (a3.store (s := .m ms.length) i ⟨p1, rfl, e1⟩).store (s := .m (ms.length + 1)) j ⟨p2, rfl, e2⟩
theorem js_tupMD {kt k2 pt2 px py pt} (i j : Nat) (hc : X.calm = true) (hN : X.N.Nodup) (hi : X.N[i]? = some x) (hj : X.N[j]? = some y) (hij : i ≠ j) (h : El sl ms (wE X a) fun d => Er sl (ms ++ [d]) (wE X b) fun d' => O.nx ((sl.set i (.m ms.length)).set j (.d d')) (ms ++ [d]))
    (hx : Loc X.env.scope x := by first | exact Or.inl rfl | exact Or.inr rfl) (hy : Loc X.env.scope y := by first | exact Or.inl rfl | exact Or.inr rfl) (hfx : X.fn x = true ∨ X.env.scope.names.lookup x = some .local := by first | exact .inl rfl | exact .inr rfl) (hfy : X.fn y = true ∨ X.env.scope.names.lookup y = some .local := by first | exact .inl rfl | exact .inr rfl)
    (hw : swappedStores [.Tuple [.Name x px, .Name y py] kt pt] (.Tuple [a, b] k2 pt2) X.env = pure none := by rfl)
    (hs : swapsWithSole [.Tuple [.Name x px, .Name y py] kt pt] (.Tuple [a, b] k2 pt2) pos.line X.env = pure false := by rfl) (he : starEach [a, b] X.env = (false, eval a X.env) :: starEach [b] X.env := by rfl) (he2 : starEach [b] X.env = (false, eval b X.env) :: starEach [] X.env := by rfl)
    (hg1 : (assignEach [.Name x px, .Name y py] X.env).map (·.2) = assign (.Name x px) X.env :: (assignEach [.Name y py] X.env).map (·.2) := by rfl) (hg2 : (assignEach [.Name y py] X.env).map (·.2) = assign (.Name y py) X.env :: (assignEach [] X.env).map (·.2) := by rfl)
    (hn : (assignEach [.Name x px, .Name y py] X.env).length = 2 := by rfl) (hst : (assignEach [.Name x px, .Name y py] X.env).findIdx? (·.1) = none := by rfl)
    (h1 : (assignEach [.Tuple [.Name x px, .Name y py] kt pt] X.env).map (·.2) = [assign (.Tuple [.Name x px, .Name y py] kt pt) X.env] := by rfl) :
    Sr sl ms (wS X (.Assign [.Tuple [.Name x px, .Name y py] kt pt] (.Tuple [a, b] k2 pt2) pos)) O :=
  Sr.of (ps_asg (pe_tup (pa_cons pe_w (pa_cons pe_w pa_nil he2) he)) (pg_tup (n := 2) hc (pgs_cons (pg_name hN hi hx hfx) (pgs_cons (pg_name hN hj hy hfy) pgs_nil hg2) hg1) hn hst) hs hw h1) fun ho F0 H0 F ps ex σ H at0 Z nx rt bk ct => h ho F0 H0 F ps ex σ H at0 _ fun p1 d F1 H1 h1 a1 => h1 ho F0 H0 F1 (ps ++ [p1]) _ σ H1 a1 _ fun w d' F2 H2 k a2 => by
    have e0 := at0.len
    have e1 : (ps ++ [p1])[ms.length]? = some p1 := by rw [← e0, List.getElem?_append_right (Nat.le_refl _)]; simp
    refine ⟨(by show 2 ≤ sizeLine; decide), fun T hT => ⟨T, [.ref p1, w], rfl, .inl (.inl upd_same), rfl, _, _, rfl, _, _, rfl, rfl, nx _ _ F2 (ps ++ [p1]) _ _ k ?_⟩⟩
    have a3 := a2.step0 (F' := F2) (H' := upd H2 T (.tup [.ref p1, w])) ⟨Ex.refl F2, fun b o q => by rw [upd_ne (ne_of_none (a2.fh b o q) hT)]; exact a2.fh b o q, fun b o _ q => by rw [upd_ne (ne_of_none q hT)]; exact q, fun _ h _ => h⟩
    exact (a3.pop.store (s := .m ms.length) i ⟨p1, rfl, e1⟩).store (s := .d d') j ⟨w, rfl, a3.top⟩
/-- x.append(y.pop(b)) -/
theorem js_appPop (i j : Nat) {k l : Nat} {ds fs : List D} {ap ap2 q1 q2 : Pos} (hN : X.N[i]? = some x) (hM : X.N[j]? = some y) (hs : sl[i]? = some (.m k)) (ht : sl[j]? = some (.m l)) (hkl : k ≠ l) (hm : ms[k]? = some fs) (hn : ms[l]? = some ds) (hl : fs.length < 100000)
    (h : Er sl ms (wE X b) fun z => ∃ (n : Nat) (d : D), z = .int n ∧ n < 2 ^ 62 ∧ ds[n]? = some d ∧ O.nx sl ((ms.set l (ds.eraseIdx n)).set k (fs ++ [d])))
    (hv : Vis X.env.scope x := by first | exact Or.inl rfl | exact Or.inr (Or.inl rfl) | exact Or.inr (Or.inr rfl)) (hd : (x == ("__debug__" : Str)) = false := by decide) (hcd : (x == ("__classdict__" : Str)) = false := by decide)
    (hv2 : Vis X.env.scope y := by first | exact Or.inl rfl | exact Or.inr (Or.inl rfl) | exact Or.inr (Or.inr rfl)) (hd2 : (y == ("__debug__" : Str)) = false := by decide) (hcd2 : (y == ("__classdict__" : Str)) = false := by decide)
    (hbase : attributeBase (.Name x p) "append" X.env (eval (.Name x p) X.env) = eval (.Name x p) X.env := by rfl)
    (hbase2 : attributeBase (.Name y q1) "pop" X.env (eval (.Name y q1) X.env) = eval (.Name y q1) X.env := by rfl)
    (hfew : ((backTo p2 (starEach [.Call (.Attribute (.Name y q1) "pop" ap2) [b] [] q2] X.env)).all (fun x => !x.1) && (backToKw p2 (keywordEach [] X.env)).all (fun x => x.1.isSome) && decide (([.Call (.Attribute (.Name y q1) "pop" ap2) [b] [] q2] : List Expr).length + ([] : List Keyword).length + (if ([] : List Keyword).isEmpty then 0 else 1) < 30)) = true := by rfl)
    (hfew2 : ((backTo q2 (starEach [b] X.env)).all (fun x => !x.1) && (backToKw q2 (keywordEach [] X.env)).all (fun x => x.1.isSome) && decide (([b] : List Expr).length + ([] : List Keyword).length + (if ([] : List Keyword).isEmpty then 0 else 1) < 30)) = true := by rfl)
    (hline : (ap.endLine == p2.line) = true := by rfl) (hline2 : (ap2.endLine == q2.line) = true := by rfl) (hse : starEach [.Call (.Attribute (.Name y q1) "pop" ap2) [b] [] q2] X.env = (false, eval (.Call (.Attribute (.Name y q1) "pop" ap2) [b] [] q2) X.env) :: starEach [] X.env := by rfl)
    (hse2 : starEach [b] X.env = (false, eval b X.env) :: starEach [] X.env := by rfl) (hplain : (backTo p2 (starEach [] X.env)).any (·.1) = false := by rfl) (hplain2 : (backTo q2 (starEach [] X.env)).any (·.1) = false := by rfl)
    (hsw : swapsWith (.Call (.Attribute (.Name x p) "append" ap) [.Call (.Attribute (.Name y q1) "pop" ap2) [b] [] q2] [] p2) none pos.line X.env = pure false := by rfl) :
    Sr sl ms (wS X (.Expr (.Call (.Attribute (.Name x p) "append" ap) [.Call (.Attribute (.Name y q1) "pop" ap2) [b] [] q2] [] p2) pos)) O :=
  Sr.of (ps_expr (pe_bm PySem.F.plainAttrs_list PySem.F.slot_list_append PySem.F.type_list_append mt_append (pv i hN hv hd hcd)
    (pa_cons (pe_bm PySem.F.plainAttrs_list PySem.F.slot_list_pop PySem.F.type_list_pop mt_popAt (pv j hM hv2 hd2 hcd2) (pa_cons pe_w pa_nil hse2) hbase2 hfew2 hline2 hse2 hplain2) pa_nil hse) hbase hfew hline hse hplain) hsw) fun ho F0 H0 F ps ex σ H a Z nx rt bk ct => by
  obtain ⟨o, eo, q, rfl, hq⟩ := a.slo i _ hs
  obtain ⟨o2, eo2, r, rfl, hr⟩ := a.slo j _ ht
  obtain ⟨_, _, _, xs0, hx0, _⟩ := a.mu k q fs hq hm
  obtain ⟨_, _, _, ys0, hy0, _⟩ := a.mu l r ds hr hn
  refine ⟨_, eo, .inl ⟨rfl, _, .inl (.inl hx0)⟩, _, eo2, .inl ⟨rfl, _, .inl (.inl hy0)⟩, h ho F0 H0 F ps ex σ H a _ fun v d F1 H1 ⟨n, dd, ez, hn62, hdn, kk⟩ a1 => ?_⟩
  subst ez
  cases a1.top
  obtain ⟨_, _, _, ys, hy, hyd⟩ := a1.mu l r ds hr hn
  obtain ⟨u, hu, hud⟩ := hyd.get n hdn
  have hlt : n < ys.length := (List.getElem?_eq_some_iff.mp hu).1
  have a2 := (a1.push hud).put hr (hyd.erase n)
  have hqk : (ms.set l (ds.eraseIdx n))[k]? = some fs := by rw [List.getElem?_set_ne (Ne.symm hkl)]; exact hm
  obtain ⟨_, _, _, xs, hx, hxd⟩ := a2.mu k q fs hq hqk
  refine ⟨r, ys, n, n, u, rfl, rfl, hy, by omega, by omega, seqIndex_of (by omega) (by omega) |>.trans (by simp), hu, ?_⟩
  refine ⟨q, xs, u, rfl, rfl, hx, by rw [hxd.len]; exact Nat.lt_trans hl (by decide), nx _ _ F1 ps σ _ kk ((a2.put hq (hxd.app (.cons a2.top .nil))).pop.pop)⟩
end
end E
set_option Elab.async false
set_option linter.all false
set_option maxRecDepth 100000
/-! enumerate(tuple) -/
namespace LT
open PySem PySem.Spec PyProof.Rows L2
open AutoSeq1 (wpAny_loadPart')

theorem meets_enumerate_newT (l : Addr) (items : Array Value) (n : Nat) (dct : Option Addr) (sl : Array (Option Value)) :
    Meets (Builtin.«enumerate.__new__» ⟨[.type "enumerate", .ref l], []⟩) (fun _ R s => s.heap.get? l = some { cls := .type "tuple", dict := dct, data := .seq items n, slots := sl } ∧
      R (.ok (.ret (.ref (s.heap.push { cls := .type "tuple_iterator", data := .fields #[.ref l, .int 0 0] }).objs.size)))
        { s with heap := (s.heap.push { cls := .type "tuple_iterator", data := .fields #[.ref l, .int 0 0] }).push { cls := .type "enumerate", data := .fields #[.none, .bool false, .ref s.heap.objs.size, rawInt 0, .none, .none] } }) :=
  .of_wp fun prog w A R s h => by
    obtain ⟨hp, g, d, tk, os⟩ := s; obtain ⟨hl, h⟩ := h
    have hsub := sub_enumerate
    have hL : Heap.IsTuple (Shared.heap ⟨hp, g, d, tk, os⟩) l items := ⟨_, hl, rfl, n, rfl⟩
    wp_walk using wpAny_loadPart' hl
    refine wpAny_stack_any fun st => wpAny_pure ?_
    split
    · rename_i c _ _ _ _ _
      cases (c == Value.type "enumerate")
      · wp_walk using wpAny_loadPart' hl, wpAny_pyIter_tuple hL
        exact ⟨_, rfl, h⟩
      · wp_walk using wpAny_loadPart' hl, wpAny_pyIter_tuple hL
        exact ⟨_, rfl, h⟩
    · wp_walk using wpAny_loadPart' hl, wpAny_pyIter_tuple hL
      exact ⟨_, rfl, h⟩

section
variable {prog : Program} {w : World} {A : Around} {E : Value → Shared → Prop} {s : Shared}
theorem call_enumerate_tuple {l : Addr} {items : Array Value} {Q : Value → Shared → Prop} (hL : s.heap.IsTuple l items)
    (h : ∀ h', IsEnum h' (s.heap.objs.size + 1) s.heap.objs.size 0 .none → h'.IsTupleIter s.heap.objs.size l 0 → h'.objs.size = s.heap.objs.size + 2 →
      (∀ b o, s.heap.get? b = some o → h'.get? b = some o) → Q (.ref (s.heap.objs.size + 1)) { s with heap := h' }) :
    wpAny (model prog w) A (call (.type "enumerate") [.ref l]) Q E s := by
  obtain ⟨⟨c, dct, dt, sl⟩, hl, hc, n, hd⟩ := hL
  replace hc : c = .type "tuple" := hc
  replace hd : dt = .seq items n := hd
  subst hc hd
  refine callType_new F.called_enumerate (by decide) (F.typeCall_enumerate_1 _) (F.newCall_enumerate_1 _) (fun obj => F.args_object_init_2 obj _) F.entry_enumerate_new
    (meets_enumerate_newT l items n dct sl) ⟨hl, ?_⟩
  have hz : (s.heap.push { cls := .type "tuple_iterator", data := .fields #[.ref l, .int 0 0] }).objs.size = s.heap.objs.size + 1 := Heap.size_push ..
  show _ ∧ _
  rw [hz]
  have he : IsEnum ((s.heap.push { cls := .type "tuple_iterator", data := .fields #[.ref l, .int 0 0] }).push
      { cls := .type "enumerate", data := .fields #[.none, .bool false, .ref s.heap.objs.size, rawInt 0, .none, .none] }) (s.heap.objs.size + 1) s.heap.objs.size 0 .none := by
    have := Heap.get?_push_size (s.heap.push { cls := .type "tuple_iterator", data := .fields #[.ref l, .int 0 0] })
      (o := { cls := .type "enumerate", data := .fields #[.none, .bool false, .ref s.heap.objs.size, rawInt 0, .none, .none] }) rfl
    rw [hz] at this; exact this
  refine ⟨⟨_, he, rfl⟩, h _ he ⟨_, Heap.get?_push_of_some _ (Heap.get?_push_size _ rfl), rfl, rfl⟩ (by rw [Heap.size_push, hz]) fun b o x => Heap.get?_push_of_some _ (Heap.get?_push_of_some _ x)⟩
end

/-- the tuple at a, each item in a new pair -/
def IteT (K : PySem.W.Frag) (a : Addr) : It :=
  ⟨fun i H => ∃ (xs : List V) (x : V), SqT K H a xs ∧ xs[i]? = some x, fun i H v H' => ∃ T x, v = .ref T ∧ H T = none ∧ H' = upd H T (.tup [.int (i : Nat), x]) ∧ ∀ xs, SqT K H a xs → xs[i]? = some x, fun i H => ∃ xs : List V, SqT K H a xs ∧ xs.length = i⟩
theorem turn_enumT {P : Program} {w : World} {K : PySem.W.Frag} {elts : List Expr} {kk : Nat} {tpos : Pos} (a e it : Addr) (hea : e ≠ a) (hia : a ≠ it) :
    Turn P w K (.Tuple elts kk tpos) (IteT K a) [e, it] e (fun i h => (∃ old, IsEnum h e it ((i : Nat) : Int) old) ∧ h.IsTupleIter it a i ∧ e ≠ it) where
  mem := by simp
  obj := fun i h st b hb => by
    obtain ⟨⟨old, he⟩, ⟨o, ho, hc, hd⟩, _⟩ := st
    have e' : b = e ∨ b = it := by simpa using hb
    rcases e' with z | z
    · rw [z]; exact ⟨_, he, fun v q => nomatch q⟩
    · rw [z]; exact ⟨o, ho, fun v q => by rw [hd] at q; cases q⟩
  keep := fun i h h' st k => let ⟨⟨old, he⟩, hi, hne⟩ := st; ⟨⟨old, k e (by simp) _ he⟩, hi.at fun o q => k it (by simp) o q, hne⟩
  item := by
    intro X hP hw hK hc i pins s σ H E I hf st hg
    subst hP hw hK
    obtain ⟨⟨old, he⟩, hit, hne⟩ := st
    obtain ⟨xs, x, hq, hx⟩ := hg
    obtain ⟨its, rv, p, hz⟩ := I.tuple hq
    obtain ⟨u, hu, ru⟩ := rv.get hx
    have hel : e < s.heap.objs.size := Heap.lt_size he
    have hil : it < s.heap.objs.size := by obtain ⟨_, q, _⟩ := hit; exact Heap.lt_size q
    have hlt : i < its.toArray.size := by rw [List.size_toArray]; exact (List.getElem?_eq_some_iff.mp hu).1
    refine wpAny_pyNext_enum_itemD (Draws.tuple (A := X.A.in1) (I.ok.hd hc) it a hia its.toArray) he ⟨hit, p⟩ hlt hne (by simp [hne, hea]) fun x' h' tk px ho hit' hT hsz hk => ?_
    have ex : x' = u := by
      have z : its[i]? = some x' := by simpa using px
      rw [hu] at z; exact (Option.some.inj z).symm
    subst ex
    refine ⟨_, rfl, wpAny_letOwnedTupleGo_enum (s := { s with heap := h', toks := tk + 1 }) ho fun h'' he' sb => ?_⟩
    have hT2 : h''.get? s.heap.objs.size = some { cls := .type "tuple", data := .seq #[.int i tk, x'] } := (sb.2 _ (Nat.ne_of_gt hel)).trans hT
    have new : ObjOk X.prog X.w (upd H s.heap.objs.size (.tup [.int (i : Nat), x])) h'' s.heap.objs.size (.tup [.int (i : Nat), x]) :=
      ⟨by show 2 ≤ sizeLine; decide, [.int i tk, x'], .cons ⟨_, rfl⟩ (.cons ru .nil), ⟨_, hT2, rfl, _, rfl⟩⟩
    have I1 : Inv X pins σ (upd H s.heap.objs.size (.tup [.int (i : Nat), x])) { s with heap := h'', toks := tk + 1 } :=
      I.turnedNew (ch := [e, it]) (fun b ob hb q => (sb.2 b (fun z => hb (by simp [z]))).trans (hk b ob (fun z => hb (by simp [z])) (fun z => hb (by simp [z])) q)) hf (Nat.le_refl _) new
    refine ⟨.ref s.heap.objs.size, _, I1, rfl, ⟨_, x, rfl, I.hok.fresh (Nat.le_refl _), rfl, fun ys hy => by rw [I.tuple_inj hy hq]; exact hx⟩, ⟨⟨x', ?_⟩, hit'.1.at fun o q => (sb.2 it (Ne.symm hne)).trans q, hne⟩, fun b hb => ?_⟩
    · have e1 : ((i + 1 : Nat) : Int) = (i : Int) + 1 := by omega
      rw [e1]; exact he'
    · have hb' : b < s.heap.objs.size := by
        have e' : b = e ∨ b = it := by simpa using hb
        rcases e' with z | z
        · rw [z]; exact hel
        · rw [z]; exact hil
      rw [upd_ne (Nat.ne_of_lt hb')]
      exact (hf b hb).1
  done := by
    intro X hP hw hK hc i pins s σ H E I hf st hg
    subst hP hw hK
    obtain ⟨⟨old, he⟩, hit, hne⟩ := st
    obtain ⟨xs, hq, hx⟩ := hg
    obtain ⟨its, rv, p, hz⟩ := I.tuple hq
    obtain ⟨f0, f1, f2, f3, f4, f5⟩ := hf it (by simp)
    have hl := rv.length
    have hi : i = its.toArray.size := by rw [List.size_toArray]; omega
    subst hi
    exact wpAny_pyNext_enum_endD (Draws.tuple (A := X.A.in1) (I.ok.hd hc) it a hia its.toArray) he ⟨hit, p⟩ fun h' eb => ⟨rfl, I.turned (t' := s.toks) (fun b o hb q => eb b o hb q) f0 f1 f3 f4 f5⟩
  self := fun A i s Q E st h => let ⟨⟨_, he⟩, _⟩ := st; wpAny_pyIter_enum he h
def iEnumT (K : PySem.W.Frag) (ta : TA) : TI := fun σ H R => ta σ H fun vs H1 => ∃ a xs, vs = [.ref a] ∧ SqT K H1 a xs ∧ R (IteT K a) H1
theorem pi_enumT {X : Cx} {e : Expr} {ta : TA} {p pos tpos : Pos} {elts : List Expr} {kk : Nat} (hg : Gl X "enumerate") (hm : X.mg "enumerate" = none) (ha : PA X [e] ta) (hs : starEach [e] X.env = [(false, eval e X.env)] := by rfl) :
    PI X (.Tuple elts kk tpos) (.Call (.Name "enumerate" p) [e] [] pos) (iEnumT X.K ta) := by
  refine ⟨fun pins s σ H R I h => ?_⟩
  refine Call_ (ld_blt I hg hm (show bootBuiltins "enumerate" = some (.type "enumerate") by decide +kernel) (PyProof.Rows.callWith_type1 (thn (ha.run pos pins s σ H _ I h) fun us s1 ⟨vs, H1, I1, r1, q1⟩ => ?_) hs rfl))
  obtain ⟨a, xs, ex, hq, q⟩ := q1
  subst ex
  cases r1 with
  | cons r rr =>
    cases rr
    cases r
    obtain ⟨its, rv, p', hz⟩ := I1.tuple hq
    have hal : a < s1.heap.objs.size := by obtain ⟨o, ho, _⟩ := id p'; exact Heap.lt_size ho
    refine call_enumerate_tuple (show s1.heap.IsTuple a its.toArray from p') fun h' he hit hsz hk => wpAny_pyIter_enum he ?_
    have I2 : Inv X pins σ H1 { s1 with heap := h' } := I1.kept (t' := s1.toks) hk
    refine ⟨s1.heap.objs.size + 1, [s1.heap.objs.size + 1, s1.heap.objs.size], _, _, H1, rfl, I2, turn_enumT a (s1.heap.objs.size + 1) s1.heap.objs.size (Nat.ne_of_gt (Nat.lt_succ_of_lt hal)) (Nat.ne_of_lt hal), ⟨⟨.none, he⟩, hit, Nat.succ_ne_self _⟩, fun b hb => ?_, q⟩
    have e' : b = s1.heap.objs.size + 1 ∨ b = s1.heap.objs.size := by simpa using hb
    have hle : s1.heap.objs.size ≤ b := by
      rcases e' with z | z
      · rw [z]; exact Nat.le_add_right _ _
      · rw [z]; exact Nat.le_refl _
    exact I1.fpOk hle (I1.hok.fresh hle)
end LT
namespace E
open PySem PySem.Spec PyProof.Rows L2
section
variable {X : Cx} {sl : List Sl} {ms : List (List D)} {pos p : Pos} {e : Expr} {ta : TE}
theorem ei_enumT {Kf : PySem.W.Frag} {K : List D → Prop} (h : Er sl ms ta fun x => ∃ ds, x = .tup ds ∧ K (enumD ds)) : Ei sl ms (LT.iEnumT Kf (tCons ta tNil)) none K := ⟨nofx, fun ho F0 H0 F ps ex σ H a Rr q =>
  h ho F0 H0 F ps ex σ H a _ fun v d F1 H1 ⟨ds, e, k⟩ a1 => by
    subst e
    obtain ⟨p, xs, rfl, ha, hl⟩ : ∃ p xs, v = .ref p ∧ F1 p = some (.tup xs) ∧ DnL F1 xs ds := by cases a1.top with | tup ha hl => exact ⟨_, _, rfl, ha, hl⟩
    refine ⟨p, xs, rfl, sq_t a1.fh ha, q _ F1 H1 [(.ref p, .tup ds)] _ k a1 fun F2 H2 e2 hp _ => ?_⟩
    cases hp _ (List.mem_singleton.mpr rfl) with
    | @tup _ ys _ ha hl =>
      refine ⟨fun i d hd => ?_, ys, sq_t e2 ha, by rw [hl.len, enumFrom_len]⟩
      obtain ⟨z, hz, rfl⟩ := enumD_get hd
      obtain ⟨x, hx, hxd⟩ := hl.get i hz
      refine ⟨⟨ys, x, sq_t e2 ha, hx⟩, fun y H3 hy => ?_⟩
      obtain ⟨T, x', rfl, hT, rfl, hy⟩ := hy
      have w := hy ys (sq_t e2 ha)
      rw [hx] at w; cases w
      have ef := Ex.new (o := HO.tup [.int (i : Nat), x]) (e2.none hT)
      exact ⟨_, Ext.new e2 hT, .tup upd_same (.cons (.int _) (.cons (hxd.mono ef) .nil))⟩⟩
theorem ji_enumT {elts kk tpos} {K : List D → Prop} (hm : X.mg "enumerate" = none) (h : Er sl ms (wE X e) fun x => ∃ ds, x = .tup ds ∧ K (enumD ds)) (hg : Gl X "enumerate" := by rfl) (hs : starEach [e] X.env = [(false, eval e X.env)] := by rfl) (hs2 : starEach [e] X.env = (false, eval e X.env) :: starEach [] X.env := by rfl) :
    Ei sl ms (wI X (.Tuple elts kk tpos) (.Call (.Name "enumerate" p) [e] [] pos)) none K := Ei.of (LT.pi_enumT hg hm (pa_cons pe_w pa_nil hs2) hs) (ei_enumT h)
end
end E
set_option Elab.async false
set_option linter.all false
set_option maxRecDepth 100000
/-! data as PyData: repr, min, equality; sets of ints; tuples from behind -/
namespace E
open PySem PySem.Spec PyProof.Rows L2

mutual
def toP : D → PyData
  | .non => .none
  | .bl b => .bool b
  | .int i => .int i
  | .str s => .str s
  | .tup l => .tuple (toPs l)
  | .lst l => .list (toPs l)
  | .dic => .dict []
def toPs : List D → List PyData
  | [] => []
  | d :: l => toP d :: toPs l
end
theorem toPs_map : ∀ l : List D, toPs l = l.map toP
  | [] => rfl
  | d :: l => by rw [toPs, toPs_map l]; rfl

section
variable {X : Cx} {pins : List (Addr × Obj)} {σ : L2.St} {H F : Hp} {s : Shared}
theorem dic_at (I : Inv X pins σ H s) {a : Addr} (h : H a = some (.dK [])) : (a == sysModules) = false ∧ ∃ o es n, s.heap.get? a = some o ∧ o.cls = .type "dict" ∧ o.data = .dict es n ∧ es.toList = [] := by
  obtain ⟨_, hd, vs, rel, o, es, ep, h1, h2, h3, _, h5, _⟩ := dk_of I.hok h
  refine ⟨hd, o, es, ep, h1, h2.1, h3, ?_⟩
  have hv : vs = [] := by cases rel; rfl
  subst hv
  generalize es.toList = l at h5
  cases h5
  rfl
mutual
theorem Dn.reads (I : Inv X pins σ H s) (e : Ex F H) : ∀ {v : V} {d : D} {u : Value}, Dn F v d → RelV v u → ∃ as, Reads s.heap u (toP d) as
  | _, _, _, .non, r => by
    cases r
    exact ⟨_, Reads.none⟩
  | _, _, _, .bl b, r => by
    cases r
    exact ⟨_, Reads.bool b⟩
  | _, _, _, .int i, r => by
    obtain ⟨t, rfl⟩ := r
    exact ⟨_, Reads.int i t⟩
  | _, _, _, .str x, r => by
    obtain ⟨t, rfl⟩ := r
    exact ⟨_, Reads.str x t⟩
  | _, _, _, .tup h l, r => by
    cases r
    obtain ⟨its, rv, ⟨o, ho, hc, n, hd⟩, _⟩ := I.tuple (sq_t e h)
    obtain ⟨as, hr⟩ := DnL.readsAll I e l rv
    exact ⟨_, by rw [toP]; exact Reads.tuple ho hc hd hr⟩
  | _, _, _, .lst h l, r => by
    cases r
    obtain ⟨its, rv, ⟨o, n, ho, hc, _, hd⟩, _⟩ := I.list (sq_l e h)
    obtain ⟨as, hr⟩ := DnL.readsAll I e l rv
    exact ⟨_, by rw [toP]; exact Reads.list ho hc hd hr⟩
  | _, _, _, .dic h, r => by
    cases r
    obtain ⟨_, o, es, n, h1, h2, h3, h4⟩ := dic_at I (e _ _ h)
    exact ⟨_, by rw [toP]; exact Reads.dict (kvs := []) h1 h2 h3 (by rw [h4]; exact .nil) (by rw [h4]; exact .nil)⟩
theorem DnL.readsAll (I : Inv X pins σ H s) (e : Ex F H) : ∀ {vs : List V} {ds : List D} {us : List Value}, DnL F vs ds → Vals vs us → ∃ as, ReadsAll s.heap us (toPs ds) as
  | _, _, _, .nil, r => by
    cases r
    exact ⟨_, by rw [toPs]; exact ReadsAll.nil⟩
  | _, _, _, .cons h l, r => by
    cases r with
    | cons r1 r2 =>
      obtain ⟨as, q1⟩ := Dn.reads I e h r1
      obtain ⟨bs, q2⟩ := DnL.readsAll I e l r2
      exact ⟨_, by rw [toPs]; exact ReadsAll.cons q1 q2⟩
end
theorem dictText_nil : dictText [] = ("{}" : Str) := by decide +kernel
mutual
theorem Dn.repr (I : Inv X pins σ H s) (e : Ex F H) {prog : Program} {w : World} : ∀ {v : V} {d : D} {u : Value}, Dn F v d → RelV v u → (toP d).showable = true → (toP d).shown.length ≤ sizeLine → ∃ bs, ReadAtMost s.heap (toP d).depth bs ∧ ReprK prog w bs s.heap (toP d).depth u (toP d).shown
  | _, _, _, .non, r, _, _ => by
    cases r
    exact ⟨[], (fun _ h => nomatch h), by simp only [toP, PyData.shown]; exact .of_is ReprIs.none _ _ _⟩
  | _, _, _, .bl b, r, _, _ => by
    cases r
    exact ⟨[], (fun _ h => nomatch h), by simp only [toP, PyData.shown]; exact .of_is (ReprIs.bool b) _ _ _⟩
  | _, _, _, .int i, r, hs, _ => by
    obtain ⟨t, rfl⟩ := r
    exact ⟨[], (fun _ h => nomatch h), by simp only [toP, PyData.shown]; exact .of_is (ReprIs.int t (by simpa [toP, PyData.showable] using hs)) _ _ _⟩
  | _, _, _, .str x, r, _, hz => by
    obtain ⟨t, rfl⟩ := r
    exact ⟨[], (fun _ h => nomatch h), by simp only [toP, PyData.shown]; exact .of_is (ReprIs.str x t (by simpa only [toP, PyData.shown] using hz)) _ _ _⟩
  | _, _, _, .tup (a := a) (ds := ds) h l, r, hs, hz => by
    cases r
    obtain ⟨its, rv, ⟨o, ho, hc, n, hd⟩, _⟩ := I.tuple (sq_t e h)
    have hz' : (tupleText (PyData.shownAll (toPs ds))).length ≤ sizeLine := by simpa only [toP, PyData.shown] using hz
    obtain ⟨bs, hb, hk⟩ := DnL.reprAll I e (prog := prog) (w := w) l rv (by simpa [toP, PyData.showable] using hs) (fun t ht => Nat.le_trans (tupleText_mem_le ht) hz')
    obtain ⟨as, hr⟩ := DnL.readsAll I e l rv
    have r : Reads s.heap (.ref a) (.tuple (toPs ds)) _ := .tuple ho hc hd hr
    have hna : a ∉ bs := not_mem_of_deeper r (by simp only [PyData.depth]; omega) hb
    refine ⟨a :: bs, ?_, ?_⟩
    · rw [toP]; exact ReadAtMost.cons r (by simp only [PyData.depth]; omega) hb
    · simp only [toP, PyData.depth, PyData.shown]
      exact ReprK.tuple ho hc hd hna hk
  | _, _, _, .lst (a := a) (ds := ds) h l, r, hs, hz => by
    cases r
    obtain ⟨its, rv, ⟨o, n, ho, hc, _, hd⟩, _⟩ := I.list (sq_l e h)
    have hz' : (listText (PyData.shownAll (toPs ds))).length ≤ sizeLine := by simpa only [toP, PyData.shown] using hz
    obtain ⟨bs, hb, hk⟩ := DnL.reprAll I e (prog := prog) (w := w) l rv (by simpa [toP, PyData.showable] using hs) (fun t ht => Nat.le_trans (listText_mem_le ht) hz')
    obtain ⟨as, hr⟩ := DnL.readsAll I e l rv
    have r : Reads s.heap (.ref a) (.list (toPs ds)) _ := .list ho hc hd hr
    have hna : a ∉ bs := not_mem_of_deeper r (by simp only [PyData.depth]; omega) hb
    refine ⟨a :: bs, ?_, ?_⟩
    · rw [toP]; exact ReadAtMost.cons r (by simp only [PyData.depth]; omega) hb
    · simp only [toP, PyData.depth, PyData.shown]
      cases its with
      | nil =>
        cases rv
        cases l
        simp only [toPs, PyData.shownAll, listText_nil]
        exact ReprK.listEmpty ho hc hd
      | cons x its => exact ReprK.list ho hc hd hna (by simpa using hk.length_eq) (fun i y e => hk.item i y (by simpa using e))
  | _, _, _, .dic (a := a) h, r, _, _ => by
    cases r
    obtain ⟨hsy, o, es, n, h1, h2, h3, h4⟩ := dic_at I (e _ _ h)
    have r : Reads s.heap (.ref a) (.dict []) _ := Reads.dict (kvs := []) h1 h2 h3 (by rw [h4]; exact .nil) (by rw [h4]; exact .nil)
    refine ⟨[a], ?_, ?_⟩
    · rw [toP]; exact ReadAtMost.cons r (Nat.zero_le _) (fun _ h => nomatch h)
    · simp only [toP, PyData.depth, PyData.shown, PyData.shownKv, PyData.depthKv]
      exact ReprK.dict (as := []) h1 h2 h3 hsy (by simp) (by rw [h4]; exact .nil)
theorem DnL.reprAll (I : Inv X pins σ H s) (e : Ex F H) {prog : Program} {w : World} : ∀ {vs : List V} {ds : List D} {us : List Value}, DnL F vs ds → Vals vs us → PyData.showableAll (toPs ds) = true → (∀ t ∈ PyData.shownAll (toPs ds), t.length ≤ sizeLine) →
    ∃ bs, ReadAtMost s.heap (PyData.depthAll (toPs ds)) bs ∧ ReprAllK prog w bs s.heap (PyData.depthAll (toPs ds)) us (PyData.shownAll (toPs ds))
  | _, _, _, .nil, r, _, _ => by
    cases r
    exact ⟨[], (fun _ h => nomatch h), by simp only [toPs, PyData.shownAll]; exact .nil⟩
  | _, _, _, .cons (d := d) (ds := ds) h l, r, hs, hz => by
    cases r with
    | cons r1 r2 =>
      have hs' : (toP d).showable = true ∧ PyData.showableAll (toPs ds) = true := by simpa [toPs, PyData.showableAll] using hs
      obtain ⟨b1, h1, k1⟩ := Dn.repr I e (prog := prog) (w := w) h r1 hs'.1 (hz _ (by simp [toPs, PyData.shownAll]))
      obtain ⟨b2, h2, k2⟩ := DnL.reprAll I e (prog := prog) (w := w) l r2 hs'.2 (fun t ht => hz t (by simp [toPs, PyData.shownAll, ht]))
      refine ⟨b1 ++ b2, ?_, ?_⟩
      · exact (h1.mono (by simp only [toPs, PyData.depthAll]; omega)).append (h2.mono (by simp only [toPs, PyData.depthAll]; omega))
      · simp only [toPs, PyData.shownAll, PyData.depthAll]
        exact .cons ((k1.more fun b hb => List.mem_append_left _ hb).level_le (by omega)) (k2.more_le (fun b hb => List.mem_append_right _ hb) (by omega))
end
end
/-- what may be shown -/
structure Shw (d : D) : Prop where
  sh : (toP d).showable = true
  sz : (toP d).shown.length ≤ sizeLine
  dp : (toP d).depth ≤ 60
def rRepr : List V → Hp → VK → Prop := fun xs H Q => ∃ F v d, xs = [v] ∧ Ex F H ∧ Dn F v d ∧ Shw d ∧ Q (.str (toP d).shown) H
section
variable {X : Cx}
theorem cr_repr (hg : X.A.guards = some []) (hu : X.A.units + 64 < cLine) : CallR X (.builtin "repr") rRepr := by
  intro pins s σ H xs us Q I r h
  obtain ⟨F, v, d, rfl, e, dn, sw, q⟩ := h
  obtain ⟨u, rfl, rv⟩ := r.one
  have fin : ∀ h' t tk, (∀ b o, s.heap.get? b = some o → h'.get? b = some o) → EP X pins σ Q (.str (toP d).shown t) { s with heap := h', toks := tk } := fun h' t tk k => ⟨.str _, H, I.kept k, ⟨t, rfl⟩, q⟩
  have fin0 : ∀ t tk, EP X pins σ Q (.str (toP d).shown t) { s with toks := tk } := fun t tk => fin s.heap t tk fun _ _ e => e
  have hd := sw.dp
  have hrd := dn.reads I e rv
  cases dn with
  | non => cases rv; exact PySem.P.repr_of_none (by simpa only [toP, PyData.shown] using fin0 _ _)
  | bl b => cases rv; exact PySem.P.repr_of_bool (by simpa only [toP, PyData.shown] using fin0 _ _)
  | int i => obtain ⟨t, rfl⟩ := rv; exact PySem.P.repr_of_int (by simpa [toP, PyData.showable] using sw.sh) (by simpa only [toP, PyData.shown] using fin0 _ _)
  | str x => obtain ⟨t, rfl⟩ := rv; exact PySem.P.repr_of_str (by simpa only [toP, PyData.shown] using fin0 _ _) (by simpa only [toP, PyData.shown] using sw.sz)
  | @tup a xs ds h l =>
    cases rv
    obtain ⟨its, rv, ⟨o, ho, hc, n, hdd⟩, _⟩ := I.tuple (sq_t e h)
    have hz' : (tupleText (PyData.shownAll (toPs ds))).length ≤ sizeLine := by simpa only [toP, PyData.shown] using sw.sz
    obtain ⟨bs, hb, hk⟩ := DnL.reprAll I e (prog := X.prog) (w := X.w) l rv (by simpa [toP, PyData.showable] using sw.sh) (fun t ht => Nat.le_trans (tupleText_mem_le ht) hz')
    obtain ⟨as, hr⟩ := DnL.readsAll I e l rv
    have r : Reads s.heap (.ref a) (.tuple (toPs ds)) _ := .tuple ho hc hdd hr
    have hna : a ∉ bs := not_mem_of_deeper r (by simp only [PyData.depth]; omega) hb
    have hd' : PyData.depthAll (toPs ds) + 1 ≤ 60 := by simpa only [toP, PyData.depth] using hd
    refine call_repr_slot (by omega) (show s.TypeIs (.ref a) "tuple" from ⟨o, ho, hc⟩) PySem.F.slot_tuple_repr ?_
    refine call_tuple_reprK ho hc hdd hna hk hg (fun b _ => Clear.nil b) (by show X.A.units + 1 + _ < cLine; omega) (fun _ _ e => e) (fun h' t tk k => ⟨_, _, rfl, ?_⟩) hz'
    simpa only [toP, PyData.shown] using fin h' t tk k
  | @lst a xs ds h l =>
    cases rv
    obtain ⟨its, rv, ⟨o, n, ho, hc, _, hdd⟩, _⟩ := I.list (sq_l e h)
    have hz' : (listText (PyData.shownAll (toPs ds))).length ≤ sizeLine := by simpa only [toP, PyData.shown] using sw.sz
    obtain ⟨bs, hb, hk⟩ := DnL.reprAll I e (prog := X.prog) (w := X.w) l rv (by simpa [toP, PyData.showable] using sw.sh) (fun t ht => Nat.le_trans (listText_mem_le ht) hz')
    obtain ⟨as, hr⟩ := DnL.readsAll I e l rv
    have r : Reads s.heap (.ref a) (.list (toPs ds)) _ := .list ho hc hdd hr
    have hna : a ∉ bs := not_mem_of_deeper r (by simp only [PyData.depth]; omega) hb
    have hd' : PyData.depthAll (toPs ds) + 1 ≤ 60 := by simpa only [toP, PyData.depth] using hd
    refine call_repr_slot (by omega) (show s.TypeIs (.ref a) "list" from ⟨o, ho, hc⟩) PySem.F.slot_list_repr.toG ?_
    cases its with
    | nil =>
      cases rv
      cases l
      simp only [toP, toPs, PyData.shown, PyData.shownAll, listText_nil] at fin
      exact call_list_repr_empty ⟨o, ho, hc⟩ ho hdd ⟨_, _, rfl, fin s.heap _ _ fun _ _ e => e⟩
    | cons x its =>
      refine call_list_reprK ho hc hdd hna (by simpa using hk.length_eq) (fun i y e => hk.item i y (by simpa using e)) hg (fun b _ => Clear.nil b) (by show X.A.units + 1 + _ < cLine; omega) (fun _ _ e => e) (fun h' t tk k => ⟨_, _, rfl, ?_⟩) hz'
      simpa only [toP, PyData.shown] using fin h' t tk k
  | @dic a h =>
    cases rv
    obtain ⟨hsy, o, es, n, h1, h2, h3, h4⟩ := dic_at I (e _ _ h)
    refine call_repr_slot (by omega) (show s.TypeIs (.ref a) "dict" from ⟨o, h1, h2⟩) PySem.F.slot_dict_repr ?_
    refine call_dict_reprK (as := []) (d := 0) (ps := []) h1 h2 h3 hsy (by simp) (by rw [h4]; exact .nil) hg (fun b _ => Clear.nil b) (by show X.A.units + 1 + _ < cLine; omega) (fun _ _ e => e) (fun h' t tk k => ⟨_, _, rfl, ?_⟩) (by rw [dictText_nil]; decide +kernel)
    simpa only [toP, PyData.shown, PyData.shownKv] using fin h' t tk k
end
end E
namespace E
open PySem PySem.Spec PyProof.Rows L2
section
variable {prog : Program} {w : World} {A : Around} {E : Value → Shared → Prop} {s : Shared}
theorem rev_pick (xs : Array Value) : ((List.range xs.size).filterMap fun (m : Nat) => xs[(((xs.size : Int) - 1) + (m : Int) * (-1)).toNat]?).toArray = xs.toList.reverse.toArray := by
  have e : ∀ m ∈ List.range xs.size, xs[(((xs.size : Int) - 1) + (m : Int) * (-1)).toNat]? = xs[xs.size - 1 - m]? := fun m hm => by
    have := List.mem_range.mp hm
    rw [show (((xs.size : Int) - 1) + (m : Int) * (-1)).toNat = xs.size - 1 - m by omega]
  have congr : ∀ {l : List Nat} {f g : Nat → Option Value}, (∀ m ∈ l, f m = g m) → l.filterMap f = l.filterMap g := by
    intro l f g h
    induction l with
    | nil => rfl
    | cons a l ih => rw [List.filterMap_cons, List.filterMap_cons, h a List.mem_cons_self, ih fun m hm => h m (List.mem_cons_of_mem _ hm)]
  have h2 : (List.range xs.size).filterMap (fun (m : Nat) => xs[(((xs.size : Int) - 1) + (m : Int) * (-1)).toNat]?) = ((List.range xs.size).map fun k => xs.size - 1 - k).filterMap (xs[·]?) := by
    rw [List.filterMap_map]
    exact congr e
  rw [h2, PySem.W.krv_range, List.filterMap_reverse, PySem.W.krv_all]
theorem getItem_tuple_rev {t sl : Addr} {items : Array Value} {vs : Value} {Q : Value → Shared → Prop} (ht : IsTup s.heap t items) (hs : s.heap.IsSliceOf sl .none .none vs) (ps : IsPart vs (some (-1))) (hne : 1 ≤ items.size)
    (h : Q (.ref s.heap.objs.size) { s with heap := s.heap.push { cls := .type "tuple", data := .seq items.toList.reverse.toArray } })
    (hsz : items.size ≤ sizeLine) : wpAny (model prog w) A (getItem (.ref t) (.ref sl)) Q E s := by
  have htake : sizeOk (.seq items.toList.reverse.toArray) := by
    show items.toList.reverse.toArray.size ≤ sizeLine
    rw [List.size_toArray, List.length_reverse, Array.length_toList]
    omega
  obtain ⟨os, hos, hcs, hds⟩ := id hs
  have hTs : s.TypeIs (.ref sl) "slice" := ⟨os, hos, hcs⟩
  unfold getItem
  try with_reducible refine wpAny_holding ?_
  first | refine wpAny_bind (wpAny_pure ?_) | skip
  refine wpAny_bind (wpAny_sequenceKey ht.typeIs (by decide) ?_)
  refine wpAny_bind (wpAny_callSpecial?_slot (name := Str.ofString "__getitem__") ht.typeIs PyProof.Rows.slot_tuple_getitem
    (wpAny_call_entry PyProof.Rows.slot_tuple_getitem ht.typeIs entry_tuple_getitem ?_ (args_tuple_getitem _ _)))
  show wpAny _ _ (Builtin.Tuple.tupleItemsOf (.ref t) >>= _) _ _ s
  refine wpAny_bind (tupleItemsOf_ ht ?_)
  refine wpAny_bind (wpAny_typeOf hTs ?_)
  rw [if_pos (by decide)]
  have happ : ∀ {Q : Int × Int × Nat → Shared → Prop} {A : Around} {E : Value → Shared → Prop}, Q ((items.size : Int) - 1, -1, items.size) s → wpAny (model prog w) A (Builtin.Slice.sliceApplied (.ref sl) (pure (items.size : Int))) Q E s := fun {Q A E} h => by
    unfold Builtin.Slice.sliceApplied Builtin.Slice.sliceFields
    refine wpAny_bind (wpAny_bind (wpAny_field hos hds (x := .none) rfl (wpAny_bind (wpAny_field hos hds (x := .none) rfl (wpAny_bind (wpAny_field hos hds (x := vs) rfl (wpAny_pure ?_)))))))
    refine wpAny_bind (HT.slicePart_ ps ?_)
    show wpAny _ _ (if ((-1 : Int) == 0) = true then _ else _) _ _ s
    rw [if_neg (by decide)]
    refine wpAny_bind (HT.slicePart_ .none (wpAny_bind (HT.slicePart_ .none (wpAny_bind (wpAny_pure ?_)))))
    show wpAny _ _ (match Builtin.Slice.sliceAdjust none none (-1) (items.size : Int) with | (lo, hi) => pure (lo, (-1 : Int), Builtin.Slice.slicePlaces lo hi (-1))) _ _ s
    rw [show Builtin.Slice.sliceAdjust none none (-1) (items.size : Int) = ((items.size : Int) - 1, -1) by rfl]
    show wpAny _ _ (pure ((items.size : Int) - 1, (-1 : Int), Builtin.Slice.slicePlaces ((items.size : Int) - 1) (-1) (-1))) _ _ s
    rw [show Builtin.Slice.slicePlaces ((items.size : Int) - 1) (-1) (-1) = items.size by
      unfold Builtin.Slice.slicePlaces
      simp
      omega]
    exact wpAny_pure h
  refine wpAny_bind (happ ?_)
  have hno : ¬ ((((items.size : Int) - 1) == 0 && (-1 : Int) == 1 && items.size == items.size) = true) := by
    intro q
    rw [Bool.and_eq_true, Bool.and_eq_true] at q
    exact absurd q.1.2 (by decide)
  show wpAny _ _ (if (((items.size : Int) - 1) == 0 && (-1 : Int) == 1 && items.size == items.size) = true then _ else _) _ _ s
  rw [if_neg hno, rev_pick]
  first
    | exact wpAny_bind (m := Builtin.Tuple.tupleExact _) (wpAny_newObj_type (wpAny_pure ⟨_, rfl, wpAny_pure h⟩) htake)
    | exact wpAny_bind (m := Builtin.Tuple.tupleExact _) (wpAny_newObj_type (wpAny_bind (wpAny_pure (wpAny_pure ⟨_, rfl, wpAny_pure h⟩))) htake)
    | exact wpAny_bind (wpAny_bind (m := Builtin.Tuple.tupleExact _) (wpAny_newObj_type (wpAny_pure (wpAny_pure ⟨_, rfl, wpAny_pure h⟩)) htake))
    | exact wpAny_bind (wpAny_bind (m := Builtin.Tuple.tupleExact _) (wpAny_newObj_type (wpAny_pure ⟨_, rfl, wpAny_pure h⟩) htake))
end
def tRevT (K : PySem.W.Frag) (te : TE) : TE := fun σ H Q => te σ H fun x H1 => ∃ a xs, x = .ref a ∧ SqT K H1 a xs ∧ 1 ≤ xs.length ∧ ∀ p, H1 p = none → Q (.ref p) (upd H1 p (.tup xs.reverse))
theorem pe_revT {X : Cx} {e : Expr} {te : TE} {k : Nat} {p1 p2 p3 pos : Pos} (he : PE X e te) : PE X (.Subscript e (.Slice none none (some (.UnaryOp .USub (.Constant (.int 1) k p1) p2)) p3) pos) (tRevT X.K te) := by
  refine ⟨fun pins s σ H Q I h => ?_⟩
  refine Subscript_ (thn (he.run pins s σ H _ I h) fun v s1 ⟨x, H1, I1, r1, q1⟩ => ?_)
  obtain ⟨a, xs, ex, hx, hne, q⟩ := q1
  subst ex
  cases r1
  have hst : PO X (some (.UnaryOp .USub (.Constant (.int 1) k p1) p2)) (tPart (tUn (rU fun i => .int (-i)) (tC (.int 1)))) := po_some (pe_un un_neg pe_int)
  refine wpAny_Slice (thn (po_none.run pins s1 σ H1 (fun o H2 => o = none ∧ H2 = H1) I1 ⟨rfl, rfl⟩) fun vl s2 ⟨l, H2, I2, pl, el, e2⟩ => ?_)
  subst el e2
  refine thn (po_none.run pins s2 σ H2 (fun o H3 => o = none ∧ H3 = H2) I2 ⟨rfl, rfl⟩) fun vu s3 ⟨u, H3, I3, pu, eu, e3⟩ => ?_
  subst eu e3
  refine thn (hst.run pins s3 σ H3 (fun o H4 => o = some (-1) ∧ H4 = H3) I3 ⟨1, rfl, -1, rfl, rfl, rfl⟩) fun vs s4 ⟨o, H4, I4, ps, eo, e4⟩ => ?_
  subst eo e4
  have I5 : Inv X pins σ H4 { s4 with heap := s4.heap.push { cls := .type "slice", data := .fields #[vl, vu, vs] } } := I4.kept (t' := s4.toks) fun b ob q => Heap.get?_push_of_some _ q
  obtain ⟨its, r, ht, hz⟩ := I5.tuple hx
  have hlen := r.length
  cases pl
  cases pu
  show wpAny (model X.prog X.w) X.A (subscriptTail e (.Slice none none (some (.UnaryOp .USub (.Constant (.int 1) k p1) p2)) p3) (.ref a) (.ref s4.heap.objs.size)) (EP X pins σ Q) X.xe _
  refine tail_any (ops := [.ref a, .ref s4.heap.objs.size]) ht.typeIs (PyProof.Rows.slot_tuple_getitem.lookup) ?_ (by with_unfolding_all rfl)
  refine getItem_tuple_rev ht (Heap.IsSliceOf.new _ .none .none vs) ps (by rw [List.size_toArray]; omega) ?_ (by rw [List.size_toArray]; omega)
  refine ⟨.ref _, _, I5.laid (t' := s4.toks) (o := .tup xs.reverse) (fun b ob q => Heap.get?_push_of_some _ q) (Nat.le_refl _) ?_, rfl, q _ (I5.hok.fresh (Nat.le_refl _))⟩
  exact ⟨by rw [List.length_reverse]; exact hz, _, r.reverse, IsTup.new _ _⟩
end E
set_option Elab.async false
set_option linter.all false
set_option maxRecDepth 100000
/-! repr, min, ==, sorted(set(..)), t[::-1], by the text -/
namespace E
open PySem PySem.Spec PyProof.Rows L2

section
variable {X : Cx} {sl : List Sl} {ms : List (List D)} {R : D → Prop} {B : Bool → Prop} {pos p p2 p3 : Pos} {a b c e : Expr} {es rest : List Expr} {x y : Str} {d : D} {O : Out}
theorem j_repr (hr : RoomG 0 X.A) (hm : X.mg "repr" = none) (h : Er sl ms (wE X e) fun x => Shw x ∧ R (.str (toP x).shown)) (hg : Gl X "repr" := by rfl) (he : starEach [e] X.env = (false, eval e X.env) :: starEach [] X.env := by rfl) :
    Er sl ms (wE X (.Call (.Name "repr" p) [e] [] pos)) R := Er.of (pe_callB (cr_repr hr.gu (by have := hr.rm.un; omega)) hg hm (by decide +kernel) (pa_cons pe_w pa_nil he) (he := he)) fun ho F0 H0 F ps ex σ H a Q q => h ho F0 H0 F ps ex σ H a _ fun v d F1 H1 ⟨sw, k⟩ a1 =>
  ⟨F1, v, d, rfl, a1.fh, a1.top, sw, q _ _ F1 H1 k (a1.pop.push (.str _))⟩
theorem j_revT {k : Nat} {p1 p2 p3 pos : Pos} (h : Er sl ms (wE X e) fun x => ∃ ds, x = .tup ds ∧ 1 ≤ ds.length ∧ R (.tup ds.reverse)) : Er sl ms (wE X (.Subscript e (.Slice none none (some (.UnaryOp .USub (.Constant (.int 1) k p1) p2)) p3) pos)) R :=
  Er.of (pe_revT pe_w) fun ho F0 H0 F ps ex σ H a Q q => h ho F0 H0 F ps ex σ H a _ fun v d F1 H1 ⟨ds, e, hn, k⟩ a1 => by
    subst e
    obtain ⟨p, xs, rfl, ha, hl⟩ : ∃ p xs, v = .ref p ∧ F1 p = some (.tup xs) ∧ DnL F1 xs ds := by cases a1.top with | tup ha hl => exact ⟨_, _, rfl, ha, hl⟩
    exact ⟨p, xs, rfl, sq_t a1.fh ha, by rw [hl.len]; exact hn, fun y hy => q _ _ _ _ k ((a1.pop.laid hy).push (.tup upd_same (hl.rev.mono (Ex.new (a1.fh.none hy)))))⟩
/-! ### min -/
def rMinD : List V → Hp → VK → Prop := fun xs H Q => ∃ F v d0 ds, xs = [v] ∧ Ex F H ∧ Dn F v (.lst (d0 :: ds)) ∧ PySem.W.AlikeAll (toPs (d0 :: ds)) ∧ PyData.depthAll (toPs (d0 :: ds)) ≤ 60 ∧
  ∀ (i : Nat) (u : V) (d : D), (d0 :: ds)[i]? = some d → Dn F u d → toP d = PySem.W.minD (toP d0) (toPs ds) → Q u H
theorem cr_minD (hc : X.calm = true) (hu : X.A.units + 64 < cLine) : CallR X (.builtin "min") rMinD := by
  intro pins s σ H xs us Q I r h
  obtain ⟨F, v, d0, ds, rfl, e, dn, al, dp, q⟩ := h
  obtain ⟨u, rfl, rv⟩ := r.one
  cases dn with
  | @lst a xs _ h l =>
    cases rv
    obtain ⟨its, rv, pl, hz⟩ := I.list (sq_l e h)
    obtain ⟨as, hr⟩ := DnL.readsAll I e l rv
    refine PySem.W.min_list_data (I.ok.hd hc) pl.isList hr al (by rw [toPs] at dp; omega) fun i w h' tk bs hi rd k => ?_
    have hi' : its[i]? = some w := by simpa using hi
    have hlt : i < xs.length := by rw [rv.length]; exact (List.getElem?_eq_some_iff.mp hi').1
    obtain ⟨d, hd, hdn⟩ := l.getV i (List.getElem?_eq_getElem hlt)
    obtain ⟨w', hw, rw'⟩ := rv.get (List.getElem?_eq_getElem hlt)
    rw [hi'] at hw; cases hw
    obtain ⟨as', rd'⟩ := hdn.reads I e rw'
    obtain ⟨e1, _⟩ := PyProof.Rows.reads_det (fun b o eo _ => k b o eo) rd' rd
    exact ⟨_, H, I.kept k, rw', q i _ d hd hdn e1.symm⟩
theorem j_minD (hr : RoomG 0 X.A) (hc : X.calm = true) (hm : X.mg "min" = none) (h : Er sl ms (wE X e) fun x => ∃ d0 ds, x = .lst (d0 :: ds) ∧ PySem.W.AlikeAll (toPs (d0 :: ds)) ∧ PyData.depthAll (toPs (d0 :: ds)) ≤ 60 ∧ ∀ (i : Nat) (d : D), (d0 :: ds)[i]? = some d → toP d = PySem.W.minD (toP d0) (toPs ds) → R d)
    (hg : Gl X "min" := by rfl) (he : starEach [e] X.env = (false, eval e X.env) :: starEach [] X.env := by rfl) :
    Er sl ms (wE X (.Call (.Name "min" p) [e] [] pos)) R := Er.of (pe_callB (cr_minD hc (by have := hr.rm.un; omega)) hg hm (by decide +kernel) (pa_cons pe_w pa_nil he) (he := he)) fun ho F0 H0 F ps ex σ H a Q q => h ho F0 H0 F ps ex σ H a _ fun v d F1 H1 ⟨d0, ds, e, al, dp, k⟩ a1 => by
  subst e
  exact ⟨F1, v, d0, ds, rfl, a1.fh, a1.top, al, dp, fun i u d hi hd e => q u d F1 H1 (k i d hi e) (a1.pop.push hd)⟩
/-- pairs of whole numbers -/
def pairD (q : Int × Int) : D := .tup [.int q.1, .int q.2]
def pairLe (q r : Int × Int) : Prop := q.1 < r.1 ∨ (q.1 = r.1 ∧ q.2 ≤ r.2)
theorem pair_lt (q r : Int × Int) : PySem.W.dataLt (toP (pairD q)) (toP (pairD r)) = decide (q.1 < r.1 ∨ (q.1 = r.1 ∧ q.2 < r.2)) := by
  simp only [pairD, toP, toPs, PySem.W.dataLt, PySem.W.keyToks, PySem.W.keyToksAll, List.cons_append, List.nil_append, PyProof.Rows.lexLt, PyProof.Rows.itemOrd, PyProof.Rows.itemLt]
  by_cases h1 : q.1 < r.1
  · simp [h1]
  · by_cases h2 : r.1 < q.1
    · have : ¬ q.1 = r.1 := by omega
      simp [h1, h2, this]
    · have : q.1 = r.1 := by omega
      by_cases h3 : q.2 < r.2
      · simp [this, h3]
      · by_cases h4 : r.2 < q.2
        · simp [this, h3, h4]
        · have h5 : q.2 = r.2 := by omega
          simp [this, h5]
theorem pairs_alike (qs : List (Int × Int)) : PySem.W.AlikeAll (toPs (qs.map pairD)) := by
  rw [toPs_map, List.map_map]
  refine ⟨fun x hx y hy => ?_, fun x hx => ?_⟩
  · obtain ⟨q, _, rfl⟩ := List.mem_map.mp hx
    obtain ⟨r, _, rfl⟩ := List.mem_map.mp hy
    simp [pairD, toP, toPs, PySem.W.alike, PySem.W.alikeAll]
  · obtain ⟨q, _, rfl⟩ := List.mem_map.mp hx
    simp [pairD, toP]
theorem pairs_depth : ∀ qs : List (Int × Int), PyData.depthAll (toPs (qs.map pairD)) ≤ 1
  | [] => by simp [toPs, PyData.depthAll]
  | q :: qs => by
    have := pairs_depth qs
    simp only [List.map_cons, toPs, PyData.depthAll, pairD, toP, PyData.depth] at this ⊢
    omega
theorem pair_inj {q r : Int × Int} (h : toP (pairD q) = toP (pairD r)) : q = r := by
  simp only [pairD, toP, toPs] at h
  injection h with h
  injection h with h1 h2
  injection h2 with h2 _
  injection h1 with h1
  injection h2 with h2
  exact Prod.ext h1 h2
theorem minD_pairs : ∀ (qs : List (Int × Int)) (q : Int × Int), ∃ m, m ∈ q :: qs ∧ PySem.W.minD (toP (pairD q)) (toPs (qs.map pairD)) = toP (pairD m) ∧ ∀ r ∈ q :: qs, pairLe m r
  | [], q => ⟨q, List.mem_cons_self, rfl, fun r hr => by
    have : r = q := by simpa using hr
    subst this
    exact .inr ⟨rfl, Int.le_refl _⟩⟩
  | r :: qs, q => by
    have step : ∀ z, PySem.W.minD (toP (pairD q)) (toPs ((r :: qs).map pairD)) = z ↔ PySem.W.minD (if PySem.W.dataLt (toP (pairD r)) (toP (pairD q)) then toP (pairD r) else toP (pairD q)) (toPs (qs.map pairD)) = z := fun z => by
      simp [toPs, PySem.W.minD]
    rw [pair_lt] at step
    by_cases h : r.1 < q.1 ∨ (r.1 = q.1 ∧ r.2 < q.2)
    · obtain ⟨m, hm, e, hl⟩ := minD_pairs qs r
      refine ⟨m, List.mem_cons_of_mem _ hm, (step _).mpr (by rw [decide_eq_true h, if_pos rfl]; exact e), fun z hz => ?_⟩
      rcases List.mem_cons.mp hz with rfl | hz
      · have := hl r List.mem_cons_self
        unfold pairLe at this ⊢
        omega
      · exact hl z hz
    · obtain ⟨m, hm, e, hl⟩ := minD_pairs qs q
      refine ⟨m, ?_, (step _).mpr (by rw [decide_eq_false h, if_neg Bool.false_ne_true]; exact e), fun z hz => ?_⟩
      · rcases List.mem_cons.mp hm with rfl | hm
        · exact List.mem_cons_self
        · exact List.mem_cons_of_mem _ (List.mem_cons_of_mem _ hm)
      · rcases List.mem_cons.mp hz with rfl | hz
        · exact hl _ List.mem_cons_self
        · rcases List.mem_cons.mp hz with rfl | hz
          · have := hl q List.mem_cons_self
            unfold pairLe at this ⊢
            omega
          · exact hl z (List.mem_cons_of_mem _ hz)
theorem j_minPairs (hr : RoomG 0 X.A) (hc : X.calm = true) (hm : X.mg "min" = none) (h : Er sl ms (wE X e) fun x => ∃ qs : List (Int × Int), x = .lst (qs.map pairD) ∧ qs ≠ [] ∧ ∀ m ∈ qs, (∀ r ∈ qs, pairLe m r) → R (pairD m))
    (hg : Gl X "min" := by rfl) (he : starEach [e] X.env = (false, eval e X.env) :: starEach [] X.env := by rfl) : Er sl ms (wE X (.Call (.Name "min" p) [e] [] pos)) R := by
  refine j_minD hr hc hm (h.mono fun x ⟨qs, e, hne, k⟩ => ?_) hg he
  cases qs with
  | nil => exact absurd rfl hne
  | cons q qs =>
    refine ⟨pairD q, qs.map pairD, e, pairs_alike (q :: qs), Nat.le_trans (pairs_depth (q :: qs)) (by decide), fun i d hi hd => ?_⟩
    obtain ⟨m, hm, em, hl⟩ := minD_pairs qs q
    have hi' : ((q :: qs).map pairD)[i]? = some d := hi
    rw [List.getElem?_map] at hi'
    cases hq : (q :: qs)[i]? with
    | none => rw [hq] at hi'; cases hi'
    | some z =>
      rw [hq] at hi'; cases hi'
      rw [em] at hd
      rw [pair_inj hd]
      exact k m hm hl
/-! ### data alike or not -/
def rNeA : L2.R2 := fun x y H Q => ∃ F d e, Ex F H ∧ Dn F x d ∧ Dn F y e ∧ SeqAt.shaped (toP d) = true ∧ SeqAt.shaped (toP e) = true ∧ Q (.bl (!PyData.eqv (toP d) (toP e))) H
theorem op_neA (hu : X.A.units + 64 < cLine) : OpR X (compareOp .NotEq) rNeA := by
  intro pins s σ H x y v u Q I rx ry h
  obtain ⟨F, d, e, ef, hd, he, sd, se, q⟩ := h
  obtain ⟨as, r1⟩ := hd.reads I ef rx
  obtain ⟨bs, r2⟩ := he.reads I ef ry
  exact SeqAt.compareNe_shaped r1 r2 sd se hu ⟨.bl _, H, I, rfl, q⟩
theorem jt_neA (hr : RoomG 0 X.A) (h : Er sl ms (wE X a) fun x => Er sl ms (wE X b) fun y => SeqAt.shaped (toP x) = true ∧ SeqAt.shaped (toP y) = true ∧ B (!PyData.eqv (toP x) (toP y))) : Et sl ms (wT X (.Compare a [.NotEq] [b] pos)) B :=
  Et.of (pt_cmpR (op_neA (by have := hr.rm.un; omega)) pe_w pe_w (nomark _)) (et_test (er_op' (h.mono fun x h => h.mono fun y ⟨s1, s2, k⟩ => fun F H v w eh hv hw Q q =>
    ⟨F, x, y, eh, hv, hw, s1, s2, q _ _ F H ⟨_, rfl, k⟩ (Ext.refl eh) (.bl _)⟩)))
theorem eqv_ints : ∀ ns js : List Int, PyData.eqvAll (toPs (ns.map D.int)) (toPs (js.map D.int)) = decide (ns = js)
  | [], [] => by simp [toPs, PyData.eqvAll]
  | [], _ :: _ => by simp [toPs, PyData.eqvAll]
  | _ :: _, [] => by simp [toPs, PyData.eqvAll]
  | n :: ns, j :: js => by
    rw [List.map_cons, List.map_cons, toPs, toPs, PyData.eqvAll, eqv_ints ns js, toP, toP, PyData.eqv]
    by_cases h : n = j
    · subst h; simp
    · simp [h]
theorem lay_ints : ∀ ns : List Int, PyData.canLayAll0 (toPs (ns.map D.int)) = true ∧ PyData.depthAll (toPs (ns.map D.int)) = 0
  | [] => by simp [toPs, PyData.canLayAll0, PyData.depthAll]
  | n :: ns => by
    have ⟨h1, h2⟩ := lay_ints ns
    simp [toPs, toP, PyData.canLayAll0, PyData.canLay0, PyData.depthAll, PyData.depth, h1, h2]
theorem shaped_ints (ns : List Int) : SeqAt.shaped (toP (.lst (ns.map D.int))) = true := by
  have ⟨h1, h2⟩ := lay_ints ns
  simp [SeqAt.shaped, toP, PyData.canLay0, PyData.depth, h1, h2]
/-- lists of whole numbers -/
theorem jt_neIL (hr : RoomG 0 X.A) (h : Er sl ms (wE X a) fun x => Er sl ms (wE X b) fun y => ∃ ns js : List Int, x = .lst (ns.map D.int) ∧ y = .lst (js.map D.int) ∧ B (!decide (ns = js))) : Et sl ms (wT X (.Compare a [.NotEq] [b] pos)) B :=
  jt_neA hr (h.mono fun x h => h.mono fun y ⟨ns, js, e1, e2, k⟩ => by
    subst e1 e2
    refine ⟨shaped_ints _, shaped_ints _, ?_⟩
    rw [toP, toP, PyData.eqv, eqv_ints]
    exact k)
/-! ### sorted(set(t)) -/
def rSetT (K : PySem.W.Frag) (w : World) : List V → Hp → VK → Prop := fun xs H Q => ∃ (a : Addr) (ns : List Int), xs = [.ref a] ∧ SqT K H a (ns.map V.int) ∧ ns.length < 60 ∧ ∀ p c, H p = none → c ≤ ns.length → Q (.ref p) (upd H p (SetO w p (fun j => decide (j ∈ ns)) c))
theorem cr_setT (hc : X.calm = true) : CallR X (.type "set") (rSetT X.K X.w) := by
  intro pins s σ H xs us Q I r h
  obtain ⟨a, ns, rfl, hs, hl, q⟩ := h
  obtain ⟨u, rfl, rv⟩ := r.one
  cases rv
  obtain ⟨its, rv, pl, hz⟩ := I.tuple hs
  refine call_set_tupI ns (I.ok.hd hc) (show s.heap.IsTuple a its.toArray from pl) (by simpa using rv.ints) (Nat.lt_trans (Nat.succ_lt_succ hl) (by decide +kernel)) fun h' tk c R hcn k => ?_
  exact ⟨.ref _, upd H s.heap.objs.size (SetO X.w s.heap.objs.size (fun j => decide (j ∈ ns)) c), I.laid (t' := tk) k (Nat.le_refl _) (setO_new R), rfl, q _ c (I.hok.fresh (Nat.le_refl _)) hcn⟩
theorem j_sortedSet (hc : X.calm = true) (hm : X.mg "sorted" = none) (hm2 : X.mg "set" = none) (h : Er sl ms (wE X e) fun x => ∃ ns : List Int, x = .tup (ns.map D.int) ∧ ns.length < 60 ∧ ∀ js : List Int, js.Pairwise (· < ·) → (∀ k, k ∈ js ↔ k ∈ ns) → R (.lst (js.map D.int)))
    (hg : Gl X "sorted" := by rfl) (hg2 : Gl X "set" := by rfl) (he : starEach [e] X.env = (false, eval e X.env) :: starEach [] X.env := by rfl)
    (he2 : starEach [.Call (.Name "set" p2) [e] [] p3] X.env = (false, eval (.Call (.Name "set" p2) [e] [] p3) X.env) :: starEach [] X.env := by rfl) :
    Er sl ms (wE X (.Call (.Name "sorted" p) [.Call (.Name "set" p2) [e] [] p3] [] pos)) R :=
  Er.of (pe_callB (cr_sortedSet hc) hg hm (by decide +kernel) (pa_cons (pe_callTy (cr_setT hc) hg2 hm2 boot_set (pa_cons pe_w pa_nil he) (he := he)) pa_nil he2) (he := he2)) fun ho F0 H0 F ps ex σ H a Q q => h ho F0 H0 F ps ex σ H a _ fun v d F1 H1 ⟨ns, e, hl, k⟩ a1 => by
    subst e
    obtain ⟨t, xs, rfl, ha, hd⟩ : ∃ p xs, v = .ref p ∧ F1 p = some (.tup xs) ∧ DnL F1 xs (ns.map D.int) := by cases a1.top with | tup ha hl => exact ⟨_, _, rfl, ha, hl⟩
    rw [DnL.ints ns hd] at ha
    refine ⟨t, ns, rfl, sq_t a1.fh ha, hl, fun z c hz hcn => ⟨z, _, c, rfl, upd_same, by omega, fun js y h1 h2 _ hy => ?_⟩⟩
    have a2 := a1.pop.step0 (F' := F1) (H' := upd H1 z (SetO X.w z (fun j => decide (j ∈ ns)) c)) ⟨Ex.refl F1, fun b o q => by rw [upd_ne (ne_of_none (a1.fh b o q) hz)]; exact a1.fh b o q, fun b o _ q => by rw [upd_ne (ne_of_none q hz)]; exact q, fun _ h _ => h⟩
    exact q _ _ _ _ (k js h1 fun j => by rw [h2 j, decide_eq_true_iff]) ((a2.laid hy).push (.lst upd_same (DnL.of_ints js)))
end
end E
set_option Elab.async false
set_option linter.all false
set_option maxRecDepth 100000
/-! What the queues and plans are, in plain words; the built-in types of data. -/
namespace E
open PySem PySem.Spec PyProof.Rows L2
def iI : D → Bool
  | .int _ | .bl _ => true
  | _ => false
def iB : D → Bool
  | .bl _ => true
  | _ => false
def iT : D → Bool
  | .tup _ => true
  | _ => false
theorem kInt (x : D) : kitB (tyD x) "int" = some (iI x) := by cases x <;> (simp only [tyD, iI]; decide +kernel)
theorem kBool (x : D) : kitB (tyD x) "bool" = some (iB x) := by cases x <;> (simp only [tyD, iB]; decide +kernel)
theorem kTup (x : D) : kitB (tyD x) "tuple" = some (iT x) := by cases x <;> (simp only [tyD, iT]; decide +kernel)
section
variable {X : Cx} {sl : List Sl} {ms : List (List D)} {R : D → Prop} {pos p p2 : Pos} {e : Expr}
theorem j_isInt (hm : X.mg "isinstance" = none) (hn : X.mg "int" = none) (h : Er sl ms (wE X e) fun x => R (.bl (iI x))) (hg : Gl X "isinstance" := by rfl) (hg2 : Gl X "int" := by rfl)
    (he : starEach [e, .Name "int" p2] X.env = (false, eval e X.env) :: starEach [.Name "int" p2] X.env := by rfl) (he2 : starEach [.Name "int" p2] X.env = (false, eval (.Name "int" p2) X.env) :: starEach [] X.env := by rfl)
    (hpl : (backTo pos (starEach [.Name "int" p2] X.env)).any (·.1) = false := by rfl) : Er sl ms (wE X (.Call (.Name "isinstance" p) [e, .Name "int" p2] [] pos)) R :=
  j_isi hm hn (by decide +kernel) (h.mono fun x k => ⟨_, kInt x, k⟩) hg hg2 (by decide +kernel) (by decide +kernel) he he2 hpl
theorem j_isBool (hm : X.mg "isinstance" = none) (hn : X.mg "bool" = none) (h : Er sl ms (wE X e) fun x => R (.bl (iB x))) (hg : Gl X "isinstance" := by rfl) (hg2 : Gl X "bool" := by rfl)
    (he : starEach [e, .Name "bool" p2] X.env = (false, eval e X.env) :: starEach [.Name "bool" p2] X.env := by rfl) (he2 : starEach [.Name "bool" p2] X.env = (false, eval (.Name "bool" p2) X.env) :: starEach [] X.env := by rfl)
    (hpl : (backTo pos (starEach [.Name "bool" p2] X.env)).any (·.1) = false := by rfl) : Er sl ms (wE X (.Call (.Name "isinstance" p) [e, .Name "bool" p2] [] pos)) R :=
  j_isi hm hn (by decide +kernel) (h.mono fun x k => ⟨_, kBool x, k⟩) hg hg2 (by decide +kernel) (by decide +kernel) he he2 hpl
theorem j_isTup (hm : X.mg "isinstance" = none) (hn : X.mg "tuple" = none) (h : Er sl ms (wE X e) fun x => R (.bl (iT x))) (hg : Gl X "isinstance" := by rfl) (hg2 : Gl X "tuple" := by rfl)
    (he : starEach [e, .Name "tuple" p2] X.env = (false, eval e X.env) :: starEach [.Name "tuple" p2] X.env := by rfl) (he2 : starEach [.Name "tuple" p2] X.env = (false, eval (.Name "tuple" p2) X.env) :: starEach [] X.env := by rfl)
    (hpl : (backTo pos (starEach [.Name "tuple" p2] X.env)).any (·.1) = false := by rfl) : Er sl ms (wE X (.Call (.Name "isinstance" p) [e, .Name "tuple" p2] [] pos)) R :=
  j_isi hm hn (by decide +kernel) (h.mono fun x k => ⟨_, kTup x, k⟩) hg hg2 (by decide +kernel) (by decide +kernel) he he2 hpl
end
end E

namespace A
open PySem E
def isInt : D → Bool
  | .int _ => true
  | _ => false
def within (x : D) (lo hi : Int) : Bool := match x with
  | .int i => decide (lo ≤ i) && decide (i ≤ hi)
  | _ => false
def sized (x : D) (lo hi : Int) : Bool := match x with
  | .tup l => decide (lo ≤ (l.length : Int)) && decide ((l.length : Int) ≤ hi)
  | _ => false
def isCase : D → Bool
  | .tup [a, b, c] => within a 0 20 && within b 1 8 && within c 0 40
  | _ => false
def isQueue (x : D) : Bool := match x with
  | .tup l => decide (1 ≤ (l.length : Int)) && decide ((l.length : Int) ≤ 10) && l.all isCase
  | _ => false
def toI : D → Int
  | .int i => i
  | _ => 0
def incr : List Int → Bool
  | a :: b :: r => decide (a < b) && incr (b :: r)
  | _ => true
def isLot (x : D) (many : Int) : Bool := match x with
  | .tup l => l.all (within · 0 (many - 1)) && incr (l.map toI)
  | _ => false
abbrev Case := Int × Int × Int
def caseD (c : Case) : D := .tup [.int c.1, .int c.2.1, .int c.2.2]
def queueD (q : List Case) : D := .tup (q.map caseD)
def dayD (ns : List Int) : D := .tup (ns.map .int)
def planD (p : List (List Int)) : D := .tup (p.map dayD)
structure Qok (q : List Case) : Prop where
  h1 : 1 ≤ q.length
  h10 : q.length ≤ 10
  c0 : ∀ c ∈ q, 0 ≤ c.1
  c1 : ∀ c ∈ q, c.1 ≤ 20
  w0 : ∀ c ∈ q, 1 ≤ c.2.1
  w1 : ∀ c ∈ q, c.2.1 ≤ 8
  d0 : ∀ c ∈ q, 0 ≤ c.2.2
  d1 : ∀ c ∈ q, c.2.2 ≤ 40
def lenT : D → Nat
  | .tup l => l.length
  | _ => 0
def lotOf : D → List Int
  | .tup e => e.map toI
  | _ => []
/-- the days (from k on) with n -/
def daysFrom (k : Nat) (n : Int) : List (List Int) → List Int
  | [] => []
  | r :: p => if n ∈ r then (k : Int) :: daysFrom (k + 1) n p else daysFrom (k + 1) n p
abbrev daysOf (p : List (List Int)) (n : Int) : List Int := daysFrom 0 n p
def caseOk (p : List (List Int)) (i : Nat) (c : Case) : Bool := decide (((daysOf p i).length : Int) = c.2.1) && decide (c.1 ≤ (daysOf p i).headD 0)
def casesOk (p : List (List Int)) : Nat → List Case → Bool
  | _, [] => true
  | i, c :: q => caseOk p i c && casesOk p (i + 1) q
def planB (q : List Case) (desks : Int) (x : D) : Bool := match x with
  | .tup l => decide ((l.length : Int) ≤ 120) && l.all (fun d => isLot d q.length && decide ((lenT d : Int) ≤ desks)) && casesOk (l.map lotOf) 0 q
  | _ => false
/-- days[-1] + 1 - due -/
def lateC (p : List (List Int)) (i : Nat) (c : Case) : Int := (daysOf p i).getLastD 0 + 1 - c.2.2
def lates (p : List (List Int)) : Nat → List Case → List Int
  | _, [] => []
  | i, c :: q => lateC p i c :: lates p (i + 1) q
def maxI : List Int → Int
  | [] => 0
  | a :: r => r.foldl max a
def lateOf (q : List Case) (p : List (List Int)) : Int := maxI (lates p 0 q)
end A
set_option Elab.async false
set_option linter.all false
set_option maxRecDepth 100000
/-! The walk: the program's defs. -/
namespace A
open PySem PySem.Spec PyProof.Rows L2 E
def top (i : Nat) : Stmt := PySem.Challenge.pw_everyedition_k98_whole_most_in_time_and.main.body.getD i (.Pass ⟨0, 0, 0, 0⟩)
abbrev sc (i : Nat) := defScope (top i)
def gI (mg : Str → Option Value) (x : Str) (i : Int) : Prop := ∃ u, mg x = some u ∧ RelV (.int i) u
structure Blt (mg : Str → Option Value) : Prop where
  isi : mg "isinstance" = none
  int : mg "int" = none
  bool : mg "bool" = none
  tup : mg "tuple" = none
  len : mg "len" = none
  all : mg "all" = none
  any : mg "any" = none
  zip : mg "zip" = none
  enum : mg "enumerate" = none
  max : mg "max" = none
  min : mg "min" = none
  sum : mg "sum" = none
  list : mg "list" = none
  sorted : mg "sorted" = none
  set : mg "set" = none
  repr : mg "repr" = none
  range : mg "range" = none
  abs : mg "abs" = none
  g0 : gI mg "MOST_CASES" 10
  g1 : gI mg "MOST_COMES" 20
  g2 : gI mg "MOST_WORK" 8
  g3 : gI mg "MOST_DUE" 40
section
variable {P : Program} {w : World} {K : PySem.W.Frag} {mg : Str → Option Value} {base : Heap}
abbrev sp1 (f : D → D) : Sp := spD 1 (fun _ => True) fun ds d => ∀ x, ds = [x] → d = f x
abbrev sp3i (f : D → Int → Int → D) : Sp := spD 3 (fun ds => ∃ x i j, ds = [x, .int i, .int j]) fun ds d => ∀ x i j, ds = [x, .int i, .int j] → d = f x i j

theorem S_is_integer : FnScope ["thing"] ["thing"] (sc 1) := ⟨rfl, rfl, rfl, by decide +kernel, rfl, by decide +kernel, by decide +kernel⟩
theorem ok_is_integer {f : Addr} {fd : FuncData} (F : Fun K "is_integer" "is_integer" (top 1) f fd) (T : Blt mg) : FnG P w K mg base 1 f fd ["thing"] (sp1 fun x => .bl (isInt x)) := by
  refine ok_D (m := 0) F S_is_integer rfl rfl fun cdv A outer s H E ds hr hl hp => ?_
  match ds, hl with
  | [x], _ =>
  refine jss_one (js_ret (j_and (j_isInt T.isi T.int (j_var 0 rfl rfl ⟨_, rfl, fun e => j_one (j_not (j_isBool T.isi T.bool (j_var 0 rfl rfl ⟨_, rfl, ?_⟩))), fun e => ?_⟩))))
  all_goals
    intro y hy
    cases hy
    cases x <;> first | rfl | cases e
theorem S_is_within : FnScope ["thing", "low", "high"] ["thing", "low", "high"] (sc 2) := ⟨rfl, rfl, rfl, by decide +kernel, rfl, by decide +kernel, by decide +kernel⟩
theorem ok_is_within {f : Addr} {fd : FuncData} (F : Fun K "is_within" "is_within" (top 2) f fd) (T : Blt mg) (c1 : Cl P w K mg base 1 "is_integer" (sp1 fun x => .bl (isInt x))) :
    FnG P w K mg base 2 f fd ["thing", "low", "high"] (sp3i fun x i j => .bl (within x i j)) := by
  refine ok_D (m := 0) F S_is_within rfl rfl fun cdv A outer s H E ds hr hl hp => ?_
  obtain ⟨x, i, j, rfl⟩ := hp
  refine jss_one (js_ret (j_and (j_call c1 hr (by decide) (j_cons (j_var 0 rfl rfl (j_nil ⟨rfl, trivial, fun d hd => ?_⟩))))))
  obtain rfl := hd x rfl
  refine ⟨_, rfl, fun e => j_one (j_chain (j_var 1 rfl rfl (j_var 0 rfl rfl ?_))), fun e => ?_⟩
  · cases x <;> first | cases e | skip
    rename_i z
    refine ⟨_, .le _ _, fun e1 => j_var 2 rfl rfl ⟨_, .le _ _, ?_⟩, fun e1 => ?_⟩
    · intro x i j hy
      cases hy
      show D.bl _ = D.bl (_ && _)
      rw [e1]; rfl
    · intro x i j hy
      cases hy
      show D.bl _ = D.bl (_ && _)
      rw [e1]; rfl
  · intro x i j hy
    cases hy
    cases x <;> first | rfl | cases e
theorem S_is_sized : FnScope ["thing", "low", "high"] ["thing", "low", "high"] (sc 3) := ⟨rfl, rfl, rfl, by decide +kernel, rfl, by decide +kernel, by decide +kernel⟩
theorem ok_is_sized {f : Addr} {fd : FuncData} (F : Fun K "is_sized" "is_sized" (top 3) f fd) (T : Blt mg) :
    FnG P w K mg base 1 f fd ["thing", "low", "high"] (sp3i fun x i j => .bl (sized x i j)) := by
  refine ok_D (m := 0) F S_is_sized rfl rfl fun cdv A outer s H E ds hr hl hp => ?_
  obtain ⟨x, i, j, rfl⟩ := hp
  refine jss_one (js_ret (j_and (j_isTup T.isi T.tup (j_var 0 rfl rfl ⟨_, rfl, fun e => j_one (j_chain (j_var 1 rfl rfl (j_len T.len (j_var 0 rfl rfl ?_)))), fun e => ?_⟩))))
  · cases x <;> first | cases e | skip
    rename_i l
    refine ⟨_, .inl ⟨_, rfl, rfl⟩, _, .le _ _, fun e1 => j_var 2 rfl rfl ⟨_, .le _ _, ?_⟩, fun e1 => ?_⟩
    · intro x i j hy
      cases hy
      show D.bl _ = D.bl (_ && _)
      rw [e1]; rfl
    · intro x i j hy
      cases hy
      show D.bl _ = D.bl (_ && _)
      rw [e1]; rfl
  · intro x i j hy
    cases hy
    cases x <;> first | rfl | cases e
theorem sized3 {x : D} (h : sized x 3 3 = true) : ∃ a b c, x = .tup [a, b, c] := by
  cases x with
  | tup l =>
    unfold sized at h
    rw [Bool.and_eq_true, decide_eq_true_iff, decide_eq_true_iff] at h
    match l, h with
    | [a, b, c], _ => exact ⟨a, b, c, rfl⟩
    | [], h => simp at h
    | [_], h => simp at h
    | [_, _], h => simp at h
    | _ :: _ :: _ :: _ :: _, h => simp at h; omega
  | _ => cases h
theorem not_case {x : D} (h : sized x 3 3 = false) : isCase x = false := by
  cases x with
  | tup l =>
    match l, h with
    | [a, b, c], h => simp [sized] at h
    | [], _ => rfl
    | [_], _ => rfl
    | [_, _], _ => rfl
    | _ :: _ :: _ :: _ :: _, _ => rfl
  | _ => rfl
theorem S_is_case : FnScope ["thing"] ["thing"] (sc 14) := ⟨rfl, rfl, rfl, by decide +kernel, rfl, by decide +kernel, by decide +kernel⟩
theorem ok_is_case {f : Addr} {fd : FuncData} (F : Fun K "is_case" "is_case" (top 14) f fd) (T : Blt mg) (c2 : Cl P w K mg base 2 "is_within" (sp3i fun x i j => .bl (within x i j))) (c3 : Cl P w K mg base 1 "is_sized" (sp3i fun x i j => .bl (sized x i j))) :
    FnG P w K mg base 3 f fd ["thing"] (sp1 fun x => .bl (isCase x)) := by
  refine ok_D (m := 0) F S_is_case rfl rfl fun cdv A outer s H E ds hr hl hp => ?_
  match ds, hl with
  | [x], _ =>
  refine jss_cons (js_if (jt_w (jw_or (jt_not (jt_val (j_call c3 hr (by decide) ?_))))))
  refine j_cons (j_var 0 rfl rfl (j_cons (j_int (j_cons (j_int (j_nil ⟨rfl, ⟨_, _, _, rfl⟩, fun d hd => ?_⟩))))))
  obtain rfl := hd _ _ _ rfl
  refine ⟨_, rfl, fun e => ?_, fun e => ⟨fun _ => ?_, fun z => by cases z⟩⟩
  · have e : sized x 3 3 = true := by simpa using e
    obtain ⟨a, b, c, rfl⟩ := sized3 e
    refine jw_or (jt_not (jt_val (j_call c2 hr (by decide) ?_)))
    refine j_cons (j_ixT (j_var 0 rfl rfl (j_int ⟨_, _, a, rfl, rfl, rfl, ?_⟩)))
    refine j_cons (j_int (j_cons (j_gint T.g1 (j_nil ⟨rfl, ⟨_, _, _, rfl⟩, fun d hd => ?_⟩))))
    obtain rfl := hd _ _ _ rfl
    refine ⟨_, rfl, fun e1 => ?_, fun e1 => ⟨fun _ => ?_, fun z => by cases z⟩⟩
    · refine jw_or1 (jt_not (jt_val (j_call c2 hr (by decide) ?_)))
      refine j_cons (j_ixT (j_var 0 rfl rfl (j_int ⟨_, _, b, rfl, rfl, rfl, ?_⟩)))
      refine j_cons (j_int (j_cons (j_gint T.g2 (j_nil ⟨rfl, ⟨_, _, _, rfl⟩, fun d hd => ?_⟩))))
      obtain rfl := hd _ _ _ rfl
      refine ⟨_, rfl, fun e2 => ?_, fun e2 => ?_⟩
      · refine jss_one (js_ret (j_bl fun y hy => ?_))
        cases hy
        have e2 : within b 1 8 = false := by simpa using e2
        simp [isCase, e2]
      · refine jss_nil (jss_one (js_ret (j_call c2 hr (by decide) ?_)))
        refine j_cons (j_ixT (j_var 0 rfl rfl (j_int ⟨_, _, c, rfl, rfl, rfl, ?_⟩)))
        refine j_cons (j_int (j_cons (j_gint T.g3 (j_nil ⟨rfl, ⟨_, _, _, rfl⟩, fun d hd => ?_⟩))))
        obtain rfl := hd _ _ _ rfl
        intro y hy
        cases hy
        have e1 : within a 0 20 = true := by simpa using e1
        have e2 : within b 1 8 = true := by simpa using e2
        simp [isCase, e1, e2]
    · refine jss_one (js_ret (j_bl fun y hy => ?_))
      cases hy
      have e1 : within a 0 20 = false := by simpa using e1
      simp [isCase, e1]
  · refine jss_one (js_ret (j_bl fun y hy => ?_))
    cases hy
    show D.bl false = D.bl (isCase x)
    rw [not_case (by simpa using e)]
end
end A
set_option Elab.async false
set_option linter.all false
set_option maxRecDepth 100000
/-! The walk: queues, lots. -/
namespace A
open PySem PySem.Spec PyProof.Rows L2 E
theorem own1 {sl : List Sl} {x : Str} {a : Nat} (h : sl[a]? = some .u) : ∀ j ∈ [(x, a)].map (·.2), ∀ s, sl[j]? = some s → s = .u := fun j hj s hs => by
  have e : j = a := by simpa using hj
  rw [e, h] at hs; cases hs; rfl
theorem own2 {sl : List Sl} {x y : Str} {a b : Nat} (h : sl[a]? = some .u) (h' : sl[b]? = some .u) : ∀ j ∈ [(x, a), (y, b)].map (·.2), ∀ s, sl[j]? = some s → s = .u := fun j hj s hs => by
  have e : j = a ∨ j = b := by simpa using hj
  rcases e with e | e
  · rw [e, h] at hs; cases hs; rfl
  · rw [e, h'] at hs; cases hs; rfl
theorem filter_all {α : Type} (l : List α) : l.filter (fun _ => true) = l := by simp
/-! slices -/
theorem cut_from (l : List D) (k : Nat) : cutD l (some (k : Int)) none = l.drop k := by
  unfold E.cutD
  rw [HT.sIx_nat, HT.sIx_none]
  by_cases h : k ≤ l.length
  · rw [Nat.min_eq_left h, List.take_of_length_le (by rw [List.length_drop]; exact Nat.le_refl _)]
  · rw [Nat.min_eq_right (by omega), List.drop_eq_nil_of_le (Nat.le_refl _), List.drop_eq_nil_of_le (by omega), List.take_nil]
theorem cut_to (l : List D) (k : Nat) : cutD l none (some (k : Int)) = l.take k := by
  unfold E.cutD
  rw [HT.sIx_nat, HT.sIx_none]
  by_cases h : k ≤ l.length
  · rw [Nat.min_eq_left h]; rfl
  · rw [Nat.min_eq_right (by omega)]
    show l.take (l.length - 0) = _
    rw [Nat.sub_zero, List.take_of_length_le (Nat.le_refl _), List.take_of_length_le (by omega)]
theorem cut_last (l : List D) (h : 1 ≤ l.length) : cutD l (some (-1)) none = l.drop (l.length - 1) := by
  unfold E.cutD
  rw [HT.sIx_none]
  have e : HT.sIx l.length 0 (some (-1)) = l.length - 1 := by
    unfold HT.sIx
    simp
    omega
  rw [e, List.take_of_length_le (by rw [List.length_drop]; exact Nat.le_refl _)]
/-! items -/
theorem atI_nat {ds : List D} {n : Nat} {d : D} (h : ds[n]? = some d) : L2.atI ds (n : Int) = some d := by
  have hn := (List.getElem?_eq_some_iff.mp h).1
  unfold L2.atI L2.ixN
  rw [if_pos (by omega), if_pos (by omega)]
  exact h
theorem atI_0 {d : D} {ds : List D} : L2.atI (d :: ds) 0 = some d := atI_nat (n := 0) rfl
theorem atI_last {ds : List D} {d : D} (h : ds.getLast? = some d) : L2.atI ds (-1) = some d := by
  have h1 : ds ≠ [] := fun e => by rw [e] at h; cases h
  have hl : 0 < ds.length := List.length_pos_iff.mpr h1
  unfold L2.atI L2.ixN
  rw [if_neg (by omega), if_pos (by omega)]
  show ds[(-1 + (ds.length : Int)).toNat]? = some d
  rw [show (-1 + (ds.length : Int)).toNat = ds.length - 1 by omega, ← List.getLast?_eq_getElem?]
  exact h
theorem ixN_nat {n k : Nat} (h : k < n) : L2.ixN n (k : Int) = some k := by
  unfold L2.ixN
  rw [if_pos (by omega), if_pos (by omega)]
  rfl
/-! ints among data -/
theorem within_int {x : D} {lo hi : Int} (h : within x lo hi = true) : ∃ i, x = .int i ∧ lo ≤ i ∧ i ≤ hi := by
  cases x with
  | int i =>
    unfold within at h
    rw [Bool.and_eq_true, decide_eq_true_iff, decide_eq_true_iff] at h
    exact ⟨i, rfl, h.1, h.2⟩
  | _ => cases h
theorem all_int : ∀ {l : List D} {lo hi : Int}, l.all (within · lo hi) = true → l = (l.map toI).map D.int
  | [], _, _, _ => rfl
  | x :: l, lo, hi, h => by
    rw [List.all_cons, Bool.and_eq_true] at h
    obtain ⟨i, e, _⟩ := within_int h.1
    rw [List.map_cons, List.map_cons, ← all_int h.2, e]
    rfl
theorem toI_int (ns : List Int) : (ns.map D.int).map toI = ns := by
  rw [List.map_map]
  have : (toI ∘ D.int) = id := by funext i; rfl
  rw [this, List.map_id]
def ltF : D → D
  | .tup [a, b] => .bl (decide (toI a < toI b))
  | _ => .non
def steps : List Int → List Bool
  | a :: b :: r => decide (a < b) :: steps (b :: r)
  | _ => []
theorem steps_all : ∀ ns : List Int, (steps ns).all id = incr ns
  | [] => rfl
  | [_] => rfl
  | a :: b :: r => by
    rw [steps, incr, List.all_cons, steps_all (b :: r)]
    rfl
theorem steps_zip : ∀ ns : List Int, (zipD (ns.map D.int) ((ns.map D.int).drop 1)).map ltF = (steps ns).map D.bl
  | [] => rfl
  | [_] => rfl
  | a :: b :: r => by
    have ih := steps_zip (b :: r)
    show ltF (.tup [.int a, .int b]) :: (zipD ((b :: r).map D.int) (((b :: r).map D.int).drop 1)).map ltF = _
    rw [ih]
    rfl
section
variable {P : Program} {w : World} {K : PySem.W.Frag} {mg : Str → Option Value} {base : Heap}
abbrev N_is_queue : List Str := ["thing", "case"]
theorem S_is_queue : FnScope N_is_queue ["thing"] (sc 15) := ⟨rfl, rfl, rfl, by decide +kernel, rfl, by decide +kernel, by decide +kernel⟩
theorem ok_is_queue {f : Addr} {fd : FuncData} (F : Fun K "is_queue" "is_queue" (top 15) f fd) (T : Blt mg) (c3 : Cl P w K mg base 1 "is_sized" (sp3i fun x i j => .bl (sized x i j))) (c4 : Cl P w K mg base 3 "is_case" (sp1 fun x => .bl (isCase x))) :
    FnG P w K mg base 4 f fd ["thing"] (sp1 fun x => .bl (isQueue x)) := by
  refine ok_D (m := 1) F S_is_queue rfl rfl fun cdv A outer s H E ds hr hl hp => ?_
  match ds, hl with
  | [x], _ =>
  refine jss_one (js_ret (j_and (j_call c3 hr (by decide) ?_)))
  refine j_cons (j_var 0 rfl rfl (j_cons (j_int (j_cons (j_gint T.g0 (j_nil ⟨rfl, ⟨_, _, _, rfl⟩, fun d hd => ?_⟩))))))
  obtain rfl := hd _ _ _ rfl
  refine ⟨_, rfl, fun e => ?_, fun e => ?_⟩
  · obtain ⟨l, rfl⟩ : ∃ l, x = .tup l := by cases x <;> first | exact ⟨_, rfl⟩ | cases e
    have e' : decide (1 ≤ (l.length : Int)) = true ∧ decide ((l.length : Int) ≤ 10) = true := by simpa only [sized, Bool.and_eq_true] using e
    refine j_one (j_all rfl T.all (El.er' ?_))
    refine jl_lcF [("case", 1)] rfl S_is_queue.nd (blkOk_by (N := N_is_queue) (sc := sc 15) (by decide +kernel)) (own1 rfl) (ji_tup (j_var 0 rfl rfl ⟨l, rfl, ?_⟩))
    refine ⟨by have := of_decide_eq_true e'.2; omega, fun _ => true, fun d => .bl (isCase d), fun d acc hd => ?_, ?_⟩
    · refine ⟨[1], _, fun s H C cl fp => jg_name 1 S_is_queue.nd rfl, fun _ h => h, fun s H C cl fp => jts_nil ⟨rfl, fun _ s H C cl fp => ?_⟩⟩
      exact j_call c4 hr (by decide) (j_cons (j_var 1 rfl rfl (j_nil ⟨rfl, trivial, fun d hd => hd _ rfl⟩)))
    · rw [filter_all]
      refine ⟨l.map isCase, by rw [List.map_map]; rfl, fun y hy => ?_⟩
      cases hy
      show D.bl _ = D.bl (_ && _ && _)
      rw [e'.1, e'.2]
      simp
  · intro y hy
    cases hy
    show D.bl false = D.bl (isQueue x)
    cases x with
    | tup l =>
      have e' : (decide (1 ≤ (l.length : Int)) && decide ((l.length : Int) ≤ 10)) = false := e
      simp only [isQueue, e', Bool.false_and]
    | _ => rfl
abbrev sp_check : Sp := spD 1 (fun ds => ∃ x, ds = [x] ∧ isQueue x = true) fun _ d => d = .non
theorem S_check_queue : FnScope ["queue"] ["queue"] (sc 16) := ⟨rfl, rfl, rfl, by decide +kernel, rfl, by decide +kernel, by decide +kernel⟩
theorem ok_check_queue {f : Addr} {fd : FuncData} (F : Fun K "check_queue" "check_queue" (top 16) f fd) (c5 : Cl P w K mg base 4 "is_queue" (sp1 fun x => .bl (isQueue x))) : FnG P w K mg base 5 f fd ["queue"] sp_check := by
  refine ok_D (m := 0) F S_check_queue rfl rfl fun cdv A outer s H E ds hr hl hp => ?_
  obtain ⟨x, rfl, hq⟩ := hp
  refine jss_one (js_if (jt_not (jt_val (j_call c5 hr (by decide) (j_cons (j_var 0 rfl rfl (j_nil ⟨rfl, trivial, fun d hd => ?_⟩)))))))
  obtain rfl := hd _ rfl
  refine ⟨_, rfl, fun e => ?_, fun e => jss_nil rfl⟩
  rw [hq] at e; cases e
/-- (thing, many) -/
abbrev sp_lot : Sp := spD 2 (fun ds => ∃ x i, ds = [x, .int i] ∧ lenT x < 100000) fun ds d => ∀ x i, ds = [x, .int i] → d = .bl (isLot x i)
abbrev N_is_lot : List Str := ["thing", "many", "one", "other"]
theorem S_is_lot : FnScope N_is_lot ["thing", "many"] (sc 17) := ⟨rfl, rfl, rfl, by decide +kernel, rfl, by decide +kernel, by decide +kernel⟩
theorem ok_is_lot {f : Addr} {fd : FuncData} (F : Fun K "is_lot" "is_lot" (top 17) f fd) (T : Blt mg) (c2 : Cl P w K mg base 2 "is_within" (sp3i fun x i j => .bl (within x i j))) : FnG P w K mg base 3 f fd ["thing", "many"] sp_lot := by
  refine ok_D (m := 2) F S_is_lot rfl rfl fun cdv A outer s H E ds hr hl hp => ?_
  obtain ⟨x, i, rfl, hlen⟩ := hp
  refine jss_cons (js_if (jt_w (jw_or (jt_not (jt_val (j_isTup T.isi T.tup (j_var 0 rfl rfl ⟨_, rfl, fun e => ?_, fun e => ⟨fun _ => ?_, fun z => by cases z⟩⟩)))))))
  · obtain ⟨l, rfl⟩ : ∃ l, x = .tup l := by cases x <;> first | exact ⟨_, rfl⟩ | cases e
    refine jw_or1 (jt_not (jt_val (j_all rfl T.all (El.er' ?_))))
    refine jl_lcF [("one", 2)] rfl S_is_lot.nd (blkOk_by (N := N_is_lot) (sc := sc 17) (by decide +kernel)) (own1 rfl) (ji_tup (j_var 0 rfl rfl ⟨l, rfl, ?_⟩))
    refine ⟨hlen, fun _ => true, fun d => .bl (within d 0 (i - 1)), fun d acc hd => ?_, ?_⟩
    · refine ⟨[2], _, fun s H C cl fp => jg_name 2 S_is_lot.nd rfl, fun _ h => h, fun s H C cl fp => jts_nil ⟨rfl, fun _ s H C cl fp => ?_⟩⟩
      refine j_call c2 hr (by decide) (j_cons (j_var 2 rfl rfl (j_cons (j_int (j_cons (j_sub (j_var 1 rfl rfl (j_int ⟨_, _, rfl, rfl, ?_⟩))))))))
      exact j_nil ⟨rfl, ⟨_, _, _, rfl⟩, fun d hd => hd _ _ _ rfl⟩
    · rw [filter_all]
      refine ⟨l.map (within · 0 (i - 1)), by rw [List.map_map]; rfl, _, rfl, fun e1 => ?_, fun e1 => jss_nil ?_⟩
      · refine jss_one (js_ret (j_bl fun y j hy => ?_))
        cases hy
        have e2 : l.all (within · 0 (i - 1)) = false := by simpa using e1
        simp [isLot, e2]
      · have e2 : l.all (within · 0 (i - 1)) = true := by simpa using e1
        have el := all_int e2
        generalize hns : l.map toI = ns at el
        refine jss_one (js_ret (j_all rfl T.all (El.er' ?_)))
        refine jl_lcF [("one", 2), ("other", 3)] rfl S_is_lot.nd (blkOk_by (N := N_is_lot) (sc := sc 17) (by decide +kernel)) (own2 rfl rfl) (ji_zipT T.zip (j_var 0 rfl rfl (j_slT (j_var 0 rfl rfl (jo_s (j_int ⟨1, rfl, jo_n ⟨l, rfl, ?_⟩⟩))))))
        rw [show cutD l (some 1) none = l.drop 1 from cut_from l 1]
        refine ⟨l, l.drop 1, rfl, rfl, ?_, fun _ => true, ltF, fun d acc hd => ?_, ?_⟩
        · unfold zipD
          rw [List.length_map, List.length_zip, List.length_drop]
          have : l.length < 100000 := hlen
          omega
        · subst el
          obtain ⟨k, hk⟩ := List.getElem?_of_mem hd
          obtain ⟨u, v, hu, hv, rfl⟩ := zipD_get hk
          rw [List.getElem?_map] at hu
          rw [List.getElem?_drop, List.getElem?_map] at hv
          cases h1 : ns[k]? with
          | none => rw [h1] at hu; cases hu
          | some m =>
            cases h2 : ns[1 + k]? with
            | none => rw [h2] at hv; cases hv
            | some n =>
              rw [h1] at hu; cases hu
              rw [h2] at hv; cases hv
              refine ⟨[2, 3], _, fun s H C cl fp => jg_tup rfl (jgs_cons (jg_name 2 S_is_lot.nd rfl) (jgs_cons (jg_name 3 S_is_lot.nd rfl) jgs_nil)), fun _ h => h, fun s H C cl fp => jts_nil ⟨rfl, fun _ s H C cl fp => ?_⟩⟩
              exact j_cmp (j_var 2 rfl rfl (j_var 3 rfl rfl ⟨_, .lt _ _, rfl⟩))
        · rw [filter_all]
          refine ⟨steps ns, by rw [el]; exact congrArg D.lst (steps_zip ns), fun y j hy => ?_⟩
          cases hy
          rw [steps_all]
          simp only [isLot, e2, hns, Bool.true_and]
  · refine jss_one (js_ret (j_bl fun y j hy => ?_))
    cases hy
    cases x <;> first | rfl | cases e
end
end A
set_option Elab.async false
set_option linter.all false
set_option maxRecDepth 100000
/-! The walk: plans. -/
namespace A
open PySem PySem.Spec PyProof.Rows L2 E
def inF (n : Int) : D → Bool
  | .tup [_, .tup c] => decide (n ∈ c.map toI)
  | _ => false
def fstF : D → D
  | .tup (a :: _) => a
  | _ => .non
theorem days_list (n : Int) : ∀ (k : Nat) (p : List (List Int)), ((enumFrom k (p.map dayD)).filter (inF n)).map fstF = (daysFrom k n p).map D.int
  | _, [] => rfl
  | k, r :: p => by
    have ih := days_list n (k + 1) p
    show ((.tup [.int (k : Nat), dayD r] :: enumFrom (k + 1) (p.map dayD)).filter (inF n)).map fstF = _
    have e : inF n (.tup [.int (k : Nat), dayD r]) = decide (n ∈ r) := by
      show decide (n ∈ (r.map D.int).map toI) = _
      rw [toI_int]
    rw [List.filter_cons, e, daysFrom]
    by_cases h : n ∈ r
    · rw [if_pos (by simpa using h), if_pos h, List.map_cons, ih]; rfl
    · rw [if_neg (by simpa using h), if_neg h, ih]
theorem lots_eq {many desks : Int} : ∀ {l : List D}, l.all (fun d => isLot d many && decide ((lenT d : Int) ≤ desks)) = true → l = (l.map lotOf).map dayD
  | [], _ => rfl
  | x :: l, h => by
    rw [List.all_cons, Bool.and_eq_true, Bool.and_eq_true] at h
    have e : x = dayD (lotOf x) := by
      have h1 := h.1.1
      cases x with
      | tup r =>
        have h2 : (r.all (within · 0 (many - 1)) && incr (r.map toI)) = true := h1
        rw [Bool.and_eq_true] at h2
        exact congrArg D.tup (all_int h2.1)
      | _ => cases h1
    rw [List.map_cons, List.map_cons, ← lots_eq h.2, ← e]
theorem drop_get {α : Type} {q : List α} {i : Nat} {c : α} (h : q[i]? = some c) : q.drop i = c :: q.drop (i + 1) := by
  obtain ⟨hi, e⟩ := List.getElem?_eq_some_iff.mp h
  rw [List.drop_eq_getElem_cons hi, e]
theorem getF {α : Type} {l : List α} {f : α → D} {i : Nat} {d : D} (h : (l.map f)[i]? = some d) : ∃ a, l[i]? = some a ∧ d = f a := by
  rw [List.getElem?_map] at h
  cases e : l[i]? with
  | none => rw [e] at h; cases h
  | some a => rw [e] at h; cases h; exact ⟨a, rfl, rfl⟩
/-- the rows of a thing are not too long -/
def Thin (x : D) : Prop := ∀ l, x = .tup l → ∀ d ∈ l, lenT d < 100000
section
variable {P : Program} {w : World} {K : PySem.W.Frag} {mg : Str → Option Value} {base : Heap}
abbrev sp_days : Sp := spD 2 (fun ds => ∃ p n, ds = [planD p, .int n] ∧ p.length < 100000) fun ds d => ∀ p n, ds = [planD p, .int n] → d = .lst ((daysOf p n).map D.int)
abbrev N_days_of : List Str := ["plan", "number", "day", "cases"]
theorem plan_inj {p q : List (List Int)} (h : planD p = planD q) : p = q := by
  have h1 : p.map dayD = q.map dayD := by injection h
  have h2 : (p.map dayD).map lotOf = (q.map dayD).map lotOf := by rw [h1]
  have e : ∀ p : List (List Int), (p.map dayD).map lotOf = p := fun p => by
    rw [List.map_map]
    have : (lotOf ∘ dayD) = id := by funext r; exact toI_int r
    rw [this, List.map_id]
  rw [e, e] at h2
  exact h2
/-- (queue, desks, thing) -/
abbrev sp_plan : Sp := spD 3 (fun ds => ∃ q i x, ds = [queueD q, .int i, x] ∧ Qok q ∧ Thin x) fun ds d => ∀ q i x, ds = [queueD q, .int i, x] → d = .bl (planB q i x)
theorem queue_inj {p q : List Case} (h : queueD p = queueD q) : p = q := by
  have h1 : p.map caseD = q.map caseD := by injection h
  clear h
  induction p generalizing q with
  | nil => cases q with
    | nil => rfl
    | cons c q => simp at h1
  | cons c p ih =>
    cases q with
    | nil => simp at h1
    | cons d q =>
      rw [List.map_cons, List.map_cons] at h1
      injection h1 with h1 h2
      simp only [caseD] at h1
      injection h1 with h1
      injection h1 with h3 h4
      injection h4 with h4 h5
      injection h5 with h5 _
      injection h3 with h3
      injection h4 with h4
      injection h5 with h5
      rw [ih h2, show c = d from Prod.ext h3 (Prod.ext h4 h5)]
end
end A
set_option Elab.async false
set_option linter.all false
set_option maxRecDepth 100000
namespace E
open PySem PySem.Spec PyProof.Rows L2
section
variable {X : Cx} {sl sl' : List Sl} {ms : List (List D)} {R : D → Prop} {B : Bool → Prop} {pos p p2 p3 : Pos} {a b c e : Expr} {es rest : List Expr} {x y : Str} {d : D} {O : Out}
/-- name = [..]: a plain local name -/
theorem js_lc {elt tg iter : Expr} {ifs : List Expr} {scope : Scope} (i : Nat) (own : List (Str × Nat)) {fx : Option (Nat × List D)} (hc : X.calm = true) (hN : X.N.Nodup) (hi : X.N[i]? = some x) (ok : BlkOk X.N X.env.scope scope own)
    (hv : ∀ j ∈ own.map (·.2), ∀ s, sl[j]? = some s → s = .u)
    (h : Ei sl ms (wI X tg iter) fx fun items => items.length < 100000 ∧ ∃ Pv : Nat → List D → Prop, Pv 0 [] ∧
      (∀ i d acc, items[i]? = some d → Pv i acc → ∃ tv sl2, Blk X scope (fun Y => Eg sl (wG Y tg) d tv sl2) ∧ (∀ j ∈ tv, j ∈ own.map (·.2)) ∧
        Blk X scope fun Y => Et sl2 (ms ++ [acc]) (wTs Y ifs) fun b => (b = true → Blk X scope fun Z => Er sl2 (ms ++ [acc]) (wE Z elt) fun y => Pv (i + 1) (acc ++ [y])) ∧ (b = false → Pv (i + 1) acc)) ∧
      ∀ acc, Pv items.length acc → O.nx (sl.set i (.d (.lst acc))) ms)
    (hl : X.env.scope.names.lookup x = some .local := by rfl) (hsw : swapsWith (.ListComp elt [⟨tg, iter, ifs, 0⟩] scope p2) (some (.Name x p)) pos.line X.env = pure true := by rfl)
    (hs : ∀ x, foldedSetIterable iter X.env x = pure x := by intro _; rfl) : Sr sl ms (wS X (.Assign [.Name x p] (.ListComp elt [⟨tg, iter, ifs, 0⟩] scope p2) pos)) O := by
  have key : El sl ms (tLc (wI X tg iter) (fun v σ H Q => ∀ (s : Shared) (H' : Hp) (C : Addr) (cl : List (Str × Addr)) (fp : List Addr), wG (X.blk s H' scope (compEnvC scope cl C X.env) fp) tg v σ H Q)
      (fun σ H Q => ∀ (s : Shared) (H' : Hp) (C : Addr) (cl : List (Str × Addr)) (fp : List Addr), wTs (X.blk s H' scope (compEnvC scope cl C X.env) fp) ifs σ H Q)
      (fun σ H Q => ∀ (s : Shared) (H' : Hp) (C : Addr) (cl : List (Str × Addr)) (fp : List Addr), wE (X.blk s H' scope (compEnvC scope cl C X.env) fp) elt σ H Q) (own.map (·.2))) fun acc => O.nx (sl.set i (.d (.lst acc))) ms := by
    refine el_lc' hv ⟨h.1, fun ho F0 H0 F ps ex σ H a Rr q => h.2 ho F0 H0 F ps ex σ H a Rr fun J F' H' pins items ⟨hl, Pv, p0, step, fin⟩ a' wk => q J F' H' pins items ⟨hl, Pv, p0, fun i d acc hd pv => ?_, fin⟩ a' wk⟩
    obtain ⟨tv, sl2, g1, g2, g3⟩ := step i d acc hd pv
    have g0 := g1 X.s_0 X.H_0 0 [] []
    refine ⟨tv, sl2, ⟨g0.len, g0.st, fun ms ho F0 H0 F ps ex σ H v a dv Q k s H' C cl fp => (g1 s H' C cl fp).run ms ho F0 H0 F ps ex σ H v a dv Q k⟩, g2, ?_⟩
    intro ho F0 H0 F ps ex σ H a Q k s H' C cl fp
    refine g3 s H' C cl fp ho F0 H0 F ps ex σ H a Q fun b F' H'' ⟨k1, k2⟩ a' => k b F' H'' ⟨fun e => ?_, k2⟩ a'
    intro ho F0 H0 F ps ex σ H a Q k s H' C cl fp
    exact k1 e s H' C cl fp ho F0 H0 F ps ex σ H a Q k
  exact Sr.of (ps_setLc hc hN hi hl hsw pi_w ok (fun s H' C cl fp => ⟨fun pins s1 σ H v u Q I r h => h s H' C cl fp pins s1 u I r⟩) (fun s H' C cl fp => ⟨fun pins s1 σ H Q I h => h s H' C cl fp pins s1 I⟩) (fun s H' C cl fp => ⟨fun pins s1 σ H Q I h => h s H' C cl fp pins s1 I⟩) hs) (sr_set' (El.er' key))
theorem js_lcF {elt tg iter : Expr} {ifs : List Expr} {scope : Scope} (i : Nat) (own : List (Str × Nat)) {fx : Option (Nat × List D)} (hc : X.calm = true) (hN : X.N.Nodup) (hi : X.N[i]? = some x) (ok : BlkOk X.N X.env.scope scope own)
    (hv : ∀ j ∈ own.map (·.2), ∀ s, sl[j]? = some s → s = .u)
    (h : Ei sl ms (wI X tg iter) fx fun items => items.length < 100000 ∧ ∃ (p : D → Bool) (f : D → D),
      (∀ d acc, d ∈ items → ∃ tv sl2, Blk X scope (fun Y => Eg sl (wG Y tg) d tv sl2) ∧ (∀ j ∈ tv, j ∈ own.map (·.2)) ∧
        Blk X scope fun Y => Et sl2 (ms ++ [acc]) (wTs Y ifs) fun b => b = p d ∧ (b = true → Blk X scope fun Z => Er sl2 (ms ++ [acc]) (wE Z elt) fun y => y = f d)) ∧
      O.nx (sl.set i (.d (.lst ((items.filter p).map f)))) ms)
    (hl : X.env.scope.names.lookup x = some .local := by rfl) (hsw : swapsWith (.ListComp elt [⟨tg, iter, ifs, 0⟩] scope p2) (some (.Name x p)) pos.line X.env = pure true := by rfl)
    (hs : ∀ x, foldedSetIterable iter X.env x = pure x := by intro _; rfl) : Sr sl ms (wS X (.Assign [.Name x p] (.ListComp elt [⟨tg, iter, ifs, 0⟩] scope p2) pos)) O := by
  refine js_lc i own (fx := fx) hc hN hi ok hv ⟨h.1, fun ho F0 H0 F ps ex σ H a Rr q => h.2 ho F0 H0 F ps ex σ H a Rr fun J F' H' pins items ⟨hl, pp, f, step, fin⟩ a' wk => q J F' H' pins items ⟨hl, fun i acc => acc = ((items.take i).filter pp).map f, by simp, fun i d acc hd pv => ?_, fun acc e => by rw [e, List.take_length]; exact fin⟩ a' wk⟩ hl hsw hs
  obtain ⟨tv, sl2, g1, g2, g3⟩ := step d acc (List.mem_of_getElem? hd)
  have hn : (items.take (i + 1)).filter pp = (items.take i).filter pp ++ [d].filter pp := by rw [List.take_add_one, hd, List.filter_append]; rfl
  have pv : acc = List.map f (List.filter pp (List.take i items)) := pv
  refine ⟨tv, sl2, g1, g2, fun s H C cl fp => (g3 s H C cl fp).mono fun b ⟨e, k⟩ => ⟨fun eb s H C cl fp => (k eb s H C cl fp).mono fun y ey => ?_, fun eb => ?_⟩⟩
  · show acc ++ [y] = List.map f (List.filter pp (List.take (i + 1) items))
    rw [hn, pv, ey, List.map_append, show [d].filter pp = [d] by rw [List.filter_cons, if_pos (by rw [← e]; exact eb)]; rfl]; rfl
  · show acc = List.map f (List.filter pp (List.take (i + 1) items))
    rw [hn, pv, show [d].filter pp = [] by rw [List.filter_cons, if_neg (by rw [← e, eb]; exact Bool.false_ne_true)]; rfl, List.append_nil]
/-- name += e, whole numbers -/
theorem js_augI (i : Nat) {n : Int} (hN : X.N.Nodup) (hi : X.N[i]? = some x) (hs : sl[i]? = some (.d (.int n))) (h : Er sl ms (wE X e) fun z => ∃ t : Int, z = .int t ∧ O.nx (sl.set i (.d (.int (n + t)))) ms) (hx : Loc X.env.scope x := by first | exact Or.inl rfl | exact Or.inr rfl)
    (hf : X.fn x = true ∨ X.env.scope.names.lookup x = some .local := by first | exact .inl rfl | exact .inr rfl) : Sr sl ms (wS X (.AugAssign (.Name x p) .Add e pos)) O :=
  Sr.of (ps_aug hN hi hx pe_w ip_add hf) fun ho F0 H0 F ps ex σ H a Z nx rt bk ct => by
    obtain ⟨o, eo, v, rfl, hv⟩ := a.slo i _ hs
    cases hv
    exact ⟨_, eo, h ho F0 H0 F ps ex σ H a _ fun w z F1 H1 ⟨t, ez, k⟩ a1 => by
      subst ez
      cases a1.top
      exact ⟨n, t, rfl, rfl, nx _ _ F1 ps _ H1 k (a1.pop.store (s := .d (.int (n + t))) i ⟨_, rfl, .int _⟩)⟩⟩
end
end E
set_option Elab.async false
set_option linter.all false
set_option maxRecDepth 100000
/-! The plan by dues: plain. -/
namespace A
open PySem E
def pickFrom (k : Nat) (day : Int) : List Case → List Int → List (Int × Int)
  | c :: q, r :: rest => if c.1 ≤ day ∧ 0 < r then (c.2.2, (k : Int)) :: pickFrom (k + 1) day q rest else pickFrom (k + 1) day q rest
  | _, _ => []
abbrev pick (q : List Case) (rest : List Int) (day : Int) : List (Int × Int) := pickFrom 0 day q rest
theorem pick_mem : ∀ {k : Nat} {day : Int} {q : List Case} {rest : List Int} {m : Int × Int}, m ∈ pickFrom k day q rest → ∃ j c r, m = (c.2.2, ((k + j : Nat) : Int)) ∧ q[j]? = some c ∧ rest[j]? = some r ∧ c.1 ≤ day ∧ 0 < r
  | k, day, c :: q, r :: rest, m, h => by
    rw [pickFrom] at h
    by_cases hc : c.1 ≤ day ∧ 0 < r
    · rw [if_pos hc] at h
      rcases List.mem_cons.mp h with rfl | h
      · exact ⟨0, c, r, rfl, rfl, rfl, hc⟩
      · obtain ⟨j, c', r', e, h1, h2, h3⟩ := pick_mem h
        exact ⟨j + 1, c', r', by rw [e, show k + 1 + j = k + (j + 1) by omega], by simpa using h1, by simpa using h2, h3⟩
    · rw [if_neg hc] at h
      obtain ⟨j, c', r', e, h1, h2, h3⟩ := pick_mem h
      exact ⟨j + 1, c', r', by rw [e, show k + 1 + j = k + (j + 1) by omega], by simpa using h1, by simpa using h2, h3⟩
  | k, day, [], rest, m, h => by cases rest <;> simp [pickFrom] at h
  | k, day, _ :: _, [], m, h => by simp [pickFrom] at h
theorem mem_pick : ∀ {k : Nat} {day : Int} {q : List Case} {rest : List Int} {j : Nat} {c : Case} {r : Int}, q[j]? = some c → rest[j]? = some r → c.1 ≤ day → 0 < r → (c.2.2, ((k + j : Nat) : Int)) ∈ pickFrom k day q rest
  | k, day, c :: q, r :: rest, 0, c', r', h1, h2, h3, h4 => by
    simp at h1 h2
    subst h1 h2
    rw [pickFrom, if_pos ⟨h3, h4⟩]
    exact List.mem_cons_self
  | k, day, c :: q, r :: rest, j + 1, c', r', h1, h2, h3, h4 => by
    have := mem_pick (k := k + 1) (day := day) (q := q) (rest := rest) (j := j) (by simpa using h1) (by simpa using h2) h3 h4
    rw [show k + 1 + j = k + (j + 1) by omega] at this
    rw [pickFrom]
    split
    · exact List.mem_cons_of_mem _ this
    · exact this
  | k, day, [], _, j, c', r', h1, _, _, _ => by simp at h1
  | k, day, _ :: _, [], j, c', r', _, h2, _, _ => by simp at h2
def minP : List (Int × Int) → Int × Int
  | [] => (0, 0)
  | q :: qs => qs.foldl (fun a y => if y.1 < a.1 ∨ (y.1 = a.1 ∧ y.2 < a.2) then y else a) q
theorem minP_fold : ∀ (qs : List (Int × Int)) (q : Int × Int), let m := qs.foldl (fun a y => if y.1 < a.1 ∨ (y.1 = a.1 ∧ y.2 < a.2) then y else a) q; m ∈ q :: qs ∧ ∀ r ∈ q :: qs, pairLe m r
  | [], q => ⟨List.mem_cons_self, fun r hr => by
    have : r = q := by simpa using hr
    subst this
    exact .inr ⟨rfl, Int.le_refl _⟩⟩
  | y :: qs, q => by
    show (qs.foldl _ (if y.1 < q.1 ∨ (y.1 = q.1 ∧ y.2 < q.2) then y else q)) ∈ q :: y :: qs ∧ ∀ r ∈ q :: y :: qs, pairLe (qs.foldl _ (if y.1 < q.1 ∨ (y.1 = q.1 ∧ y.2 < q.2) then y else q)) r
    by_cases h : y.1 < q.1 ∨ (y.1 = q.1 ∧ y.2 < q.2)
    · rw [if_pos h]
      obtain ⟨h1, h2⟩ := minP_fold qs y
      refine ⟨List.mem_cons_of_mem _ h1, fun r hr => ?_⟩
      rcases List.mem_cons.mp hr with rfl | hr
      · have := h2 y List.mem_cons_self
        unfold pairLe at this ⊢
        omega
      · exact h2 r hr
    · rw [if_neg h]
      obtain ⟨h1, h2⟩ := minP_fold qs q
      refine ⟨?_, fun r hr => ?_⟩
      · rcases List.mem_cons.mp h1 with h1 | h1
        · rw [h1]; exact List.mem_cons_self
        · exact List.mem_cons_of_mem _ (List.mem_cons_of_mem _ h1)
      · rcases List.mem_cons.mp hr with rfl | hr
        · exact h2 _ List.mem_cons_self
        · rcases List.mem_cons.mp hr with rfl | hr
          · have := h2 q List.mem_cons_self
            unfold pairLe at this ⊢
            omega
          · exact h2 r (List.mem_cons_of_mem _ hr)
theorem minP_mem {qs : List (Int × Int)} (h : qs ≠ []) : minP qs ∈ qs := by
  cases qs with
  | nil => exact absurd rfl h
  | cons q qs => exact (minP_fold qs q).1
theorem minP_eq {qs : List (Int × Int)} {m : Int × Int} (h : m ∈ qs) (hl : ∀ r ∈ qs, pairLe m r) : m = minP qs := by
  cases qs with
  | nil => cases h
  | cons q qs =>
    have h1 := (minP_fold qs q).2 m h
    have h2 := hl _ (minP_fold qs q).1
    show m = qs.foldl _ q
    unfold pairLe at h1 h2
    exact Prod.ext (by omega) (by omega)
/-- a day: the rests, the plan so far -/
def ledStep (q : List Case) (s : List Int × List (List Int)) : List Int × List (List Int) :=
  if pick q s.1 (s.2.length : Int) = [] then (s.1, s.2 ++ [[]])
  else (s.1.set (minP (pick q s.1 (s.2.length : Int))).2.toNat (s.1.getD (minP (pick q s.1 (s.2.length : Int))).2.toNat 0 - 1), s.2 ++ [[(minP (pick q s.1 (s.2.length : Int))).2]])
def ledN (q : List Case) : Nat → List Int × List (List Int)
  | 0 => (q.map (·.2.1), [])
  | n + 1 => ledStep q (ledN q n)
def LedAt (q : List Case) (k : Nat) : Prop := (ledN q k).1.sum ≤ 0 ∧ ∀ j, j < k → 0 < (ledN q j).1.sum
theorem LedAt.uniq {q : List Case} {k l : Nat} (a : LedAt q k) (b : LedAt q l) : k = l := by
  rcases Nat.lt_trichotomy k l with h | h | h
  · have := b.2 k h; have := a.1; omega
  · exact h
  · have := a.2 l h; have := b.1; omega
theorem sum_set : ∀ {l : List Int} {k : Nat} {r : Int}, l[k]? = some r → (l.set k (r - 1)).sum = l.sum - 1
  | [], _, _, h => by simp at h
  | a :: l, 0, r, h => by
    simp at h
    subst h
    simp only [List.set_cons_zero, List.sum_cons]
    omega
  | a :: l, k + 1, r, h => by
    have := sum_set (l := l) (k := k) (by simpa using h)
    simp only [List.set_cons_succ, List.sum_cons, this]
    omega
theorem sum_pos : ∀ {l : List Int}, 0 < l.sum → ∃ (k : Nat) (r : Int), l[k]? = some r ∧ 0 < r
  | [], h => by simp at h
  | a :: l, h => by
    by_cases ha : 0 < a
    · exact ⟨0, a, rfl, ha⟩
    · rw [List.sum_cons] at h
      obtain ⟨k, r, h1, h2⟩ := sum_pos (l := l) (by omega)
      exact ⟨k + 1, r, by simpa using h1, h2⟩
/-- what is taken on a day -/
theorem pick_min {q : List Case} {rest : List Int} {day : Int} (h : pick q rest day ≠ []) : ∃ (j : Nat) (c : Case) (r : Int), minP (pick q rest day) = (c.2.2, (j : Int)) ∧ q[j]? = some c ∧ rest[j]? = some r ∧ c.1 ≤ day ∧ 0 < r := by
  obtain ⟨j, c, r, e, h1, h2, h3, h4⟩ := pick_mem (minP_mem h)
  exact ⟨j, c, r, by rw [e, Nat.zero_add], h1, h2, h3, h4⟩
structure LedInv (q : List Case) (n : Nat) : Prop where
  len : (ledN q n).2.length = n
  rl : (ledN q n).1.length = q.length
theorem led_inv (q : List Case) : ∀ n, LedInv q n
  | 0 => ⟨rfl, by simp [ledN]⟩
  | n + 1 => by
    have ih := led_inv q n
    refine ⟨?_, ?_⟩
    · rw [ledN, ledStep]
      split <;> simp [ih.len]
    · rw [ledN, ledStep]
      split <;> simp [ih.rl]
/-- the days that are left at most -/
def ledM (q : List Case) (n : Nat) : Nat := (ledN q n).1.sum.toNat + (20 - n)
theorem led_down {q : List Case} (hq : Qok q) {n : Nat} (h : 0 < (ledN q n).1.sum) : ledM q (n + 1) < ledM q n := by
  have iv := led_inv q n
  unfold ledM
  rw [ledN, ledStep, iv.len]
  by_cases hp : pick q (ledN q n).1 (n : Int) = []
  · rw [if_pos hp]
    obtain ⟨k, r, h1, h2⟩ := sum_pos h
    have hk : k < q.length := by rw [← iv.rl]; exact (List.getElem?_eq_some_iff.mp h1).1
    have hn : n < 20 := by
      apply Decidable.byContradiction
      intro hn
      have hc := hq.c1 q[k] (List.getElem_mem hk)
      have := mem_pick (k := 0) (day := (n : Int)) (List.getElem?_eq_getElem hk) h1 (by omega) h2
      rw [show pickFrom 0 (n : Int) q (ledN q n).1 = [] from hp] at this
      cases this
    show (ledN q n).1.sum.toNat + _ < _
    omega
  · rw [if_neg hp]
    obtain ⟨j, c, r, e, h1, h2, h3, h4⟩ := pick_min hp
    rw [e]
    show ((ledN q n).1.set ((j : Int)).toNat ((ledN q n).1.getD ((j : Int)).toNat 0 - 1)).sum.toNat + _ < _
    rw [Int.toNat_natCast, show (ledN q n).1.getD j 0 = r by rw [List.getD_eq_getElem?_getD, h2]; rfl, sum_set h2]
    omega
theorem sum_le : ∀ {l : List Int} {m : Int}, (∀ x ∈ l, x ≤ m) → l.sum ≤ m * l.length
  | [], m, _ => by simp
  | a :: l, m, h => by
    have h1 := sum_le (l := l) (m := m) fun x hx => h x (List.mem_cons_of_mem _ hx)
    have h2 := h a List.mem_cons_self
    rw [List.sum_cons, List.length_cons, show ((l.length + 1 : Nat) : Int) = (l.length : Int) + 1 by omega, Int.mul_add, Int.mul_one]
    omega
theorem led_start {q : List Case} (hq : Qok q) : ledM q 0 ≤ 100 := by
  have h1 : (q.map fun c : Case => c.2.1).sum ≤ 8 * ((q.map fun c : Case => c.2.1).length : Int) := sum_le fun x hx => by
    obtain ⟨c, hc, rfl⟩ := List.mem_map.mp hx
    exact hq.w1 c hc
  rw [List.length_map] at h1
  have := hq.h10
  unfold ledM
  show (q.map fun c : Case => c.2.1).sum.toNat + 20 ≤ 100
  omega
theorem led_room {q : List Case} (hq : Qok q) : ∀ {n : Nat}, (∀ j, j < n → 0 < (ledN q j).1.sum) → n + ledM q n ≤ 100
  | 0, _ => by have := led_start hq; omega
  | n + 1, h => by
    have h1 := led_room hq (n := n) fun j hj => h j (by omega)
    have h2 := led_down hq (h n (by omega))
    omega
end A
set_option Elab.async false
set_option linter.all false
set_option maxRecDepth 100000
/-! The walk: lateness, the plan by dues. -/
namespace A
open PySem PySem.Spec PyProof.Rows L2 E
theorem casesOk_get {p : List (List Int)} : ∀ {i : Nat} {q : List Case} {k : Nat} {c : Case}, casesOk p i q = true → q[k]? = some c → caseOk p (i + k) c = true
  | i, [], k, c, _, h => by simp at h
  | i, d :: q, 0, c, h, e => by
    simp at e
    subst e
    rw [casesOk, Bool.and_eq_true] at h
    exact h.1
  | i, d :: q, k + 1, c, h, e => by
    rw [casesOk, Bool.and_eq_true] at h
    have := casesOk_get (k := k) h.2 (by simpa using e)
    rwa [show i + 1 + k = i + (k + 1) by omega] at this
theorem lots_plan (p : List (List Int)) : (p.map dayD).map lotOf = p := by
  rw [List.map_map]
  have : (lotOf ∘ dayD) = id := by funext r; exact toI_int r
  rw [this, List.map_id]
/-- what a good plan has -/
structure Good (q : List Case) (p : List (List Int)) : Prop where
  len : p.length ≤ 120
  ok : casesOk p 0 q = true
theorem good_of {q : List Case} {i : Int} {p : List (List Int)} (h : planB q i (planD p) = true) : Good q p := by
  have h' : (decide (((p.map dayD).length : Int) ≤ 120) && (p.map dayD).all (fun d => isLot d q.length && decide ((lenT d : Int) ≤ i)) && casesOk ((p.map dayD).map lotOf) 0 q) = true := h
  rw [Bool.and_eq_true, Bool.and_eq_true, decide_eq_true_iff, lots_plan, List.length_map] at h'
  exact ⟨by omega, h'.2⟩
theorem Good.days {q : List Case} {p : List (List Int)} (g : Good q p) (hq : Qok q) {k : Nat} {c : Case} (h : q[k]? = some c) : daysOf p (k : Int) ≠ [] := by
  have h1 := casesOk_get g.ok h
  rw [Nat.zero_add, caseOk, Bool.and_eq_true, decide_eq_true_iff] at h1
  have h2 := hq.w0 c (List.mem_of_getElem? h)
  intro e
  rw [e] at h1
  have := h1.1
  simp at this
  omega
def lateF (p : List (List Int)) : D → D
  | .tup [i, .tup [_, _, due]] => .int ((daysOf p (toI i)).getLastD 0 + 1 - toI due)
  | _ => .non
theorem lates_list (p : List (List Int)) : ∀ (k : Nat) (q : List Case), (enumFrom k (q.map caseD)).map (lateF p) = (lates p k q).map D.int
  | _, [] => rfl
  | k, c :: q => by
    show lateF p (.tup [.int (k : Nat), caseD c]) :: (enumFrom (k + 1) (q.map caseD)).map (lateF p) = _
    rw [lates_list p (k + 1) q]
    rfl
theorem lates_len (p : List (List Int)) : ∀ (k : Nat) (q : List Case), (lates p k q).length = q.length
  | _, [] => rfl
  | k, c :: q => by rw [lates, List.length_cons, lates_len p (k + 1) q]; rfl
theorem max_fold : ∀ (r : List Int) (a : Int), r.foldl max a ∈ a :: r ∧ ∀ y ∈ a :: r, y ≤ r.foldl max a
  | [], a => ⟨List.mem_cons_self, fun y hy => by
    have : y = a := by simpa using hy
    subst this; exact Int.le_refl _⟩
  | b :: r, a => by
    obtain ⟨h1, h2⟩ := max_fold r (max a b)
    refine ⟨?_, fun y hy => ?_⟩
    · show r.foldl max (max a b) ∈ _
      rcases List.mem_cons.mp h1 with h1 | h1
      · rw [h1]
        by_cases h : a ≤ b
        · rw [Int.max_eq_right h]; exact List.mem_cons_of_mem _ List.mem_cons_self
        · rw [Int.max_eq_left (by omega)]; exact List.mem_cons_self
      · exact List.mem_cons_of_mem _ (List.mem_cons_of_mem _ h1)
    · show y ≤ r.foldl max (max a b)
      have h3 := h2 (max a b) List.mem_cons_self
      rcases List.mem_cons.mp hy with rfl | hy
      · omega
      · rcases List.mem_cons.mp hy with rfl | hy
        · omega
        · exact h2 y (List.mem_cons_of_mem _ hy)
theorem maxI_eq {ns : List Int} {k : Int} (h : k ∈ ns) (hl : ∀ y, y ∈ ns → y ≤ k) : k = maxI ns := by
  cases ns with
  | nil => cases h
  | cons a r =>
    have h1 := (max_fold r a).2 k h
    have h2 := hl _ (max_fold r a).1
    show k = r.foldl max a
    omega
def pickF (day : Int) (rest : List Int) : D → Bool
  | .tup [k, .tup (c :: _)] => decide (toI c ≤ day) && decide (0 < rest.getD (toI k).toNat 0)
  | _ => false
def dueF : D → D
  | .tup [k, .tup [_, _, due]] => .tup [due, k]
  | _ => .non
theorem pick_list (day : Int) (rest : List Int) : ∀ (k : Nat) (q : List Case) (r : List Int), r.length = q.length → (∀ j x, r[j]? = some x → rest[k + j]? = some x) → ((enumFrom k (q.map caseD)).filter (pickF day rest)).map dueF = (pickFrom k day q r).map E.pairD
  | _, [], r, _, _ => by cases r <;> rfl
  | k, c :: q, [], h, _ => by simp at h
  | k, c :: q, x :: r, h, hr => by
    have ih := pick_list day rest (k + 1) q r (by simpa using h) fun j y hy => by
      have := hr (j + 1) y (by simpa using hy)
      rwa [show k + (j + 1) = k + 1 + j by omega] at this
    show ((.tup [.int (k : Nat), caseD c] :: enumFrom (k + 1) (q.map caseD)).filter (pickF day rest)).map dueF = _
    have hx : rest.getD k 0 = x := by
      have := hr 0 x rfl
      rw [Nat.add_zero] at this
      rw [List.getD_eq_getElem?_getD, this]; rfl
    have e : pickF day rest (.tup [.int (k : Nat), caseD c]) = (decide (c.1 ≤ day) && decide (0 < x)) := by
      show (decide (c.1 ≤ day) && decide (0 < rest.getD ((k : Nat) : Int).toNat 0)) = _
      rw [Int.toNat_natCast, hx]
    rw [List.filter_cons, e, pickFrom]
    by_cases hc : c.1 ≤ day ∧ 0 < x
    · rw [if_pos (by simpa using hc), if_pos hc, List.map_cons, ih]; rfl
    · rw [if_neg (by simpa using hc), if_neg hc, ih]
section
variable {P : Program} {w : World} {K : PySem.W.Frag} {mg : Str → Option Value} {base : Heap}
theorem isQueue_ok {q : List Case} (hq : Qok q) : isQueue (queueD q) = true := by
  show (decide (1 ≤ ((q.map caseD).length : Int)) && decide (((q.map caseD).length : Int) ≤ 10) && (q.map caseD).all isCase) = true
  have h1 := hq.h1
  have h2 := hq.h10
  rw [List.length_map, Bool.and_eq_true, Bool.and_eq_true, decide_eq_true_iff, decide_eq_true_iff, List.all_eq_true]
  refine ⟨⟨by omega, by omega⟩, fun x hx => ?_⟩
  obtain ⟨c, hc, rfl⟩ := List.mem_map.mp hx
  show (within (.int c.1) 0 20 && within (.int c.2.1) 1 8 && within (.int c.2.2) 0 40) = true
  simp [within, hq.c0 c hc, hq.c1 c hc, hq.w0 c hc, hq.w1 c hc, hq.d0 c hc, hq.d1 c hc]
abbrev sp_isplan : Sp := spD 3 (fun ds => ∃ q i x, ds = [queueD q, .int i, x] ∧ Qok q ∧ 1 ≤ i ∧ i ≤ 5 ∧ Thin x) fun ds d => ∀ q i x, ds = [queueD q, .int i, x] → d = .bl (planB q i x)
theorem two_inj {q q' : List Case} {p p' : List (List Int)} (h : [queueD q, planD p] = [queueD q', planD p']) : q = q' ∧ p = p' := by
  injection h with h1 h2
  injection h2 with h2 _
  exact ⟨queue_inj h1, plan_inj h2⟩
abbrev sp_late : Sp := spD 2 (fun ds => ∃ q p, ds = [queueD q, planD p] ∧ Qok q ∧ Good q p) fun ds d => ∀ q p, ds = [queueD q, planD p] → d = .int (lateOf q p)
abbrev sp_lateness : Sp := spD 2 (fun ds => ∃ q p, ds = [queueD q, planD p] ∧ Qok q ∧ planB q 10 (planD p) = true) fun ds d => ∀ q p, ds = [queueD q, planD p] → d = .int (lateOf q p)
theorem incr_bound : ∀ {ns : List Int} {lo hi : Int}, incr ns = true → (∀ x ∈ ns, lo ≤ x ∧ x ≤ hi) → (ns.length : Int) ≤ max 0 (hi - lo + 1)
  | [], lo, hi, _, _ => Int.le_max_left 0 _
  | [a], lo, hi, _, h => by
    have := h a List.mem_cons_self
    simp
    omega
  | a :: b :: r, lo, hi, h, hb => by
    rw [incr, Bool.and_eq_true, decide_eq_true_iff] at h
    have hlt : ∀ {ns : List Int} {b : Int}, incr (b :: ns) = true → ∀ x ∈ b :: ns, b ≤ x := by
      intro ns
      induction ns with
      | nil => intro b _ x hx; have : x = b := by simpa using hx
               omega
      | cons c ns ih =>
        intro b h x hx
        rw [incr, Bool.and_eq_true, decide_eq_true_iff] at h
        rcases List.mem_cons.mp hx with rfl | hx
        · omega
        · have := ih h.2 x hx; omega
    have h2 := incr_bound (ns := b :: r) (lo := lo + 1) (hi := hi) h.2 fun x hx => by
      have h3 := hlt h.2 x hx
      have h4 := hb a List.mem_cons_self
      have h5 := hb x (List.mem_cons_of_mem _ hx)
      omega
    have h4 := hb a List.mem_cons_self
    rw [List.length_cons]
    omega
theorem thin_plan {q : List Case} (hq : Qok q) {i : Int} {p : List (List Int)} (h : planB q i (planD p) = true) : Thin (planD p) := by
  intro l e d hd
  have h' : (decide (((p.map dayD).length : Int) ≤ 120) && (p.map dayD).all (fun d => isLot d q.length && decide ((lenT d : Int) ≤ i)) && casesOk ((p.map dayD).map lotOf) 0 q) = true := h
  rw [Bool.and_eq_true, Bool.and_eq_true, List.all_eq_true] at h'
  have hl : l = p.map dayD := by injection e with e; exact e.symm
  subst hl
  obtain ⟨r, hr, rfl⟩ := List.mem_map.mp hd
  have h1 := h'.1.2 _ hd
  rw [Bool.and_eq_true] at h1
  have h2 : ((r.map D.int).all (within · 0 ((q.length : Int) - 1)) && incr ((r.map D.int).map toI)) = true := h1.1
  rw [Bool.and_eq_true, toI_int, List.all_eq_true] at h2
  have h3 := incr_bound (lo := 0) (hi := (q.length : Int) - 1) h2.2 fun x hx => by
    obtain ⟨j, e, h3, h4⟩ := within_int (h2.1 (.int x) (List.mem_map.mpr ⟨x, hx, rfl⟩))
    injection e with e
    omega
  have := hq.h10
  show (r.map D.int).length < 100000
  rw [List.length_map]
  omega
end
end A
set_option Elab.async false
set_option linter.all false
set_option maxRecDepth 100000
namespace A
open PySem PySem.Spec PyProof.Rows L2 E
section
variable {P : Program} {w : World} {K : PySem.W.Frag} {mg : Str → Option Value} {base : Heap}
abbrev sp_led : Sp := spD 1 (fun ds => ∃ q, ds = [queueD q] ∧ Qok q) fun ds d => ∀ q, ds = [queueD q] → ∃ k, LedAt q k ∧ d = planD (ledN q k).2
abbrev N_dues : List Str := ["queue", "left", "found", "day", "there", "case", "number"]
theorem S_dues : FnScope N_dues ["queue"] (sc 18) := ⟨rfl, rfl, rfl, by decide +kernel, rfl, by decide +kernel, by decide +kernel⟩
def workF : D → D
  | .tup [_, w, _] => w
  | _ => .non
theorem ints_get {l : List Int} {k : Nat} {r : Int} (h : l[k]? = some r) : (l.map D.int)[k]? = some (.int r) := by rw [List.getElem?_map, h]; rfl
theorem ok_dues {f : Addr} {fd : FuncData} (F : Fun K "plan_by_dues" "plan_by_dues" (top 18) f fd) (T : Blt mg) : FnG P w K mg base 1 f fd ["queue"] sp_led := by
  refine ok_D (m := 6) F S_dues rfl rfl fun cdv A outer s H E ds hr hl hp => ?_
  obtain ⟨q, rfl, hq⟩ := hp
  have h10 := hq.h10
  have hr0 := hr.mono (Nat.zero_le _)
  refine jss_cons (js_setL 1 S_dues.nd rfl (jl_lcF [("case", 5)] rfl S_dues.nd (blkOk_by (N := N_dues) (sc := sc 18) (by decide +kernel)) (own1 rfl) (ji_tup (j_var 0 rfl rfl ⟨q.map caseD, rfl, ?_⟩))))
  refine ⟨by rw [List.length_map]; omega, fun _ => true, workF, fun d acc hd => ?_, ?_⟩
  · obtain ⟨c, hc, rfl⟩ := List.mem_map.mp hd
    refine ⟨[5], _, fun s H C cl fp => jg_name 5 S_dues.nd rfl, fun _ h => h, fun s H C cl fp => jts_nil ⟨rfl, fun _ s H C cl fp => ?_⟩⟩
    exact j_ixT (j_var 5 rfl rfl (j_int ⟨_, _, _, rfl, rfl, rfl, rfl⟩))
  have e0 : ((q.map caseD).filter fun _ => true).map workF = (ledN q 0).1.map D.int := by
    rw [filter_all, List.map_map]
    show _ = (q.map (·.2.1)).map D.int
    rw [List.map_map]
    rfl
  rw [e0]
  refine jss_cons (js_tupMD 2 3 rfl S_dues.nd rfl rfl (by decide) (jl_lst (j_nil ⟨Nat.zero_le _, j_int ?_⟩)))
  refine jss_cons (js_while PassesOwn.never (fun m sl ms => ∃ n t, sl = [.d (queueD q), .m 0, .m 1, .d (.int ((n : Nat) : Int)), t, .u, .u] ∧ ms = [(ledN q n).1.map D.int, (ledN q n).2.map dayD] ∧ (∀ j, j < n → 0 < (ledN q j).1.sum) ∧ m = ledM q n)
    ⟨_, 0, .u, rfl, rfl, fun j h => absurd h (Nat.not_lt_zero _), rfl⟩ ?_)
  rintro m sl1 ms1 ⟨n, t, rfl, rfl, hall, rfl⟩
  have iv := led_inv q n
  have hroom := led_room hq hall
  refine jt_cmp (j_sumM 1 rfl rfl rfl rfl T.sum (j_int ⟨_, .gt _ _, fun e => ?_, fun e => ?_⟩))
  · have hpos : 0 < (ledN q n).1.sum := of_decide_eq_true e
    generalize hrest : (ledN q n).1 = rest at hpos
    generalize hfound : (ledN q n).2 = found
    have hlen : rest.length = q.length := by rw [← hrest]; exact iv.rl
    have hfl : found.length = n := by rw [← hfound]; exact iv.len
    refine jss_cons (js_lcF 4 [("number", 6), ("case", 5)] rfl S_dues.nd rfl (blkOk_by (N := N_dues) (sc := sc 18) (by decide +kernel)) (own2 rfl rfl) (ji_enumT T.enum (j_var 0 rfl rfl ⟨q.map caseD, rfl, ?_⟩)))
    refine ⟨by rw [enumFrom_len, List.length_map]; omega, pickF (n : Int) rest, dueF, fun d acc hd => ?_, ?_⟩
    · obtain ⟨k, hk⟩ := List.getElem?_of_mem hd
      obtain ⟨y, hy, rfl⟩ := enumD_get hk
      obtain ⟨c, hc, rfl⟩ := getF hy
      have hkl : k < rest.length := by rw [hlen]; exact (List.getElem?_eq_some_iff.mp hc).1
      have hrk := List.getElem?_eq_getElem hkl
      generalize rest[k] = r at hrk
      have hpf : pickF (n : Int) rest (.tup [.int ((k : Nat) : Int), caseD c]) = (decide (c.1 ≤ (n : Int)) && decide (0 < r)) := by
        show (decide (c.1 ≤ (n : Int)) && decide (0 < rest.getD ((k : Nat) : Int).toNat 0)) = _
        rw [Int.toNat_natCast, List.getD_eq_getElem?_getD, hrk]; rfl
      refine ⟨[6, 5], _, fun s H C cl fp => jg_tup rfl (jgs_cons (jg_name 6 S_dues.nd rfl) (jgs_cons (jg_name 5 S_dues.nd rfl) jgs_nil)), fun _ h => h, fun s H C cl fp => jts_one (jt_w (jw_and (jt_cmp (j_ixT (j_var 5 rfl rfl (j_int ⟨_, _, _, rfl, rfl, rfl, j_var 3 rfl rfl ⟨_, .le _ _, fun e1 => ?_, fun e1 => ⟨?_, fun z => by cases z⟩⟩⟩))))))⟩
      · refine jw_and1 (jt_cmp (j_ixM 1 rfl rfl rfl (j_var 6 rfl rfl ⟨_, _, rfl, atI_nat (ints_get hrk), j_int ⟨_, .gt _ _, ?_, fun e2 s H C cl fp => ?_⟩⟩)))
        · rw [hpf, e1, Bool.true_and]
        · exact j_tup (j_cons (j_ixT (j_var 5 rfl rfl (j_int ⟨_, _, _, rfl, rfl, rfl, j_cons (j_var 6 rfl rfl (j_nil ⟨Nat.le_of_ble_eq_true rfl, rfl⟩))⟩))))
      · rw [hpf, e1, Bool.false_and]
    · rw [pick_list (n : Int) rest 0 q rest hlen fun j x h => by rw [Nat.zero_add]; exact h]
      generalize hqs : pickFrom 0 (n : Int) q rest = qs
      have hstep : ledN q (n + 1) = if qs = [] then (rest, found ++ [[]]) else (rest.set (minP qs).2.toNat (rest.getD (minP qs).2.toNat 0 - 1), found ++ [[(minP qs).2]]) := by
        rw [ledN, ledStep, hrest, hfound, hfl]
        have hqs' : pick q rest (n : Int) = qs := hqs
        rw [hqs']
      have hdown : ledM q (n + 1) < ledM q n := led_down hq (by rw [hrest]; exact hpos)
      have hnext : ∀ j, j < n + 1 → 0 < (ledN q j).1.sum := fun j hj => by
        by_cases h : j = n
        · rw [h, hrest]; exact hpos
        · exact hall j (by omega)
      have hfound' : (found.map dayD).length < 100000 := by rw [List.length_map]; omega
      have fin : ∀ {sl ms}, (∃ t, sl = [Sl.d (queueD q), .m 0, .m 1, .d (.int (((n + 1 : Nat)) : Int)), t, .u, .u]) → ms = [(ledN q (n + 1)).1.map D.int, (ledN q (n + 1)).2.map dayD] →
          ∃ m', m' < ledM q n ∧ ∃ n t, sl = [Sl.d (queueD q), .m 0, .m 1, .d (.int ((n : Nat) : Int)), t, .u, .u] ∧ ms = [(ledN q n).1.map D.int, (ledN q n).2.map dayD] ∧ (∀ j, j < n → 0 < (ledN q j).1.sum) ∧ m' = ledM q n := fun {sl ms} ⟨t, h1⟩ h2 => ⟨_, hdown, n + 1, t, h1, h2, hnext, rfl⟩
      by_cases hne : qs = []
      · subst hne
        rw [if_pos rfl] at hstep
        refine jss_cons (js_app 2 rfl rfl rfl hfound' (j_if (jt_cmp (j_len T.len (j_var 4 rfl rfl ⟨0, .inr ⟨_, rfl, rfl⟩, j_int ⟨_, .gt _ _, fun e => by simp at e, fun _ => j_tup (j_nil ⟨Nat.zero_le _, ?_⟩)⟩⟩)))))
        refine jss_cons (js_if (jt_cmp (j_len T.len (j_var 4 rfl rfl ⟨0, .inr ⟨_, rfl, rfl⟩, j_int ⟨_, .gt _ _, fun e => by simp at e, fun _ => jss_nil ?_⟩⟩))))
        refine jss_one (js_augI 3 S_dues.nd rfl rfl (j_int ⟨_, rfl, fin ⟨_, rfl⟩ ?_⟩))
        rw [hstep]
        show [rest.map D.int, found.map dayD ++ [.tup []]] = [rest.map D.int, (found ++ [[]]).map dayD]
        rw [List.map_append]; rfl
      · rw [if_neg hne] at hstep
        have hpn : pick q rest (n : Int) ≠ [] := by show pickFrom 0 (n : Int) q rest ≠ []; rw [hqs]; exact hne
        obtain ⟨j, c, r, em, h1, h2, h3, h4⟩ := pick_min hpn
        have em : minP qs = (c.2.2, (j : Int)) := by rw [← hqs]; exact em
        have hgt : (0 : Int) < (((qs.map _root_.E.pairD).length : Nat) : Int) := by
          have : 0 < qs.length := List.length_pos_iff.mpr hne
          rw [List.length_map]; omega
        have hmin : ∀ {m : Int × Int}, m ∈ qs → (∀ r ∈ qs, pairLe m r) → m = (c.2.2, (j : Int)) := fun hm hl => by rw [← em]; exact minP_eq hm hl
        refine jss_cons (js_app 2 rfl rfl rfl hfound' (j_if (jt_cmp (j_len T.len (j_var 4 rfl rfl ⟨_, .inr ⟨_, rfl, rfl⟩, j_int ⟨_, .gt _ _, fun _ => ?_, fun e => absurd hgt (of_decide_eq_false e)⟩⟩)))))
        refine j_tup (j_cons (j_ixT (j_minPairs hr0 rfl T.min (j_var 4 rfl rfl ⟨qs, rfl, hne, fun m hm hl => ?_⟩))))
        obtain rfl := hmin hm hl
        refine j_int ⟨_, _, _, rfl, rfl, rfl, j_nil ⟨Nat.le_of_ble_eq_true rfl, ?_⟩⟩
        refine jss_cons (js_if (jt_cmp (j_len T.len (j_var 4 rfl rfl ⟨_, .inr ⟨_, rfl, rfl⟩, j_int ⟨_, .gt _ _, fun _ => ?_, fun e => absurd hgt (of_decide_eq_false e)⟩⟩))))
        refine jss_one (js_augM 1 rfl rfl (j_ixT (j_minPairs hr0 rfl T.min (j_var 4 rfl rfl ⟨qs, rfl, hne, fun m hm hl => ?_⟩))))
        obtain rfl := hmin hm hl
        refine j_int ⟨_, _, _, rfl, rfl, rfl, _, _, j, r, rfl, rfl, by omega, ixN_nat ?_, ints_get h2, j_int ⟨_, rfl, ?_⟩⟩
        · rw [List.length_map]; exact (List.getElem?_eq_some_iff.mp h2).1
        refine jss_one (js_augI 3 S_dues.nd rfl rfl (j_int ⟨_, rfl, fin ⟨_, rfl⟩ ?_⟩))
        rw [hstep, em]
        show [(rest.map D.int).set j (.int (r - 1)), found.map dayD ++ [.tup [.int (j : Int)]]] = [(rest.set ((j : Int)).toNat (rest.getD ((j : Int)).toNat 0 - 1)).map D.int, (found ++ [[(j : Int)]]).map dayD]
        rw [List.map_append, Int.toNat_natCast, show rest.getD j 0 = r by rw [List.getD_eq_getElem?_getD, h2]; rfl, List.map_set]
        rfl
  · refine jss_one (js_ret (j_tupleM 2 rfl rfl rfl T.tup fun q' hy => ?_))
    injection hy with hy _
    obtain rfl := queue_inj hy
    exact ⟨n, ⟨by have := of_decide_eq_false e; omega, hall⟩, rfl⟩
end
end A
set_option Elab.async false
set_option linter.all false
set_option maxRecDepth 100000
/-! The law's own draw, step by step. -/
namespace A
open PySem PySem.Spec PyProof.Rows L2 E
section
variable {X : Cx} {σ : L2.St} {H : Hp} {Q : VK} {a b e : Expr} {x : Str} {pos p p2 : Pos} {D : Ends}
theorem r_of {t : TE} (h : PE X e t) (q : t σ H Q) : wE X e σ H Q := fun pins s I => h.run pins s σ H Q I q
theorem r_ofT {t : TT} {Q : Bool → Hp → Prop} (h : PT X e t) (q : t σ H Q) : wT X e σ H Q := fun pins s I => h.run pins s σ H Q I q
theorem r_ofS {st : Stmt} {t : TS} (h : PS X st t) (q : t D σ H) : wS X st D σ H := fun pins s I => h.run pins s σ H D I q
theorem r_ofSs {st : List Stmt} {t : TS} (h : PSs X st t) (q : t D σ H) : wSs X st D σ H := fun pins s I => h.run pins s σ H D I q
theorem r_int {i j} (q : Q (.int i) H) : wE X (.Constant (.int i) j pos) σ H Q := r_of pe_int q
theorem r_var (i : Nat) {v : V} (hN : X.N[i]? = some x) (h : σ[i]? = some (some v)) (q : Q v H) (hv : Vis X.env.scope x := by first | exact Or.inl rfl | exact Or.inr (Or.inl rfl) | exact Or.inr (Or.inr rfl)) (hd : (x == ("__debug__" : Str)) = false := by decide)
    (hcd : (x == ("__classdict__" : Str)) = false := by decide) : wE X (.Name x pos) σ H Q := r_of (pv i hN hv hd hcd) ⟨v, h, q⟩
/-- hand[k] -/
theorem r_hd {h : Addr} {xs : List V} {v : V} {k : Int} {j} (hN : X.N[0]? = some x) (h0 : σ[0]? = some (some (.ref h))) (hH : H h = some (.lst xs)) (ha : L2.atI xs k = some v) (q : Q v H) (hv : Vis X.env.scope x := by first | exact Or.inl rfl | exact Or.inr (Or.inl rfl) | exact Or.inr (Or.inr rfl)) (hd : (x == ("__debug__" : Str)) = false := by decide)
    (hcd : (x == ("__classdict__" : Str)) = false := by decide) (hp : PlainIx (.Constant (.int k) j p2) := by intro _ _; rfl) : wE X (.Subscript (.Name x p) (.Constant (.int k) j p2) pos) σ H Q :=
  r_of (pe_ix ix_list (pv 0 hN hv hd hcd) pe_int hp) ⟨_, h0, h, xs, k, v, rfl, rfl, .inl (.inl hH), ha, q⟩
theorem r_add (h : wE X a σ H fun x H1 => wE X b σ H1 fun y H2 => ∃ i j, x = .int i ∧ y = .int j ∧ Q (.int (i + j)) H2) : wE X (.BinOp a .Add b pos) σ H Q := r_of (pe_op op_add pe_w pe_w) h
theorem r_mul (h : wE X a σ H fun x H1 => wE X b σ H1 fun y H2 => ∃ i j, x = .int i ∧ y = .int j ∧ CMul i j ∧ Q (.int (i * j)) H2) : wE X (.BinOp a .Mult b pos) σ H Q := r_of (pe_op op_mul pe_w pe_w) h
theorem r_mod (h : wE X a σ H fun x H1 => wE X b σ H1 fun y H2 => ∃ i j, x = .int i ∧ y = .int j ∧ 0 < j ∧ Q (.int (i % j)) H2) : wE X (.BinOp a .Mod b pos) σ H Q := r_of (pe_op op_mod pe_w pe_w) h
theorem r_div (h : wE X a σ H fun x H1 => wE X b σ H1 fun y H2 => ∃ i j, x = .int i ∧ y = .int j ∧ CDiv i j ∧ Q (.int (i / j)) H2) : wE X (.BinOp a .FloorDiv b pos) σ H Q := r_of (pe_op op_fdiv pe_w pe_w) h
theorem r_toint (hm : X.mg "int" = none) (h : wE X a σ H fun x H1 => ∃ i, x = .int i ∧ Q (.int i) H1) (hg : Gl X "int" := by rfl) (he : starEach [a] X.env = (false, eval a X.env) :: starEach [] X.env := by rfl) : wE X (.Call (.Name "int" p) [a] [] pos) σ H Q :=
  r_of (pe_callTy call_int1 hg hm boot_int (pa_cons pe_w pa_nil he) (he := he)) fun pins s I => (h : wE X a σ H _) pins s I |> fun z => thn z fun u s' ⟨v, H1, I1, r, i, e, q⟩ => ⟨v, H1, I1, r, .inl ⟨i, by rw [e], q⟩⟩
/-- hand[k] = e -/
theorem r_put {h : Addr} {k : Int} {j} (hN : X.N[0]? = some x) (h0 : σ[0]? = some (some (.ref h))) (hk : wE X e σ H fun v H1 => ∃ xs n, H1 h = some (.lst xs) ∧ ixN xs.length k = some n ∧ D.nx σ (upd H1 h (.lst (xs.set n v))))
    (hv : Vis X.env.scope x := by first | exact Or.inl rfl | exact Or.inr (Or.inl rfl) | exact Or.inr (Or.inr rfl)) (hd : (x == ("__debug__" : Str)) = false := by decide) (hcd : (x == ("__classdict__" : Str)) = false := by decide)
    (ha : ∀ v, assign (.Subscript (.Name x p) (.Constant (.int k) j p2) pos) X.env v = (do
      let ov ← holding [v] (eval (.Name x p) X.env)
      let iv ← holding [v, ov] (eval (.Constant (.int k) j p2) X.env)
      standAt pos
      holding [v, ov, iv] (setItem ov iv v)
      release [v, ov, iv] []) := by intro _; rfl) {spos : Pos}
    (hsw : swapsWithSole [.Subscript (.Name x p) (.Constant (.int k) j p2) pos] e spos.line X.env = pure false := by rfl) (hw : swappedStores [.Subscript (.Name x p) (.Constant (.int k) j p2) pos] e X.env = pure none := by rfl)
    (h1 : (assignEach [.Subscript (.Name x p) (.Constant (.int k) j p2) pos] X.env).map (·.2) = [assign (.Subscript (.Name x p) (.Constant (.int k) j p2) pos) X.env] := by rfl) :
    wS X (.Assign [.Subscript (.Name x p) (.Constant (.int k) j p2) pos] e spos) D σ H :=
  r_ofS (ps_asg pe_w (pg_sub (pv 0 hN hv hd hcd) pe_int set_list ha) hsw hw h1) fun pins s I => thn (hk pins s I) fun u s' ⟨v, H1, I1, r, xs, n, e1, e2, q⟩ => ⟨v, H1, I1, r, _, h0, h, xs, k, n, rfl, rfl, e1, e2, q⟩
theorem r_set (i : Nat) (hN : X.N.Nodup) (hi : X.N[i]? = some x) (h : wE X e σ H fun v H1 => D.nx (σ.set i (some v)) H1) (hx : Loc X.env.scope x := by first | exact Or.inl rfl | exact Or.inr rfl) (hs : swapsWith e (some (.Name x p)) pos.line X.env = pure false := by rfl)
    (hf : X.fn x = true ∨ X.env.scope.names.lookup x = some .local := by first | exact .inl rfl | exact .inr rfl) : wS X (.Assign [.Name x p] e pos) D σ H := r_ofS (ps_set hN hi hx pe_w hs hf) h
theorem r_cons {st : Stmt} {rest : List Stmt} (h : wS X st { D with nx := wSs X rest D } σ H) : wSs X (st :: rest) D σ H := r_ofSs (pss_cons ps_w pss_w) h
theorem r_nil (h : D.nx σ H) : wSs X [] D σ H := r_ofSs pss_nil h
theorem r_ret (h : wE X e σ H D.rt) : wS X (.Return (some e) pos) D σ H := r_ofS (ps_ret pe_w) h
theorem r_if {t u : List Stmt} (h : wT X e σ H fun b H1 => (b = true → wSs X t D σ H1) ∧ (b = false → wSs X u D σ H1)) : wS X (.If e t u pos) D σ H :=
  r_ofS (ps_if pt_w pss_w pss_w) fun pins s I => thn (h pins s I) fun b s' ⟨H1, I1, k1, k2⟩ => ⟨H1, I1, by
    cases b with
    | true => rw [if_pos rfl]; exact k1 rfl
    | false => rw [if_neg Bool.false_ne_true]; exact k2 rfl⟩
theorem r_gt {Q : Bool → Hp → Prop} (h : wE X a σ H fun x H1 => wE X b σ H1 fun y H2 => ∃ i j, x = .int i ∧ y = .int j ∧ Q (decide (j < i)) H2) : wT X (.Compare a [.Gt] [b] pos) σ H Q :=
  r_ofT (pt_cmpR op_gt pe_w pe_w (nomark _)) fun pins s I => thn (h pins s I) fun u s1 ⟨x, H1, I1, r1, k1⟩ => ⟨x, H1, I1, r1, fun pins s I => thn (k1 pins s I) fun u s2 ⟨y, H2, I2, r2, i, j, e1, e2, q⟩ => ⟨y, H2, I2, r2, i, j, e1, e2, _, rfl, q⟩⟩
theorem r_lt {Q : Bool → Hp → Prop} (h : wE X a σ H fun x H1 => wE X b σ H1 fun y H2 => ∃ i j, x = .int i ∧ y = .int j ∧ Q (decide (i < j)) H2) : wT X (.Compare a [.Lt] [b] pos) σ H Q :=
  r_ofT (pt_cmpR op_lt pe_w pe_w (nomark _)) fun pins s I => thn (h pins s I) fun u s1 ⟨x, H1, I1, r1, k1⟩ => ⟨x, H1, I1, r1, fun pins s I => thn (k1 pins s I) fun u s2 ⟨y, H2, I2, r2, i, j, e1, e2, q⟩ => ⟨y, H2, I2, r2, i, j, e1, e2, _, rfl, q⟩⟩
theorem r_ge {Q : Bool → Hp → Prop} (h : wE X a σ H fun x H1 => wE X b σ H1 fun y H2 => ∃ i j, x = .int i ∧ y = .int j ∧ Q (decide (j ≤ i)) H2) : wT X (.Compare a [.GtE] [b] pos) σ H Q :=
  r_ofT (pt_cmpR op_ge pe_w pe_w (nomark _)) fun pins s I => thn (h pins s I) fun u s1 ⟨x, H1, I1, r1, k1⟩ => ⟨x, H1, I1, r1, fun pins s I => thn (k1 pins s I) fun u s2 ⟨y, H2, I2, r2, i, j, e1, e2, q⟩ => ⟨y, H2, I2, r2, i, j, e1, e2, _, rfl, q⟩⟩
theorem r_eq {Q : Bool → Hp → Prop} (h : wE X a σ H fun x H1 => wE X b σ H1 fun y H2 => ∃ i j : Int, x = .int i ∧ y = .int j ∧ Q (decide (i = j)) H2) : wT X (.Compare a [.Eq] [b] pos) σ H Q :=
  r_ofT (pt_cmpR op_eq pe_w pe_w (nomark _)) fun pins s I => thn (h pins s I) fun u s1 ⟨x, H1, I1, r1, k1⟩ => ⟨x, H1, I1, r1, fun pins s I => thn (k1 pins s I) fun u s2 ⟨y, H2, I2, r2, i, j, e1, e2, q⟩ => ⟨y, H2, I2, r2, by
    subst e1 e2
    refine ⟨rfl, _, rfl, ?_⟩
    have e : decide (V.int i = V.int j) = decide (i = j) := by
      by_cases h : i = j
      · subst h; rw [decide_eq_true rfl, decide_eq_true rfl]
      · rw [decide_eq_false h, decide_eq_false fun z => h (V.int.inj z)]
    rw [e]
    exact q⟩⟩
theorem r_and2 {Q : Bool → Hp → Prop} (h : wT X a σ H fun c H1 => (c = true → wT X b σ H1 Q) ∧ (c = false → Q false H1)) : wT X (.BoolOp .And [a, b] pos) σ H Q :=
  r_ofT (pw_and pt_w (pw_and1 pt_w)).pt fun pins s I => thn (h pins s I) fun c s' ⟨H1, I1, k1, k2⟩ => ⟨H1, I1, by
    cases c with
    | true => rw [if_pos rfl]; exact k1 rfl
    | false => rw [if_neg Bool.false_ne_true]; exact k2 rfl⟩
end
/-- what is left of the heap, and the hand -/
structure Hs (H0 : Hp) (h c : Addr) (i1 i2 i3 i4 : Int) (H : Hp) : Prop where
  ot : ∀ a, a ≠ h → H a = H0 a
  at_ : H h = some (.lst [.ref c, .int i1, .int i2, .int i3, .int i4])
  n1 : 0 ≤ i1
  n2 : 0 ≤ i2
  n3 : 0 ≤ i3
  n4 : 0 ≤ i4
theorem Hs.put {H0 : Hp} {h c : Addr} {i1 i2 i3 i4 j1 j2 j3 j4 : Int} {H : Hp} (x : Hs H0 h c i1 i2 i3 i4 H) (n1 : 0 ≤ j1) (n2 : 0 ≤ j2) (n3 : 0 ≤ j3) (n4 : 0 ≤ j4) : Hs H0 h c j1 j2 j3 j4 (upd H h (.lst [.ref c, .int j1, .int j2, .int j3, .int j4])) :=
  ⟨fun a ha => by rw [upd_ne ha]; exact x.ot a ha, upd_same, n1, n2, n3, n4⟩
section
variable {P : Program} {w : World} {K : PySem.W.Frag} {mg : Str → Option Value} {base : Heap}
/-- a number below many -/
abbrev sp_draw : Sp := spH 1 (fun ds => ∃ m : Nat, ds = [.int m] ∧ 1 ≤ m ∧ m < 1073741824) fun ds d => ∀ m : Nat, ds = [.int m] → ∃ i : Nat, d = .int i ∧ i < m
abbrev N_draw : List Str := ["hand", "many", "cell", "digit", "number"]
theorem S_draw : FnScope N_draw ["hand", "many"] (sc 32) := ⟨rfl, rfl, rfl, by decide +kernel, rfl, by decide +kernel, by decide +kernel⟩
theorem ok_draw {f : Addr} {fd : FuncData} (F : Fun K "_law_draw" "_law_draw" (top 32) f fd) (T : Blt mg) : FnG P w K mg base 1 f fd ["hand", "many"] sp_draw := by
  refine fun_G F S_draw (fun vs H Q E h => ?_) fun cdv A outer s H vs Q E hr h => ?_
  · obtain ⟨h, ws, F, ds, rfl, _, _, l, e, _⟩ := h
    rw [List.length_cons, l.len, e]; rfl
  · obtain ⟨h, ws, F0, ds, rfl, ef, hd, l, hl, ⟨m, rfl, hm1, hm2⟩, q⟩ := h
    obtain ⟨c, cs, i1, i2, i3, i4, hH, hc, hcs, n1, n2, n3, n4, h63⟩ := hd.ex
    cases l with
    | cons lv lr =>
    cases lr
    cases lv
    refine ⟨_, pss_w, ?_⟩
    have hs0 : Hs H h c i1 i2 i3 i4 H := ⟨fun _ _ => rfl, hH, n1, n2, n3, n4⟩
    -- the end
    have fin : ∀ {j1 j2 j3 j4 d H'}, Hs H h c j1 j2 j3 j4 H' → Q (.int (d % (m : Int))) H' := fun {j1 j2 j3 j4 d H'} x => by
      have hnn := Int.emod_nonneg d (show (m : Int) ≠ 0 by omega)
      have hlt := Int.emod_lt_of_pos d (show (0 : Int) < m by omega)
      refine q _ (.int (d % (m : Int))) F0 H' (fun m' hm' => ?_) ⟨Ex.refl F0, fun b o hb => ?_, fun b o hb hq => ?_, fun _ z _ => z⟩ ⟨hd.fr, c, cs, j1, j2, j3, j4, x.at_, hc, hcs, x.n1, x.n2, x.n3, x.n4, h63⟩ (.int _)
      · injection hm' with hm' _
        injection hm' with hm'
        have : m = m' := by omega
        subst this
        exact ⟨(d % (m : Int)).toNat, by rw [Int.toNat_of_nonneg hnn], by omega⟩
      · rw [x.ot b fun z => by subst z; rw [hd.fr] at hb; cases hb]; exact ef b o hb
      · rw [x.ot b fun z => hb (by rw [z])]; exact hq
    -- from the second if on
    have tail : ∀ (c2 c3 c4 : Option V) {j1 j2 j3 H'}, Hs H h c j1 j2 j3 i4 H' → wSs (cx P w K mg base N_draw "_law_draw" (top 32) f cdv A outer s H E) ((defBody (top 32)).drop 1) { nx := fun _ H' => Q .non H', rt := Q } [some (.ref h), some (.int m), c2, c3, c4] H' := fun c2 c3 c4 {j1 j2 j3 H'} x => by
      refine r_cons (r_if (r_gt (r_hd rfl rfl x.at_ rfl (r_int ⟨_, _, rfl, rfl, fun e => ?_, fun e => r_nil ?_⟩))))
      · refine r_cons (r_set 3 S_draw.nd rfl (r_mod (r_toint T.int (r_hd rfl rfl x.at_ rfl ⟨_, rfl, r_var 1 rfl rfl ⟨_, _, rfl, rfl, by omega, ?_⟩⟩))))
        refine r_cons (r_put (h := h) rfl rfl (r_div (r_hd rfl rfl x.at_ rfl (r_var 1 rfl rfl ⟨_, _, rfl, rfl, ⟨by omega, by omega⟩, _, 2, x.at_, rfl, ?_⟩))))
        refine r_cons (r_ret (r_var 3 rfl rfl ?_))
        exact fin (x.put x.n1 (Int.ediv_nonneg x.n2 (by omega)) x.n3 x.n4)
      · refine r_cons (r_put (h := h) rfl rfl (r_add (r_hd rfl rfl x.at_ rfl (r_int ⟨_, _, rfl, rfl, _, 4, x.at_, rfl, ?_⟩))))
        have x2 := x.put x.n1 x.n2 x.n3 (j4 := i4 + 1) (by have := x.n4; omega)
        refine r_cons (r_set 4 S_draw.nd rfl (r_mod (r_toint T.int (r_mul (r_toint T.int (r_add (r_hd rfl rfl x2.at_ rfl (r_mul (r_int (r_hd rfl rfl x2.at_ rfl ⟨_, _, rfl, rfl, .inl ⟨by decide, by decide⟩, _, _, rfl, rfl, _, rfl, r_int ⟨_, _, rfl, rfl, .inr ⟨by decide, by decide⟩, _, rfl, r_int ⟨_, _, rfl, rfl, by decide, ?_⟩⟩⟩))))))))))
        generalize hz : (_ : Int) % 2147483647 = z
        have z0 : 0 ≤ z := by rw [← hz]; exact Int.emod_nonneg _ (by decide)
        have z1 : z < 2147483647 := by rw [← hz]; exact Int.emod_lt_of_pos _ (by decide)
        refine r_cons (r_set 4 S_draw.nd rfl (r_mod (r_toint T.int (r_mul (r_var 4 rfl rfl (r_add (r_div (r_var 4 rfl rfl (r_int ⟨_, _, rfl, rfl, ⟨by decide, by decide⟩, r_int ⟨_, _, rfl, rfl, _, _, rfl, rfl, .inl ⟨by omega, by omega⟩, _, rfl, r_int ⟨_, _, rfl, rfl, by decide, ?_⟩⟩⟩)))))))))
        generalize hy : (_ : Int) % 2147483647 = y
        have y0 : 0 ≤ y := by rw [← hy]; exact Int.emod_nonneg _ (by decide)
        have y1 : y < 2147483647 := by rw [← hy]; exact Int.emod_lt_of_pos _ (by decide)
        refine r_cons (r_set 4 S_draw.nd rfl (r_mod (r_toint T.int (r_mul (r_var 4 rfl rfl (r_add (r_div (r_var 4 rfl rfl (r_int ⟨_, _, rfl, rfl, ⟨by decide, by decide⟩, r_int ⟨_, _, rfl, rfl, _, _, rfl, rfl, .inl ⟨by omega, by omega⟩, _, rfl, r_int ⟨_, _, rfl, rfl, by decide, ?_⟩⟩⟩)))))))))
        refine r_cons (r_ret (r_mod (r_toint T.int (r_div (r_var 4 rfl rfl (r_int ⟨_, _, rfl, rfl, ⟨by decide, by decide⟩, _, rfl, r_var 1 rfl rfl ⟨_, _, rfl, rfl, by omega, fin x2⟩⟩))))))
    show wSs _ (defBody (top 32)) _ [some (.ref h), some (.int m), none, none, none] H
    refine r_cons (r_if (r_and2 (r_eq (r_hd rfl rfl hH rfl (r_int ⟨_, _, rfl, rfl, fun e => ?_, fun e => ⟨fun z => (by cases z), fun _ => r_nil (tail none none none hs0)⟩⟩)))))
    refine r_lt (r_hd rfl rfl hH rfl (r_of (pe_callB call_len_seq (by rfl) T.len PySem.boot_len (pa_cons pe_w pa_nil)) (r_hd rfl rfl hH rfl ⟨c, _, rfl, .inl (sq_l ef hc), _, _, rfl, rfl, fun e1 => ?_, fun e1 => r_nil (tail none none none hs0)⟩)))
    have hlt : i1 < (cs.length : Int) := by
      have := of_decide_eq_true e1
      rw [List.length_map] at this
      exact this
    obtain ⟨k, hk⟩ : ∃ k : Nat, i1 = k := ⟨i1.toNat, by omega⟩
    have hkl : k < cs.length := by omega
    have hck : (cs.map V.int)[k]? = some (.int cs[k]) := by rw [List.getElem?_map, List.getElem?_eq_getElem hkl]; rfl
    have hcn : 0 ≤ cs[k] := hcs _ (List.getElem_mem hkl)
    generalize cs[k] = cell at hck hcn
    have hat : L2.atI (cs.map V.int) i1 = some (.int cell) := by
      subst hk
      unfold L2.atI
      rw [ixN_nat (by rw [List.length_map]; exact hkl)]
      exact hck
    refine r_cons (r_set 2 S_draw.nd rfl (r_of (pe_ix ix_list pe_w pe_w (by intro _ _; rfl)) (r_hd rfl rfl hH rfl (r_hd rfl rfl hH rfl ⟨c, _, _, _, rfl, rfl, sq_l ef hc, hat, ?_⟩))))
    refine r_cons (r_put (h := h) rfl rfl (r_add (r_hd rfl rfl hH rfl (r_int ⟨_, _, rfl, rfl, _, 1, hH, rfl, ?_⟩))))
    have x2 := hs0.put (j1 := i1 + 1) (by omega) n2 n3 n4
    refine r_cons (r_put (h := h) rfl rfl (r_mod (r_toint T.int (r_add (r_add (r_mul ?_))))))
    refine r_hd rfl rfl x2.at_ rfl (r_int ⟨_, _, rfl, rfl, .inr ⟨by decide, by decide⟩, ?_⟩)
    refine r_mul (r_var 2 rfl rfl (r_int ⟨_, _, rfl, rfl, .inr ⟨by decide, by decide⟩, ⟨_, _, rfl, rfl, ?_⟩⟩))
    refine r_int ⟨_, _, rfl, rfl, _, rfl, ?_⟩
    refine r_int ⟨_, _, rfl, rfl, by decide, _, 3, x2.at_, rfl, ?_⟩
    generalize hz : (_ : Int) % 2147483629 = z
    have z0 : 0 ≤ z := by rw [← hz]; exact Int.emod_nonneg _ (by decide)
    have x3 := x2.put x2.n1 n2 z0 n4
    refine r_cons (r_if (r_ge (r_var 2 rfl rfl (r_of (pe_op op_pow pe_w pe_w) (r_int (r_int ⟨_, _, rfl, rfl, ⟨by decide, by decide, by decide⟩, _, _, rfl, rfl, fun e => ?_, fun e => r_nil (r_nil (tail _ _ _ x3))⟩))))))
    exact r_cons (r_put (h := h) rfl rfl (r_var 2 rfl rfl ⟨_, 2, x3.at_, rfl, r_nil (r_nil (tail _ _ _ (x3.put x3.n1 hcn z0 n4)))⟩))
end
end A
set_option Elab.async false
set_option linter.all false
set_option maxRecDepth 100000
/-! The law's small defs. -/
namespace E
open PySem PySem.Spec PyProof.Rows L2
section
variable {X : Cx} {sl : List Sl} {ms : List (List D)} {R : D → Prop} {pos p p2 : Pos} {x : Str}
theorem j_maxM (i : Nat) {k : Nat} {ns : List Int} {m : Int} (hc : X.calm = true) (hN : X.N[i]? = some x) (hs : sl[i]? = some (.m k)) (hk : ms[k]? = some (ns.map D.int)) (hm : X.mg "max" = none) (h0 : 0 < ns.length) (h1 : ∀ k, k ∈ ns → (∀ y, y ∈ ns → y ≤ k) → k = m) (q : R (.int m)) (hg : Gl X "max" := by rfl) (he : starEach [.Name x p2] X.env = (false, eval (.Name x p2) X.env) :: starEach [] X.env := by rfl)
    (hv : Vis X.env.scope x := by first | exact Or.inl rfl | exact Or.inr (Or.inl rfl) | exact Or.inr (Or.inr rfl)) (hd : (x == ("__debug__" : Str)) = false := by decide) (hcd : (x == ("__classdict__" : Str)) = false := by decide) :
    Er sl ms (wE X (.Call (.Name "max" p) [.Name x p2] [] pos)) R := Er.of (pe_callB (cr_max hc) hg hm (by decide +kernel) (pa_cons (pv i hN hv hd hcd) pa_nil he) (he := he)) fun ho F0 H0 F ps ex σ H a Q qq => by
  obtain ⟨p, xs, e, hp, h2, h3⟩ := a.ml hs hk
  rw [DnL.ints ns h3] at h2
  exact ⟨_, e, p, ns, rfl, .inl (.inl h2), h0, fun k hk hy => by rw [h1 k hk hy]; exact qq _ _ F H q (a.push (.int _))⟩
end
end E
namespace A
open PySem PySem.Spec PyProof.Rows L2 E
theorem erase_perm : ∀ {l : List D} {i : Nat} (h : i < l.length), (l[i] :: l.eraseIdx i).Perm l
  | a :: l, 0, _ => List.Perm.refl _
  | a :: l, i + 1, h => by
    have h' : i < l.length := by simpa using h
    have ih := erase_perm (l := l) (i := i) h'
    show (l[i] :: a :: l.eraseIdx i).Perm (a :: l)
    exact (List.Perm.swap _ _ _).trans (ih.cons a)
theorem own3 {sl : List Sl} {x y z : Str} {a b c : Nat} (h : sl[a]? = some .u) (h' : sl[b]? = some .u) (h'' : sl[c]? = some .u) : ∀ j ∈ [(x, a), (y, b), (z, c)].map (·.2), ∀ s, sl[j]? = some s → s = .u := fun j hj s hs => by
  have e : j = a ∨ j = b ∨ j = c := by simpa using hj
  rcases e with e | e | e
  · rw [e, h] at hs; cases hs; rfl
  · rw [e, h'] at hs; cases hs; rfl
  · rw [e, h''] at hs; cases hs; rfl
section
variable {P : Program} {w : World} {K : PySem.W.Frag} {mg : Str → Option Value} {base : Heap}
abbrev sp_any : Sp := spH 1 (fun ds => ∃ l, ds = [.lst l] ∧ 1 ≤ l.length ∧ l.length < 100000) fun ds d => ∀ l, ds = [.lst l] → d ∈ l
theorem S_any : FnScope ["hand", "some"] ["hand", "some"] (sc 33) := ⟨rfl, rfl, rfl, by decide +kernel, rfl, by decide +kernel, by decide +kernel⟩
theorem ok_any {f : Addr} {fd : FuncData} (F : Fun K "_law_any" "_law_any" (top 33) f fd) (T : Blt mg) (d1 : Cl P w K mg base 1 "_law_draw" sp_draw) : FnG P w K mg base 2 f fd ["hand", "some"] sp_any := by
  refine ok_H (m := 0) F S_any rfl rfl fun cdv A outer s H E ds hr hl hp => ?_
  obtain ⟨l, rfl, h1, h2⟩ := hp
  refine jss_one (js_ret (j_ixL (j_var 1 rfl rfl (j_callH 0 d1 hr (by decide) rfl rfl (j_cons (j_len T.len (j_var 1 rfl rfl ⟨_, .inr ⟨_, rfl, rfl⟩, j_nil ⟨rfl, ⟨_, rfl, h1, by omega⟩, fun d hd => ?_⟩⟩)))))))
  obtain ⟨i, rfl, hi⟩ := hd _ rfl
  refine ⟨_, _, l[i], rfl, rfl, atI_nat (List.getElem?_eq_getElem hi), fun l' hy => ?_⟩
  injection hy with hy _
  injection hy with hy
  subst hy
  exact List.getElem_mem hi
abbrev sp_drawn : Sp := spH 2 (fun ds => ∃ a b : Nat, ds = [.int a, .int b] ∧ 1 ≤ a ∧ a ≤ 10 ∧ b ≤ 20) fun ds d => ∃ q, d = queueD q ∧ Qok q ∧ ∀ a b : Nat, ds = [.int a, .int b] → q.length ≤ a ∧ ∀ c ∈ q, c.1 ≤ (b : Int)
abbrev N_drawn : List Str := ["hand", "most", "spread", "found", "lap", "comes", "work", "slack"]
theorem S_drawn : FnScope N_drawn ["hand", "most", "spread"] (sc 34) := ⟨rfl, rfl, rfl, by decide +kernel, rfl, by decide +kernel, by decide +kernel⟩
structure Cok (c : Case) : Prop where
  c0 : 0 ≤ c.1
  c1 : c.1 ≤ 20
  w0 : 1 ≤ c.2.1
  w1 : c.2.1 ≤ 8
  d0 : 0 ≤ c.2.2
  d1 : c.2.2 ≤ 40
theorem qok_of {q : List Case} (h1 : 1 ≤ q.length) (h10 : q.length ≤ 10) (h : ∀ c ∈ q, Cok c) : Qok q := ⟨h1, h10, fun c hc => (h c hc).c0, fun c hc => (h c hc).c1, fun c hc => (h c hc).w0, fun c hc => (h c hc).w1, fun c hc => (h c hc).d0, fun c hc => (h c hc).d1⟩
theorem ok_drawn {f : Addr} {fd : FuncData} (F : Fun K "_law_drawn" "_law_drawn" (top 34) f fd) (T : Blt mg) (d1 : Cl P w K mg base 1 "_law_draw" sp_draw) (d2 : Cl P w K mg base 2 "_law_any" sp_any) : FnG P w K mg base 3 f fd ["hand", "most", "spread"] sp_drawn := by
  refine ok_H (m := 5) F S_drawn rfl rfl fun cdv A outer s H E ds hr hl hp => ?_
  obtain ⟨a, b, rfl, ha1, ha2, hb⟩ := hp
  refine jss_cons (js_setL 3 S_drawn.nd rfl (jl_lst (j_nil ⟨Nat.zero_le _, ?_⟩)))
  refine jss_cons (js_for PassesOwn.never rfl (ji_range T.range (j_add (j_int (j_callH 0 d1 hr (by decide) rfl rfl (j_cons (j_var 1 rfl rfl (j_nil ⟨rfl, ⟨a, rfl, ha1, by omega⟩, fun d hd => ?_⟩))))))))
  obtain ⟨n, rfl, hn⟩ := hd _ rfl
  refine ⟨_, _, rfl, rfl, n + 1, by rw [show (1 : Int) + (n : Int) = ((n + 1 : Nat) : Int) by omega], by omega, fun k sl ms => ∃ t1 t2 t3 t4 cs, sl = [.h, .d (.int a), .d (.int b), .m 0, t1, t2, t3, t4] ∧ ms = [cs.map caseD] ∧ cs.length = k ∧ ∀ c ∈ cs, Cok c ∧ c.1 ≤ (b : Int), ⟨.u, .u, .u, .u, [], rfl, rfl, rfl, fun c hc => by cases hc⟩, ?_, ?_⟩
  · rintro k d sl1 ms1 hd ⟨t1, t2, t3, t4, cs, rfl, rfl, hk, hcs⟩
    have hkn : k < n + 1 := (numbers_get hd).1
    refine ⟨_, _, jg_name 4 S_drawn.nd rfl, ?_⟩
    refine jss_cons (js_par 5 6 rfl S_drawn.nd rfl rfl (by decide) (j_callH 0 d1 hr (by decide) rfl rfl (j_cons (j_add (j_var 2 rfl rfl (j_int ⟨_, _, rfl, rfl, j_nil ⟨rfl, ⟨b + 1, rfl, by omega, by omega⟩, fun d2 hd2 => ?_⟩⟩))))))
    obtain ⟨comes, rfl, hcm⟩ := hd2 (b + 1) rfl
    refine j_add (j_int (j_callH 0 d1 hr (by decide) rfl rfl (j_cons (j_callH 0 d2 hr (by decide) rfl rfl (j_cons (j_lst (j_cons (j_int (j_cons (j_int (j_cons (j_int (j_nil ⟨Nat.le_of_ble_eq_true rfl, ?_⟩)))))))))))))
    refine j_nil ⟨rfl, ⟨_, rfl, Nat.le_of_ble_eq_true rfl, Nat.le_of_ble_eq_true rfl⟩, fun d3 hd3 => ?_⟩
    have hd3 := hd3 _ rfl
    have hm : ∃ m : Nat, d3 = .int m ∧ 1 ≤ m ∧ m ≤ 8 := by
      simp only [List.mem_cons, List.not_mem_nil, or_false] at hd3
      rcases hd3 with rfl | rfl | rfl
      · exact ⟨2, rfl, by decide, by decide⟩
      · exact ⟨4, rfl, by decide, by decide⟩
      · exact ⟨8, rfl, by decide, by decide⟩
    obtain ⟨m, rfl, hm1, hm2⟩ := hm
    refine j_nil ⟨rfl, ⟨m, rfl, hm1, by omega⟩, fun d4 hd4 => ?_⟩
    obtain ⟨wk, rfl, hwk⟩ := hd4 _ rfl
    refine ⟨_, _, rfl, rfl, ?_⟩
    refine jss_cons (js_set 7 S_drawn.nd rfl (j_callH 0 d2 hr (by decide) rfl rfl (j_cons (j_lst ?_))))
    refine j_cons (j_int (j_cons (j_int (j_cons (j_int (j_cons (j_int (j_cons (j_int (j_cons (j_sub (j_int (j_var 5 rfl rfl ⟨_, _, rfl, rfl, j_nil ⟨Nat.le_of_ble_eq_true rfl, ?_⟩⟩)))))))))))))
    refine j_nil ⟨rfl, ⟨_, rfl, Nat.le_of_ble_eq_true rfl, Nat.le_of_ble_eq_true rfl⟩, fun d5 hd5 => ?_⟩
    have hd5 := hd5 _ rfl
    have hs : ∃ z : Int, d5 = .int z := by
      simp only [List.mem_cons, List.not_mem_nil, or_false] at hd5
      rcases hd5 with rfl | rfl | rfl | rfl | rfl | rfl <;> exact ⟨_, rfl⟩
    obtain ⟨z, rfl⟩ := hs
    refine jss_one (js_app 3 rfl rfl rfl (by rw [List.length_map]; omega) (j_tup (j_cons (j_var 5 rfl rfl (j_cons (j_var 6 rfl rfl (j_cons (j_min2 rfl T.min (j_int (j_max2 rfl T.max (j_int ?_)))))))))) )
    refine j_sub (j_add (j_add (j_var 5 rfl rfl (j_var 6 rfl rfl ⟨_, _, rfl, rfl, j_var 7 rfl rfl ⟨_, _, rfl, rfl, ?_⟩⟩))))
    refine j_callH 0 d1 hr (by decide) rfl rfl (j_cons (j_int (j_nil ⟨rfl, ⟨3, rfl, by decide, by decide⟩, fun d6 hd6 => ?_⟩)))
    obtain ⟨u, rfl, hu⟩ := hd6 3 rfl
    refine ⟨_, _, rfl, rfl, _, _, rfl, rfl, _, _, rfl, rfl, j_nil ⟨Nat.le_of_ble_eq_true rfl, ?_⟩⟩
    generalize hdue : (if (if ((comes : Int) + (1 + (wk : Int)) + z - (u : Int)) > 0 then ((comes : Int) + (1 + (wk : Int)) + z - (u : Int)) else 0) < 40 then (if ((comes : Int) + (1 + (wk : Int)) + z - (u : Int)) > 0 then ((comes : Int) + (1 + (wk : Int)) + z - (u : Int)) else 0) else 40) = due
    refine ⟨_, _, _, _, cs ++ [((comes : Int), 1 + (wk : Int), due)], rfl, ?_, by rw [List.length_append, hk]; rfl, fun c hc => ?_⟩
    · rw [List.map_append]; rfl
    · rcases List.mem_append.mp hc with hc | hc
      · exact hcs c hc
      · have : c = ((comes : Int), 1 + (wk : Int), due) := by simpa using hc
        subst this
        refine ⟨?_, by show (comes : Int) ≤ b; omega⟩
        refine ⟨by show (0 : Int) ≤ comes; omega, by show (comes : Int) ≤ 20; omega, by show (1 : Int) ≤ 1 + (wk : Int); omega, by show 1 + (wk : Int) ≤ 8; omega, ?_, ?_⟩
        · show 0 ≤ due
          rw [← hdue]; split <;> (try split) <;> omega
        · show due ≤ 40
          rw [← hdue]; split <;> (try split) <;> omega
  · rintro sl1 ms1 ⟨t1, t2, t3, t4, cs, rfl, rfl, hk, hcs⟩
    rw [numbers_len] at hk
    refine jss_one (js_ret (j_tupleM 3 rfl rfl rfl T.tup ⟨cs, rfl, qok_of (by omega) (by omega) fun c hc => (hcs c hc).1, fun a' b' hy => ?_⟩))
    injection hy with h1 h2
    injection h1 with h1
    injection h2 with h2 _
    injection h2 with h2
    exact ⟨by omega, fun c hc => by have := (hcs c hc).2; omega⟩
end
end A
set_option Elab.async false
set_option linter.all false
set_option maxRecDepth 100000
/-! The law's own plan by dues, lateness. -/
namespace A
open PySem PySem.Spec PyProof.Rows L2 E
def workG : D → D
  | .tup [_, w, _] => w
  | _ => .non
/-- (at, many) -/
def pickG (q : List Case) (day : Int) : D → Bool
  | .tup [k, r] => decide (0 < toI r) && decide ((q.getD (toI k).toNat (0, 0, 0)).1 ≤ day)
  | _ => false
def dueG (q : List Case) : D → D
  | .tup [k, _] => .tup [.int (q.getD (toI k).toNat (0, 0, 0)).2.2, k]
  | _ => .non
theorem pick_listG (day : Int) (q0 : List Case) : ∀ (k : Nat) (q : List Case) (r : List Int), r.length = q.length → (∀ j x, q[j]? = some x → q0[k + j]? = some x) → ((enumFrom k (r.map D.int)).filter (pickG q0 day)).map (dueG q0) = (pickFrom k day q r).map E.pairD
  | _, [], r, h, _ => by
    have : r = [] := List.eq_nil_of_length_eq_zero (by simpa using h)
    subst this; rfl
  | k, c :: q, [], h, _ => by simp at h
  | k, c :: q, x :: r, h, hr => by
    have ih := pick_listG day q0 (k + 1) q r (by simpa using h) fun j y hy => by
      have := hr (j + 1) y (by simpa using hy)
      rwa [show k + (j + 1) = k + 1 + j by omega] at this
    show ((.tup [.int (k : Nat), .int x] :: enumFrom (k + 1) (r.map D.int)).filter (pickG q0 day)).map (dueG q0) = _
    have hx : q0.getD k (0, 0, 0) = c := by
      have := hr 0 c rfl
      rw [Nat.add_zero] at this
      rw [List.getD_eq_getElem?_getD, this]; rfl
    have e : pickG q0 day (.tup [.int (k : Nat), .int x]) = (decide (0 < x) && decide (c.1 ≤ day)) := by
      show (decide (0 < x) && decide ((q0.getD ((k : Nat) : Int).toNat (0, 0, 0)).1 ≤ day)) = _
      rw [Int.toNat_natCast, hx]
    have e2 : dueG q0 (.tup [.int (k : Nat), .int x]) = E.pairD (c.2.2, (k : Int)) := by
      show D.tup [.int (q0.getD ((k : Nat) : Int).toNat (0, 0, 0)).2.2, .int (k : Nat)] = _
      rw [Int.toNat_natCast, hx]
      rfl
    rw [List.filter_cons, e, pickFrom]
    by_cases hc : c.1 ≤ day ∧ 0 < x
    · rw [if_pos (by simp [hc]), if_pos hc, List.map_cons, ih, e2]; rfl
    · rw [if_neg (by simp only [Bool.and_eq_true, decide_eq_true_eq]; exact fun z => hc ⟨z.2, z.1⟩), if_neg hc, ih]
section
variable {P : Program} {w : World} {K : PySem.W.Frag} {mg : Str → Option Value} {base : Heap}
abbrev N_led : List Str := ["queue", "rest", "found", "some", "comes", "work", "due", "at", "many"]
theorem S_led : FnScope N_led ["queue"] (sc 35) := ⟨rfl, rfl, rfl, by decide +kernel, rfl, by decide +kernel, by decide +kernel⟩
theorem ok_led {f : Addr} {fd : FuncData} (F : Fun K "_law_led" "_law_led" (top 35) f fd) (T : Blt mg) : FnG P w K mg base 1 f fd ["queue"] sp_led := by
  refine ok_D (m := 8) F S_led rfl rfl fun cdv A outer s H E ds hr hl hp => ?_
  obtain ⟨q, rfl, hq⟩ := hp
  have h10 := hq.h10
  have hr0 := hr.mono (Nat.zero_le _)
  refine jss_cons (js_tupMM 1 2 rfl S_led.nd rfl rfl (by decide) (jl_lcF [("comes", 4), ("work", 5), ("due", 6)] rfl S_led.nd (blkOk_by (N := N_led) (sc := sc 35) (by decide +kernel)) (own3 rfl rfl rfl) (ji_tup (j_var 0 rfl rfl ⟨q.map caseD, rfl, ?_⟩))))
  refine ⟨by rw [List.length_map]; omega, fun _ => true, workG, fun d acc hd => ?_, ?_⟩
  · obtain ⟨c, hc, rfl⟩ := List.mem_map.mp hd
    refine ⟨[4, 5, 6], _, fun s H C cl fp => jg_tup rfl (jgs_cons (jg_name 4 S_led.nd rfl) (jgs_cons (jg_name 5 S_led.nd rfl) (jgs_cons (jg_name 6 S_led.nd rfl) jgs_nil))), fun _ h => h, fun s H C cl fp => jts_nil ⟨rfl, fun _ s H C cl fp => j_var 5 rfl rfl rfl⟩⟩
  have e0 : ((q.map caseD).filter fun _ => true).map workG = (ledN q 0).1.map D.int := by
    rw [filter_all, List.map_map]
    show _ = (q.map (·.2.1)).map D.int
    rw [List.map_map]
    rfl
  rw [e0]
  refine jl_lst (j_nil ⟨Nat.zero_le _, ?_⟩)
  refine jss_cons (js_while PassesOwn.never (fun m sl ms => ∃ n t, sl = [.d (queueD q), .m 0, .m 1, t, .u, .u, .u, .u, .u] ∧ ms = [(ledN q n).1.map D.int, (ledN q n).2.map dayD] ∧ (∀ j, j < n → 0 < (ledN q j).1.sum) ∧ m = ledM q n)
    ⟨_, 0, .u, rfl, rfl, fun j h => absurd h (Nat.not_lt_zero _), rfl⟩ ?_)
  rintro m sl1 ms1 ⟨n, t, rfl, rfl, hall, rfl⟩
  have iv := led_inv q n
  have hroom := led_room hq hall
  refine jt_cmp (j_sumM 1 rfl rfl rfl rfl T.sum (j_int ⟨_, .gt _ _, fun e => ?_, fun e => ?_⟩))
  · have hpos : 0 < (ledN q n).1.sum := of_decide_eq_true e
    generalize hrest : (ledN q n).1 = rest at hpos
    generalize hfound : (ledN q n).2 = found
    have hlen : rest.length = q.length := by rw [← hrest]; exact iv.rl
    have hfl : found.length = n := by rw [← hfound]; exact iv.len
    have hfm : (found.map dayD).length = n := by rw [List.length_map]; exact hfl
    refine jss_cons (js_lcF 3 [("at", 7), ("many", 8)] rfl S_led.nd rfl (blkOk_by (N := N_led) (sc := sc 35) (by decide +kernel)) (own2 rfl rfl) (ji_enumM 1 rfl rfl rfl T.enum ?_))
    refine ⟨by rw [enumFrom_len, List.length_map]; omega, pickG q (n : Int), dueG q, fun d acc hd => ?_, ?_⟩
    · obtain ⟨k, hk⟩ := List.getElem?_of_mem hd
      obtain ⟨y, hy, rfl⟩ := enumD_get hk
      obtain ⟨r, hr', rfl⟩ := getF hy
      have hkl : k < q.length := by rw [← hlen]; exact (List.getElem?_eq_some_iff.mp hr').1
      have hqk := List.getElem?_eq_getElem hkl
      generalize q[k] = c at hqk
      have hgd : q.getD ((k : Nat) : Int).toNat (0, 0, 0) = c := by rw [Int.toNat_natCast, List.getD_eq_getElem?_getD, hqk]; rfl
      have hqd : L2.atI (q.map caseD) ((k : Nat) : Int) = some (caseD c) := atI_nat (by rw [List.getElem?_map, hqk]; rfl)
      have hpf : pickG q (n : Int) (.tup [.int ((k : Nat) : Int), .int r]) = (decide (0 < r) && decide (c.1 ≤ (n : Int))) := by
        show (decide (0 < r) && decide ((q.getD ((k : Nat) : Int).toNat (0, 0, 0)).1 ≤ (n : Int))) = _
        rw [hgd]
      refine ⟨[7, 8], _, fun s H C cl fp => jg_tup rfl (jgs_cons (jg_name 7 S_led.nd rfl) (jgs_cons (jg_name 8 S_led.nd rfl) jgs_nil)), fun _ h => h, fun s H C cl fp => jts_one (jt_w (jw_and (jt_cmp (j_var 8 rfl rfl (j_int ⟨_, .gt _ _, fun e1 => ?_, fun e1 => ⟨?_, fun z => by cases z⟩⟩)))))⟩
      · refine jw_and1 (jt_cmp (j_ixT (j_ixT (j_var 0 rfl rfl (j_var 7 rfl rfl ⟨_, _, _, rfl, rfl, hqd, j_int ⟨_, _, _, rfl, rfl, rfl, j_lenM 2 rfl rfl rfl T.len ⟨_, .le _ _, ?_, fun e2 s H C cl fp => ?_⟩⟩⟩)))))
        · rw [hpf, e1, Bool.true_and, hfm]
        · show Er _ _ _ fun y => y = .tup [.int (q.getD ((k : Nat) : Int).toNat (0, 0, 0)).2.2, .int (k : Nat)]
          rw [hgd]
          exact j_tup (j_cons (j_ixT (j_ixT (j_var 0 rfl rfl (j_var 7 rfl rfl ⟨_, _, _, rfl, rfl, hqd, j_int ⟨_, _, _, rfl, rfl, rfl, j_cons (j_var 7 rfl rfl (j_nil ⟨Nat.le_of_ble_eq_true rfl, rfl⟩))⟩⟩)))))
      · rw [hpf, e1, Bool.false_and]
    · rw [pick_listG (n : Int) q 0 q rest hlen fun j x h => by rw [Nat.zero_add]; exact h]
      generalize hqs : pickFrom 0 (n : Int) q rest = qs
      have hstep : ledN q (n + 1) = if qs = [] then (rest, found ++ [[]]) else (rest.set (minP qs).2.toNat (rest.getD (minP qs).2.toNat 0 - 1), found ++ [[(minP qs).2]]) := by
        rw [ledN, ledStep, hrest, hfound, hfl]
        have hqs' : pick q rest (n : Int) = qs := hqs
        rw [hqs']
      have hdown : ledM q (n + 1) < ledM q n := led_down hq (by rw [hrest]; exact hpos)
      have hnext : ∀ j, j < n + 1 → 0 < (ledN q j).1.sum := fun j hj => by
        by_cases h : j = n
        · rw [h, hrest]; exact hpos
        · exact hall j (by omega)
      have hfound' : (found.map dayD).length < 100000 := by omega
      have fin : ∀ {sl ms}, (∃ t, sl = [Sl.d (queueD q), .m 0, .m 1, t, .u, .u, .u, .u, .u]) → ms = [(ledN q (n + 1)).1.map D.int, (ledN q (n + 1)).2.map dayD] →
          ∃ m', m' < ledM q n ∧ ∃ n t, sl = [Sl.d (queueD q), .m 0, .m 1, t, .u, .u, .u, .u, .u] ∧ ms = [(ledN q n).1.map D.int, (ledN q n).2.map dayD] ∧ (∀ j, j < n → 0 < (ledN q j).1.sum) ∧ m' = ledM q n := fun {sl ms} ⟨t, h1⟩ h2 => ⟨_, hdown, n + 1, t, h1, h2, hnext, rfl⟩
      by_cases hne : qs = []
      · subst hne
        rw [if_pos rfl] at hstep
        refine jss_cons (js_if (jt_cmp (j_len T.len (j_var 3 rfl rfl ⟨0, .inr ⟨_, rfl, rfl⟩, j_int ⟨_, .gt _ _, fun e => by simp at e, fun _ => jss_nil ?_⟩⟩))))
        refine jss_one (js_app 2 rfl rfl rfl hfound' (j_if (jt_cmp (j_len T.len (j_var 3 rfl rfl ⟨0, .inr ⟨_, rfl, rfl⟩, j_int ⟨_, .gt _ _, fun e => by simp at e, fun _ => j_tup (j_nil ⟨Nat.zero_le _, fin ⟨_, rfl⟩ ?_⟩)⟩⟩)))))
        rw [hstep]
        show [rest.map D.int, found.map dayD ++ [.tup []]] = [rest.map D.int, (found ++ [[]]).map dayD]
        rw [List.map_append]; rfl
      · rw [if_neg hne] at hstep
        have hpn : pick q rest (n : Int) ≠ [] := by show pickFrom 0 (n : Int) q rest ≠ []; rw [hqs]; exact hne
        obtain ⟨j, c, r, em, h1, h2, h3, h4⟩ := pick_min hpn
        have em : minP qs = (c.2.2, (j : Int)) := by rw [← hqs]; exact em
        have hgt : (0 : Int) < (((qs.map _root_.E.pairD).length : Nat) : Int) := by
          have : 0 < qs.length := List.length_pos_iff.mpr hne
          rw [List.length_map]; omega
        have hmin : ∀ {m : Int × Int}, m ∈ qs → (∀ r ∈ qs, pairLe m r) → m = (c.2.2, (j : Int)) := fun hm hl => by rw [← em]; exact minP_eq hm hl
        refine jss_cons (js_if (jt_cmp (j_len T.len (j_var 3 rfl rfl ⟨_, .inr ⟨_, rfl, rfl⟩, j_int ⟨_, .gt _ _, fun _ => ?_, fun e => absurd hgt (of_decide_eq_false e)⟩⟩))))
        refine jss_one (js_setM 1 rfl rfl (j_sub (j_ixM 1 rfl rfl rfl (j_ixT (j_minPairs hr0 rfl T.min (j_var 3 rfl rfl ⟨qs, rfl, hne, fun m hm hl => ?_⟩))))))
        obtain rfl := hmin hm hl
        refine j_int ⟨_, _, _, rfl, rfl, rfl, _, _, rfl, atI_nat (ints_get h2), j_int ⟨_, _, rfl, rfl, j_ixT (j_minPairs hr0 rfl T.min (j_var 3 rfl rfl ⟨qs, rfl, hne, fun m hm hl => ?_⟩))⟩⟩
        obtain rfl := hmin hm hl
        refine j_int ⟨_, _, _, rfl, rfl, rfl, _, _, j, rfl, rfl, ixN_nat ?_, ?_⟩
        · rw [List.length_map]; exact (List.getElem?_eq_some_iff.mp h2).1
        refine jss_one (js_app 2 rfl rfl rfl hfound' (j_if (jt_cmp (j_len T.len (j_var 3 rfl rfl ⟨_, .inr ⟨_, rfl, rfl⟩, j_int ⟨_, .gt _ _, fun _ => ?_, fun e => absurd hgt (of_decide_eq_false e)⟩⟩)))))
        refine j_tup (j_cons (j_ixT (j_minPairs hr0 rfl T.min (j_var 3 rfl rfl ⟨qs, rfl, hne, fun m hm hl => ?_⟩))))
        obtain rfl := hmin hm hl
        refine j_int ⟨_, _, _, rfl, rfl, rfl, j_nil ⟨Nat.le_of_ble_eq_true rfl, fin ⟨_, rfl⟩ ?_⟩⟩
        rw [hstep, em]
        show [(rest.map D.int).set j (.int (r - 1)), found.map dayD ++ [.tup [.int (j : Int)]]] = [(rest.set ((j : Int)).toNat (rest.getD ((j : Int)).toNat 0 - 1)).map D.int, (found ++ [[(j : Int)]]).map dayD]
        rw [List.map_append, Int.toNat_natCast, show rest.getD j 0 = r by rw [List.getD_eq_getElem?_getD, h2]; rfl, List.map_set]
        rfl
  · refine jss_one (js_ret (j_tupleM 2 rfl rfl rfl T.tup fun q' hy => ?_))
    injection hy with hy _
    obtain rfl := queue_inj hy
    exact ⟨n, ⟨by have := of_decide_eq_false e; omega, hall⟩, rfl⟩
abbrev N_late : List Str := ["queue", "plan", "found", "at", "comes", "work", "due", "days", "day", "row"]
theorem S_late : FnScope N_late ["queue", "plan"] (sc 36) := ⟨rfl, rfl, rfl, by decide +kernel, rfl, by decide +kernel, by decide +kernel⟩
theorem lates_snoc (p : List (List Int)) : ∀ (k : Nat) (q : List Case) (c : Case), lates p k (q ++ [c]) = lates p k q ++ [lateC p (k + q.length) c]
  | k, [], c => rfl
  | k, d :: q, c => by
    rw [List.cons_append, lates, lates, lates_snoc p (k + 1) q c, List.length_cons, show k + 1 + q.length = k + (q.length + 1) by omega]
    rfl
theorem ok_late {f : Addr} {fd : FuncData} (F : Fun K "_law_late" "_law_late" (top 36) f fd) (T : Blt mg) : FnG P w K mg base 1 f fd ["queue", "plan"] sp_late := by
  refine ok_D (m := 8) F S_late rfl rfl fun cdv A outer s H E ds hr hl hp => ?_
  obtain ⟨q, p, rfl, hq, hg⟩ := hp
  have h10 := hq.h10
  have h1 := hq.h1
  refine jss_cons (js_setL 2 S_late.nd rfl (jl_lst (j_nil ⟨Nat.zero_le _, ?_⟩)))
  refine jss_cons (js_for PassesOwn.never rfl (ji_enumT T.enum (j_var 0 rfl rfl ⟨q.map caseD, rfl, ?_⟩)))
  refine ⟨fun k sl ms => ∃ t1 t2 t3 t4 t5, sl = [.d (queueD q), .d (planD p), .m 0, t1, t2, t3, t4, t5, .u, .u] ∧ ms = [(lates p 0 (q.take k)).map D.int], ⟨.u, .u, .u, .u, .u, rfl, rfl⟩, ?_, ?_⟩
  · rintro k d sl1 ms1 hd ⟨t1, t2, t3, t4, t5, rfl, rfl⟩
    obtain ⟨y, hy, rfl⟩ := enumD_get hd
    obtain ⟨c, hc, rfl⟩ := getF hy
    have hk : k < q.length := (List.getElem?_eq_some_iff.mp hc).1
    refine ⟨_, _, jg_tup rfl (jgs_cons (jg_name 3 S_late.nd rfl) (jgs_cons (jg_tup rfl (jgs_cons (jg_name 4 S_late.nd rfl) (jgs_cons (jg_name 5 S_late.nd rfl) (jgs_cons (jg_name 6 S_late.nd rfl) jgs_nil)))) jgs_nil)), ?_⟩
    refine jss_cons (js_lcF 7 [("day", 8), ("row", 9)] rfl S_late.nd rfl (blkOk_by (N := N_late) (sc := sc 36) (by decide +kernel)) (own2 rfl rfl) (ji_enumT T.enum (j_var 1 rfl rfl ⟨p.map dayD, rfl, ?_⟩)))
    refine ⟨by rw [enumFrom_len, List.length_map]; have := hg.len; omega, inF (k : Int), fstF, fun d acc hd => ?_, ?_⟩
    · obtain ⟨k', hk'⟩ := List.getElem?_of_mem hd
      obtain ⟨x, hx, rfl⟩ := enumD_get hk'
      obtain ⟨r, hr', rfl⟩ := getF hx
      refine ⟨[8, 9], _, fun s H C cl fp => jg_tup rfl (jgs_cons (jg_name 8 S_late.nd rfl) (jgs_cons (jg_name 9 S_late.nd rfl) jgs_nil)), fun _ h => h, fun s H C cl fp => jts_one (jt_cmp (j_var 3 rfl rfl (j_var 9 rfl rfl ⟨_, .inT (k : Int) r, ?_, fun _ s H C cl fp => j_var 8 rfl rfl rfl⟩)))⟩
      show decide ((k : Int) ∈ r) = decide ((k : Int) ∈ (r.map D.int).map toI)
      rw [toI_int]
    · rw [days_list]
      have hne := hg.days hq hc
      have hlast : ((daysOf p (k : Int)).map D.int).getLast? = some (.int ((daysOf p (k : Int)).getLastD 0)) := by
        rw [List.getLast?_map, List.getLastD_eq_getLast?]
        cases h : (daysOf p (k : Int)).getLast? with
        | none => rw [List.getLast?_eq_none_iff] at h; exact absurd h hne
        | some z => rfl
      refine jss_one (js_app 2 rfl rfl rfl ?_ (j_sub (j_add (j_ixL (j_var 7 rfl rfl (j_neg (j_int ⟨_, rfl, _, _, _, rfl, rfl, atI_last hlast, j_int ⟨_, _, rfl, rfl, j_var 6 rfl rfl ⟨_, _, rfl, rfl, ?_⟩⟩⟩)))))))
      · rw [List.length_map, lates_len, List.length_take]; omega
      · refine ⟨_, _, _, _, _, rfl, ?_⟩
        rw [List.take_add_one, hc]
        show [_ ++ [_]] = [(lates p 0 (q.take k ++ [c])).map D.int]
        rw [lates_snoc, List.map_append, List.length_take, Nat.min_eq_left (by omega), Nat.zero_add]
        rfl
  · rintro sl1 ms1 ⟨t1, t2, t3, t4, t5, rfl, rfl⟩
    rw [enumFrom_len, List.length_map, List.take_length]
    refine jss_one (js_ret (j_maxM 2 rfl rfl rfl rfl T.max (by rw [lates_len]; omega) (fun k hk hy => maxI_eq hk hy) fun q' p' hy => ?_))
    obtain ⟨rfl, rfl⟩ := two_inj hy
    rfl
end
end A
set_option Elab.async false
set_option linter.all false
set_option maxRecDepth 100000
/-! The law's own judging of plans and queues. -/
namespace A
open PySem PySem.Spec PyProof.Rows L2 E
def rowB (q : List Case) (desks : Int) (day : Nat) : D → Bool
  | .tup r => decide ((r.length : Int) ≤ desks) && r.all (within · 0 ((q.length : Int) - 1)) && incr (r.map toI) && (r.map toI).all fun n => decide ((q.getD n.toNat (0, 0, 0)).1 ≤ (day : Int))
  | _ => false
def rowsB (q : List Case) (desks : Int) : Nat → List D → Bool
  | _, [] => true
  | k, d :: l => rowB q desks k d && rowsB q desks (k + 1) l
def cntB (p : List (List Int)) : Nat → List Case → Bool
  | _, [] => true
  | k, c :: q => decide (((p.filter fun r => decide ((k : Int) ∈ r)).length : Int) = c.2.1) && cntB p (k + 1) q
def lawB (q : List Case) (desks : Int) (x : D) : Bool := match x with
  | .tup l => decide ((l.length : Int) ≤ 120) && rowsB q desks 0 l && cntB (l.map lotOf) 0 q
  | _ => false
/-! plain -/
theorem days_len (n : Int) : ∀ (k : Nat) (p : List (List Int)), (daysFrom k n p).length = (p.filter fun r => decide (n ∈ r)).length
  | _, [] => rfl
  | k, r :: p => by
    rw [daysFrom, List.filter_cons]
    by_cases h : n ∈ r
    · rw [if_pos h, if_pos (by simpa using h), List.length_cons, List.length_cons, days_len n (k + 1) p]
    · rw [if_neg h, if_neg (by simpa using h), days_len n (k + 1) p]
theorem mem_days {n : Int} : ∀ {k : Nat} {p : List (List Int)} {x : Int}, x ∈ daysFrom k n p ↔ ∃ (j : Nat) (r : List Int), p[j]? = some r ∧ n ∈ r ∧ x = ((k + j : Nat) : Int)
  | k, [], x => by simp [daysFrom]
  | k, r :: p, x => by
    rw [daysFrom]
    have ih := @mem_days n (k + 1) p x
    constructor
    · intro h
      by_cases hr : n ∈ r
      · rw [if_pos hr] at h
        rcases List.mem_cons.mp h with rfl | h
        · exact ⟨0, r, rfl, hr, rfl⟩
        · obtain ⟨j, r', h1, h2, h3⟩ := ih.mp h
          exact ⟨j + 1, r', by simpa using h1, h2, by rw [h3, show k + 1 + j = k + (j + 1) by omega]⟩
      · rw [if_neg hr] at h
        obtain ⟨j, r', h1, h2, h3⟩ := ih.mp h
        exact ⟨j + 1, r', by simpa using h1, h2, by rw [h3, show k + 1 + j = k + (j + 1) by omega]⟩
    · rintro ⟨j, r', h1, h2, h3⟩
      cases j with
      | zero =>
        simp at h1
        subst h1
        rw [if_pos h2, h3]
        exact List.mem_cons_self
      | succ j =>
        have : x ∈ daysFrom (k + 1) n p := ih.mpr ⟨j, r', by simpa using h1, h2, by rw [h3, show k + 1 + j = k + (j + 1) by omega]⟩
        split
        · exact List.mem_cons_of_mem _ this
        · exact this
theorem head_le {n : Int} : ∀ {k : Nat} {p : List (List Int)} {x : Int}, x ∈ daysFrom k n p → (daysFrom k n p).headD 0 ≤ x
  | k, [], x, h => by simp [daysFrom] at h
  | k, r :: p, x, h => by
    rw [daysFrom] at h ⊢
    by_cases hr : n ∈ r
    · rw [if_pos hr] at h ⊢
      rcases List.mem_cons.mp h with rfl | h
      · exact Int.le_refl _
      · obtain ⟨j, r', h1, h2, h3⟩ := mem_days.mp h
        show (k : Int) ≤ x
        omega
    · rw [if_neg hr] at h ⊢
      exact head_le h
theorem casesOk_of {p : List (List Int)} : ∀ {i : Nat} {q : List Case}, (∀ k c, q[k]? = some c → caseOk p (i + k) c = true) → casesOk p i q = true
  | i, [], _ => rfl
  | i, c :: q, h => by
    rw [casesOk, Bool.and_eq_true]
    refine ⟨h 0 c rfl, casesOk_of fun k c' hk => ?_⟩
    have := h (k + 1) c' (by simpa using hk)
    rwa [show i + (k + 1) = i + 1 + k by omega] at this
theorem cntB_of {p : List (List Int)} : ∀ {i : Nat} {q : List Case}, cntB p i q = true ↔ ∀ k c, q[k]? = some c → ((daysOf p ((i + k : Nat) : Int)).length : Int) = c.2.1
  | i, [] => by simp [cntB]
  | i, c :: q => by
    rw [cntB, Bool.and_eq_true, decide_eq_true_iff, ← days_len _ 0 p, @cntB_of p (i + 1) q]
    constructor
    · rintro ⟨h1, h2⟩ k c' hk
      cases k with
      | zero => simp at hk; subst hk; exact h1
      | succ k =>
        have := h2 k c' (by simpa using hk)
        rwa [show i + 1 + k = i + (k + 1) by omega] at this
    · intro h
      refine ⟨h 0 c rfl, fun k c' hk => ?_⟩
      have := h (k + 1) c' (by simpa using hk)
      rwa [show i + (k + 1) = i + 1 + k by omega] at this
def rowL (q : List Case) (desks : Int) (d : D) : Bool := isLot d q.length && decide ((lenT d : Int) ≤ desks)
theorem rowB_iff (q : List Case) (desks : Int) (day : Nat) (d : D) : rowB q desks day d = true ↔ rowL q desks d = true ∧ ∀ n ∈ lotOf d, (q.getD n.toNat (0, 0, 0)).1 ≤ (day : Int) := by
  cases d with
  | tup r =>
    simp only [rowB, rowL, isLot, lenT, lotOf, Bool.and_eq_true, decide_eq_true_eq, List.all_eq_true]
    constructor
    · rintro ⟨⟨⟨h1, h2⟩, h3⟩, h4⟩
      exact ⟨⟨⟨h2, h3⟩, decide_eq_true h1⟩, h4⟩
    · rintro ⟨⟨⟨h2, h3⟩, h1⟩, h4⟩
      exact ⟨⟨⟨of_decide_eq_true h1, h2⟩, h3⟩, h4⟩
  | _ => simp [rowB, rowL, isLot]
theorem rowsB_iff (q : List Case) (desks : Int) : ∀ (k : Nat) (l : List D), rowsB q desks k l = true ↔ l.all (rowL q desks) = true ∧ ∀ j d, l[j]? = some d → ∀ n ∈ lotOf d, (q.getD n.toNat (0, 0, 0)).1 ≤ ((k + j : Nat) : Int)
  | k, [] => by simp [rowsB]
  | k, d :: l => by
    rw [rowsB, Bool.and_eq_true, rowB_iff, rowsB_iff q desks (k + 1) l, List.all_cons, Bool.and_eq_true]
    constructor
    · rintro ⟨⟨h1, h2⟩, h3, h4⟩
      refine ⟨⟨h1, h3⟩, fun j e hj => ?_⟩
      cases j with
      | zero => simp at hj; subst hj; exact h2
      | succ j =>
        have := h4 j e (by simpa using hj)
        rwa [show k + 1 + j = k + (j + 1) by omega] at this
    · rintro ⟨⟨h1, h3⟩, h4⟩
      refine ⟨⟨h1, h4 0 d rfl⟩, h3, fun j e hj => ?_⟩
      have := h4 (j + 1) e (by simpa using hj)
      rwa [show k + (j + 1) = k + 1 + j by omega] at this
theorem lotOf_in {q : List Case} {desks : Int} {d : D} (h : rowL q desks d = true) : ∀ n ∈ lotOf d, 0 ≤ n ∧ n < (q.length : Int) := by
  cases d with
  | tup r =>
    have h' : (r.all (within · 0 ((q.length : Int) - 1)) && incr (r.map toI) && decide ((r.length : Int) ≤ desks)) = true := h
    rw [Bool.and_eq_true, Bool.and_eq_true, List.all_eq_true] at h'
    intro n hn
    obtain ⟨x, hx, rfl⟩ := List.mem_map.mp (show n ∈ r.map toI from hn)
    obtain ⟨i, rfl, h1, h2⟩ := within_int (h'.1.1 x hx)
    show 0 ≤ i ∧ i < _
    omega
  | _ => cases h
theorem law_plan {q : List Case} (hq : Qok q) (desks : Int) (x : D) : lawB q desks x = planB q desks x := by
  cases x with
  | tup l =>
    rw [Bool.eq_iff_iff]
    show (decide ((l.length : Int) ≤ 120) && rowsB q desks 0 l && cntB (l.map lotOf) 0 q) = true ↔ (decide ((l.length : Int) ≤ 120) && l.all (rowL q desks) && casesOk (l.map lotOf) 0 q) = true
    rw [Bool.and_eq_true, Bool.and_eq_true, Bool.and_eq_true, Bool.and_eq_true, rowsB_iff, cntB_of]
    generalize hp : l.map lotOf = p
    have hpl : ∀ {j : Nat} {r : List Int}, p[j]? = some r → ∃ d, l[j]? = some d ∧ r = lotOf d := fun {j r} h => by
      rw [← hp, List.getElem?_map] at h
      cases e : l[j]? with
      | none => rw [e] at h; cases h
      | some d => rw [e] at h; cases h; exact ⟨d, rfl, rfl⟩
    constructor
    · rintro ⟨⟨h1, h2, h3⟩, h4⟩
      refine ⟨⟨h1, h2⟩, casesOk_of fun k c hk => ?_⟩
      have hl := h4 k c hk
      have hw := hq.w0 c (List.mem_of_getElem? hk)
      rw [caseOk, Bool.and_eq_true, decide_eq_true_iff, decide_eq_true_iff]
      refine ⟨hl, ?_⟩
      cases hd : daysOf p ((0 + k : Nat) : Int) with
      | nil => rw [hd] at hl; simp at hl; omega
      | cons y ys =>
        show c.1 ≤ y
        have hy : y ∈ daysOf p ((0 + k : Nat) : Int) := by rw [hd]; exact List.mem_cons_self
        obtain ⟨j, r, e1, e2, e3⟩ := mem_days.mp hy
        obtain ⟨d, e4, rfl⟩ := hpl e1
        have := h3 j d e4 _ e2
        rw [show (((0 + k : Nat) : Int)).toNat = k by omega, List.getD_eq_getElem?_getD, hk] at this
        rw [e3]
        exact this
    · rintro ⟨⟨h1, h2⟩, h4⟩
      refine ⟨⟨h1, h2, fun j d hj n hn => ?_⟩, fun k c hk => ?_⟩
      · have hin := lotOf_in (List.all_eq_true.mp h2 d (List.mem_of_getElem? hj)) n hn
        have hnl : n.toNat < q.length := by omega
        have hc := casesOk_get h4 (List.getElem?_eq_getElem hnl)
        rw [Nat.zero_add, caseOk, Bool.and_eq_true, decide_eq_true_iff, decide_eq_true_iff, show ((n.toNat : Nat) : Int) = n by omega] at hc
        have hmem : ((0 + j : Nat) : Int) ∈ daysOf p n := mem_days.mpr ⟨j, lotOf d, by rw [← hp, List.getElem?_map, hj]; rfl, hn, rfl⟩
        have h5 : (daysOf p n).headD 0 ≤ ((0 + j : Nat) : Int) := head_le hmem
        rw [List.getD_eq_getElem?_getD, List.getElem?_eq_getElem hnl]
        show (q[n.toNat]).1 ≤ _
        omega
      · have hc := casesOk_get h4 hk
        rw [caseOk, Bool.and_eq_true, decide_eq_true_iff] at hc
        exact hc.1
  | _ => rfl
theorem incr_pair : ∀ {ns : List Int}, incr ns = true ↔ ns.Pairwise (· < ·)
  | [] => by simp [incr]
  | [a] => by simp [incr]
  | a :: b :: r => by
    rw [incr, Bool.and_eq_true, decide_eq_true_iff, @incr_pair (b :: r)]
    constructor
    · rintro ⟨h1, h2⟩
      refine List.pairwise_cons.mpr ⟨fun x hx => ?_, h2⟩
      rcases List.mem_cons.mp hx with rfl | hx
      · exact h1
      · exact Int.lt_trans h1 ((List.pairwise_cons.mp h2).1 x hx)
    · intro h
      have h' := List.pairwise_cons.mp h
      exact ⟨h'.1 b List.mem_cons_self, h'.2⟩
theorem pair_uniq : ∀ {ns js : List Int}, ns.Pairwise (· < ·) → js.Pairwise (· < ·) → (∀ k, k ∈ js ↔ k ∈ ns) → ns = js
  | [], [], _, _, _ => rfl
  | [], j :: js, _, _, h => absurd ((h j).mp List.mem_cons_self) (by simp)
  | n :: ns, [], _, _, h => absurd ((h n).mpr List.mem_cons_self) (by simp)
  | n :: ns, j :: js, h1, h2, h => by
    rw [List.pairwise_cons] at h1 h2
    have e : n = j := by
      have a1 := (h j).mp List.mem_cons_self
      have a2 := (h n).mpr List.mem_cons_self
      rcases List.mem_cons.mp a1 with a1 | a1
      · exact a1.symm
      · rcases List.mem_cons.mp a2 with a2 | a2
        · exact a2
        · have := h1.1 j a1; have := h2.1 n a2; omega
    subst e
    rw [pair_uniq h1.2 h2.2 fun k => ?_]
    constructor
    · intro hk
      rcases List.mem_cons.mp ((h k).mp (List.mem_cons_of_mem _ hk)) with rfl | z
      · exact absurd (h2.1 k hk) (Int.lt_irrefl _)
      · exact z
    · intro hk
      rcases List.mem_cons.mp ((h k).mpr (List.mem_cons_of_mem _ hk)) with rfl | z
      · exact absurd (h1.1 k hk) (Int.lt_irrefl _)
      · exact z
theorem same_incr {ns js : List Int} (h : js.Pairwise (· < ·)) (hm : ∀ k, k ∈ js ↔ k ∈ ns) : decide (ns = js) = incr ns := by
  rw [Bool.eq_iff_iff, decide_eq_true_iff]
  constructor
  · rintro rfl; exact incr_pair.mpr h
  · intro h'; exact pair_uniq (incr_pair.mp h') h hm
end A
set_option Elab.async false
set_option linter.all false
set_option maxRecDepth 100000
set_option pp.maxSteps 600
/-! How long a thing's text is; odd things. -/
namespace A
open PySem PySem.Spec PyProof.Rows L2 E
mutual
def wt : D → Nat
  | .tup l => 3 + wts l
  | .lst l => 2 + wts l
  | .non => (toP .non).shown.length
  | .bl b => (toP (.bl b)).shown.length
  | .int i => (toP (.int i)).shown.length
  | .str s => (toP (.str s)).shown.length
  | .dic => (toP .dic).shown.length
def wts : List D → Nat
  | [] => 0
  | d :: l => wt d + 2 + wts l
end
theorem piled_cons (t : Str) (ts : List Str) : piled (t :: ts) = t.length + 2 + piled ts := by simp [piled]
theorem list_le (ts : List Str) : (listText ts).length ≤ 2 + piled ts := by
  show (textFrom 0 "[" ts ++ ("]" : Str)).length ≤ _
  rw [strLen_append]
  cases ts with
  | nil => decide +kernel
  | cons t ts =>
    show (textFrom 1 (("[" : Str) ++ (("" : String) : Str) ++ t) ts).length + (("]" : Str)).length ≤ _
    rw [textFrom_length_pos ts 1 _ (by decide), strLen_append, strLen_append, piled_cons]
    have h1 : (("[" : Str)).length = 1 := by decide +kernel
    have h2 : ((("" : String) : Str)).length = 0 := by decide +kernel
    have h3 : (("]" : Str)).length = 1 := by decide +kernel
    omega
theorem tuple_le (ts : List Str) : (tupleText ts).length ≤ 3 + piled ts := by
  unfold tupleText
  rw [strLen_append, strLen_append]
  have h1 : (("(" : Str)).length = 1 := by decide +kernel
  have h2 : ((((if ts.length == 1 then ",)" else ")") : String) : Str)).length ≤ 2 := by split <;> decide +kernel
  by_cases h : ts = []
  · subst h
    have h3 : (Str.join ", " []).length = 0 := by decide +kernel
    omega
  · have := join_length_add ts h
    omega
mutual
theorem shown_le : ∀ d : D, (toP d).shown.length ≤ wt d
  | .tup l => by
    rw [toP, PyData.shown, wt]
    exact Nat.le_trans (tuple_le _) (Nat.add_le_add_left (shown_les l) 3)
  | .lst l => by
    rw [toP, PyData.shown, wt]
    exact Nat.le_trans (list_le _) (Nat.add_le_add_left (shown_les l) 2)
  | .non => by rw [wt]; exact Nat.le_refl _
  | .bl b => by rw [wt]; exact Nat.le_refl _
  | .int i => by rw [wt]; exact Nat.le_refl _
  | .str s => by rw [wt]; exact Nat.le_refl _
  | .dic => by rw [wt]; exact Nat.le_refl _
theorem shown_les : ∀ l : List D, piled (PyData.shownAll (toPs l)) ≤ wts l
  | [] => by rw [toPs, PyData.shownAll, wts]; exact Nat.le_refl _
  | d :: l => by
    rw [toPs, PyData.shownAll, piled_cons, wts]
    have h1 := shown_le d
    have h2 := shown_les l
    omega
end
theorem wts_app : ∀ l m : List D, wts (l ++ m) = wts l + wts m
  | [], m => by rw [wts]; simp
  | d :: l, m => by rw [List.cons_append, wts, wts, wts_app l m]; omega
theorem wts_mem : ∀ {l : List D} {d : D}, d ∈ l → wt d + 2 ≤ wts l
  | x :: l, d, h => by
    rw [wts]
    rcases List.mem_cons.mp h with rfl | h
    · omega
    · have := wts_mem h; omega
theorem wts_len : ∀ l : List D, 2 * l.length ≤ wts l
  | [] => Nat.zero_le _
  | d :: l => by
    have := wts_len l
    rw [wts, List.length_cons]
    omega
theorem wts_take (l : List D) (k : Nat) : wts (l.take k) + wts (l.drop k) = wts l := by rw [← wts_app, List.take_append_drop]
theorem wts_rev : ∀ l : List D, wts l.reverse = wts l
  | [] => rfl
  | d :: l => by
    rw [List.reverse_cons, wts_app, wts_rev l, wts, wts, wts]
    omega
abbrev dpt (d : D) : Nat := (toP d).depth
abbrev dpts (l : List D) : Nat := PyData.depthAll (toPs l)
theorem dpts_app : ∀ l m : List D, dpts (l ++ m) = max (dpts l) (dpts m)
  | [], m => by simp [dpts, toPs, PyData.depthAll]
  | d :: l, m => by
    have := dpts_app l m
    simp only [dpts, List.cons_append, toPs, PyData.depthAll] at this ⊢
    omega
theorem dpts_mem : ∀ {l : List D} {d : D}, d ∈ l → dpt d ≤ dpts l
  | x :: l, d, h => by
    have e : dpts (x :: l) = max (dpt x) (dpts l) := by simp only [dpts, dpt, toPs, PyData.depthAll]
    rw [e]
    rcases List.mem_cons.mp h with rfl | h
    · omega
    · have := dpts_mem h
      omega
theorem dpts_le : ∀ {l : List D} {n : Nat}, (∀ d ∈ l, dpt d ≤ n) → dpts l ≤ n
  | [], n, _ => by simp [dpts, toPs, PyData.depthAll]
  | x :: l, n, h => by
    have h1 := dpts_le (l := l) (n := n) fun d hd => h d (List.mem_cons_of_mem _ hd)
    have h2 := h x List.mem_cons_self
    simp only [dpt, dpts, toPs, PyData.depthAll] at h1 h2 ⊢
    omega
theorem show_all : ∀ {l : List D}, (∀ d ∈ l, (toP d).showable = true) → PyData.showableAll (toPs l) = true
  | [], _ => rfl
  | d :: l, h => by
    rw [toPs, PyData.showableAll, Bool.and_eq_true]
    exact ⟨h d List.mem_cons_self, show_all fun e he => h e (List.mem_cons_of_mem _ he)⟩
theorem show_mem : ∀ {l : List D}, PyData.showableAll (toPs l) = true → ∀ d ∈ l, (toP d).showable = true
  | x :: l, h, d, hd => by
    rw [toPs, PyData.showableAll, Bool.and_eq_true] at h
    rcases List.mem_cons.mp hd with rfl | hd
    · exact h.1
    · exact show_mem h.2 d hd
/-- not too long, not too deep -/
structure Ok (n m : Nat) (d : D) : Prop where
  w : wt d ≤ n
  dp : dpt d ≤ m
  sh : (toP d).showable = true
theorem Ok.shw {n m : Nat} {d : D} (h : Ok n m d) (hn : n ≤ 1000000) (hm : m ≤ 60) : Shw d := ⟨h.sh, Nat.le_trans (shown_le d) (Nat.le_trans (Nat.le_trans h.w hn) (by decide)), Nat.le_trans h.dp hm⟩
theorem Ok.mono {n m n' m' : Nat} {d : D} (h : Ok n m d) (h1 : n ≤ n') (h2 : m ≤ m') : Ok n' m' d := ⟨Nat.le_trans h.w h1, Nat.le_trans h.dp h2, h.sh⟩
theorem ok_tup {n m : Nat} {l : List D} (h : ∀ d ∈ l, (toP d).showable = true) (h1 : 3 + wts l ≤ n) (h2 : dpts l + 1 ≤ m) : Ok n m (.tup l) :=
  ⟨by rw [wt]; exact h1, by show (toP (.tup l)).depth ≤ m; rw [toP, PyData.depth]; exact h2, by rw [toP, PyData.showable]; exact show_all h⟩
theorem ok_lst {n m : Nat} {l : List D} (h : ∀ d ∈ l, (toP d).showable = true) (h1 : 2 + wts l ≤ n) (h2 : dpts l + 1 ≤ m) : Ok n m (.lst l) :=
  ⟨by rw [wt]; exact h1, by show (toP (.lst l)).depth ≤ m; rw [toP, PyData.depth]; exact h2, by rw [toP, PyData.showable]; exact show_all h⟩
theorem Ok.inv {n m : Nat} {l : List D} (h : Ok n m (.tup l)) : (∀ d ∈ l, (toP d).showable = true) ∧ 3 + wts l ≤ n ∧ dpts l + 1 ≤ m := by
  refine ⟨show_mem ?_, ?_, ?_⟩
  · have := h.sh; rw [toP, PyData.showable] at this; exact this
  · have := h.w; rw [wt] at this; exact this
  · have := h.dp
    have e : dpt (.tup l) = dpts l + 1 := by show (toP (.tup l)).depth = _; rw [toP, PyData.depth]
    rw [e] at this; exact this
theorem Ok.mem {n m : Nat} {l : List D} (h : Ok n m (.tup l)) {d : D} (hd : d ∈ l) : Ok (n - 5) (m - 1) d := by
  obtain ⟨h1, h2, h3⟩ := h.inv
  have h4 := wts_mem hd
  have h5 := dpts_mem hd
  exact ⟨by omega, by omega, h1 d hd⟩
theorem Ok.thin {n m : Nat} {x : D} (h : Ok n m x) (hn : n ≤ 150000) : Thin x := fun l e d hd => by
  subst e
  have h1 := (h.mem hd).w
  cases d with
  | tup r =>
    rw [wt] at h1
    have := wts_len r
    show r.length < 100000
    omega
  | _ => exact Nat.zero_lt_succ _
end A
set_option Elab.async false
set_option linter.all false
set_option maxRecDepth 100000
set_option pp.maxSteps 3000
namespace A
open PySem PySem.Spec PyProof.Rows L2 E
section
variable {P : Program} {w : World} {K : PySem.W.Frag} {mg : Str → Option Value} {base : Heap}
theorem j_con {X : Cx} {sl : List Sl} {ms : List (List D)} {e : Expr} {es : List Expr} {Rs : List D → Prop} (h : Er sl ms (wE X e) fun d => Ea sl ms (wA X es) fun ds => Rs (d :: ds)) (hs : ∀ (es : List Expr) (env : Env), starEach (e :: es) env = (false, eval e env) :: starEach es env := by intro _ _; rfl) : Ea sl ms (wA X (e :: es)) Rs :=
  j_cons h (hs es X.env)
/-- no lot but () and (0,); no dict in a list -/
def Odd (d : D) : Prop := (PyData.canLay0 (toP d) = true ∨ d = .dic) ∧ ∀ l, d = .tup l → l = [] ∨ l = [.int 0] ∨ ∃ x, l = [x] ∧ isInt x = false
abbrev sp_odd : Sp := spH 0 (fun _ => True) fun _ d => Ok 200 40 d ∧ lenT d ≤ 1 ∧ Odd d
abbrev N_odd : List Str := ["hand", "deep", "lap"]
theorem S_odd : FnScope N_odd ["hand"] (sc 37) := ⟨rfl, rfl, rfl, by decide +kernel, rfl, by decide +kernel, by decide +kernel⟩
theorem ok_int {i : Int} {n : Nat} (h : (toP (.int i)).shown.length ≤ n) (h2 : i.natAbs.log2 < 1920) : Ok n 40 (.int i) := ⟨by rw [wt]; exact h, by show (toP (.int i)).depth ≤ 40; rw [toP, PyData.depth]; exact Nat.zero_le _, by simpa [toP, PyData.showable] using h2⟩
theorem ok_deep1 {d : D} {k : Nat} (h : Ok (14 + 5 * k) (1 + k) d) : Ok (14 + 5 * (k + 1)) (1 + (k + 1)) (.tup [d]) ∧ Ok (14 + 5 * (k + 1)) (1 + (k + 1)) (.lst [d]) := by
  have h1 : wts [d] = wt d + 2 := by rw [wts, wts]
  have h2 : dpts [d] ≤ dpt d := dpts_le fun x hx => by have : x = d := by simpa using hx
                                                       rw [this]; exact Nat.le_refl _
  have hs : ∀ x ∈ [d], (toP x).showable = true := fun x hx => by have : x = d := by simpa using hx
                                                                 rw [this]; exact h.sh
  have hw := h.w
  have hd := h.dp
  exact ⟨ok_tup hs (by omega) (by omega), ok_lst hs (by omega) (by omega)⟩
theorem ok_odd {f : Addr} {fd : FuncData} (F : Fun K "_law_odd" "_law_odd" (top 37) f fd) (T : Blt mg) (d1 : Cl P w K mg base 1 "_law_draw" sp_draw) (d2 : Cl P w K mg base 2 "_law_any" sp_any) : FnG P w K mg base 3 f fd ["hand"] sp_odd := by
  refine ok_H (m := 2) F S_odd rfl rfl fun cdv A outer s H E ds hr hl hp => ?_
  obtain rfl : ds = [] := List.eq_nil_of_length_eq_zero hl
  refine jss_cons (js_set 1 S_odd.nd rfl (j_lst (j_cons (j_str (j_cons (j_non (j_nil ⟨Nat.le_of_ble_eq_true rfl, ?_⟩)))))))
  refine jss_cons (js_for PassesOwn.never rfl (ji_range T.range (j_callH 0 d1 hr (by decide) rfl rfl (j_cons (j_int (j_nil ⟨rfl, ⟨30, rfl, by decide, by decide⟩, fun d hd => ?_⟩))))))
  obtain ⟨n, rfl, hn⟩ := hd 30 rfl
  refine ⟨n, rfl, by omega, fun k sl ms => ∃ d t, sl = [.h, .d d, t] ∧ ms = [] ∧ Ok (14 + 5 * k) (1 + k) d ∧ lenT d ≤ 1 ∧ PyData.canLay0 (toP d) = true ∧ isInt d = false ∧ Odd d, ⟨_, .u, rfl, rfl, ?_⟩, ?_, ?_⟩
  · refine ⟨⟨by decide +kernel, by decide +kernel, by decide +kernel⟩, Nat.zero_le _, by decide +kernel, rfl, .inl (by decide +kernel), fun l h => by cases h⟩
  · rintro k d sl1 ms1 hd ⟨deep, t, rfl, rfl, ok, ln, lay, ni, od⟩
    have lay1 : PyData.canLay0 (toP (.lst [deep])) = true ∧ PyData.canLay0 (toP (.tup [deep])) = true := by
      constructor <;> (rw [toP, toPs, toPs, PyData.canLay0, PyData.canLayAll0, PyData.canLayAll0, lay]; rfl)
    obtain ⟨hkn, rfl⟩ := numbers_get hd
    refine ⟨_, _, jg_name 2 S_odd.nd rfl, ?_⟩
    refine jss_one (js_set 1 S_odd.nd rfl (j_if (jt_cmp (j_var 2 rfl rfl (j_int ⟨_, .gt _ _, fun _ => j_lst (j_cons (j_var 1 rfl rfl (j_nil ⟨Nat.le_of_ble_eq_true rfl, ?_⟩))), fun _ => j_tup (j_cons (j_var 1 rfl rfl (j_nil ⟨Nat.le_of_ble_eq_true rfl, ?_⟩)))⟩)))))
    · exact ⟨_, _, rfl, rfl, (ok_deep1 ok).2, Nat.zero_le _, lay1.1, rfl, .inl lay1.1, fun l h => by cases h⟩
    · exact ⟨_, _, rfl, rfl, (ok_deep1 ok).1, Nat.le_refl _, lay1.2, rfl, .inl lay1.2, fun l h => by cases h; exact .inr (.inr ⟨deep, rfl, ni⟩)⟩
  · rintro sl1 ms1 ⟨deep, t, rfl, rfl, ok, ln, lay, ni, od⟩
    rw [numbers_len] at ok
    have okd : Ok 200 40 deep ∧ lenT deep ≤ 1 ∧ Odd deep := ⟨ok.mono (by omega) (by omega), ln, od⟩
    refine jss_one (js_ret (j_callH 0 d2 hr (by decide) rfl rfl (j_cons (j_lst ?_))))
    refine j_con ?_
    refine j_non ?_
    refine j_con ?_
    refine j_neg (j_int ⟨_, rfl, ?_⟩)
    refine j_con ?_
    refine j_int ?_
    refine j_con ?_
    refine j_int ?_
    refine j_con ?_
    refine j_int ?_
    refine j_con ?_
    refine j_int ?_
    refine j_con ?_
    refine j_int ?_
    refine j_con ?_
    refine j_int ?_
    refine j_con ?_
    refine j_int ?_
    refine j_con ?_
    refine j_int ?_
    refine j_con ?_
    refine j_bl ?_
    refine j_con ?_
    refine j_str ?_
    refine j_con ?_
    refine j_tup (j_nil ⟨Nat.zero_le _, ?_⟩)
    refine j_con ?_
    refine j_tup (j_cons (j_int (j_nil ⟨Nat.le_of_ble_eq_true rfl, ?_⟩)))
    refine j_con ?_
    refine j_lst (j_cons (j_int (j_nil ⟨Nat.le_of_ble_eq_true rfl, ?_⟩)))
    refine j_con ?_
    refine j_dic ?_
    refine j_con ?_
    refine j_var 1 rfl rfl ?_
    refine j_con ?_
    refine j_pow (j_int (j_int ⟨_, _, rfl, rfl, ⟨by decide, by decide, by decide⟩, ?_⟩))
    refine j_nil ⟨Nat.le_of_ble_eq_true rfl, j_nil ⟨rfl, ⟨_, rfl, Nat.le_of_ble_eq_true rfl, Nat.le_of_ble_eq_true rfl⟩, fun d hd => ?_⟩⟩
    have hd := hd _ rfl
    simp only [List.mem_cons, List.not_mem_nil, or_false] at hd
    rcases hd with rfl | rfl | rfl | rfl | rfl | rfl | rfl | rfl | rfl | rfl | rfl | rfl | rfl | rfl | rfl | rfl | rfl | rfl
    all_goals first
      | exact okd
      | (refine ⟨⟨by decide +kernel, by decide +kernel, by decide +kernel⟩, by decide, .inr rfl, ?_⟩; intro l h; cases h; done)
      | (refine ⟨⟨by decide +kernel, by decide +kernel, by decide +kernel⟩, by decide, .inl (by decide +kernel), ?_⟩; intro l h; cases h; done)
      | (refine ⟨⟨by decide +kernel, by decide +kernel, by decide +kernel⟩, by decide, .inl (by decide +kernel), ?_⟩; intro l h; cases h; exact .inl rfl)
      | (refine ⟨⟨by decide +kernel, by decide +kernel, by decide +kernel⟩, by decide, .inl (by decide +kernel), ?_⟩; intro l h; cases h; exact .inr (.inl rfl))
end
end A
set_option Elab.async false
set_option linter.all false
set_option maxRecDepth 100000
set_option pp.maxSteps 1500
/-! Plans made day by day: plain. -/
namespace A
open PySem E
def cnt (k : Int) (p : List (List Int)) : Int := ((p.filter fun r => decide (k ∈ r)).length : Nat)
structure SInv (q : List Case) (rest : List Int) (p : List (List Int)) : Prop where
  rl : rest.length = q.length
  rn : ∀ x ∈ rest, 0 ≤ x
  rows : rowsB q 10 0 (p.map dayD) = true
  ct : ∀ (k : Nat) (c : Case) (r : Int), q[k]? = some c → rest[k]? = some r → cnt k p + r = c.2.1
def decs (rest : List Int) (S : List Int) : List Int := S.foldl (fun r k => r.set k.toNat (r.getD k.toNat 0 - 1)) rest
theorem decs_len (S : List Int) : ∀ rest : List Int, (decs rest S).length = rest.length := by
  induction S with
  | nil => intro rest; rfl
  | cons k S ih =>
    intro rest
    show (decs (rest.set k.toNat _) S).length = _
    rw [ih, List.length_set]
theorem decs_sum (S : List Int) : ∀ rest : List Int, (∀ k ∈ S, k.toNat < rest.length) → (decs rest S).sum = rest.sum - S.length := by
  induction S with
  | nil => intro rest _; show rest.sum = rest.sum - ((0 : Nat) : Int); omega
  | cons k S ih =>
    intro rest h
    have hk := h k List.mem_cons_self
    show (decs (rest.set k.toNat (rest.getD k.toNat 0 - 1)) S).sum = _
    rw [ih _ fun j hj => by rw [List.length_set]; exact h j (List.mem_cons_of_mem _ hj), show rest.getD k.toNat 0 = rest[k.toNat] by rw [List.getD_eq_getElem?_getD, List.getElem?_eq_getElem hk]; rfl,
      sum_set (List.getElem?_eq_getElem hk), List.length_cons]
    omega
theorem decs_get (S : List Int) : ∀ (rest : List Int) (j : Nat) (r : Int), S.Nodup → (∀ k ∈ S, 0 ≤ k ∧ k.toNat < rest.length) → rest[j]? = some r → (decs rest S)[j]? = some (r - if (j : Int) ∈ S then 1 else 0) := by
  induction S with
  | nil => intro rest j r _ _ h; simp [decs, h]
  | cons k S ih =>
    intro rest j r hn h hr
    obtain ⟨h0, hk⟩ := h k List.mem_cons_self
    rw [List.nodup_cons] at hn
    have hin : ∀ k' ∈ S, 0 ≤ k' ∧ k'.toNat < (rest.set k.toNat (rest.getD k.toNat 0 - 1)).length := fun j hj => by rw [List.length_set]; exact h j (List.mem_cons_of_mem _ hj)
    show (decs (rest.set k.toNat (rest.getD k.toNat 0 - 1)) S)[j]? = _
    by_cases e : k.toNat = j
    · have ek : k = (j : Int) := by omega
      have h1 : (rest.set k.toNat (rest.getD k.toNat 0 - 1))[j]? = some (r - 1) := by
        rw [e, List.getElem?_set_self (by rw [← e]; exact hk), List.getD_eq_getElem?_getD, hr]; rfl
      rw [ih _ j _ hn.2 hin h1, if_neg (by rw [← ek]; exact hn.1), if_pos (by rw [← ek]; exact List.mem_cons_self)]
      congr 1; omega
    · have h1 : (rest.set k.toNat (rest.getD k.toNat 0 - 1))[j]? = some r := by rw [List.getElem?_set_ne e]; exact hr
      have ek : ¬ (j : Int) = k := fun z => e (by omega)
      rw [ih _ j _ hn.2 hin h1]
      by_cases hj : (j : Int) ∈ S
      · rw [if_pos hj, if_pos (List.mem_cons_of_mem _ hj)]
      · rw [if_neg hj, if_neg fun z => (List.mem_cons.mp z).elim ek hj]
theorem cnt_snoc (k : Int) (p : List (List Int)) (r : List Int) : cnt k (p ++ [r]) = cnt k p + if k ∈ r then 1 else 0 := by
  unfold cnt
  rw [List.filter_append, List.length_append]
  by_cases h : k ∈ r
  · rw [if_pos h, show [r].filter (fun r => decide (k ∈ r)) = [r] by simp [h]]; rfl
  · rw [if_neg h, show [r].filter (fun r => decide (k ∈ r)) = [] by simp [h]]; rfl
/-- who may be taken on a day -/
def Free (q : List Case) (rest : List Int) (day : Nat) (k : Int) : Prop := ∃ (j : Nat) (c : Case) (r : Int), k = (j : Int) ∧ q[j]? = some c ∧ rest[j]? = some r ∧ c.1 ≤ (day : Int) ∧ 0 < r
theorem sinv_step {q : List Case} {rest : List Int} {p : List (List Int)} (iv : SInv q rest p) {S ns : List Int} (hn : S.Nodup) (hf : ∀ k ∈ S, Free q rest p.length k) (hl : S.length ≤ 10) (hp : ns.Perm S) (hs : incr ns = true) : SInv q (decs rest S) (p ++ [ns]) := by
  have hin : ∀ k ∈ S, 0 ≤ k ∧ k.toNat < rest.length := fun k hk => by
    obtain ⟨j, c, r, rfl, h1, h2, _⟩ := hf k hk
    exact ⟨by omega, by rw [Int.toNat_natCast]; exact (List.getElem?_eq_some_iff.mp h2).1⟩
  refine ⟨by rw [decs_len]; exact iv.rl, fun x hx => ?_, ?_, fun k c r hc hr => ?_⟩
  · obtain ⟨j, hj⟩ := List.getElem?_of_mem hx
    have hjl : j < rest.length := by rw [← decs_len S rest]; exact (List.getElem?_eq_some_iff.mp hj).1
    rw [decs_get S rest j _ hn hin (List.getElem?_eq_getElem hjl)] at hj
    have h0 := iv.rn _ (List.getElem_mem hjl)
    have e := Option.some.inj hj
    by_cases hm : (j : Int) ∈ S
    · rw [if_pos hm] at e
      obtain ⟨j', c, r, ej, _, h2, _, h4⟩ := hf _ hm
      have : j = j' := by omega
      subst this
      rw [List.getElem?_eq_getElem hjl] at h2
      have := Option.some.inj h2
      omega
    · rw [if_neg hm] at e
      omega
  · have old := (rowsB_iff q 10 0 (p.map dayD)).mp iv.rows
    rw [rowsB_iff, List.map_append, List.all_append, Bool.and_eq_true]
    refine ⟨⟨old.1, ?_⟩, fun j d hd n hn' => ?_⟩
    · show (rowL q 10 (dayD ns) && true) = true
      rw [Bool.and_true]
      show ((ns.map D.int).all (within · 0 ((q.length : Int) - 1)) && incr ((ns.map D.int).map toI) && decide (((ns.map D.int).length : Int) ≤ 10)) = true
      rw [toI_int, hs, Bool.and_true, Bool.and_eq_true, List.length_map, decide_eq_true_iff, hp.length_eq, List.all_eq_true]
      refine ⟨fun x hx => ?_, by omega⟩
      obtain ⟨k, hk, rfl⟩ := List.mem_map.mp hx
      obtain ⟨j, c, r, rfl, h1, _⟩ := hf k (hp.mem_iff.mp hk)
      have := (List.getElem?_eq_some_iff.mp h1).1
      simp [within]
      omega
    · by_cases hj : j < (p.map dayD).length
      · rw [List.getElem?_append_left hj] at hd
        exact old.2 j d hd n hn'
      · rw [List.getElem?_append_right (by omega)] at hd
        have hj0 : j - (p.map dayD).length = 0 := by
          have := (List.getElem?_eq_some_iff.mp hd).1
          simp at this
          simp
          omega
        rw [hj0] at hd
        have e : dayD ns = d := Option.some.inj hd
        subst e
        have hn2 : n ∈ ns := by
          have h : n ∈ (ns.map D.int).map toI := hn'
          rwa [toI_int] at h
        obtain ⟨k, c, r, rfl, h1, _, h3, _⟩ := hf n (hp.mem_iff.mp hn2)
        rw [Int.toNat_natCast, List.getD_eq_getElem?_getD, h1]
        show c.1 ≤ _
        rw [List.length_map] at hj hj0
        omega
  · have hkl : k < rest.length := by rw [← decs_len S rest]; exact (List.getElem?_eq_some_iff.mp hr).1
    have h1 := decs_get S rest k _ hn hin (List.getElem?_eq_getElem hkl)
    rw [hr] at h1
    have h1 := Option.some.inj h1
    have h2 := iv.ct k c _ hc (List.getElem?_eq_getElem hkl)
    rw [cnt_snoc]
    have h3 : ((k : Int) ∈ ns) ↔ ((k : Int) ∈ S) := hp.mem_iff
    by_cases hm : (k : Int) ∈ S
    · rw [if_pos hm] at h1
      rw [if_pos (h3.mpr hm)]
      omega
    · rw [if_neg hm] at h1
      rw [if_neg fun z => hm (h3.mp z)]
      omega
theorem sinv_start {q : List Case} (hq : Qok q) : SInv q (q.map fun c : Case => c.2.1) [] := ⟨by simp, fun x hx => by
  obtain ⟨c, hc, rfl⟩ := List.mem_map.mp hx
  have := hq.w0 c hc
  omega, rfl, fun k c r hc hr => by
  rw [List.getElem?_map, hc] at hr
  have := Option.some.inj hr
  show ((0 : Nat) : Int) + r = c.2.1
  have e : c.2.1 = r := this
  omega⟩
/-- a plan in which all is done -/
structure Fine (q : List Case) (p : List (List Int)) : Prop where
  rows : rowsB q 10 0 (p.map dayD) = true
  ct : cntB p 0 q = true
theorem sum_nn : ∀ {l : List Int}, (∀ x ∈ l, 0 ≤ x) → 0 ≤ l.sum ∧ ∀ x ∈ l, x ≤ l.sum
  | [], _ => ⟨by simp, fun x hx => by cases hx⟩
  | a :: l, h => by
    obtain ⟨h1, h2⟩ := sum_nn (l := l) fun x hx => h x (List.mem_cons_of_mem _ hx)
    have ha := h a List.mem_cons_self
    rw [List.sum_cons]
    refine ⟨by omega, fun x hx => ?_⟩
    rcases List.mem_cons.mp hx with rfl | hx
    · omega
    · have := h2 x hx; omega
theorem SInv.fine {q : List Case} {rest : List Int} {p : List (List Int)} (iv : SInv q rest p) (h : rest.sum ≤ 0) : Fine q p := by
  refine ⟨iv.rows, cntB_of.mpr fun k c hk => ?_⟩
  have hkl : k < rest.length := by rw [iv.rl]; exact (List.getElem?_eq_some_iff.mp hk).1
  have h1 := iv.ct k c _ hk (List.getElem?_eq_getElem hkl)
  have h2 := (sum_nn iv.rn).2 _ (List.getElem_mem hkl)
  have h3 := iv.rn _ (List.getElem_mem hkl)
  rw [days_len, Nat.zero_add]
  show cnt k p = _
  omega
theorem Fine.plan {q : List Case} {p : List (List Int)} (f : Fine q p) (hq : Qok q) (h : p.length ≤ 120) : planB q 10 (planD p) = true := by
  rw [← law_plan hq]
  show (decide (((p.map dayD).length : Int) ≤ 120) && rowsB q 10 0 (p.map dayD) && cntB ((p.map dayD).map lotOf) 0 q) = true
  rw [f.rows, lots_plan, f.ct, List.length_map, Bool.and_true, Bool.and_true, decide_eq_true_iff]
  omega
theorem led_sinv {q : List Case} (hq : Qok q) : ∀ n, SInv q (ledN q n).1 (ledN q n).2
  | 0 => sinv_start hq
  | n + 1 => by
    have ih := led_sinv hq n
    rw [ledN, ledStep]
    by_cases hp : pick q (ledN q n).1 ((ledN q n).2.length : Int) = []
    · rw [if_pos hp]
      exact sinv_step ih (S := []) (ns := []) List.nodup_nil (fun k hk => by cases hk) (by simp) (List.Perm.refl _) rfl
    · rw [if_neg hp]
      obtain ⟨j, c, r, e, h1, h2, h3, h4⟩ := pick_min hp
      rw [e]
      exact sinv_step ih (S := [(j : Int)]) (ns := [(j : Int)]) (by simp) (fun k hk => by
        have : k = (j : Int) := by simpa using hk
        exact ⟨j, c, r, this, h1, h2, h3, h4⟩) (by simp) (List.Perm.refl _) rfl
theorem led_fine {q : List Case} (hq : Qok q) {k : Nat} (h : LedAt q k) : Fine q (ledN q k).2 ∧ (ledN q k).2.length ≤ 100 := by
  refine ⟨(led_sinv hq k).fine h.1, ?_⟩
  rw [(led_inv q k).len]
  have := led_room hq h.2
  omega
/-! two days more; a day ahead -/
theorem fine_more {q : List Case} {p : List (List Int)} (f : Fine q p) : Fine q (p ++ [[], []]) := by
  have old := (rowsB_iff q 10 0 (p.map dayD)).mp f.rows
  refine ⟨(rowsB_iff _ _ _ _).mpr ⟨?_, fun j d hd n hn => ?_⟩, cntB_of.mpr fun k c hk => ?_⟩
  · rw [List.map_append, List.all_append, old.1]
    rfl
  · rw [List.map_append] at hd
    by_cases hj : j < (p.map dayD).length
    · rw [List.getElem?_append_left hj] at hd
      exact old.2 j d hd n hn
    · rw [List.getElem?_append_right (by omega)] at hd
      have : d ∈ [dayD [], dayD []] := List.mem_of_getElem? hd
      have : d = dayD [] := by simpa using this
      subst this
      cases hn
  · have := cntB_of.mp f.ct k c hk
    rw [days_len] at this ⊢
    rw [List.filter_append]
    simpa using this
theorem days_shift (n : Int) : ∀ (k : Nat) (p : List (List Int)), daysFrom (k + 1) n p = (daysFrom k n p).map (· + 1)
  | _, [] => rfl
  | k, r :: p => by
    rw [daysFrom, daysFrom, days_shift n (k + 1) p]
    split
    · rw [List.map_cons]
      congr 1
    · rfl
theorem last_shift {l : List Int} (h : l ≠ []) : (l.map (· + 1)).getLastD 0 = l.getLastD 0 + 1 := by
  rw [List.getLastD_eq_getLast?, List.getLastD_eq_getLast?, List.getLast?_map]
  cases e : l.getLast? with
  | none => rw [List.getLast?_eq_none_iff] at e; exact absurd e h
  | some z => rfl
theorem lates_shift {p : List (List Int)} : ∀ {k : Nat} {q : List Case}, (∀ j c, q[j]? = some c → daysOf p ((k + j : Nat) : Int) ≠ []) → lates ([] :: p) k q = (lates p k q).map (· + 1)
  | k, [], _ => rfl
  | k, c :: q, h => by
    rw [lates, lates, lates_shift fun j c' hj => by
      have := h (j + 1) c' (by simpa using hj)
      rwa [show k + (j + 1) = k + 1 + j by omega] at this]
    have h0 := h 0 c rfl
    rw [List.map_cons]
    congr 1
    unfold lateC
    have e : daysOf ([] :: p) (k : Int) = (daysOf p (k : Int)).map (· + 1) := by
      show (if (k : Int) ∈ ([] : List Int) then _ else daysFrom 1 (k : Int) p) = _
      rw [if_neg (by simp)]
      exact days_shift (k : Int) 0 p
    rw [e, last_shift (by simpa using h0)]
    omega
theorem max_shift : ∀ {l : List Int}, l ≠ [] → maxI (l.map (· + 1)) = maxI l + 1 := fun {l} h => by
  have h1 : maxI l ∈ l ∧ ∀ y ∈ l, y ≤ maxI l := by
    cases l with
    | nil => exact absurd rfl h
    | cons a r => exact max_fold r a
  refine (maxI_eq (ns := l.map (· + 1)) (k := maxI l + 1) (List.mem_map.mpr ⟨_, h1.1, rfl⟩) fun y hy => ?_).symm
  obtain ⟨z, hz, rfl⟩ := List.mem_map.mp hy
  have := h1.2 z hz
  omega
theorem late_ahead {q : List Case} (hq : Qok q) {p : List (List Int)} (g : Good q p) : lateOf q ([] :: p) = lateOf q p + 1 := by
  unfold lateOf
  rw [lates_shift fun j c hj => by rw [Nat.zero_add]; exact g.days hq hj, max_shift]
  intro e
  have h1 := hq.h1
  have := lates_len p 0 q
  rw [e] at this
  simp at this
  omega
theorem fine_ahead {q : List Case} {p : List (List Int)} (f : Fine q p) : Fine q ([] :: p) := by
  have old := (rowsB_iff q 10 0 (p.map dayD)).mp f.rows
  refine ⟨(rowsB_iff _ _ _ _).mpr ⟨?_, fun j d hd n hn => ?_⟩, cntB_of.mpr fun k c hk => ?_⟩
  · rw [List.map_cons, List.all_cons, old.1]
    rfl
  · cases j with
    | zero =>
      have e : dayD [] = d := Option.some.inj hd
      subst e
      cases hn
    | succ j =>
      have := old.2 j d (by simpa using hd) n hn
      omega
  · have := cntB_of.mp f.ct k c hk
    rw [days_len] at this ⊢
    rw [List.filter_cons, if_neg (by simp)]
    exact this
end A
set_option Elab.async false
set_option linter.all false
set_option maxRecDepth 100000
set_option pp.maxSteps 1500
/-! The least lateness: plain. -/
namespace A
open PySem E
def minI : List Int → Int
  | [] => 0
  | a :: r => r.foldl min a
theorem min_fold : ∀ (r : List Int) (a : Int), r.foldl min a ∈ a :: r ∧ ∀ y ∈ a :: r, r.foldl min a ≤ y
  | [], a => ⟨List.mem_cons_self, fun y hy => by have : y = a := by simpa using hy
                                                 rw [this]; exact Int.le_refl _⟩
  | b :: r, a => by
    obtain ⟨h1, h2⟩ := min_fold r (min a b)
    show r.foldl min (min a b) ∈ _ ∧ ∀ y ∈ _, r.foldl min (min a b) ≤ y
    refine ⟨?_, fun y hy => ?_⟩
    · rcases List.mem_cons.mp h1 with h1 | h1
      · rw [h1]
        by_cases h : a ≤ b
        · rw [Int.min_eq_left h]; exact List.mem_cons_self
        · rw [Int.min_eq_right (by omega)]; exact List.mem_cons_of_mem _ List.mem_cons_self
      · exact List.mem_cons_of_mem _ (List.mem_cons_of_mem _ h1)
    · have h3 := h2 _ List.mem_cons_self
      rcases List.mem_cons.mp hy with rfl | hy
      · have := Int.min_le_left y b; omega
      · rcases List.mem_cons.mp hy with rfl | hy
        · have := Int.min_le_right a y; omega
        · exact h2 y (List.mem_cons_of_mem _ hy)
theorem minI_mem {l : List Int} (h : l ≠ []) : minI l ∈ l ∧ ∀ y ∈ l, minI l ≤ y := by
  cases l with
  | nil => exact absurd rfl h
  | cons a r => exact min_fold r a
theorem maxI_mem {l : List Int} (h : l ≠ []) : maxI l ∈ l ∧ ∀ y ∈ l, y ≤ maxI l := by
  cases l with
  | nil => exact absurd rfl h
  | cons a r => exact max_fold r a
theorem minI_eq {ns : List Int} {k : Int} (h : k ∈ ns) (hl : ∀ y, y ∈ ns → k ≤ y) : k = minI ns := by
  have h1 := minI_mem (l := ns) (fun e => by subst e; cases h)
  have := h1.2 k h
  have := hl _ h1.1
  omega
abbrev caseAt (q : List Case) (n : Int) : Case := q.getD n.toNat (0, 0, 0)
/-- what a lot comes to -/
def bound (q : List Case) (L : List Int) : Int := minI (L.map fun n => (caseAt q n).1) + (L.map fun n => (caseAt q n).2.1).sum - maxI (L.map fun n => (caseAt q n).2.2)
/-- a lot of the queue's cases -/
structure LotOk (q : List Case) (L : List Int) : Prop where
  ne : L ≠ []
  nd : L.Nodup
  lt : ∀ n ∈ L, 0 ≤ n ∧ n < (q.length : Int)
theorem caseAt_get {q : List Case} {n : Int} (h : 0 ≤ n ∧ n < (q.length : Int)) : q[n.toNat]? = some (caseAt q n) := by
  have hl : n.toNat < q.length := by omega
  rw [List.getElem?_eq_getElem hl]
  unfold caseAt
  rw [List.getD_eq_getElem?_getD, List.getElem?_eq_getElem hl]
  rfl
theorem le_last {n : Int} : ∀ {k : Nat} {p : List (List Int)} {x : Int}, x ∈ daysFrom k n p → x ≤ (daysFrom k n p).getLastD 0
  | k, [], x, h => by simp [daysFrom] at h
  | k, r :: p, x, h => by
    have ih := @le_last n (k + 1) p
    rw [daysFrom] at h ⊢
    by_cases hr : n ∈ r
    · rw [if_pos hr] at h ⊢
      cases hd : daysFrom (k + 1) n p with
      | nil =>
        rw [hd] at h
        have : x = (k : Int) := by simpa using h
        rw [this]
        exact Int.le_refl _
      | cons y ys =>
        have e : ((k : Int) :: y :: ys).getLastD 0 = (y :: ys).getLastD 0 := by simp [List.getLastD_eq_getLast?, List.getLast?_cons]
        rw [e, ← hd]
        rcases List.mem_cons.mp h with rfl | h
        · have hy : y ∈ daysFrom (k + 1) n p := by rw [hd]; exact List.mem_cons_self
          have h1 := ih hy
          obtain ⟨j, r', _, _, h3⟩ := mem_days.mp hy
          omega
        · exact ih h
    · rw [if_neg hr] at h ⊢
      exact ih h
theorem last_mem {n : Int} {k : Nat} {p : List (List Int)} (h : daysFrom k n p ≠ []) : (daysFrom k n p).getLastD 0 ∈ daysFrom k n p := by
  rw [List.getLastD_eq_getLast?]
  cases e : (daysFrom k n p).getLast? with
  | none => rw [List.getLast?_eq_none_iff] at e; exact absurd e h
  | some z => exact List.mem_of_getLast? e
theorem lates_get (p : List (List Int)) : ∀ {k : Nat} {q : List Case} {j : Nat}, (lates p k q)[j]? = (q[j]?).map fun c => lateC p (k + j) c
  | k, [], j => by simp [lates]
  | k, c :: q, 0 => rfl
  | k, c :: q, j + 1 => by
    have := lates_get p (k := k + 1) (q := q) (j := j)
    rw [lates, List.getElem?_cons_succ, List.getElem?_cons_succ, this, show k + 1 + j = k + (j + 1) by omega]
theorem late_ge {q : List Case} {p : List (List Int)} {j : Nat} {c : Case} (h : q[j]? = some c) : lateC p j c ≤ lateOf q p := by
  have e := lates_get p (k := 0) (q := q) (j := j)
  rw [h, Nat.zero_add] at e
  have hm := List.mem_of_getElem? e
  exact (maxI_mem (l := lates p 0 q) fun z => by rw [z] at hm; cases hm).2 _ hm
theorem late_at {q : List Case} {p : List (List Int)} (h : q ≠ []) : ∃ j c, q[j]? = some c ∧ lateOf q p = lateC p j c := by
  have hl := lates_len p 0 q
  have hne : lates p 0 q ≠ [] := fun z => by
    rw [z] at hl
    exact h (List.eq_nil_of_length_eq_zero hl.symm)
  obtain ⟨j, hj⟩ := List.getElem?_of_mem (maxI_mem hne).1
  rw [lates_get] at hj
  cases e : q[j]? with
  | none => rw [e] at hj; cases hj
  | some c =>
    rw [e, Nat.zero_add] at hj
    exact ⟨j, c, e, (Option.some.inj hj).symm⟩
/-- how much of a lot's work is done -/
def cntL (L : List Int) (p : List (List Int)) : Int := (L.map fun k => cnt k p).sum
theorem cntL_snoc (L : List Int) (p : List (List Int)) (r : List Int) : cntL L (p ++ [r]) = cntL L p + (L.map fun k => if k ∈ r then (1 : Int) else 0).sum := by
  induction L with
  | nil => rfl
  | cons k L ih =>
    unfold cntL at ih ⊢
    rw [List.map_cons, List.map_cons, List.map_cons, List.sum_cons, List.sum_cons, List.sum_cons, ih, cnt_snoc]
    omega
theorem hits_nil (L : List Int) : (L.map fun k => if k ∈ ([] : List Int) then (1 : Int) else 0).sum = 0 := by
  induction L with
  | nil => rfl
  | cons k L ih => rw [List.map_cons, List.sum_cons, ih, if_neg (by simp)]; rfl
theorem hits_out (x : Int) : ∀ {L : List Int}, x ∉ L → (L.map fun k => if k ∈ [x] then (1 : Int) else 0).sum = 0
  | [], _ => rfl
  | k :: L, h => by
    rw [List.mem_cons, not_or] at h
    rw [List.map_cons, List.sum_cons, hits_out x h.2, if_neg (by simp; exact fun e => h.1 e.symm)]; rfl
theorem hits_in (x : Int) : ∀ {L : List Int}, L.Nodup → x ∈ L → (L.map fun k => if k ∈ [x] then (1 : Int) else 0).sum = 1
  | [], _, h => by cases h
  | k :: L, hn, h => by
    rw [List.nodup_cons] at hn
    rw [List.map_cons, List.sum_cons]
    rcases List.mem_cons.mp h with rfl | h
    · rw [hits_out _ hn.1, if_pos (by simp)]; rfl
    · rw [hits_in x hn.2 h, if_neg (by simp; intro e; exact hn.1 (e ▸ h))]; rfl
/-- a plan for one desk -/
def Single (p : List (List Int)) : Prop := ∀ r ∈ p, r = [] ∨ ∃ k, r = [k]
theorem cnt_nn (k : Int) (p : List (List Int)) : 0 ≤ cnt k p := by unfold cnt; omega
theorem cnt_days (k : Int) (p : List (List Int)) : cnt k p = ((daysOf p k).length : Int) := by rw [days_len]; rfl
theorem low_bound {q : List Case} (hq : Qok q) {p : List (List Int)} (f : Fine q p) (hs : Single p) {L : List Int} (hL : LotOk q L) : bound q L ≤ lateOf q p := by
  have rows := (rowsB_iff q 10 0 (p.map dayD)).mp f.rows
  have hct := cntB_of.mp f.ct
  have hcm : ∀ k ∈ L, minI (L.map fun n => (caseAt q n).1) ≤ (caseAt q k).1 := fun k hk => (minI_mem (by simpa using hL.ne)).2 _ (List.mem_map.mpr ⟨k, hk, rfl⟩)
  have hdm : ∀ k ∈ L, (caseAt q k).2.2 ≤ maxI (L.map fun n => (caseAt q n).2.2) := fun k hk => (maxI_mem (by simpa using hL.ne)).2 _ (List.mem_map.mpr ⟨k, hk, rfl⟩)
  unfold bound
  generalize minI (L.map fun n => (caseAt q n).1) = m at hcm
  generalize maxI (L.map fun n => (caseAt q n).2.2) = M at hdm
  -- a day on which one of the lot is worked on
  have day : ∀ (j : Nat) (r : List Int) (k : Int), p[j]? = some r → k ∈ r → k ∈ L → m ≤ (j : Int) ∧ (j : Int) ≤ lateOf q p + M - 1 := fun j r k hj hk hkL => by
    have hg := caseAt_get (hL.lt k hkL)
    have h1 := rows.2 j (dayD r) (by rw [List.getElem?_map, hj]; rfl) k (by rw [show lotOf (dayD r) = r from toI_int r]; exact hk)
    have h2 := hcm k hkL
    have h3 := hdm k hkL
    have hx : ((j : Nat) : Int) ∈ daysOf p k := mem_days.mpr ⟨j, r, hj, hk, by rw [Nat.zero_add]⟩
    have h4 : ((j : Nat) : Int) ≤ (daysOf p k).getLastD 0 := le_last hx
    have h5 := late_ge (p := p) hg
    unfold lateC at h5
    rw [show ((k.toNat : Nat) : Int) = k by have := (hL.lt k hkL).1; omega] at h5
    rw [Nat.zero_add] at h1
    exact ⟨Int.le_trans h2 h1, by omega⟩
  have main : ∀ n, n ≤ p.length → cntL L (p.take n) ≤ max 0 (min (n : Int) (lateOf q p + M) - m) := by
    intro n
    induction n with
    | zero =>
      intro _
      have : cntL L (p.take 0) = 0 := by
        show (L.map fun k => cnt k []).sum = 0
        have : ∀ L : List Int, (L.map fun k => cnt k ([] : List (List Int))).sum = 0 := fun L => by
          induction L with
          | nil => rfl
          | cons k L ih => rw [List.map_cons, List.sum_cons, ih]; rfl
        exact this L
      omega
    | succ n ih =>
      intro hn
      have hlt : n < p.length := by omega
      have ih := ih (by omega)
      have hg := List.getElem?_eq_getElem hlt
      rw [List.take_add_one, hg]
      show cntL L (p.take n ++ [p[n]]) ≤ _
      rw [cntL_snoc]
      rcases hs _ (List.getElem_mem hlt) with e | ⟨k, e⟩
      · rw [e, hits_nil]; omega
      · rw [e]
        by_cases hk : k ∈ L
        · rw [hits_in k hL.nd hk]
          have := day n _ k hg (by rw [e]; exact List.mem_cons_self) hk
          omega
        · rw [hits_out k hk]; omega
  have hm := main p.length (Nat.le_refl _)
  rw [List.take_length] at hm
  have hw : cntL L p = (L.map fun n => (caseAt q n).2.1).sum := by
    unfold cntL
    congr 1
    refine List.map_congr_left fun k hk => ?_
    have h0 := hL.lt k hk
    have := hct k.toNat _ (caseAt_get h0)
    rw [Nat.zero_add, show ((k.toNat : Nat) : Int) = k by omega] at this
    rw [cnt_days]
    exact this
  rw [hw] at hm
  have hpos : 1 ≤ (L.map fun n => (caseAt q n).2.1).sum := by
    obtain ⟨k, hk⟩ := List.exists_mem_of_ne_nil L hL.ne
    have h1 : ∀ x ∈ L.map (fun n => (caseAt q n).2.1), 0 ≤ x := fun x hx => by
      obtain ⟨n, hn, rfl⟩ := List.mem_map.mp hx
      have := hq.w0 _ (List.mem_of_getElem? (caseAt_get (hL.lt n hn)))
      omega
    have h2 := (sum_nn h1).2 _ (List.mem_map.mpr ⟨k, hk, rfl⟩)
    have h3 := hq.w0 _ (List.mem_of_getElem? (caseAt_get (hL.lt k hk)))
    omega
  omega
/-! the plan by dues comes to a lot's bound -/
def rowAt (q : List Case) (n : Nat) : List Int := if pick q (ledN q n).1 (n : Int) = [] then [] else [(minP (pick q (ledN q n).1 (n : Int))).2]
theorem led_row (q : List Case) (n : Nat) : (ledN q (n + 1)).2 = (ledN q n).2 ++ [rowAt q n] := by
  rw [ledN, ledStep, (led_inv q n).len]
  unfold rowAt
  split <;> rfl
theorem led_take (q : List Case) : ∀ {m n : Nat}, n ≤ m → (ledN q m).2.take n = (ledN q n).2
  | 0, n, h => by
    have : n = 0 := by omega
    subst this; rfl
  | m + 1, n, h => by
    by_cases e : n = m + 1
    · subst e
      rw [List.take_of_length_le (by rw [(led_inv q (m + 1)).len]; exact Nat.le_refl _)]
    · rw [led_row, List.take_append_of_le_length (by rw [(led_inv q m).len]; omega), led_take q (by omega)]
theorem led_get (q : List Case) {m n : Nat} (h : n < m) : (ledN q m).2[n]? = some (rowAt q n) := by
  have h1 : ((ledN q m).2.take (n + 1))[n]? = (ledN q m).2[n]? := List.getElem?_take_of_lt (Nat.lt_succ_self n)
  rw [← h1, led_take q (by omega), led_row, List.getElem?_append_right (by rw [(led_inv q n).len]; exact Nat.le_refl _), (led_inv q n).len, Nat.sub_self]
  rfl
theorem led_single (q : List Case) (m : Nat) : Single (ledN q m).2 := fun r hr => by
  obtain ⟨n, hn⟩ := List.getElem?_of_mem hr
  have hl : n < m := by rw [← (led_inv q m).len]; exact (List.getElem?_eq_some_iff.mp hn).1
  rw [led_get q hl] at hn
  have := Option.some.inj hn
  rw [← this]
  unfold rowAt
  split
  · exact .inl rfl
  · exact .inr ⟨_, rfl⟩
theorem cnt_mono (q : List Case) (k : Int) : ∀ {m n : Nat}, n ≤ m → cnt k (ledN q n).2 ≤ cnt k (ledN q m).2
  | 0, n, h => by
    have : n = 0 := by omega
    subst this; exact Int.le_refl _
  | m + 1, n, h => by
    by_cases e : n = m + 1
    · subst e; exact Int.le_refl _
    · have := cnt_mono q k (m := m) (n := n) (by omega)
      rw [led_row, cnt_snoc]
      split <;> omega
/-- on day n one with a due of at most d is worked on -/
def Busy (q : List Case) (d : Int) (n : Nat) : Prop := ∃ (j : Nat) (c : Case), rowAt q n = [(j : Int)] ∧ q[j]? = some c ∧ c.2.2 ≤ d
theorem busy_from {G : Nat → Prop} : ∀ {t : Nat}, G t → ∃ s, s ≤ t ∧ (∀ n, s ≤ n → n ≤ t → G n) ∧ (s = 0 ∨ ¬ G (s - 1))
  | 0, h => ⟨0, Nat.le_refl _, fun n _ h2 => by
    have : n = 0 := by omega
    rw [this]; exact h, .inl rfl⟩
  | t + 1, h => by
    by_cases hg : G t
    · obtain ⟨s, h1, h2, h3⟩ := busy_from hg
      refine ⟨s, by omega, fun n h4 h5 => ?_, h3⟩
      by_cases e : n = t + 1
      · rw [e]; exact h
      · exact h2 n h4 (by omega)
    · exact ⟨t + 1, Nat.le_refl _, fun n h4 h5 => by
        have : n = t + 1 := by omega
        rw [this]; exact h, .inr hg⟩
theorem row_free {q : List Case} {n : Nat} {j : Nat} {c : Case} (h : rowAt q n = [(j : Int)]) (hj : q[j]? = some c) : c.1 ≤ (n : Int) ∧ ∃ r, (ledN q n).1[j]? = some r ∧ 0 < r := by
  unfold rowAt at h
  by_cases hp : pick q (ledN q n).1 (n : Int) = []
  · rw [if_pos hp] at h; cases h
  · rw [if_neg hp] at h
    obtain ⟨j', c', r, e, h1, h2, h3, h4⟩ := pick_min hp
    rw [e] at h
    have : j' = j := by
      injection h with h _
      have h : ((j' : Nat) : Int) = (j : Int) := h
      omega
    subst this
    rw [hj] at h1
    cases h1
    exact ⟨h3, r, h2, h4⟩
/-- who could be taken, is due no sooner than who is taken -/
theorem row_least {q : List Case} {n : Nat} {j : Nat} {c : Case} {r : Int} (hj : q[j]? = some c) (hr : (ledN q n).1[j]? = some r) (hc : c.1 ≤ (n : Int)) (h0 : 0 < r) : Busy q c.2.2 n := by
  have hm := mem_pick (k := 0) (day := (n : Int)) hj hr hc h0
  rw [Nat.zero_add] at hm
  have hp : pick q (ledN q n).1 (n : Int) ≠ [] := fun z => by
    have hm : (c.2.2, (j : Int)) ∈ pick q (ledN q n).1 (n : Int) := hm
    rw [z] at hm; cases hm
  obtain ⟨j', c', r', e, h1, h2, h3, h4⟩ := pick_min hp
  refine ⟨j', c', ?_, h1, ?_⟩
  · unfold rowAt
    rw [if_neg hp, e]
  · have hl : pairLe (minP (pick q (ledN q n).1 (n : Int))) (c.2.2, (j : Int)) := by
      cases hz : pick q (ledN q n).1 (n : Int) with
      | nil => exact absurd hz hp
      | cons a as =>
        have hm : (c.2.2, (j : Int)) ∈ pick q (ledN q n).1 (n : Int) := hm
        rw [hz] at hm
        exact (minP_fold as a).2 _ hm
    rw [e] at hl
    unfold pairLe at hl
    have hl : c'.2.2 < c.2.2 ∨ (c'.2.2 = c.2.2 ∧ _) := hl
    omega
/-- the lot between: all that come no sooner than a and are due no later than d -/
def lotFrom (a d : Int) : Nat → List Case → List Int
  | _, [] => []
  | k, c :: q => if a ≤ c.1 ∧ c.2.2 ≤ d then (k : Int) :: lotFrom a d (k + 1) q else lotFrom a d (k + 1) q
abbrev lotOf2 (q : List Case) (a d : Int) : List Int := lotFrom a d 0 q
theorem mem_lot {a d : Int} : ∀ {k : Nat} {q : List Case} {x : Int}, x ∈ lotFrom a d k q ↔ ∃ (j : Nat) (c : Case), x = ((k + j : Nat) : Int) ∧ q[j]? = some c ∧ a ≤ c.1 ∧ c.2.2 ≤ d
  | k, [], x => by simp [lotFrom]
  | k, c :: q, x => by
    rw [lotFrom]
    have ih := @mem_lot a d (k + 1) q x
    constructor
    · intro h
      by_cases hr : a ≤ c.1 ∧ c.2.2 ≤ d
      · rw [if_pos hr] at h
        rcases List.mem_cons.mp h with rfl | h
        · exact ⟨0, c, rfl, rfl, hr⟩
        · obtain ⟨j, r', h1, h2, h3⟩ := ih.mp h
          exact ⟨j + 1, r', by rw [h1, show k + 1 + j = k + (j + 1) by omega], by simpa using h2, h3⟩
      · rw [if_neg hr] at h
        obtain ⟨j, r', h1, h2, h3⟩ := ih.mp h
        exact ⟨j + 1, r', by rw [h1, show k + 1 + j = k + (j + 1) by omega], by simpa using h2, h3⟩
    · rintro ⟨j, r', h1, h2, h3⟩
      cases j with
      | zero =>
        simp at h2
        subst h2
        rw [if_pos h3, h1]
        exact List.mem_cons_self
      | succ j =>
        have : x ∈ lotFrom a d (k + 1) q := ih.mpr ⟨j, r', by rw [h1, show k + 1 + j = k + (j + 1) by omega], by simpa using h2, h3⟩
        split
        · exact List.mem_cons_of_mem _ this
        · exact this
theorem lot_incr {a d : Int} : ∀ {k : Nat} {q : List Case}, (lotFrom a d k q).Pairwise (· < ·)
  | k, [] => by simp [lotFrom]
  | k, c :: q => by
    rw [lotFrom]
    split
    · refine List.pairwise_cons.mpr ⟨fun x hx => ?_, lot_incr⟩
      obtain ⟨j, _, h1, _⟩ := mem_lot.mp hx
      omega
    · exact lot_incr
theorem pw_nodup {l : List Int} (h : l.Pairwise (· < ·)) : l.Nodup := h.imp fun h => by omega
theorem lot_ok {q : List Case} {a d : Int} (h : lotOf2 q a d ≠ []) : LotOk q (lotOf2 q a d) := ⟨h, pw_nodup lot_incr, fun n hn => by
  obtain ⟨j, c, h1, h2, _⟩ := mem_lot.mp hn
  have := (List.getElem?_eq_some_iff.mp h2).1
  omega⟩
theorem up_bound {q : List Case} (hq : Qok q) {m : Nat} (hm : LedAt q m) : ∃ c ∈ q, ∃ e ∈ q, lotOf2 q c.1 e.2.2 ≠ [] ∧ lateOf q (ledN q m).2 ≤ bound q (lotOf2 q c.1 e.2.2) := by
  have hne : q ≠ [] := fun z => by have := hq.h1; rw [z] at this; simp at this
  obtain ⟨f, _⟩ := led_fine hq hm
  have hct := cntB_of.mp f.ct
  obtain ⟨i, ci, hi, hlate⟩ := late_at (p := (ledN q m).2) hne
  have hwi := hq.w0 ci (List.mem_of_getElem? hi)
  have hdi : daysOf (ledN q m).2 (i : Int) ≠ [] := fun z => by
    have := hct i ci hi
    rw [Nat.zero_add, z] at this
    simp at this
    omega
  obtain ⟨t, r, ht, hit, hteq⟩ := mem_days.mp (last_mem hdi)
  rw [Nat.zero_add] at hteq
  have hteq : (daysOf (ledN q m).2 (i : Int)).getLastD 0 = (t : Int) := hteq
  have htm : t < m := by rw [← (led_inv q m).len]; exact (List.getElem?_eq_some_iff.mp ht).1
  rw [led_get q htm] at ht
  have ht := Option.some.inj ht
  have hrow : rowAt q t = [(i : Int)] := by
    rw [← ht] at hit
    unfold rowAt at hit ⊢
    by_cases hp : pick q (ledN q t).1 (t : Int) = []
    · rw [if_pos hp] at hit; cases hit
    · rw [if_neg hp] at hit ⊢
      have : (i : Int) = (minP (pick q (ledN q t).1 (t : Int))).2 := by simpa using hit
      rw [this]
  obtain ⟨s, hst, hall, hs⟩ := busy_from (G := Busy q ci.2.2) (t := t) ⟨i, ci, hrow, hi, Int.le_refl _⟩
  -- who is worked on from s on, comes no sooner
  have hcome : ∀ n, s ≤ n → n ≤ t → ∀ (j : Nat) (c : Case), rowAt q n = [(j : Int)] → q[j]? = some c → c.2.2 ≤ ci.2.2 → (s : Int) ≤ c.1 := fun n h1 h2 j c hr hj hd => by
    rcases hs with rfl | hs
    · exact hq.c0 c (List.mem_of_getElem? hj)
    · apply Decidable.byContradiction
      intro hlt
      have hs0 : s ≠ 0 := fun z => by
        subst z
        have := hq.c0 c (List.mem_of_getElem? hj)
        omega
      obtain ⟨_, x, hx, hx0⟩ := row_free hr hj
      have hjl : j < (ledN q (s - 1)).1.length := by rw [(led_inv q (s - 1)).rl]; exact (List.getElem?_eq_some_iff.mp hj).1
      have hy := List.getElem?_eq_getElem hjl
      have e1 := (led_sinv hq n).ct j c x hj hx
      have e2 := (led_sinv hq (s - 1)).ct j c _ hj hy
      have e3 := cnt_mono q (j : Int) (m := n) (n := s - 1) (by omega)
      have hb := row_least (n := s - 1) hj hy (by omega) (by omega)
      obtain ⟨j', c', b1, b2, b3⟩ := hb
      exact hs ⟨j', c', b1, b2, by omega⟩
  obtain ⟨js, cs, hrs, hjs, hds⟩ := hall s (Nat.le_refl _) hst
  have hcs1 := hcome s (Nat.le_refl _) hst js cs hrs hjs hds
  have hcs2 := (row_free hrs hjs).1
  have hcs : cs.1 = (s : Int) := by omega
  refine ⟨cs, List.mem_of_getElem? hjs, ci, List.mem_of_getElem? hi, ?_, ?_⟩
  · have : (js : Int) ∈ lotOf2 q cs.1 ci.2.2 := mem_lot.mpr ⟨js, cs, by rw [Nat.zero_add], hjs, Int.le_refl _, hds⟩
    intro z
    rw [z] at this
    cases this
  · generalize hL : lotOf2 q cs.1 ci.2.2 = L
    have hmem : ∀ n, s ≤ n → n ≤ t → ∃ k, rowAt q n = [k] ∧ k ∈ L := fun n h1 h2 => by
      obtain ⟨j, c, b1, b2, b3⟩ := hall n h1 h2
      refine ⟨_, b1, ?_⟩
      rw [← hL]
      exact mem_lot.mpr ⟨j, c, by rw [Nat.zero_add], b2, by rw [hcs]; exact hcome n h1 h2 j c b1 b2 b3, b3⟩
    have hLne : L ≠ [] := fun z => by
      obtain ⟨k, _, hk⟩ := hmem s (Nat.le_refl _) hst
      rw [z] at hk; cases hk
    have hLok : LotOk q L := by rw [← hL] at hLne ⊢; exact lot_ok hLne
    have hcount : ∀ n, s ≤ n → n ≤ t + 1 → ((n - s : Nat) : Int) ≤ cntL L (ledN q n).2 := by
      intro n
      induction n with
      | zero =>
        intro h _
        have h0 : 0 ≤ cntL L (ledN q 0).2 := (sum_nn fun x hx => by
          obtain ⟨k, _, rfl⟩ := List.mem_map.mp hx
          exact cnt_nn k _).1
        omega
      | succ n ih =>
        intro h1 h2
        by_cases e : s = n + 1
        · have h0 : 0 ≤ cntL L (ledN q (n + 1)).2 := (sum_nn fun x hx => by
            obtain ⟨k, _, rfl⟩ := List.mem_map.mp hx
            exact cnt_nn k _).1
          omega
        · have ih := ih (by omega) (by omega)
          obtain ⟨k, hk1, hk2⟩ := hmem n (by omega) (by omega)
          rw [led_row, cntL_snoc, hk1, hits_in k hLok.nd hk2]
          omega
    have h1 := hcount (t + 1) (by omega) (Nat.le_refl _)
    have h2 : cntL L (ledN q (t + 1)).2 ≤ (L.map fun n => (caseAt q n).2.1).sum := by
      have : ∀ L' : List Int, (∀ k ∈ L', 0 ≤ k ∧ k < (q.length : Int)) → (L'.map fun k => cnt k (ledN q (t + 1)).2).sum ≤ (L'.map fun n => (caseAt q n).2.1).sum := fun L' => by
        induction L' with
        | nil => intro _; exact Int.le_refl _
        | cons k L' ih =>
          intro h
          have ih := ih fun k hk => h k (List.mem_cons_of_mem _ hk)
          have hk := h k List.mem_cons_self
          have hg := caseAt_get hk
          have hjl : k.toNat < (ledN q (t + 1)).1.length := by rw [(led_inv q (t + 1)).rl]; exact (List.getElem?_eq_some_iff.mp hg).1
          have hy := List.getElem?_eq_getElem hjl
          have e1 := (led_sinv hq (t + 1)).ct _ _ _ hg hy
          have e2 := (led_sinv hq (t + 1)).rn _ (List.getElem_mem hjl)
          rw [show ((k.toNat : Nat) : Int) = k by omega] at e1
          rw [List.map_cons, List.map_cons, List.sum_cons, List.sum_cons]
          omega
      exact this L hLok.lt
    have h3 : (s : Int) ≤ minI (L.map fun n => (caseAt q n).1) := by
      obtain ⟨k, hk, e⟩ := List.mem_map.mp (minI_mem (l := L.map fun n => (caseAt q n).1) (by simpa using hLne)).1
      rw [← e]
      rw [← hL] at hk
      obtain ⟨j, c, b1, b2, b3, _⟩ := mem_lot.mp hk
      have hg := caseAt_get (hLok.lt k (by rw [← hL]; exact hk))
      rw [b1, Nat.zero_add, Int.toNat_natCast, b2] at hg
      have hg := Option.some.inj hg
      show (s : Int) ≤ (caseAt q k).1
      rw [b1, Nat.zero_add, ← hg]
      omega
    have h4 : maxI (L.map fun n => (caseAt q n).2.2) ≤ ci.2.2 := by
      obtain ⟨k, hk, e⟩ := List.mem_map.mp (maxI_mem (l := L.map fun n => (caseAt q n).2.2) (by simpa using hLne)).1
      rw [← e]
      rw [← hL] at hk
      obtain ⟨j, c, b1, b2, _, b3⟩ := mem_lot.mp hk
      have hg := caseAt_get (hLok.lt k (by rw [← hL]; exact hk))
      rw [b1, Nat.zero_add, Int.toNat_natCast, b2] at hg
      have hg := Option.some.inj hg
      show (caseAt q k).2.2 ≤ _
      rw [b1, Nat.zero_add, ← hg]
      exact b3
    rw [hlate]
    unfold lateC bound
    omega
end A
set_option Elab.async false
set_option linter.all false
set_option maxRecDepth 100000
/-! More rules by the text: min, `is None`, targets, lists joined, tuples repeated, tuples of ranges. -/
namespace E
open PySem PySem.Spec PyProof.Rows L2
section
variable {X : Cx} {sl sl' : List Sl} {ms : List (List D)} {R : D → Prop} {B : Bool → Prop} {pos p p2 p3 : Pos} {a b c e : Expr} {es rest : List Expr} {x y : Str} {d : D} {O : Out}
theorem rc_min {K : PySem.W.Frag} {ns : List Int} {m : Int} (h0 : 0 < ns.length) (h : ∀ k, k ∈ ns → (∀ y, y ∈ ns → k ≤ y) → k = m) : Rc (rMin K) [.lst (ns.map D.int)] (· = .int m) := fun F H vs eh hl Q q => by
  cases hl with
  | cons hx hr =>
    cases hr
    cases hx with
    | lst ha hl =>
      rw [DnL.ints ns hl] at ha
      exact ⟨_, ns, rfl, sq_l eh ha, h0, fun k hk hy => by rw [h k hk hy]; exact q _ _ F H rfl (Ext.refl eh) (.int _)⟩
theorem j_min (hc : X.calm = true) (hm : X.mg "min" = none) (h : Er sl ms (wE X e) fun x => ∃ ns m, x = .lst (List.map D.int ns) ∧ 0 < ns.length ∧ (∀ k, k ∈ ns → (∀ y, y ∈ ns → k ≤ y) → k = m) ∧ R (.int m)) (hg : Gl X "min" := by rfl) (he : starEach [e] X.env = (false, eval e X.env) :: starEach [] X.env := by rfl) :
    Er sl ms (wE X (.Call (.Name "min" p) [e] [] pos)) R := Er.of (pe_callB (cr_min hc) hg hm (by decide +kernel) (pa_cons pe_w pa_nil he) (he := he)) (er_cb' (ea_cons' (h.mono fun _ ⟨_, _, e, h0, h1, k⟩ => ea_nil' (by rw [e]; exact Rc.done (rc_min h0 h1) k))))
/-! ### is None -/
def isN : D → Bool
  | .non => true
  | _ => false
theorem Dn.isN {F : Hp} {v : V} : ∀ {x : D}, Dn F v x → decide (v = V.non) = E.isN x
  | _, .non => rfl
  | _, .bl _ => rfl
  | _, .int _ => rfl
  | _, .str _ => rfl
  | _, .tup _ _ => rfl
  | _, .lst _ _ => rfl
  | _, .dic _ => rfl
theorem j_isN {k} (h : Er sl ms (wE X a) fun x => R (.bl (E.isN x))) : Er sl ms (wE X (.Compare a [.Is] [.Constant .none k p2] pos)) R :=
  Er.of (pe_cmpR op_isN pe_w pe_non (nomark _)) fun ho F0 H0 F ps ex σ H at0 Q q => h ho F0 H0 F ps ex σ H at0 _ fun v d F1 H1 r a1 => ⟨rfl, by rw [a1.top.isN]; exact q _ _ F1 H1 r (a1.pop.push (.bl _))⟩
theorem j_notN {k} (h : Er sl ms (wE X a) fun x => R (.bl (!E.isN x))) : Er sl ms (wE X (.Compare a [.IsNot] [.Constant .none k p2] pos)) R :=
  Er.of (pe_cmpR op_notN pe_w pe_non (nomark _)) fun ho F0 H0 F ps ex σ H at0 Q q => h ho F0 H0 F ps ex σ H at0 _ fun v d F1 H1 r a1 => ⟨rfl, by rw [a1.top.isN]; exact q _ _ F1 H1 r (a1.pop.push (.bl _))⟩
theorem jt_isN {k} (h : Er sl ms (wE X a) fun x => B (E.isN x)) : Et sl ms (wT X (.Compare a [.Is] [.Constant .none k p2] pos)) B :=
  Et.of (pt_cmpR op_isN pe_w pe_non (nomark _)) (et_test fun ho F0 H0 F ps ex σ H at0 Q q => h ho F0 H0 F ps ex σ H at0 _ fun v d F1 H1 r a1 => ⟨rfl, by rw [a1.top.isN]; exact q _ _ F1 H1 ⟨_, rfl, r⟩ (a1.pop.push (.bl _))⟩)
theorem jt_notN {k} (h : Er sl ms (wE X a) fun x => B (!E.isN x)) : Et sl ms (wT X (.Compare a [.IsNot] [.Constant .none k p2] pos)) B :=
  Et.of (pt_cmpR op_notN pe_w pe_non (nomark _)) (et_test fun ho F0 H0 F ps ex σ H at0 Q q => h ho F0 H0 F ps ex σ H at0 _ fun v d F1 H1 r a1 => ⟨rfl, by rw [a1.top.isN]; exact q _ _ F1 H1 ⟨_, rfl, r⟩ (a1.pop.push (.bl _))⟩)
/-! ### a, b = e -/
theorem js_tg {tg : Expr} (h : Er sl ms (wE X e) fun d => ∃ tv sl', Eg sl (wG X tg) d tv sl' ∧ O.nx sl' ms) (hs : swapsWithSole [tg] e pos.line X.env = pure false := by rfl) (hw : swappedStores [tg] e X.env = pure none := by rfl)
    (h1 : (assignEach [tg] X.env).map (·.2) = [assign tg X.env] := by rfl) : Sr sl ms (wS X (.Assign [tg] e pos)) O :=
  Sr.of (ps_asg pe_w pg_w hs hw h1) fun ho F0 H0 F ps ex σ H at0 Z nx rt bk ct => h ho F0 H0 F ps ex σ H at0 _ fun v d F1 H1 ⟨tv, sl', eg, k⟩ a1 =>
    eg.run ms ho F0 H0 F1 ps ex σ H1 v a1.pop a1.top _ fun F2 σ2 H2 _ a2 _ => nx _ _ F2 ps σ2 H2 k a2
/-! ### lists joined -/
theorem r2_catL {ds es : List D} (hn : ds.length + es.length ≤ 100000) : R2 rCat (.lst ds) (.lst es) (· = .lst (ds ++ es)) := fun F H v w eh hv hw Q q => by
  cases hv with
  | lst ha hl =>
    cases hw with
    | lst hb hm =>
      exact ⟨_, _, _, _, rfl, rfl, eh _ _ ha, eh _ _ hb, by rw [hl.len, hm.len]; exact Nat.le_trans hn (by decide), fun p hp => q _ _ _ _ rfl (Ext.new eh hp) (.lst upd_same ((hl.app hm).mono (Ex.new (eh.none hp))))⟩
theorem j_catL (h : Er sl ms (wE X a) fun x => Er sl ms (wE X b) fun y => ∃ i j, x = .lst i ∧ y = .lst j ∧ i.length + j.length ≤ 100000 ∧ R (.lst (i ++ j))) : Er sl ms (wE X (.BinOp a .Add b pos)) R :=
  Er.of (pe_op op_cat pe_w pe_w) (er_op' (h.mono fun _ h => h.mono fun _ ⟨_, _, e1, e2, hc, k⟩ => by rw [e1, e2]; exact R2.done (r2_catL hc) k))
/-- a list of one's own + a list: a new list of one's own -/
theorem jl_catM (i : Nat) {k : Nat} {ds : List D} {R : List D → Prop} (hN : X.N[i]? = some x) (hs : sl[i]? = some (.m k)) (hm : ms[k]? = some ds) (h : Er sl ms (wE X b) fun y => ∃ es, y = .lst es ∧ ds.length + es.length ≤ 100000 ∧ R (ds ++ es))
    (hv : Vis X.env.scope x := by first | exact Or.inl rfl | exact Or.inr (Or.inl rfl) | exact Or.inr (Or.inr rfl)) (hd : (x == ("__debug__" : Str)) = false := by decide) (hcd : (x == ("__classdict__" : Str)) = false := by decide) :
    El sl ms (wE X (.BinOp (.Name x p) .Add b pos)) R := El.of (pe_op op_cat (pv i hN hv hd hcd) pe_w) fun ho F0 H0 F ps ex σ H at0 Q q => by
  obtain ⟨p, xs, e, hp, h1, h2⟩ := at0.ml hs hm
  refine ⟨_, e, h ho F0 H0 F ps ex σ H at0 _ fun v d F' H' ⟨es, ed, hl, r⟩ a' => ?_⟩
  obtain ⟨p', ys, e', hp', h1', h2'⟩ := a'.ml hs hm
  rw [hp] at hp'; cases hp'
  subst ed
  obtain ⟨pb, zs, rfl, hb, hlb⟩ : ∃ p xs, v = .ref p ∧ F' p = some (.lst xs) ∧ DnL F' xs es := by cases a'.top with | lst ha hl => exact ⟨_, _, rfl, ha, hl⟩
  exact ⟨p, pb, ys, zs, rfl, rfl, h1', a'.fh _ _ hb, by rw [h2'.len, hlb.len]; exact Nat.le_trans hl (by decide), fun y hy => q y (ds ++ es) F' _ r (a'.pop.own hy (h2'.app hlb))⟩
theorem j_catM (i : Nat) {k : Nat} {ds : List D} (hN : X.N[i]? = some x) (hs : sl[i]? = some (.m k)) (hm : ms[k]? = some ds) (h : Er sl ms (wE X b) fun y => ∃ es, y = .lst es ∧ ds.length + es.length ≤ 100000 ∧ R (.lst (ds ++ es)))
    (hv : Vis X.env.scope x := by first | exact Or.inl rfl | exact Or.inr (Or.inl rfl) | exact Or.inr (Or.inr rfl)) (hd : (x == ("__debug__" : Str)) = false := by decide) (hcd : (x == ("__classdict__" : Str)) = false := by decide) :
    Er sl ms (wE X (.BinOp (.Name x p) .Add b pos)) R := (jl_catM (R := fun ds => R (.lst ds)) i hN hs hm h hv hd hcd).er'
/-! ### a tuple times a number -/
theorem tuple_mul1 (l : Addr) (items : Array Value) (n : Nat) (dd : Option Addr) (sl : Array (Option Value)) (u : Tok) :
    Meets (Builtin.«tuple.__mul__» ⟨[.ref l, .int 1 u], []⟩) (fun _ R s => s.heap.get? l = some { cls := .type "tuple", dict := dd, data := .seq items n, slots := sl } ∧ R (.ok (.ret (Value.ref l))) s) :=
  .of_wp fun prog w A R s h => by
    obtain ⟨hp, g, d, tk, os⟩ := s
    obtain ⟨hl, h⟩ := h
    have f1 := AutoSeq1.idx_int
    wp_walk using wpAny_loadPart' hl
    exact ⟨_, rfl, h⟩
def rRepN (K : PySem.W.Frag) : L2.R2 := fun x y H Q => ∃ (l : Addr) (n : Nat) (xs : List V), x = .ref l ∧ y = .int (n : Int) ∧ SqT K H l xs ∧ xs ≠ [] ∧ 1 ≤ n ∧ n ≤ 1000 ∧ xs.length ≤ 1000 ∧ (n = 1 → Q (.ref l) H) ∧ (2 ≤ n → ∀ p, H p = none → Q (.ref p) (upd H p (.tup (List.replicate n xs).flatten)))
theorem op_repN : OpR X (binaryOp .Mult) (rRepN X.K) := by
  intro pins s σ H x y v u Q I rx ry h
  obtain ⟨l, n, xs, rfl, rfl, hT, hne, h1, h2, hz, q1, q2⟩ := h
  by_cases hn : n = 1
  · subst hn
    cases rx
    obtain ⟨t, rfl⟩ := ry
    obtain ⟨its, r, ⟨⟨cls, dd, data, sl⟩, ho, hc, m, hd⟩, hs⟩ := I.tuple hT
    simp only at hc hd
    subst hc hd
    exact wpAny_binaryOp_repeat_ref (T := "tuple") (U := "int") (by decide) ⟨_, ho, rfl⟩ (fun s' => typeIs_int s' _ t) noFill_tuple_mul F.fills_int_mul F.slot_int_rmul repeat_tuple F.slot_int_index.lookup
      (call_meets F.slot_int_rmul (typeIs_int s _ t) F.entry_int_rmul (F.args_int_rmul_2 _ _) (int_rmul_tuple _ t l its.toArray m dd sl)
        ⟨ho, rfl, ⟨_, ho, rfl⟩, call_meets F.slot_tuple_mul ⟨_, ho, rfl⟩ F.entry_tuple_mul (F.args_tuple_mul_2 _ _) (tuple_mul1 l its.toArray m dd sl t) ⟨ho, ⟨.ref l, H, I, rfl, q1 rfl⟩⟩⟩)
  · exact op_repT pins s σ H _ _ v u Q I rx ry ⟨l, n, xs, rfl, rfl, hT, hne, by omega, by omega, hz, by rw [Int.toNat_natCast]; exact q2 (by omega)⟩
theorem DnL.rep {F : Hp} {vs : List V} {ds : List D} (h : DnL F vs ds) : ∀ n : Nat, DnL F (List.replicate n vs).flatten (List.replicate n ds).flatten
  | 0 => .nil
  | n + 1 => by
    rw [List.replicate_succ, List.replicate_succ, List.flatten_cons, List.flatten_cons]
    exact h.app (DnL.rep h n)
theorem r2_rep {K : PySem.W.Frag} {ds : List D} {n : Nat} (hne : ds ≠ []) (h1 : 1 ≤ n) (h2 : n ≤ 1000) (hz : ds.length ≤ 1000) : R2 (rRepN K) (.tup ds) (.int n) (· = .tup (List.replicate n ds).flatten) := fun F H v w eh hv hw Q q => by
  cases hv with
  | @tup a xs _ ha hl =>
    cases hw
    refine ⟨a, n, xs, rfl, rfl, sq_t eh ha, fun e => hne ?_, h1, h2, by rw [hl.len]; exact hz, fun e => ?_, fun _ p hp => ?_⟩
    · subst e; cases hl; rfl
    · subst e
      refine q _ _ F H rfl (Ext.refl eh) ?_
      rw [List.replicate_one, List.flatten_cons, List.flatten_nil, List.append_nil]
      exact .tup ha hl
    · exact q _ _ _ _ rfl (Ext.new eh hp) (.tup upd_same ((hl.rep n).mono (Ex.new (eh.none hp))))
theorem j_rep (h : Er sl ms (wE X a) fun x => Er sl ms (wE X b) fun y => ∃ (ds : List D) (n : Nat), x = .tup ds ∧ y = .int n ∧ ds ≠ [] ∧ 1 ≤ n ∧ n ≤ 1000 ∧ ds.length ≤ 1000 ∧ R (.tup (List.replicate n ds).flatten)) : Er sl ms (wE X (.BinOp a .Mult b pos)) R :=
  Er.of (pe_op op_repN pe_w pe_w) (er_op' (h.mono fun _ h => h.mono fun _ ⟨_, _, e1, e2, h0, h1, h2, h3, k⟩ => by rw [e1, e2]; exact R2.done (r2_rep h0 h1 h2 h3) k))
/-! ### tuple(range(n)) -/
theorem dn_numbers {F : Hp} {n : Nat} : DnL F (rgV 0 (n : Int)) (numbers n) := by
  unfold rgV numbers
  rw [show ((n : Int) - 0).toNat = n by omega]
  have : ∀ l : List Nat, DnL F (l.map fun i => V.int (0 + (i : Nat))) (l.map fun i => D.int (i : Nat)) := fun l => by
    induction l with
    | nil => exact .nil
    | cons i l ih =>
      refine .cons ?_ ih
      show Dn F (V.int (0 + ((i : Nat) : Int))) (D.int ((i : Nat) : Int))
      rw [Int.zero_add]
      exact .int _
  exact this _
theorem j_tupRange (hc : X.calm = true) (hm : X.mg "tuple" = none) (hm2 : X.mg "range" = none) (h : Er sl ms (wE X e) fun x => ∃ n : Nat, x = .int n ∧ n ≤ 100000 ∧ R (.tup (numbers n))) (hg : Gl X "tuple" := by rfl) (hg2 : Gl X "range" := by rfl)
    (na : starEach [e] X.env = (false, eval e X.env) :: starEach [] X.env := by rfl) (na2 : starEach [.Call (.Name "range" p2) [e] [] p3] X.env = (false, eval (.Call (.Name "range" p2) [e] [] p3) X.env) :: starEach [] X.env := by rfl) :
    Er sl ms (wE X (.Call (.Name "tuple" p) [.Call (.Name "range" p2) [e] [] p3] [] pos)) R :=
  Er.of (pe_tupRg hc hg hm (prg_1 hg2 hm2 pe_w na) na2) fun ho F0 H0 F ps ex σ H at0 Q q => h ho F0 H0 F ps ex σ H at0 _ fun v d F1 H1 ⟨n, e, hn, k⟩ a1 => by
    subst e
    cases a1.top
    exact ⟨n, rfl, RgOk.of_le (by omega) (by omega) (by omega) (by omega), fun l hl => q _ _ _ _ k ((a1.pop.laid hl).push (.tup upd_same dn_numbers))⟩
end
end E
set_option Elab.async false
set_option linter.all false
set_option maxRecDepth 100000
set_option pp.maxSteps 1500
/-! The walk: what a lot shows, the lot that shows most. -/
namespace A
open PySem PySem.Spec PyProof.Rows L2 E
theorem atq {q : List Case} {n : Int} (h : 0 ≤ n ∧ n < (q.length : Int)) : L2.atI (q.map caseD) n = some (caseD (caseAt q n)) := by
  have := atI_nat (ds := q.map caseD) (n := n.toNat) (d := caseD (caseAt q n)) (by rw [List.getElem?_map, caseAt_get h]; rfl)
  rwa [show ((n.toNat : Nat) : Int) = n by omega] at this
def fieldF (q : List Case) (f : Case → Int) : D → D
  | .int n => .int (f (caseAt q n))
  | _ => .non
theorem field_list (q : List Case) (f : Case → Int) (L : List Int) : ((L.map D.int).filter fun _ => true).map (fieldF q f) = (L.map fun n => f (caseAt q n)).map D.int := by
  rw [filter_all, List.map_map, List.map_map]
  rfl
theorem day_inj {L M : List Int} (h : dayD L = dayD M) : L = M := by
  have h1 : L.map D.int = M.map D.int := by injection h
  have h2 := congrArg (List.map toI) h1
  rwa [toI_int, toI_int] at h2
theorem qday_inj {q q' : List Case} {p p' : List Int} (h : [queueD q, dayD p] = [queueD q', dayD p']) : q = q' ∧ p = p' := by
  injection h with h1 h2
  injection h2 with h2 _
  exact ⟨queue_inj h1, day_inj h2⟩
/-- places of cases -/
structure Idx (q : List Case) (L : List Int) : Prop where
  ne : L ≠ []
  len : L.length < 100000
  lt : ∀ n ∈ L, 0 ≤ n ∧ n < (q.length : Int)
section
variable {P : Program} {w : World} {K : PySem.W.Frag} {mg : Str → Option Value} {base : Heap}
abbrev sp_shown : Sp := spD 2 (fun ds => ∃ q L, ds = [queueD q, dayD L] ∧ Idx q L) fun ds d => ∀ q L, ds = [queueD q, dayD L] → d = .int (bound q L)
abbrev N_shown : List Str := ["queue", "lot", "comes", "due", "number"]
theorem S_shown : FnScope N_shown ["queue", "lot"] (sc 20) := ⟨rfl, rfl, rfl, by decide +kernel, rfl, by decide +kernel, by decide +kernel⟩
theorem ok_shown {f : Addr} {fd : FuncData} (F : Fun K "shown_by" "shown_by" (top 20) f fd) (T : Blt mg) : FnG P w K mg base 1 f fd ["queue", "lot"] sp_shown := by
  refine ok_D (m := 3) F S_shown rfl rfl fun cdv A outer s H E ds hr hl hp => ?_
  obtain ⟨q, L, rfl, hL⟩ := hp
  have hlen := hL.len
  have hpos : 0 < L.length := List.length_pos_iff.mpr hL.ne
  refine jss_cons (js_set 2 S_shown.nd rfl (j_min rfl T.min (El.er' (jl_lcF [("number", 4)] rfl S_shown.nd (blkOk_by (N := N_shown) (sc := sc 20) (by decide +kernel)) (own1 rfl) (ji_tup (j_var 1 rfl rfl ⟨L.map D.int, rfl, ?_⟩))))))
  refine ⟨by rw [List.length_map]; exact hlen, fun _ => true, fieldF q fun c => c.1, fun d acc hd => ?_, ?_⟩
  · obtain ⟨n, hn, rfl⟩ := List.mem_map.mp hd
    refine ⟨[4], _, fun s H C cl fp => jg_name 4 S_shown.nd rfl, fun _ h => h, fun s H C cl fp => jts_nil ⟨rfl, fun _ s H C cl fp => ?_⟩⟩
    exact j_ixT (j_ixT (j_var 0 rfl rfl (j_var 4 rfl rfl ⟨_, _, _, rfl, rfl, atq (hL.lt n hn), j_int ⟨_, _, _, rfl, rfl, rfl, rfl⟩⟩)))
  rw [field_list]
  refine ⟨_, minI (L.map fun n => (caseAt q n).1), rfl, by rw [List.length_map]; exact hpos, fun k hk hy => minI_eq hk hy, ?_⟩
  refine jss_cons (js_set 3 S_shown.nd rfl (j_max rfl T.max (El.er' (jl_lcF [("number", 4)] rfl S_shown.nd (blkOk_by (N := N_shown) (sc := sc 20) (by decide +kernel)) (own1 rfl) (ji_tup (j_var 1 rfl rfl ⟨L.map D.int, rfl, ?_⟩))))))
  refine ⟨by rw [List.length_map]; exact hlen, fun _ => true, fieldF q fun c => c.2.2, fun d acc hd => ?_, ?_⟩
  · obtain ⟨n, hn, rfl⟩ := List.mem_map.mp hd
    refine ⟨[4], _, fun s H C cl fp => jg_name 4 S_shown.nd rfl, fun _ h => h, fun s H C cl fp => jts_nil ⟨rfl, fun _ s H C cl fp => ?_⟩⟩
    exact j_ixT (j_ixT (j_var 0 rfl rfl (j_var 4 rfl rfl ⟨_, _, _, rfl, rfl, atq (hL.lt n hn), j_int ⟨_, _, _, rfl, rfl, rfl, rfl⟩⟩)))
  rw [field_list]
  refine ⟨_, maxI (L.map fun n => (caseAt q n).2.2), rfl, by rw [List.length_map]; exact hpos, fun k hk hy => maxI_eq hk hy, ?_⟩
  refine jss_one (js_ret (j_sub (j_add (j_var 2 rfl rfl (j_sum rfl T.sum (El.er' (jl_lcF [("number", 4)] rfl S_shown.nd (blkOk_by (N := N_shown) (sc := sc 20) (by decide +kernel)) (own1 rfl) (ji_tup (j_var 1 rfl rfl ⟨L.map D.int, rfl, ?_⟩)))))))))
  refine ⟨by rw [List.length_map]; exact hlen, fun _ => true, fieldF q fun c => c.2.1, fun d acc hd => ?_, ?_⟩
  · obtain ⟨n, hn, rfl⟩ := List.mem_map.mp hd
    refine ⟨[4], _, fun s H C cl fp => jg_name 4 S_shown.nd rfl, fun _ h => h, fun s H C cl fp => jts_nil ⟨rfl, fun _ s H C cl fp => ?_⟩⟩
    exact j_ixT (j_ixT (j_var 0 rfl rfl (j_var 4 rfl rfl ⟨_, _, _, rfl, rfl, atq (hL.lt n hn), j_int ⟨_, _, _, rfl, rfl, rfl, rfl⟩⟩)))
  rw [field_list]
  refine ⟨_, rfl, _, _, rfl, rfl, j_var 3 rfl rfl ⟨_, _, rfl, rfl, fun q' L' hy => ?_⟩⟩
  obtain ⟨rfl, rfl⟩ := qday_inj hy
  rfl
/-! the lot that shows most -/
def better (best : Option (Int × List Int)) (here : Int × List Int) : Option (Int × List Int) := match best with
  | none => some here
  | some m => if m.1 < here.1 then some here else some m
def showStep (q : List Case) (a : Case) (best : Option (Int × List Int)) (b : Case) : Option (Int × List Int) :=
  if lotOf2 q a.1 b.2.2 = [] then best else better best (bound q (lotOf2 q a.1 b.2.2), lotOf2 q a.1 b.2.2)
def showRow (q : List Case) (r : List Case) (best : Option (Int × List Int)) (a : Case) : Option (Int × List Int) := r.foldl (showStep q a) best
def showAll (q : List Case) : Option (Int × List Int) := q.foldl (showRow q q) none
def optD : Option (Int × List Int) → D
  | none => .non
  | some m => .tup [.int m.1, dayD m.2]
def lotF (a d : Int) : D → Bool
  | .tup [_, .tup [c, _, e]] => decide (a ≤ toI c) && decide (toI e ≤ d)
  | _ => false
theorem lot_list (a d : Int) : ∀ (k : Nat) (q : List Case), ((enumFrom k (q.map caseD)).filter (lotF a d)).map fstF = (lotFrom a d k q).map D.int
  | _, [] => rfl
  | k, c :: q => by
    have ih := lot_list a d (k + 1) q
    show ((.tup [.int (k : Nat), caseD c] :: enumFrom (k + 1) (q.map caseD)).filter (lotF a d)).map fstF = _
    have e : lotF a d (.tup [.int (k : Nat), caseD c]) = (decide (a ≤ c.1) && decide (c.2.2 ≤ d)) := rfl
    rw [List.filter_cons, e, lotFrom]
    by_cases h : a ≤ c.1 ∧ c.2.2 ≤ d
    · rw [if_pos (by simp [h]), if_pos h, List.map_cons, ih]; rfl
    · rw [if_neg (by simpa using h), if_neg h, ih]
theorem lot_len (a d : Int) : ∀ (k : Nat) (q : List Case), (lotFrom a d k q).length ≤ q.length
  | _, [] => Nat.le_refl _
  | k, c :: q => by
    have := lot_len a d (k + 1) q
    rw [lotFrom]
    split
    · rw [List.length_cons, List.length_cons]; omega
    · rw [List.length_cons]; omega
abbrev sp_showing : Sp := spD 1 (fun ds => ∃ q, ds = [queueD q] ∧ q.length ≤ 10) fun ds d => ∀ q, ds = [queueD q] → d = optD (showAll q)
abbrev N_showing : List Str := ["queue", "best", "first", "last", "lot", "here", "at", "case"]
theorem S_showing : FnScope N_showing ["queue"] (sc 21) := ⟨rfl, rfl, rfl, by decide +kernel, rfl, by decide +kernel, by decide +kernel⟩
theorem ok_showing {f : Addr} {fd : FuncData} (F : Fun K "showing_lot" "showing_lot" (top 21) f fd) (T : Blt mg) (c1 : Cl P w K mg base 1 "shown_by" sp_shown) : FnG P w K mg base 2 f fd ["queue"] sp_showing := by
  refine ok_D (m := 7) F S_showing rfl rfl fun cdv A outer s H E ds hr hl hp => ?_
  obtain ⟨q, rfl, h10⟩ := hp
  refine jss_cons (js_set 1 S_showing.nd rfl (j_non ?_))
  refine jss_cons (js_for PassesOwn.never rfl (ji_tup (j_var 0 rfl rfl ⟨q.map caseD, rfl, ?_⟩)))
  refine ⟨fun k sl ms => ∃ t1 t2 t3 t4, sl = [.d (queueD q), .d (optD ((q.take k).foldl (showRow q q) none)), t1, t2, t3, t4, .u, .u] ∧ ms = [], ⟨_, _, _, _, rfl, rfl⟩, ?_, ?_⟩
  · rintro k d sl1 ms1 hd ⟨t1, t2, t3, t4, rfl, rfl⟩
    obtain ⟨a, ha, rfl⟩ := getF hd
    generalize hB : (q.take k).foldl (showRow q q) none = B
    refine ⟨_, _, jg_name 2 S_showing.nd rfl, ?_⟩
    refine jss_one (js_for PassesOwn.never rfl (ji_tup (j_var 0 rfl rfl ⟨q.map caseD, rfl, ?_⟩)))
    refine ⟨fun j sl ms => ∃ t2 t3 t4, sl = [.d (queueD q), .d (optD ((q.take j).foldl (showStep q a) B)), .d (caseD a), t2, t3, t4, .u, .u] ∧ ms = [], ⟨_, _, _, rfl, rfl⟩, ?_, ?_⟩
    · rintro j d sl1 ms1 hd ⟨t2, t3, t4, rfl, rfl⟩
      obtain ⟨b, hb, rfl⟩ := getF hd
      have hnext : (q.take (j + 1)).foldl (showStep q a) B = showStep q a ((q.take j).foldl (showStep q a) B) b := by
        rw [List.take_add_one, hb, List.foldl_append]; rfl
      generalize (q.take j).foldl (showStep q a) B = C at hnext
      refine ⟨_, _, jg_name 3 S_showing.nd rfl, ?_⟩
      refine jss_cons (js_set 4 S_showing.nd rfl (j_tupleL T.tup (El.er' (jl_lcF [("at", 6), ("case", 7)] rfl S_showing.nd (blkOk_by (N := N_showing) (sc := sc 21) (by decide +kernel)) (own2 rfl rfl) (ji_enumT T.enum (j_var 0 rfl rfl ⟨q.map caseD, rfl, ?_⟩))))))
      refine ⟨by rw [enumFrom_len, List.length_map]; omega, lotF a.1 b.2.2, fstF, fun d acc hd => ?_, ?_⟩
      · obtain ⟨i, hi⟩ := List.getElem?_of_mem hd
        obtain ⟨y, hy, rfl⟩ := enumD_get hi
        obtain ⟨c, hc, rfl⟩ := getF hy
        refine ⟨[6, 7], _, fun s H C cl fp => jg_tup rfl (jgs_cons (jg_name 6 S_showing.nd rfl) (jgs_cons (jg_name 7 S_showing.nd rfl) jgs_nil)), fun _ h => h, fun s H C cl fp => jts_one (jt_w (jw_and (jt_cmp (j_ixT (j_var 7 rfl rfl (j_int ⟨_, _, _, rfl, rfl, rfl, ?_⟩))))))⟩
        refine j_ixT (j_var 2 rfl rfl (j_int ⟨_, _, _, rfl, rfl, rfl, _, .ge _ _, fun e1 => ?_, fun e1 => ⟨?_, fun z => by cases z⟩⟩))
        · refine jw_and1 (jt_cmp (j_ixT (j_var 7 rfl rfl (j_int ⟨_, _, _, rfl, rfl, rfl, j_ixT (j_var 3 rfl rfl (j_int ⟨_, _, _, rfl, rfl, rfl, _, .le _ _, ?_, fun _ s H C cl fp => j_var 6 rfl rfl rfl⟩))⟩))))
          show decide (c.2.2 ≤ b.2.2) = (decide (a.1 ≤ c.1) && decide (c.2.2 ≤ b.2.2))
          rw [e1, Bool.true_and]
        · show false = (decide (a.1 ≤ c.1) && decide (c.2.2 ≤ b.2.2))
          rw [e1, Bool.false_and]
      rw [lot_list]
      refine ⟨_, rfl, ?_⟩
      generalize hL : lotFrom a.1 b.2.2 0 q = L
      have hL2 : lotOf2 q a.1 b.2.2 = L := hL
      have hlen : L.length ≤ 10 := by rw [← hL]; exact Nat.le_trans (lot_len _ _ _ _) h10
      have hstep : showStep q a C b = if L = [] then C else better C (bound q L, L) := by
        unfold showStep
        rw [hL2]
      have fin : ∀ {sl : List Sl} {ms : List (List D)} {C' : Option (Int × List Int)}, (∃ t2 t3 t4, sl = [.d (queueD q), .d (optD C'), .d (caseD a), t2, t3, t4, .u, .u]) → ms = [] → showStep q a C b = C' →
          ∃ t2 t3 t4, sl = [.d (queueD q), .d (optD ((q.take (j + 1)).foldl (showStep q a) B)), .d (caseD a), t2, t3, t4, .u, .u] ∧ ms = [] := fun {sl ms C'} ⟨t2, t3, t4, h1⟩ h2 h3 => ⟨t2, t3, t4, by rw [h1, hnext, h3], h2⟩
      refine jss_one (js_if (jt_cmp (j_len T.len (j_var 4 rfl rfl ⟨_, .inl ⟨_, rfl, rfl⟩, j_int ⟨_, .gt _ _, fun e => ?_, fun e => ?_⟩⟩))))
      · have hne : L ≠ [] := fun z => by subst z; simp at e
        have hidx : Idx q L := ⟨hne, by omega, fun n hn => by
          rw [← hL] at hn
          obtain ⟨j, c, h1, h2, _⟩ := mem_lot.mp hn
          have := (List.getElem?_eq_some_iff.mp h2).1
          omega⟩
        rw [if_neg hne] at hstep
        refine jss_cons (js_set 5 S_showing.nd rfl (j_tup (j_cons (j_call c1 hr (by decide) (j_cons (j_var 0 rfl rfl (j_cons (j_var 4 rfl rfl (j_nil ⟨rfl, ⟨q, L, rfl, hidx⟩, fun d hd => ?_⟩)))))))))
        obtain rfl := hd q L rfl
        refine j_cons (j_var 4 rfl rfl (j_nil ⟨Nat.le_of_ble_eq_true rfl, ?_⟩))
        refine jss_one (js_set 1 S_showing.nd rfl (j_if (jt_w (jw_or (jt_isN (j_var 1 rfl rfl ⟨fun e1 => ?_, fun e1 => ⟨fun _ => j_var 5 rfl rfl ?_, fun z => by cases z⟩⟩))))))
        · cases C with
          | none => cases e1
          | some m =>
            refine jw_or1 (jt_cmp (j_ixT (j_var 5 rfl rfl (j_int ⟨_, _, _, rfl, rfl, rfl, j_ixT (j_var 1 rfl rfl (j_int ⟨_, _, _, rfl, rfl, rfl, _, .gt _ _, fun e2 => j_var 5 rfl rfl ?_, fun e2 => j_var 1 rfl rfl ?_⟩))⟩))))
            · exact fin (C' := some (bound q L, L)) ⟨_, _, _, rfl⟩ rfl (by rw [hstep, better, if_pos (of_decide_eq_true e2)])
            · exact fin (C' := some m) ⟨_, _, _, rfl⟩ rfl (by rw [hstep, better, if_neg (of_decide_eq_false e2)])
        · cases C with
          | some m => cases e1
          | none =>
            exact fin (C' := some (bound q L, L)) ⟨_, _, _, rfl⟩ rfl (by rw [hstep, better])
      · have h0 : L = [] := by
          have := of_decide_eq_false e
          rw [List.length_map] at this
          exact List.eq_nil_of_length_eq_zero (by omega)
        rw [if_pos h0] at hstep
        exact jss_nil (fin (C' := C) ⟨_, _, _, rfl⟩ rfl hstep)
    · rintro sl1 ms1 ⟨t2, t3, t4, rfl, rfl⟩
      have e : (q.take (k + 1)).foldl (showRow q q) none = q.foldl (showStep q a) B := by
        rw [List.take_add_one, ha, List.foldl_append, hB]
        rfl
      refine ⟨.d (caseD a), t2, t3, t4, ?_, rfl⟩
      rw [List.length_map, List.take_length, e]
  · rintro sl1 ms1 ⟨t1, t2, t3, t4, rfl, rfl⟩
    rw [List.length_map, List.take_length]
    refine jss_one (js_ret (j_var 1 rfl rfl fun q' hy => ?_))
    injection hy with hy _
    obtain rfl := queue_inj hy
    rfl
end
end A
set_option Elab.async false
set_option linter.all false
set_option maxRecDepth 100000
set_option pp.maxSteps 1500
/-! The lot that shows most: what it is; the defs over it. -/
namespace A
open PySem PySem.Spec PyProof.Rows L2 E
theorem fold_keep {α β : Type} {f : β → α → β} {P : β → Prop} (h : ∀ s x, P s → P (f s x)) : ∀ (l : List α) (s : β), P s → P (l.foldl f s)
  | [], s, p => p
  | x :: l, s, p => fold_keep h l (f s x) (h s x p)
theorem fold_get {α β : Type} {f : β → α → β} {P : β → Prop} (h : ∀ s x, P s → P (f s x)) : ∀ (l : List α) (s : β) {x : α}, x ∈ l → (∀ s, P (f s x)) → P (l.foldl f s)
  | y :: l, s, x, hx, hp => by
    rcases List.mem_cons.mp hx with rfl | hx
    · exact fold_keep h l _ (hp s)
    · exact fold_get h l _ hx hp
def GeO (x : Int) (o : Option (Int × List Int)) : Prop := ∃ m, o = some m ∧ x ≤ m.1
def FromO (q : List Case) (o : Option (Int × List Int)) : Prop := ∀ m, o = some m → ∃ a d, m = (bound q (lotOf2 q a d), lotOf2 q a d) ∧ lotOf2 q a d ≠ []
theorem step_ge {q : List Case} {a : Case} (x : Int) : ∀ (s : Option (Int × List Int)) (b : Case), GeO x s → GeO x (showStep q a s b) := fun s b ⟨m, e, h⟩ => by
  subst e
  unfold showStep
  split
  · exact ⟨m, rfl, h⟩
  · unfold better
    simp only
    split
    · exact ⟨_, rfl, by show x ≤ bound _ _; omega⟩
    · exact ⟨m, rfl, h⟩
theorem step_new {q : List Case} {a b : Case} (h : lotOf2 q a.1 b.2.2 ≠ []) (s : Option (Int × List Int)) : GeO (bound q (lotOf2 q a.1 b.2.2)) (showStep q a s b) := by
  unfold showStep
  rw [if_neg h]
  unfold better
  cases s with
  | none => exact ⟨_, rfl, Int.le_refl _⟩
  | some m =>
    simp only
    split
    · exact ⟨_, rfl, Int.le_refl _⟩
    · exact ⟨m, rfl, by omega⟩
theorem step_from {q : List Case} {a : Case} : ∀ (s : Option (Int × List Int)) (b : Case), FromO q s → FromO q (showStep q a s b) := fun s b h => by
  unfold showStep
  split
  · exact h
  · rename_i hne
    unfold better
    cases s with
    | none => intro m e; cases e; exact ⟨_, _, rfl, hne⟩
    | some m =>
      simp only
      split
      · intro m e; cases e; exact ⟨_, _, rfl, hne⟩
      · exact h
theorem show_ge {q : List Case} {a b : Case} (ha : a ∈ q) (hb : b ∈ q) (h : lotOf2 q a.1 b.2.2 ≠ []) : GeO (bound q (lotOf2 q a.1 b.2.2)) (showAll q) :=
  fold_get (fun s x p => fold_keep (step_ge _) q s p) q none ha fun s => fold_get (step_ge _) q s hb fun s => step_new h s
theorem show_from (q : List Case) : FromO q (showAll q) := fold_keep (fun s x p => fold_keep step_from q s p) q none fun m e => by cases e
theorem show_some {q : List Case} (h : q ≠ []) : ∃ m, showAll q = some m := by
  obtain ⟨c, hc⟩ := List.exists_mem_of_ne_nil q h
  obtain ⟨j, hj⟩ := List.getElem?_of_mem hc
  have hne : lotOf2 q c.1 c.2.2 ≠ [] := fun z => by
    have : ((0 + j : Nat) : Int) ∈ lotOf2 q c.1 c.2.2 := mem_lot.mpr ⟨j, c, rfl, hj, Int.le_refl _, Int.le_refl _⟩
    rw [z] at this; cases this
  obtain ⟨m, e, _⟩ := show_ge hc hc hne
  exact ⟨m, e⟩
theorem qne {q : List Case} (hq : Qok q) : q ≠ [] := fun z => by have := hq.h1; rw [z] at this; simp at this
theorem show_led {q : List Case} (hq : Qok q) {m : Nat} (hm : LedAt q m) : ∃ L, showAll q = some (lateOf q (ledN q m).2, L) ∧ LotOk q L ∧ incr L = true ∧ bound q L = lateOf q (ledN q m).2 := by
  obtain ⟨c, hc, e, he, hne, hle⟩ := up_bound hq hm
  obtain ⟨n, hn, hge⟩ := show_ge hc he hne
  obtain ⟨a, d, hv, hl⟩ := show_from q n hn
  have hlo := low_bound hq (led_fine hq hm).1 (led_single q m) (lot_ok hl)
  have hv1 : n.1 = bound q (lotOf2 q a d) := by rw [hv]
  have hv2 : n.2 = lotOf2 q a d := by rw [hv]
  have e1 : n.1 = lateOf q (ledN q m).2 := by omega
  refine ⟨n.2, by rw [hn, ← e1], by rw [hv2]; exact lot_ok hl, by rw [hv2]; exact incr_pair.mpr lot_incr, by rw [hv2, ← hv1, e1]⟩
theorem led_ex {q : List Case} (hq : Qok q) : ∃ m, LedAt q m := by
  have : ∀ (k n : Nat), ledM q n ≤ k → (∀ j, j < n → 0 < (ledN q j).1.sum) → ∃ m, LedAt q m := by
    intro k
    induction k with
    | zero =>
      intro n h hall
      by_cases hp : 0 < (ledN q n).1.sum
      · have := led_down hq hp; omega
      · exact ⟨n, by omega, hall⟩
    | succ k ih =>
      intro n h hall
      by_cases hp : 0 < (ledN q n).1.sum
      · have := led_down hq hp
        exact ih (n + 1) (by omega) fun j hj => by
          by_cases e : j = n
          · rw [e]; exact hp
          · exact hall j (by omega)
      · exact ⟨n, by omega, hall⟩
  exact this _ 0 (Nat.le_refl _) fun j hj => absurd hj (Nat.not_lt_zero _)
/-! what judges a triple -/
def planL : D → List (List Int)
  | .tup l => l.map lotOf
  | _ => []
def leastB (q : List Case) (x : D) : Bool := match x with
  | .tup [a, p, l] => isInt a && planB q 1 p && decide (lateOf q (planL p) = toI a) && isLot l q.length && !decide (lenT l = 0) && decide (bound q (lotOf l) = toI a)
  | _ => false
theorem lot_form {x : D} {n : Int} (h : isLot x n = true) : ∃ L : List Int, x = dayD L ∧ incr L = true ∧ ∀ k ∈ L, 0 ≤ k ∧ k < n := by
  cases x with
  | tup l =>
    have h' : (l.all (within · 0 (n - 1)) && incr (l.map toI)) = true := h
    rw [Bool.and_eq_true, List.all_eq_true] at h'
    have e : l = (l.map toI).map D.int := by
      rw [List.map_map]
      have : ∀ l : List D, (∀ x ∈ l, within x 0 (n - 1) = true) → l = l.map (D.int ∘ toI) := fun l => by
        induction l with
        | nil => intro _; rfl
        | cons a l ih =>
          intro hl
          obtain ⟨i, rfl, _⟩ := within_int (hl a List.mem_cons_self)
          rw [List.map_cons, ← ih fun x hx => hl x (List.mem_cons_of_mem _ hx)]
          rfl
      exact this l h'.1
    refine ⟨l.map toI, by show D.tup l = D.tup _; rw [← e], h'.2, fun k hk => ?_⟩
    obtain ⟨x, hx, rfl⟩ := List.mem_map.mp hk
    obtain ⟨i, rfl, h1, h2⟩ := within_int (h'.1 x hx)
    show 0 ≤ i ∧ i < n
    omega
  | _ => cases h
theorem plan_form {q : List Case} {i : Int} {x : D} (h : planB q i x = true) : x = planD (planL x) := by
  cases x with
  | tup l =>
    have h' : (decide ((l.length : Int) ≤ 120) && l.all (fun d => isLot d q.length && decide ((lenT d : Int) ≤ i)) && casesOk (l.map lotOf) 0 q) = true := h
    rw [Bool.and_eq_true, Bool.and_eq_true, List.all_eq_true] at h'
    show D.tup l = D.tup ((l.map lotOf).map dayD)
    congr 1
    rw [List.map_map]
    have : ∀ l : List D, (∀ x ∈ l, (isLot x q.length && decide ((lenT x : Int) ≤ i)) = true) → l = l.map (dayD ∘ lotOf) := fun l => by
      induction l with
      | nil => intro _; rfl
      | cons a l ih =>
        intro hl
        have h1 := hl a List.mem_cons_self
        rw [Bool.and_eq_true] at h1
        obtain ⟨L, rfl, _⟩ := lot_form h1.1
        rw [List.map_cons, ← ih fun x hx => hl x (List.mem_cons_of_mem _ hx)]
        congr 1
        show dayD L = dayD ((L.map D.int).map toI)
        rw [toI_int]
    exact this l h'.1.2
  | _ => cases h
theorem sized33 {x : D} (h : sized x 3 3 = true) : ∃ a b c, x = .tup [a, b, c] := by
  cases x with
  | tup l =>
    have h' : (decide ((3 : Int) ≤ (l.length : Int)) && decide ((l.length : Int) ≤ 3)) = true := h
    rw [Bool.and_eq_true, decide_eq_true_iff, decide_eq_true_iff] at h'
    match l, h' with
    | [a, b, c], _ => exact ⟨a, b, c, rfl⟩
    | [], h => simp at h
    | [_], h => simp at h
    | [_, _], h => simp at h
    | _ :: _ :: _ :: _ :: _, h => simp at h; omega
  | _ => cases h
theorem sized3_not {q : List Case} {x : D} (h : sized x 3 3 = false) : leastB q x = false := by
  cases x with
  | tup l =>
    match l, h with
    | [a, b, c], h => exact absurd h (by simp [sized])
    | [], _ => rfl
    | [_], _ => rfl
    | [_, _], _ => rfl
    | _ :: _ :: _ :: _ :: _, _ => rfl
  | _ => rfl
structure LeastPre (x : D) : Prop where
  thin : ∀ a p l, x = .tup [a, p, l] → Thin p
  len : ∀ a p l, x = .tup [a, p, l] → lenT l < 60
theorem idx_of {q : List Case} {L : List Int} (h1 : L ≠ []) (h2 : L.length < 60) (h : ∀ k ∈ L, 0 ≤ k ∧ k < (q.length : Int)) : Idx q L := ⟨h1, by omega, h⟩
def withMore (q : List Case) (ms : List Int) : List Case := (q.zip ms).map fun x => (x.1.1, x.1.2.1 + x.2, x.1.2.2)
def moreF : D → D
  | .tup [.tup [c, w, d], m] => .tup [c, .int (toI w + toI m), d]
  | _ => .non
theorem more_list (q : List Case) (ms : List Int) : ((zipD (q.map caseD) (ms.map D.int)).filter fun _ => true).map moreF = (withMore q ms).map caseD := by
  rw [filter_all]
  unfold zipD withMore
  rw [List.zip_map, List.map_map, List.map_map, List.map_map]
  rfl
section
variable {P : Program} {w : World} {K : PySem.W.Frag} {mg : Str → Option Value} {base : Heap}
abbrev sp_ll : Sp := spD 1 (fun ds => ∃ q, ds = [queueD q] ∧ Qok q) fun ds d => ∀ q, ds = [queueD q] → ∃ m L, LedAt q m ∧ showAll q = some (lateOf q (ledN q m).2, L) ∧ d = .tup [.int (lateOf q (ledN q m).2), planD (ledN q m).2, dayD L]
theorem S_ll : FnScope ["queue", "late", "lot"] ["queue"] (sc 22) := ⟨rfl, rfl, rfl, by decide +kernel, rfl, by decide +kernel, by decide +kernel⟩
theorem ok_ll {f : Addr} {fd : FuncData} (F : Fun K "least_late" "least_late" (top 22) f fd) (c8 : Cl P w K mg base 5 "check_queue" sp_check) (c2 : Cl P w K mg base 2 "showing_lot" sp_showing) (c12 : Cl P w K mg base 1 "plan_by_dues" sp_led) : FnG P w K mg base 6 f fd ["queue"] sp_ll := by
  refine ok_D (m := 2) F S_ll rfl rfl fun cdv A outer s H E ds hr hl hp => ?_
  obtain ⟨q, rfl, hq⟩ := hp
  refine jss_cons (js_expr (j_call c8 hr (by decide) (j_cons (j_var 0 rfl rfl (j_nil ⟨rfl, ⟨_, rfl, isQueue_ok hq⟩, fun d hd => ?_⟩)))))
  refine jss_cons (js_tg (j_call c2 hr (by decide) (j_cons (j_var 0 rfl rfl (j_nil ⟨rfl, ⟨q, rfl, hq.h10⟩, fun d hd => ?_⟩)))))
  obtain rfl := hd q rfl
  obtain ⟨m, hm⟩ := led_ex hq
  obtain ⟨L, hL, _⟩ := show_led hq hm
  rw [hL]
  refine ⟨_, _, jg_tup rfl (jgs_cons (jg_name 1 S_ll.nd rfl) (jgs_cons (jg_name 2 S_ll.nd rfl) jgs_nil)), ?_⟩
  refine jss_one (js_ret (j_tup (j_cons (j_var 1 rfl rfl (j_cons (j_call c12 hr (by decide) (j_cons (j_var 0 rfl rfl (j_nil ⟨rfl, ⟨_, rfl, hq⟩, fun d hd => ?_⟩)))))))))
  obtain ⟨m', hm', rfl⟩ := hd q rfl
  obtain rfl := hm.uniq hm'
  refine j_cons (j_var 2 rfl rfl (j_nil ⟨Nat.le_of_ble_eq_true rfl, fun q' hy => ?_⟩))
  injection hy with hy _
  obtain rfl := queue_inj hy
  exact ⟨m, L, hm, hL, rfl⟩
abbrev sp_ill : Sp := spD 2 (fun ds => ∃ q x, ds = [queueD q, x] ∧ Qok q ∧ LeastPre x) fun ds d => ∀ q x, ds = [queueD q, x] → d = .bl (leastB q x)
abbrev sp_more : Sp := spD 2 (fun ds => ∃ q ms, ds = [queueD q, dayD ms] ∧ q.length ≤ 10 ∧ ms.length ≤ 10) fun ds d => ∀ q ms, ds = [queueD q, dayD ms] → d = queueD (withMore q ms)
abbrev N_more : List Str := ["queue", "more", "comes", "work", "due", "one"]
theorem S_more : FnScope N_more ["queue", "more"] (sc 27) := ⟨rfl, rfl, rfl, by decide +kernel, rfl, by decide +kernel, by decide +kernel⟩
theorem own4 {sl : List Sl} {x y z u : Str} {a b c d : Nat} (h : sl[a]? = some .u) (h' : sl[b]? = some .u) (h'' : sl[c]? = some .u) (h3 : sl[d]? = some .u) : ∀ j ∈ [(x, a), (y, b), (z, c), (u, d)].map (·.2), ∀ s, sl[j]? = some s → s = .u := fun j hj s hs => by
  have e : j = a ∨ j = b ∨ j = c ∨ j = d := by simpa using hj
  rcases e with e | e | e | e
  · rw [e, h] at hs; cases hs; rfl
  · rw [e, h'] at hs; cases hs; rfl
  · rw [e, h''] at hs; cases hs; rfl
  · rw [e, h3] at hs; cases hs; rfl
theorem ok_more2 {f : Addr} {fd : FuncData} (F : Fun K "with_more" "with_more" (top 27) f fd) (T : Blt mg) : FnG P w K mg base 1 f fd ["queue", "more"] sp_more := by
  refine ok_D (m := 4) F S_more rfl rfl fun cdv A outer s H E ds hr hl hp => ?_
  obtain ⟨q, ms, rfl, h10, hm10⟩ := hp
  refine jss_one (js_ret (j_tupleL T.tup (El.er' (jl_lcF [("comes", 2), ("work", 3), ("due", 4), ("one", 5)] rfl S_more.nd (blkOk_by (N := N_more) (sc := sc 27) (by decide +kernel)) (own4 rfl rfl rfl rfl) (ji_zipT T.zip (j_var 0 rfl rfl (j_var 1 rfl rfl ⟨q.map caseD, ms.map D.int, rfl, rfl, ?_⟩)))))))
  refine ⟨by unfold zipD; rw [List.length_map, List.length_zip, List.length_map]; omega, fun _ => true, moreF, fun d acc hd => ?_, ?_⟩
  · obtain ⟨i, hi⟩ := List.getElem?_of_mem hd
    obtain ⟨x, y, hx, hy, rfl⟩ := zipD_get hi
    obtain ⟨c, hc, rfl⟩ := getF hx
    obtain ⟨m, hm, rfl⟩ := getF hy
    refine ⟨[2, 3, 4, 5], _, fun s H C cl fp => jg_tup rfl (jgs_cons (jg_tup rfl (jgs_cons (jg_name 2 S_more.nd rfl) (jgs_cons (jg_name 3 S_more.nd rfl) (jgs_cons (jg_name 4 S_more.nd rfl) jgs_nil)))) (jgs_cons (jg_name 5 S_more.nd rfl) jgs_nil)), fun _ h => h, fun s H C cl fp => jts_nil ⟨rfl, fun _ s H C cl fp => ?_⟩⟩
    exact j_tup (j_cons (j_var 2 rfl rfl (j_cons (j_add (j_var 3 rfl rfl (j_var 5 rfl rfl ⟨_, _, rfl, rfl, j_cons (j_var 4 rfl rfl (j_nil ⟨Nat.le_of_ble_eq_true rfl, rfl⟩))⟩))))))
  rw [more_list]
  refine ⟨_, rfl, fun q' ms' hy => ?_⟩
  obtain ⟨rfl, rfl⟩ := qday_inj hy
  rfl
theorem more_len (q : List Case) (ms : List Int) (h : ms.length = q.length) : (withMore q ms).length = q.length := by
  unfold withMore
  rw [List.length_map, List.length_zip]; omega
abbrev sp_sure : Sp := spD 2 (fun ds => ∃ q ms, ds = [queueD q, dayD ms] ∧ Qok q ∧ ms.length = q.length ∧ ∀ m ∈ ms, 0 ≤ m ∧ m ≤ 8) fun ds d => ∀ q ms, ds = [queueD q, dayD ms] → ∃ a b, showAll q = some a ∧ showAll (withMore q ms) = some b ∧ d = .tup [.int a.1, .int b.1]
theorem all_bls {l : List D} {f : D → D} {g : D → Bool} (h : ∀ d ∈ l, f d = .bl (g d)) : l.map f = (l.map g).map D.bl := by
  rw [List.map_map]
  exact List.map_congr_left h
end
end A
set_option Elab.async false
set_option linter.all false
set_option maxRecDepth 100000
set_option pp.maxSteps 1500
namespace A
open PySem PySem.Spec PyProof.Rows L2 E
theorem less_set (sl : List Sl) (i : Nat) : Less (sl.set i .u) sl := ⟨List.length_set, fun j s h => by
  by_cases e : i = j
  · subst e
    by_cases hi : i < sl.length
    · rw [List.getElem?_set_self hi] at h; cases h; exact .inl rfl
    · rw [List.getElem?_eq_none (by rw [List.length_set]; omega)] at h; cases h
  · rw [List.getElem?_set_ne e] at h; exact .inr h⟩
theorem pick_listA (day : Int) (q0 : List Case) : ∀ (k : Nat) (q : List Case) (r : List Int), r.length = q.length → (∀ j x, q[j]? = some x → q0[k + j]? = some x) → ((enumFrom k (r.map D.int)).filter (pickG q0 day)).map fstF = ((pickFrom k day q r).map (·.2)).map D.int
  | _, [], r, h, _ => by
    have : r = [] := List.eq_nil_of_length_eq_zero (by simpa using h)
    subst this; rfl
  | k, c :: q, [], h, _ => by simp at h
  | k, c :: q, x :: r, h, hr => by
    have ih := pick_listA day q0 (k + 1) q r (by simpa using h) fun j y hy => by
      have := hr (j + 1) y (by simpa using hy)
      rwa [show k + (j + 1) = k + 1 + j by omega] at this
    show ((.tup [.int (k : Nat), .int x] :: enumFrom (k + 1) (r.map D.int)).filter (pickG q0 day)).map fstF = _
    have hx : q0.getD k (0, 0, 0) = c := by
      have := hr 0 c rfl
      rw [Nat.add_zero] at this
      rw [List.getD_eq_getElem?_getD, this]; rfl
    have e : pickG q0 day (.tup [.int (k : Nat), .int x]) = (decide (0 < x) && decide (c.1 ≤ day)) := by
      show (decide (0 < x) && decide ((q0.getD ((k : Nat) : Int).toNat (0, 0, 0)).1 ≤ day)) = _
      rw [Int.toNat_natCast, hx]
    rw [List.filter_cons, e, pickFrom]
    by_cases hc : c.1 ≤ day ∧ 0 < x
    · rw [if_pos (by simp [hc]), if_pos hc, List.map_cons, ih]; rfl
    · rw [if_neg (by simp only [Bool.and_eq_true, decide_eq_true_eq]; exact fun z => hc ⟨z.2, z.1⟩), if_neg hc, ih]
theorem pick_up : ∀ {k : Nat} {day : Int} {q : List Case} {rest : List Int}, ((pickFrom k day q rest).map (·.2)).Pairwise (· < ·) ∧ ∀ x ∈ (pickFrom k day q rest).map (·.2), (k : Int) ≤ x
  | k, day, [], rest => by cases rest <;> simp [pickFrom]
  | k, day, _ :: _, [] => by simp [pickFrom]
  | k, day, c :: q, r :: rest => by
    obtain ⟨h1, h2⟩ := @pick_up (k + 1) day q rest
    rw [pickFrom]
    split
    · rw [List.map_cons, List.pairwise_cons]
      refine ⟨⟨fun x hx => ?_, h1⟩, fun x hx => ?_⟩
      · have := h2 x hx
        show (k : Int) < x
        omega
      · rcases List.mem_cons.mp hx with rfl | hx
        · exact Int.le_refl _
        · have := h2 x hx; omega
    · exact ⟨h1, fun x hx => by have := h2 x hx; omega⟩
theorem perm_ints {l : List D} {ks : List Int} (h : l.Perm (ks.map D.int)) : ∃ js : List Int, l = js.map D.int ∧ js.Perm ks := by
  refine ⟨l.map toI, ?_, ?_⟩
  · rw [List.map_map]
    have : ∀ d ∈ l, (D.int ∘ toI) d = d := fun d hd => by
      obtain ⟨k, _, rfl⟩ := List.mem_map.mp (h.mem_iff.mp hd)
      rfl
    exact (List.map_id l).symm.trans (List.map_congr_left fun d hd => (this d hd).symm)
  · have := h.map toI
    rwa [toI_int] at this
theorem incr_of_le {ns : List Int} (h : ns.Pairwise (· ≤ ·)) (hn : ns.Nodup) : incr ns = true := by
  rw [incr_pair]
  have := List.Pairwise.and h hn
  exact this.imp fun ⟨a, b⟩ => by omega
section
variable {P : Program} {w : World} {K : PySem.W.Frag} {mg : Str → Option Value} {base : Heap}
end
end A
set_option Elab.async false
set_option linter.all false
set_option maxRecDepth 100000
set_option pp.maxSteps 120
namespace A
open PySem PySem.Spec PyProof.Rows L2 E
/-! sizes -/
theorem small_text : ∀ k : Fin 41, ((toP (.int (k.val : Int))).shown).length ≤ 2 := by decide +kernel
theorem small_int {i : Int} (h0 : 0 ≤ i) (h1 : i ≤ 40) : wt (.int i) ≤ 2 ∧ (toP (.int i)).showable = true ∧ dpt (.int i) = 0 := by
  obtain ⟨k, rfl⟩ : ∃ k : Nat, i = k := ⟨i.toNat, by omega⟩
  refine ⟨?_, ?_, ?_⟩
  · rw [wt]; exact small_text ⟨k, by omega⟩
  · have h : k < 41 := by omega
    have : ∀ k : Fin 41, (toP (.int (k.val : Int))).showable = true := by decide +kernel
    exact this ⟨k, h⟩
  · show (toP (.int (k : Int))).depth = 0
    rw [toP, PyData.depth]
theorem wts_le {l : List D} {n : Nat} (h : ∀ d ∈ l, wt d ≤ n) : wts l ≤ (n + 2) * l.length := by
  induction l with
  | nil => rw [wts]; simp
  | cons d l ih =>
    have h1 := h d List.mem_cons_self
    have h2 := ih fun e he => h e (List.mem_cons_of_mem _ he)
    rw [wts, List.length_cons, Nat.mul_succ]
    omega
theorem day_ok {ns : List Int} (h : ∀ n ∈ ns, 0 ≤ n ∧ n ≤ 40) (hl : ns.length ≤ 10) : Ok 43 1 (dayD ns) := by
  have hw : wts (ns.map D.int) ≤ (2 + 2) * (ns.map D.int).length := wts_le fun d hd => by
    obtain ⟨n, hn, rfl⟩ := List.mem_map.mp hd
    exact (small_int (h n hn).1 (h n hn).2).1
  rw [List.length_map] at hw
  refine ok_tup (fun d hd => ?_) (by omega) ?_
  · obtain ⟨n, hn, rfl⟩ := List.mem_map.mp hd
    exact (small_int (h n hn).1 (h n hn).2).2.1
  · have : dpts (ns.map D.int) ≤ 0 := dpts_le fun d hd => by
      obtain ⟨n, hn, rfl⟩ := List.mem_map.mp hd
      exact Nat.le_of_eq (small_int (h n hn).1 (h n hn).2).2.2
    omega
theorem plan_ok {q : List Case} (hq : Qok q) {p : List (List Int)} (f : Fine q p) (hl : p.length ≤ 142) : Ok 6400 2 (planD p) := by
  have hrows := ((rowsB_iff q 10 0 (p.map dayD)).mp f.rows).1
  have h10 := hq.h10
  have each : ∀ d ∈ p.map dayD, Ok 43 1 d := fun d hd => by
    have hr := List.all_eq_true.mp hrows d hd
    have hin := lotOf_in hr
    obtain ⟨r, _, rfl⟩ := List.mem_map.mp hd
    have e : lotOf (dayD r) = r := toI_int r
    rw [e] at hin
    have hlen : decide ((lenT (dayD r) : Int) ≤ 10) = true := by
      have h : (isLot (dayD r) q.length && decide ((lenT (dayD r) : Int) ≤ 10)) = true := hr
      rw [Bool.and_eq_true] at h
      exact h.2
    have hlen := of_decide_eq_true hlen
    have e2 : lenT (dayD r) = r.length := List.length_map ..
    rw [e2] at hlen
    exact day_ok (fun n hn => by have := hin n hn; omega) (by omega)
  have hw : wts (p.map dayD) ≤ (43 + 2) * (p.map dayD).length := wts_le fun d hd => (each d hd).w
  rw [List.length_map] at hw
  refine ok_tup (fun d hd => (each d hd).sh) (by omega) ?_
  have : dpts (p.map dayD) ≤ 1 := dpts_le fun d hd => (each d hd).dp
  omega
theorem queue_ok {q : List Case} (hq : Qok q) : Ok 400 2 (queueD q) := by
  have h10 := hq.h10
  have each : ∀ d ∈ q.map caseD, Ok 15 1 d := fun d hd => by
    obtain ⟨c, hc, rfl⟩ := List.mem_map.mp hd
    have a1 := small_int (hq.c0 c hc) (Int.le_trans (hq.c1 c hc) (by decide))
    have a2 := small_int (Int.le_trans (by decide) (hq.w0 c hc)) (Int.le_trans (hq.w1 c hc) (by decide))
    have a3 := small_int (hq.d0 c hc) (hq.d1 c hc)
    refine ok_tup (fun d hd => ?_) ?_ ?_
    · simp only [List.mem_cons, List.not_mem_nil, or_false] at hd
      rcases hd with rfl | rfl | rfl
      · exact a1.2.1
      · exact a2.2.1
      · exact a3.2.1
    · rw [wts, wts, wts, wts]; omega
    · have : dpts [D.int c.1, D.int c.2.1, D.int c.2.2] ≤ 0 := dpts_le fun d hd => by
        simp only [List.mem_cons, List.not_mem_nil, or_false] at hd
        rcases hd with rfl | rfl | rfl
        · exact Nat.le_of_eq a1.2.2
        · exact Nat.le_of_eq a2.2.2
        · exact Nat.le_of_eq a3.2.2
      omega
  have hw : wts (q.map caseD) ≤ (15 + 2) * (q.map caseD).length := wts_le fun d hd => (each d hd).w
  rw [List.length_map] at hw
  refine ok_tup (fun d hd => (each d hd).sh) (by omega) ?_
  have : dpts (q.map caseD) ≤ 1 := dpts_le fun d hd => (each d hd).dp
  omega
theorem int_shw {i : Int} (h : i.natAbs ≤ 1000000) : Shw (.int i) := by
  have hl : i.natAbs.log2 < 1920 := by
    by_cases h0 : i.natAbs = 0
    · rw [h0]; decide
    · rw [Nat.log2_lt h0]
      exact Nat.lt_of_le_of_lt h (Nat.lt_of_lt_of_le (show 1000000 < 2 ^ 20 by decide) (Nat.pow_le_pow_right (by decide) (by decide)))
  exact ⟨by simpa [toP, PyData.showable] using hl, by rw [toP, PyData.shown]; exact PySem.int_text_fits hl, by rw [toP, PyData.depth]; exact Nat.zero_le _⟩
theorem bl_shw (b : Bool) : Shw (.bl b) := by cases b <;> exact ⟨by decide +kernel, by decide +kernel, by decide +kernel⟩
theorem late_bound {q : List Case} (hq : Qok q) {p : List (List Int)} (g : Good q p) : (lateOf q p).natAbs ≤ 1000000 := by
  have hne : lates p 0 q ≠ [] := fun e => by
    have := lates_len p 0 q
    have h1 := hq.h1
    rw [e] at this
    simp at this
    omega
  have hmem : maxI (lates p 0 q) ∈ lates p 0 q := by
    cases h : lates p 0 q with
    | nil => exact absurd h hne
    | cons a r => exact (max_fold r a).1
  have all : ∀ (k : Nat) (q' : List Case), (∀ j c, q'[j]? = some c → q[k + j]? = some c) → ∀ x ∈ lates p k q', x.natAbs ≤ 1000 := by
    intro k q'
    induction q' generalizing k with
    | nil => intro _ x hx; cases hx
    | cons c q' ih =>
      intro h x hx
      rcases List.mem_cons.mp hx with rfl | hx
      · have hc : q[k]? = some c := by have := h 0 c rfl; rwa [Nat.add_zero] at this
        have hd := g.days hq hc
        have d0 := hq.d0 c (List.mem_of_getElem? hc)
        have d1 := hq.d1 c (List.mem_of_getElem? hc)
        have hl : (daysOf p (k : Int)).getLastD 0 ∈ daysOf p (k : Int) := by
          rw [List.getLastD_eq_getLast?]
          cases e : (daysOf p (k : Int)).getLast? with
          | none => rw [List.getLast?_eq_none_iff] at e; exact absurd e hd
          | some z => exact List.mem_of_getLast? e
        obtain ⟨j, r, e1, _, e3⟩ := mem_days.mp hl
        have hj := (List.getElem?_eq_some_iff.mp e1).1
        have := g.len
        unfold lateC
        omega
      · exact ih (k + 1) (fun j c' hj => by
          have := h (j + 1) c' (by simpa using hj)
          rwa [show k + (j + 1) = k + 1 + j by omega] at this) x hx
  have := all 0 q (fun j c h => by rw [Nat.zero_add]; exact h) _ hmem
  unfold lateOf
  omega
theorem two_ok {n m n' m' : Nat} {x y : D} (h1 : Ok n m x) (h2 : Ok n' m' y) : Ok (n + n' + 7) (max m m' + 1) (.tup [x, y]) ∧ Ok (n + n' + 7) (max m m' + 1) (.lst [x, y]) := by
  have hs : ∀ d ∈ [x, y], (toP d).showable = true := fun d hd => by
    simp only [List.mem_cons, List.not_mem_nil, or_false] at hd
    rcases hd with rfl | rfl
    · exact h1.sh
    · exact h2.sh
  have hw : wts [x, y] = wt x + 2 + (wt y + 2) := by rw [wts, wts, wts]
  have hd : dpts [x, y] ≤ max m m' := dpts_le fun d hd => by
    simp only [List.mem_cons, List.not_mem_nil, or_false] at hd
    rcases hd with rfl | rfl
    · have := h1.dp; omega
    · have := h2.dp; omega
  have w1 := h1.w
  have w2 := h2.w
  exact ⟨ok_tup hs (by omega) (by omega), ok_lst hs (by omega) (by omega)⟩
section
variable {P : Program} {w : World} {K : PySem.W.Frag} {mg : Str → Option Value} {base : Heap}
end
end A
set_option Elab.async false
set_option linter.all false
set_option maxRecDepth 100000
/-! sorted of tuples of whole numbers of any lengths (the empty one may stand first). -/
namespace E
open PySem PySem.Spec PyProof.Rows L2 SrtO TS HT
theorem lexLt_irr : ∀ a : List Int, lexLt a a = false
  | [] => rfl
  | x :: r => by rw [lexLt_cons, if_pos rfl]; exact lexLt_irr r
theorem lexLt_asy : ∀ a b : List Int, lexLt a b = true → lexLt b a = false
  | [], [], h => by cases h
  | [], _ :: _, _ => rfl
  | _ :: _, [], h => by cases h
  | x :: r, y :: s, h => by
    rw [lexLt_cons] at h ⊢
    by_cases e : x = y
    · rw [if_pos e] at h; rw [if_pos e.symm]; exact lexLt_asy r s h
    · rw [if_neg e] at h; rw [if_neg fun z => e z.symm]
      have := of_decide_eq_true h
      exact decide_eq_false (by omega)
theorem lexLt_neg : ∀ a b c : List Int, lexLt b a = false → lexLt c b = false → lexLt c a = false
  | [], [], [], _, _ => rfl
  | [], [], _ :: _, _, _ => rfl
  | [], _ :: _, [], _, h => by cases h
  | [], _ :: _, _ :: _, _, _ => rfl
  | _ :: _, [], _, h, _ => by cases h
  | _ :: _, _ :: _, [], _, h => by cases h
  | x :: r, y :: s, z :: t, h, h' => by
    rw [lexLt_cons] at h h' ⊢
    by_cases e : y = x
    · subst e
      rw [if_pos rfl] at h
      by_cases e' : z = y
      · subst e'
        rw [if_pos rfl] at h' ⊢
        exact lexLt_neg r s t h h'
      · rw [if_neg e'] at h' ⊢
        exact h'
    · rw [if_neg e] at h
      have h := of_decide_eq_false h
      by_cases e' : z = y
      · subst e'
        rw [if_neg e]
        exact decide_eq_false h
      · rw [if_neg e'] at h'
        have h' := of_decide_eq_false h'
        rw [if_neg (by omega)]
        exact decide_eq_false (by omega)
theorem lexLt_conn : ∀ a b : List Int, lexLt a b = false → lexLt b a = false → a = b
  | [], [], _, _ => rfl
  | [], _ :: _, h, _ => by cases h
  | _ :: _, [], _, h => by cases h
  | x :: r, y :: s, h, h' => by
    rw [lexLt_cons] at h h'
    by_cases e : x = y
    · subst e
      rw [if_pos rfl] at h h'
      rw [lexLt_conn r s h h']
    · rw [if_neg e] at h; rw [if_neg fun z => e z.symm] at h'
      have := of_decide_eq_false h
      have := of_decide_eq_false h'
      omega
theorem swo_lexL {α : Type} (k : α → List Int) : Swo fun v u => lexLt (k v) (k u) := ⟨fun x y h => lexLt_asy _ _ h, fun x y z h1 h2 => lexLt_neg _ _ _ h1 h2⟩
section
variable {prog : Program} {w : World} {A : Around} {E : Value → Shared → Prop} {s : Shared}
theorem lex_any {Q : Bool → Shared → Prop} {fin : Bool} : ∀ (ns ms : List Int) (xs ys : List Value) (i : Nat), IntsAre xs ns → IntsAre ys ms → fin = decide (ns.length < ms.length) → Q (lexLt ns ms) s → PySem.W.KatLex prog w A true fin Q (xs.zip ys) i s
  | [], [], _, _, i, .nil, .nil, e, h => PySem.W.kat_nil (by rw [e]; exact h)
  | [], _ :: _, _, _, i, .nil, .cons _ _ _, e, h => PySem.W.kat_nil (by rw [e]; exact h)
  | _ :: _, [], _, _, i, .cons _ _ _, .nil, e, h => PySem.W.kat_nil (by rw [e]; exact h)
  | x :: ns, y :: ms, _, _, i, .cons _ t hx, .cons _ u hy, e, h => by
    rw [List.zip_cons_cons]
    refine PySem.W.kat_cons (SeqAt.EqAt.int_int x t y u prog w _ _ ?_)
    rw [lexLt_cons] at h
    refine PySem.W.kat_go (fun e1 => ?_) (fun e1 => ?_)
    · have ex : x = y := by simpa using e1
      rw [if_pos ex] at h
      exact PySem.W.kat_yes (lex_any ns ms _ _ (i + 1) hx hy (by rw [e]; simp) h)
    · have ex : ¬ x = y := by simpa using e1
      rw [if_neg ex] at h
      exact PySem.W.kat_no (oneLt_ints _ h)
/-- two tuples, when all are not empty -/
theorem cmp_tups {vs : List Value} {k : Value → List Int} (hp : ∀ v ∈ vs, TupInts s.heap v (k v)) : Cmp prog w A s (tuples' true) (fun p => p.1 ∈ vs) (lt2 fun v u => lexLt (k v) (k u)) := by
  intro p q hm hm'
  have h1 := hp _ hm
  have h2 := hp _ hm'
  show wpAny (model prog w) A (keyLt' (tuples' true) p.1 q.1) (fun r s' => s' = s ∧ r = lexLt (k p.1) (k q.1)) (fun _ _ => False) s
  generalize k p.1 = ns at h1 ⊢
  generalize k q.1 = ms at h2 ⊢
  obtain ⟨a, xs, e, ⟨o, ho, hc, n, hd⟩, hi⟩ := h1
  obtain ⟨a', xs', e', ⟨o', ho', hc', n', hd'⟩, hi'⟩ := h2
  rw [e, e']
  refine PySem.W.kat_lt ho hd ho' hd' (lex_any ns ms _ _ 0 hi hi' ?_ ⟨rfl, rfl⟩)
  have l1 := hi.length
  have l2 := hi'.length
  rw [Array.length_toList] at l1 l2
  rw [l1, l2]
/-- .. when some is -/
theorem cmp_ones {vs : List Value} {k : Value → List Int} (hu : A.units < cLine) (hp : ∀ v ∈ vs, TupInts s.heap v (k v)) : Cmp prog w A s oneType' (fun p => p.1 ∈ vs) (lt2 fun v u => lexLt (k v) (k u)) := by
  intro p q hm hm'
  have h1 := hp _ hm
  have h2 := hp _ hm'
  show wpAny (model prog w) A (keyLt' oneType' p.1 q.1) (fun r s' => s' = s ∧ r = lexLt (k p.1) (k q.1)) (fun _ _ => False) s
  generalize k p.1 = ns at h1 ⊢
  generalize k q.1 = ms at h2 ⊢
  obtain ⟨a, xs, e, ⟨⟨cls, dd, data, sl⟩, ho, hc, n, hd⟩, hi⟩ := h1
  obtain ⟨a', xs', e', ⟨⟨cls2, dd2, data2, sl2⟩, ho', hc', n', hd'⟩, hi'⟩ := h2
  simp only at hc hd hc' hd'
  subst hc hd hc' hd'
  rw [e, e', keyLt'_oneType, oneLt'_eq]
  simp only [if_true]
  refine wpAny_bind (wpAny_cRoomFor hu ?_)
  refine wpAny_bind (wpAny_callSpecialIfBound?_slot (T := "tuple") ⟨_, ho, rfl⟩ PySem.F.slot_tuple_lt (call_meets PySem.F.slot_tuple_lt ⟨_, ho, rfl⟩ PySem.F.entry_tuple_lt (PySem.F.args_tuple_lt_2 _ _) (tuple_lt_ints a a' xs xs' n n' dd dd2 sl sl2 ns ms hi hi') ⟨ho, ho', ?_⟩))
  show wpAny _ _ _ _ _ s
  exact wpAny_truthy_bool ⟨rfl, rfl⟩
/-- the first item of a tuple -/
def fstOf (h : Heap) (v : Value) : Option Value := match v with
  | .ref a => match h.get? a with
    | some o => match o.data with
      | .seq xs _ => xs[0]?
      | _ => none
    | none => none
  | _ => none
theorem mapM_fn {α β : Type} {f : α → Sem β} {g : α → β} : ∀ (l : List α) {Q : List β → Shared → Prop}, (∀ v ∈ l, ∀ (Q' : β → Shared → Prop), Q' (g v) s → wpAny (model prog w) A (f v) Q' E s) → Q (l.map g) s → wpAny (model prog w) A (l.mapM f) Q E s
  | [], _, _, h => by rw [List.mapM_nil]; exact wpAny_pure h
  | x :: l, Q, hf, h => by
    rw [List.mapM_cons]
    exact wpAny_bind (hf x (.head _) _ (wpAny_bind (mapM_fn l (Q := fun bs s' => wpAny (model prog w) A (pure (g x :: bs)) Q E s') (fun v hv => hf v (.tail _ hv)) (wpAny_pure h))))
theorem kind_ones {v₁ v₂ : Value} {rest : List Value} {k : Value → List Int} {Q : SortKind → Shared → Prop} (hp : ∀ v ∈ v₁ :: v₂ :: rest, TupInts s.heap v (k v)) (h0 : k v₁ = []) (h : Q oneType' s) : wpAny (model prog w) A (keyKind' (v₁ :: v₂ :: rest).toArray) Q E s := by
  have hT : ∀ v ∈ v₁ :: v₂ :: rest, PySem.W.Looks (model prog w) s.heap (typeOf v) (.type "tuple") := fun v hv => by
    obtain ⟨a, xs, e, ⟨o, ho, hc, n, hd⟩, hi⟩ := hp v hv
    rw [e]
    exact hc ▸ (PySem.W.Looks.ld ho).andThen .now
  rw [keyKind'_eq, List.mapM_toArray, map_eq_pure_bind]
  refine wpAny_bind (wpAny_bind (mapM_fn (g := fstOf s.heap) _ (fun v hv Q' hq => ?_) (wpAny_pure ?_)))
  · rw [PySem.W.kas_first_eq]
    refine wpAny_bind ((hT v hv).here ?_)
    obtain ⟨a, xs, e, ⟨o, ho, hc, n, hd⟩, hi⟩ := hp v hv
    subst e
    rw [if_neg (by simp)]
    refine wpAny_bind (listItems_at ho hd (wpAny_pure ?_))
    have e2 : fstOf s.heap (.ref a) = xs[0]? := by simp only [fstOf, ho, hd]
    rw [← e2]
    exact hq
  · have e0 : fstOf s.heap v₁ = none := by
      obtain ⟨a, xs, e, ⟨o, ho, hc, n, hd⟩, hi⟩ := hp v₁ (.head _)
      subst e
      rw [h0] at hi
      have e2 : fstOf s.heap (.ref a) = xs[0]? := by simp only [fstOf, ho, hd]
      have l1 := hi.length
      rw [Array.length_toList] at l1
      rw [e2]
      exact Array.getElem?_eq_none (by rw [l1]; exact Nat.zero_le _)
    rw [if_neg (by simp [e0]), if_neg (by simp [e0])]
    rw [oneTypeOnly'_eq, List.mapM_toArray, map_eq_pure_bind]
    refine wpAny_bind (wpAny_bind (wpAny_bind (mapM_fn (g := fun _ => Value.type "tuple") _ (fun v hv Q' hq => (hT v hv).here hq) (wpAny_pure ?_))))
    have hall : ((List.map (fun _ => Value.type "tuple") (v₁ :: v₂ :: rest)).toArray.all fun x => x == Value.type "tuple") = true := by
      simp only [List.all_toArray, List.all_map, List.all_eq_true]
      intro _ _
      rfl
    have h0 : (List.map (fun _ => Value.type "tuple") (v₁ :: v₂ :: rest)).toArray[0]? = some (Value.type "tuple") := by simp
    rw [h0]
    simp only [hall, if_true]
    exact wpAny_pure (wpAny_pure h)
theorem firsts_any {h : Heap} {k : Value → List Int} : ∀ vs : List Value, (∀ v ∈ vs, TupInts h v (k v) ∧ k v ≠ []) → ∃ fs, PySem.W.KatTups h vs fs ∧ fs.length = vs.length ∧ ∀ f, f ∈ fs → ∃ n t, f = Value.int n t
  | [], _ => ⟨[], PySem.W.KatTups.nil, rfl, fun f hf => by simp at hf⟩
  | v :: vs, x => by
    obtain ⟨fs, kk, hl, hi⟩ := firsts_any vs fun u hu => x u (List.mem_cons_of_mem _ hu)
    obtain ⟨⟨a, xs, rfl, ⟨o, ho, hc, n, hdt⟩, i⟩, hn⟩ := x v (List.mem_cons_self ..)
    obtain ⟨y, ys, e⟩ : ∃ y ys, xs.toList = y :: ys := by
      cases q : xs.toList with
      | nil =>
        rw [q] at i
        have l := i.length
        exact absurd (List.length_eq_zero_iff.mp l.symm) hn
      | cons y ys => exact ⟨y, ys, rfl⟩
    obtain ⟨m, t, hy⟩ := i.all y (by rw [e]; exact List.mem_cons_self ..)
    refine ⟨y :: fs, PySem.W.KatTups.cons ho hc hdt ?_ kk, by simp [hl], ?_⟩
    · have z := congrArg (fun l : List Value => l[0]?) e
      simpa using z
    · intro f hf
      rcases List.mem_cons.mp hf with rfl | hf
      · exact ⟨m, t, hy⟩
      · exact hi f hf
theorem tups_sortable {a : Addr} {vs : List Value} {k : Value → List Int} (hu : A.units < cLine) (h2 : 2 ≤ vs.length) (hp : ∀ v ∈ vs, TupInts s.heap v (k v)) (hk : (∀ v ∈ vs, k v ≠ []) ∨ ∃ v r, vs = v :: r ∧ k v = []) (ha : ∀ o, s.heap.get? a = some o → o.cls ≠ .type "tuple") :
    SortableO prog w A s a vs fun v u => lexLt (k v) (k u) := by
  intro h' keep
  have hp' : ∀ v ∈ vs, TupInts h' v (k v) := fun v hm => (hp v hm).keeps fun b o e c => keep b o (fun z => by subst z; exact ha o e c) e
  rcases hk with hk | ⟨v, r, rfl, hk⟩
  · obtain ⟨fs, f1, f2, f3⟩ := firsts_any vs fun v hv => ⟨hp' v hv, hk v hv⟩
    refine ⟨tuples' true, fun Q E hq => ?_, cmp_tups hp'⟩
    refine PySem.W.kat_kind (T := .type "int") f1 (by omega) (fun f hm => ?_) (by rfl) ?_
    · obtain ⟨x, t, rfl⟩ := f3 f hm
      exact PySem.W.Looks.now
    · have e : (Value.type "int" != Value.type "tuple") = true := by first | decide +kernel | rfl | decide
      rw [e]
      exact hq
  · match r, h2 with
    | v₂ :: rest, _ => exact ⟨oneType', fun Q E hq => kind_ones (s := { s with heap := h' }) hp' hk hq, cmp_ones hu hp'⟩
end
/-- sorted(xs), xs a list of tuples of whole numbers: k says which -/
def rSortedT (K : PySem.W.Frag) : List V → Hp → VK → Prop := fun vs H Q => ∃ (a : Addr) (xs : List V) (k : V → List Int), vs = [V.ref a] ∧ SqL K H a xs ∧ (∀ x ∈ xs, ∃ t, x = V.ref t ∧ H t = some (.tup ((k x).map V.int))) ∧
  ((∀ x ∈ xs, k x ≠ []) ∨ ∃ x r, xs = x :: r ∧ k x = []) ∧ ∀ ys p, Srtd (fun x y => lexLt (k x) (k y)) ys → ys.Perm xs → H p = none → Q (.ref p) (upd H p (.lst ys))
section
variable {X : Cx}
theorem cr_sortedT (hu : X.A.units + 64 < cLine) : CallR X (.builtin "sorted") (rSortedT X.K) := by
  intro pins s σ H vs us Q I r h
  obtain ⟨a, xs, k, rfl, hs, hx, hk, q⟩ := h
  obtain ⟨its, rv, hl, hz⟩ := I.list hs
  rw [Vals.ref1 r]
  obtain ⟨e1, e2⟩ := refs_back rv fun x m => by
    obtain ⟨t, e, _⟩ := hx x m
    exact ⟨t, e⟩
  have tup : ∀ v ∈ its, TupInts s.heap v (k (backV v)) := fun v hv => by
    obtain ⟨t, rfl⟩ := e2 v hv
    have hm : V.ref t ∈ xs := by rw [e1]; exact List.mem_map.mpr ⟨_, hv, rfl⟩
    obtain ⟨t', e, ht⟩ := hx _ hm
    cases e
    obtain ⟨_, its2, r2, o, ho, hc, n, hd⟩ := I.hok _ _ ht
    exact ⟨t, its2.toArray, rfl, ⟨o, ho, hc, n, hd⟩, by show IntsAre its2.toArray.toList (k (.ref t)); simpa using r2.ints⟩
  have hk' : (∀ v ∈ its, k (backV v) ≠ []) ∨ ∃ v r, its = v :: r ∧ k (backV v) = [] := by
    rcases hk with hk | ⟨x, r, e, hk⟩
    · exact .inl fun v hv => hk _ (by rw [e1]; exact List.mem_map.mpr ⟨v, hv, rfl⟩)
    · right
      rw [e1] at e
      cases its with
      | nil => cases e
      | cons v rest =>
        rw [List.map_cons] at e
        injection e with e _
        exact ⟨v, rest, rfl, by rw [e]; exact hk⟩
  refine SrtO.sorted_ord (swo_lexL fun v => k (backV v)) hl.isList (by rw [← rv.length]; exact hz) (fun h2 h₁ a' ha kk => ?_) fun out h1 h2 => ?_
  · refine tups_sortable (s := { s with heap := h₁ }) (by show X.A.units + 1 + 1 < cLine; omega) h2 (fun v hv => (tup v hv).keeps fun b o e _ => (kk b o e).2) hk' fun o e => ?_
    have e' : some o = some (seqObj "list" its.toArray 0) := e.symm.trans ha
    cases e'
    intro c
    exact absurd (Value.type.inj c) (by decide)
  · obtain ⟨ep, he'⟩ := PyProof.Rows.sortedAll_at s.heap its out.toArray
    have h3 : ∀ u ∈ out, ∃ a, u = Value.ref a := fun u hu => e2 u (h2.perm.mem_iff.mp hu)
    have hb : (out.map backV).Perm xs := by rw [e1]; exact h2.perm.map _
    exact ⟨.ref _, upd H (s.heap.objs.size + 1) (.lst (out.map backV)), I.laid (t' := s.toks) (fun _ _ => PyProof.Rows.sortedAll_old) (Nat.le_succ _) ⟨by rw [hb.length_eq]; exact hz, out, ep, vals_back h3, he'⟩, rfl,
      q _ _ (SrtO.srtd_map h1) hb (I.hok.fresh (Nat.le_succ _))⟩
end
/-- a tuple of whole numbers -/
abbrev tupI (ns : List Int) : D := .tup (ns.map D.int)
def kOf (F : Hp) (v : V) : List Int := match v with
  | .ref t => match F t with
    | some (.tup xs) => xs.map fun | .int i => i | _ => 0
    | _ => []
  | _ => []
theorem kOf_at {F : Hp} {v : V} {ns : List Int} (h : Dn F v (tupI ns)) : kOf F v = ns ∧ ∃ t, v = .ref t ∧ F t = some (.tup (ns.map V.int)) := by
  cases h with
  | @tup a xs _ ha hl =>
    have e := DnL.ints ns hl
    subst e
    refine ⟨?_, a, rfl, ha⟩
    simp only [kOf, ha, List.map_map]
    induction ns with
    | nil => rfl
    | cons n r ih =>
      rw [List.map_cons]
      congr 1
      show List.map _ r = r
      clear ha hl ih
      induction r with
      | nil => rfl
      | cons m r ih => rw [List.map_cons, ih]; rfl
theorem kOf_all {F : Hp} : ∀ {xs : List V} {ls : List (List Int)}, DnL F xs (ls.map tupI) → xs.map (kOf F) = ls ∧ ∀ x ∈ xs, ∃ t, x = .ref t ∧ F t = some (.tup ((kOf F x).map V.int))
  | _, [], .nil => ⟨rfl, fun x h => by simp at h⟩
  | _, l :: ls, .cons h r => by
    obtain ⟨e, t, ht, hF⟩ := kOf_at h
    obtain ⟨r1, r2⟩ := kOf_all r
    refine ⟨by rw [List.map_cons, e, r1], fun x hx => ?_⟩
    rcases List.mem_cons.mp hx with rfl | hx
    · exact ⟨t, ht, by rw [e]; exact hF⟩
    · exact r2 x hx
theorem kOf_back {F : Hp} : ∀ {ys : List V}, (∀ x ∈ ys, ∃ t, x = .ref t ∧ F t = some (.tup ((kOf F x).map V.int))) → DnL F ys ((ys.map (kOf F)).map tupI)
  | [], _ => .nil
  | y :: ys, h => by
    obtain ⟨t, e, hF⟩ := h y (.head _)
    refine .cons ?_ (kOf_back fun x hx => h x (.tail _ hx))
    have := Dn.tup hF (DnL.of_ints (kOf F y))
    rw [← e] at this
    exact this
theorem lsorted_uniq : ∀ (l m : List (List Int)), (l.Pairwise fun a b => HT.lexLt b a = false) → (m.Pairwise fun a b => HT.lexLt b a = false) → l.Perm m → l = m
  | [], m, _, _, p => (List.Perm.eq_nil p.symm).symm
  | x :: l, [], _, _, p => absurd p.length_eq (by simp)
  | x :: l, y :: m, hl, hm, p => by
      have h1 : x = y := by
        refine lexLt_conn x y ?_ ?_
        · rcases List.mem_cons.mp (p.mem_iff.mp (List.mem_cons_self (a := x) (l := l))) with e | hx
          · rw [e]; exact lexLt_irr y
          · exact (List.pairwise_cons.mp hm).1 x hx
        · rcases List.mem_cons.mp (p.mem_iff.mpr (List.mem_cons_self (a := y) (l := m))) with e | hy
          · rw [e]; exact lexLt_irr x
          · exact (List.pairwise_cons.mp hl).1 y hy
      subst h1
      have p' : l.Perm m := p.cons_inv
      have hl' := (List.pairwise_cons.mp hl).2
      have hm' := (List.pairwise_cons.mp hm).2
      rw [lsorted_uniq l m hl' hm' p']
section
variable {X : Cx} {sl : List Sl} {ms : List (List D)} {R : D → Prop} {e : Expr} {p pos : Pos}
/-- sorted(e), e a list of tuples of whole numbers -/
theorem j_sortedT (hu : X.A.units + 64 < cLine) (hm : X.mg "sorted" = none)
    (h : Er sl ms (wE X e) fun x => ∃ ls : List (List Int), x = .lst (ls.map tupI) ∧ ((∀ l ∈ ls, l ≠ []) ∨ ∃ r, ls = [] :: r) ∧ ∀ l' : List (List Int), l'.Perm ls → (l'.Pairwise fun a b => HT.lexLt b a = false) → R (.lst (l'.map tupI)))
    (hg : Gl X "sorted" := by rfl) (he : starEach [e] X.env = (false, eval e X.env) :: starEach [] X.env := by rfl) :
    Er sl ms (wE X (.Call (.Name "sorted" p) [e] [] pos)) R :=
  Er.of (pe_callB (cr_sortedT hu) hg hm (by decide +kernel) (pa_cons pe_w pa_nil he) (he := he)) fun ho F0 H0 F ps ex σ H a Q q => h ho F0 H0 F ps ex σ H a _ fun v d F1 H1 ⟨ls, e, hk, k⟩ a1 => by
    subst e
    obtain ⟨t, xs, rfl, ha, hd⟩ : ∃ p xs, v = .ref p ∧ F1 p = some (.lst xs) ∧ DnL F1 xs (ls.map tupI) := by cases a1.top with | lst ha hl => exact ⟨_, _, rfl, ha, hl⟩
    obtain ⟨r1, r2⟩ := kOf_all hd
    refine ⟨t, xs, kOf F1, rfl, sq_l a1.fh ha, fun x hx => (r2 x hx).imp fun t ⟨e, h⟩ => ⟨e, a1.fh _ _ h⟩, ?_, fun ys z h1 h2 hz => ?_⟩
    · rcases hk with hk | ⟨r, hk⟩
      · exact .inl fun x hx => hk _ (by rw [← r1]; exact List.mem_map.mpr ⟨x, hx, rfl⟩)
      · right
        cases xs with
        | nil => rw [hk] at r1; cases r1
        | cons x xs =>
          rw [hk, List.map_cons] at r1
          injection r1 with r1 _
          exact ⟨x, xs, rfl, r1⟩
    · have hy := kOf_back (F := F1) (ys := ys) fun x hx => r2 x (h2.mem_iff.mp hx)
      have hp : (ys.map (kOf F1)).Perm ls := by rw [← r1]; exact h2.map _
      have a2 := a1.pop.laid (o := .lst ys) hz
      exact q _ _ _ _ (k _ hp (List.pairwise_map.mpr h1)) (a2.push (.lst upd_same (hy.mono (Ex.new (a1.fh.none hz)))))
end
end E
set_option Elab.async false
set_option linter.all false
set_option maxRecDepth 100000
/-! Shifts, the lowest bit, range(a, b), sorted of a list of one's own. -/
namespace E
open PySem PySem.Spec PyProof.Rows L2
section
variable {X : Cx} {sl : List Sl} {ms : List (List D)} {R : D → Prop} {a b e : Expr} {pos p p2 : Pos} {x : Str}
theorem j_shl (h : Er sl ms (wE X a) fun x => Er sl ms (wE X b) fun y => ∃ i j, x = .int i ∧ y = .int j ∧ CPow i j ∧ R (.int (i * 2 ^ j.toNat))) : Er sl ms (wE X (.BinOp a .LShift b pos)) R :=
  Er.of (pe_op op_shl pe_w pe_w) (er_op' (h.mono fun _ h => h.mono fun _ ⟨_, _, e1, e2, hc, k⟩ => by rw [e1, e2]; exact R2.done (r2_I hc fun _ => .int _) k))
theorem j_shr (h : Er sl ms (wE X a) fun x => Er sl ms (wE X b) fun y => ∃ i j, x = .int i ∧ y = .int j ∧ 0 ≤ j ∧ R (.int (i / 2 ^ j.toNat))) : Er sl ms (wE X (.BinOp a .RShift b pos)) R :=
  Er.of (pe_op op_shr pe_w pe_w) (er_op' (h.mono fun _ h => h.mono fun _ ⟨_, _, e1, e2, hc, k⟩ => by rw [e1, e2]; exact R2.done (r2_I hc fun _ => .int _) k))
theorem j_bit1 (h : Er sl ms (wE X a) fun x => Er sl ms (wE X b) fun y => ∃ n : Nat, x = .int n ∧ y = .int 1 ∧ R (.int ((n % 2 : Nat) : Int))) : Er sl ms (wE X (.BinOp a .BitAnd b pos)) R :=
  Er.of (pe_op op_odd pe_w pe_w) (er_op' (h.mono fun _ h => h.mono fun _ ⟨n, e1, e2, k⟩ => by
    rw [e1, e2]
    intro F H v w eh hv hw Q q
    cases hv; cases hw
    exact ⟨n, rfl, rfl, q _ _ F H k (Ext.refl eh) (.int _)⟩))
/-- m, m + 1, .. as data -/
def numbersFrom (m n : Nat) : List D := (List.range n).map fun i => .int ((m + i : Nat) : Int)
theorem numbersFrom_len {m n : Nat} : (numbersFrom m n).length = n := by simp [numbersFrom]
theorem numbersFrom_get {m n i : Nat} {d : D} (h : (numbersFrom m n)[i]? = some d) : i < n ∧ d = .int ((m + i : Nat) : Int) := by
  unfold numbersFrom at h
  rw [List.getElem?_map] at h
  by_cases hi : i < n
  · rw [List.getElem?_range hi] at h
    exact ⟨hi, by cases h; rfl⟩
  · rw [List.getElem?_eq_none (by simpa using Nat.le_of_not_lt hi)] at h
    cases h
theorem ei_range2 {ta tb : TE} {K : List D → Prop} (h : Er sl ms ta fun x => Er sl ms tb fun y => ∃ m n : Nat, x = .int m ∧ y = .int ((m + n : Nat) : Int) ∧ m + n < 2 ^ 62 ∧ K (numbersFrom m n)) : Ei sl ms (iRng2 (tCons ta (tCons tb tNil))) none K := ⟨nofx, fun ho F0 H0 F ps ex σ H a Rr q =>
  h ho F0 H0 F ps ex σ H a _ fun v d F1 H1 h' a1 => h' ho F0 H0 F1 ps _ σ H1 a1 _ fun v2 d2 F2 H2 ⟨m, n, e, e2, hn, k⟩ a2 => by
    subst e e2
    cases a2.pop.top
    cases a2.top
    refine ⟨m, ((m + n : Nat) : Int), rfl, ⟨by omega, by omega, by omega, by omega⟩, q _ F2 H2 [] _ k a2.pop.pop fun F3 H3 e3 _ _ => ⟨fun i d hd => ?_, ?_⟩⟩
    · obtain ⟨hi, rfl⟩ := numbersFrom_get hd
      refine ⟨by show i < (((m + n : Nat) : Int) - (m : Int)).toNat; omega, fun x H4 hy => ?_⟩
      obtain ⟨rfl, rfl⟩ := hy
      exact ⟨F3, Ext.refl e3, by rw [show (m : Int) + (i : Int) = ((m + i : Nat) : Int) by omega]; exact .int _⟩
    · show (((m + n : Nat) : Int) - (m : Int)).toNat ≤ (numbersFrom m n).length
      rw [numbersFrom_len]
      omega⟩
theorem ji_range2 {tg : Expr} {K : List D → Prop} (hm : X.mg "range" = none) (h : Er sl ms (wE X a) fun x => Er sl ms (wE X b) fun y => ∃ m n : Nat, x = .int m ∧ y = .int ((m + n : Nat) : Int) ∧ m + n < 2 ^ 62 ∧ K (numbersFrom m n)) (hg : Gl X "range" := by rfl)
    (hs : starEach [a, b] X.env = [(false, eval a X.env), (false, eval b X.env)] := by rfl) (hs2 : starEach [a, b] X.env = (false, eval a X.env) :: starEach [b] X.env := by rfl) (hs3 : starEach [b] X.env = (false, eval b X.env) :: starEach [] X.env := by rfl) (hs4 : starEach [b] X.env = [(false, eval b X.env)] := by rfl) :
    Ei sl ms (wI X tg (.Call (.Name "range" p) [a, b] [] pos)) none K := Ei.of (pi_range2 hg hm (pa_cons pe_w (pa_cons pe_w pa_nil hs3) hs2) hs hs4) (ei_range2 h)
/-- sorted of a list of one's own -/
theorem j_sortedTM (i : Nat) {k : Nat} {ls : List (List Int)} (hu : X.A.units + 64 < cLine) (hN : X.N[i]? = some x) (hs : sl[i]? = some (.m k)) (hk : ms[k]? = some (ls.map tupI)) (hm : X.mg "sorted" = none) (h0 : (∀ l ∈ ls, l ≠ []) ∨ ∃ r, ls = [] :: r)
    (q : ∀ l' : List (List Int), l'.Perm ls → (l'.Pairwise fun a b => HT.lexLt b a = false) → R (.lst (l'.map tupI))) (hg : Gl X "sorted" := by rfl) (he : starEach [.Name x p2] X.env = (false, eval (.Name x p2) X.env) :: starEach [] X.env := by rfl)
    (hv : Vis X.env.scope x := by first | exact Or.inl rfl | exact Or.inr (Or.inl rfl) | exact Or.inr (Or.inr rfl)) (hd : (x == ("__debug__" : Str)) = false := by decide) (hcd : (x == ("__classdict__" : Str)) = false := by decide) :
    Er sl ms (wE X (.Call (.Name "sorted" p) [.Name x p2] [] pos)) R :=
  Er.of (pe_callB (cr_sortedT hu) hg hm (by decide +kernel) (pa_cons (pv i hN hv hd hcd) pa_nil he) (he := he)) fun ho F0 H0 F ps ex σ H a Q qq => by
    obtain ⟨t, xs, e, hp, ha, hdl⟩ := a.ml hs hk
    obtain ⟨r1, r2⟩ := kOf_all hdl
    refine ⟨_, e, t, xs, kOf F, rfl, .inl (.inl ha), fun x hx => (r2 x hx).imp fun t ⟨e, h⟩ => ⟨e, a.fh _ _ h⟩, ?_, fun ys z h1 h2 hz => ?_⟩
    · rcases h0 with h0 | ⟨r, h0⟩
      · exact .inl fun x hx => h0 _ (by rw [← r1]; exact List.mem_map.mpr ⟨x, hx, rfl⟩)
      · right
        cases xs with
        | nil => rw [h0] at r1; cases r1
        | cons x xs =>
          rw [h0, List.map_cons] at r1
          injection r1 with r1 _
          exact ⟨x, xs, rfl, r1⟩
    · have hy := kOf_back (F := F) (ys := ys) fun x hx => r2 x (h2.mem_iff.mp hx)
      have hp : (ys.map (kOf F)).Perm ls := by rw [← r1]; exact h2.map _
      have a2 := a.laid (o := .lst ys) hz
      exact qq _ _ _ _ (q _ hp (List.pairwise_map.mpr h1)) (a2.push (.lst upd_same (hy.mono (Ex.new (a.fh.none hz)))))
end
end E
set_option Elab.async false
set_option linter.all false
set_option maxRecDepth 100000
set_option pp.maxSteps 1500
/-! The law's own looks: what a lot comes to, lots, plans drawn. -/
namespace A
open PySem PySem.Spec PyProof.Rows L2 E
def caseF (q : List Case) : D → D
  | .int n => caseD (caseAt q n)
  | _ => .non
def fldF (f : Case → Int) : D → D
  | .tup [.int a, .int b, .int c] => .int (f (a, b, c))
  | _ => .non
theorem case_list (q : List Case) (L : List Int) : ((L.map D.int).filter fun _ => true).map (caseF q) = (L.map fun n => caseAt q n).map caseD := by
  rw [filter_all, List.map_map, List.map_map]
  rfl
theorem fld_list (q : List Case) (f : Case → Int) (L : List Int) : (((L.map fun n => caseAt q n).map caseD).filter fun _ => true).map (fldF f) = (L.map fun n => f (caseAt q n)).map D.int := by
  rw [filter_all, List.map_map, List.map_map, List.map_map]
  rfl
def lotsN : Nat → List (List Int)
  | 0 => [[]]
  | n + 1 => lotsN n ++ (lotsN n).map (· ++ [((n : Nat) : Int)])
theorem lots_len : ∀ n, (lotsN n).length = 2 ^ n
  | 0 => rfl
  | n + 1 => by rw [lotsN, List.length_append, List.length_map, lots_len n, Nat.pow_succ]; omega
theorem lots_mem : ∀ {n : Nat} {L : List Int}, L ∈ lotsN n → L.Pairwise (· < ·) ∧ (∀ k ∈ L, 0 ≤ k ∧ k < (n : Int)) ∧ L.length ≤ n
  | 0, L, h => by
    have : L = [] := by simpa [lotsN] using h
    subst this
    exact ⟨List.Pairwise.nil, fun k hk => (by cases hk), Nat.le_refl _⟩
  | n + 1, L, h => by
    rw [lotsN, List.mem_append] at h
    rcases h with h | h
    · obtain ⟨h1, h2, h3⟩ := lots_mem h
      exact ⟨h1, fun k hk => by have := h2 k hk; omega, by omega⟩
    · obtain ⟨M, hM, rfl⟩ := List.mem_map.mp h
      obtain ⟨h1, h2, h3⟩ := lots_mem hM
      refine ⟨List.pairwise_append.mpr ⟨h1, by simp, fun a ha b hb => ?_⟩, fun k hk => ?_, by rw [List.length_append]; show M.length + 1 ≤ _; omega⟩
      · have := h2 a ha
        have e : b = (n : Int) := by simpa using hb
        omega
      · rcases List.mem_append.mp hk with hk | hk
        · have := h2 k hk; omega
        · have e : k = (n : Int) := by simpa using hk
          omega
theorem mem_lots : ∀ {n : Nat} {L : List Int}, L.Pairwise (· < ·) → (∀ k ∈ L, 0 ≤ k ∧ k < (n : Int)) → L ∈ lotsN n
  | 0, L, h1, h2 => by
    cases L with
    | nil => simp [lotsN]
    | cons k L => have := h2 k List.mem_cons_self; omega
  | n + 1, L, h1, h2 => by
    rw [lotsN, List.mem_append]
    by_cases hn : (n : Int) ∈ L
    · right
      -- the greatest stands at the end
      obtain ⟨M, N, rfl⟩ := List.append_of_mem hn
      have hN : N = [] := by
        cases N with
        | nil => rfl
        | cons x N =>
          rw [List.pairwise_append] at h1
          have h3 := (List.pairwise_cons.mp h1.2.1).1 x List.mem_cons_self
          have h4 := h2 x (by simp)
          omega
      subst hN
      rw [List.pairwise_append] at h1
      exact List.mem_map.mpr ⟨M, mem_lots h1.1 fun k hk => by
        have h3 := h2 k (List.mem_append_left _ hk)
        have h4 := h1.2.2 k hk (n : Int) List.mem_cons_self
        omega, rfl⟩
    · left
      exact mem_lots h1 fun k hk => by
        have h3 := h2 k hk
        have : k ≠ (n : Int) := fun e => hn (e ▸ hk)
        omega
def catF (n : Nat) : D → D
  | .tup l => .tup (l ++ [.int (n : Nat)])
  | _ => .non
def someF (d : D) : Bool := decide (0 < (lenT d : Int))
theorem cat_list (n : Nat) (ls : List (List Int)) : ((ls.map dayD).filter fun _ => true).map (catF n) = (ls.map (· ++ [((n : Nat) : Int)])).map dayD := by
  rw [filter_all, List.map_map, List.map_map]
  refine List.map_congr_left fun L _ => ?_
  show D.tup (L.map D.int ++ [.int (n : Nat)]) = D.tup ((L ++ [((n : Nat) : Int)]).map D.int)
  rw [List.map_append]; rfl
theorem some_list (ls : List (List Int)) : ((ls.map dayD).filter someF).map id = (ls.filter fun L => decide (L ≠ [])).map dayD := by
  rw [List.map_id, List.filter_map]
  congr 1
  refine List.filter_congr fun L _ => ?_
  show decide (0 < ((L.map D.int).length : Int)) = decide (L ≠ [])
  rw [List.length_map]
  cases L with
  | nil => rfl
  | cons a L => rw [decide_eq_true (by simp : (a :: L) ≠ [])]; exact decide_eq_true (by simp)
theorem room64 {k : Nat} {A : Around} (r : RoomG k A) : A.units + 64 < cLine := by have := r.rm.un; omega
theorem lots_head : ∀ n, ∃ r, lotsN n = [] :: r
  | 0 => ⟨[], rfl⟩
  | n + 1 => by
    obtain ⟨r, h⟩ := lots_head n
    exact ⟨r ++ (lotsN n).map (· ++ [((n : Nat) : Int)]), by rw [lotsN, h]; rfl⟩
theorem lots_nodup : ∀ n, (lotsN n).Nodup
  | 0 => by simp [lotsN]
  | n + 1 => by
    rw [lotsN]
    refine List.nodup_append.mpr ⟨lots_nodup n, ?_, fun a ha b hb e => ?_⟩
    · refine List.Pairwise.map _ (fun a b h e => h ?_) (lots_nodup n)
      exact List.append_cancel_right e
    · obtain ⟨M, hM, rfl⟩ := List.mem_map.mp hb
      subst e
      have := (lots_mem ha).2.1 (n : Int) (by simp)
      omega
/-- all lots of n cases in their order -/
structure SortOf (n : Nat) (S : List (List Int)) : Prop where
  perm : S.Perm (lotsN n)
  up : S.Pairwise fun a b => HT.lexLt b a = false
theorem SortOf.uniq {n : Nat} {S S' : List (List Int)} (h : SortOf n S) (h' : SortOf n S') : S = S' := lsorted_uniq _ _ h.up h'.up (h.perm.trans h'.perm.symm)
/-- the lot of a mask -/
def bitsL (n m : Nat) : List Int := ((List.range n).filter fun j => decide (m / 2 ^ j % 2 = 1)).map fun j : Nat => ((j : Nat) : Int)
theorem bits_add (a k : Nat) : ∀ j, j < k → (2 ^ k + a) / 2 ^ j % 2 = a / 2 ^ j % 2 := fun j hj => by
  obtain ⟨d, rfl⟩ : ∃ d, k = j + (d + 1) := ⟨k - j - 1, by omega⟩
  have e : 2 ^ (j + (d + 1)) = 2 ^ j * (2 * 2 ^ d) := by rw [Nat.pow_add, Nat.pow_succ]; congr 1; omega
  rw [e, Nat.add_comm, Nat.add_mul_div_left _ _ (Nat.pow_pos (by decide))]
  omega
theorem bits_succ (n m : Nat) (h : m < 2 ^ n) : bitsL (n + 1) m = bitsL n m ∧ bitsL (n + 1) (2 ^ n + m) = bitsL n m ++ [((n : Nat) : Int)] := by
  have hd : m / 2 ^ n = 0 := Nat.div_eq_of_lt h
  have hd2 : (2 ^ n + m) / 2 ^ n = 1 := by
    rw [Nat.add_comm, Nat.add_div_right _ (Nat.pow_pos (by decide)), hd]
  constructor
  · unfold bitsL
    rw [List.range_succ, List.filter_append, List.map_append]
    rw [show List.filter (fun j => decide (m / 2 ^ j % 2 = 1)) [n] = [] by rw [List.filter_cons, if_neg (by rw [hd]; decide)]; rfl]
    simp
  · unfold bitsL
    rw [List.range_succ, List.filter_append, List.map_append]
    rw [show List.filter (fun j => decide ((2 ^ n + m) / 2 ^ j % 2 = 1)) [n] = [n] by rw [List.filter_cons, if_pos (by rw [hd2]; decide)]; rfl]
    congr 1
    congr 1
    refine List.filter_congr fun j hj => ?_
    rw [bits_add m n j (List.mem_range.mp hj)]
theorem bits_lots : ∀ n, (List.range (2 ^ n)).map (bitsL n) = lotsN n
  | 0 => by decide
  | n + 1 => by
    rw [show 2 ^ (n + 1) = 2 ^ n + 2 ^ n by rw [Nat.pow_succ]; omega, List.range_add, List.map_append, List.map_map, lotsN, ← bits_lots n, List.map_map]
    have e1 : (List.range (2 ^ n)).map (bitsL (n + 1)) = (List.range (2 ^ n)).map (bitsL n) := List.map_congr_left fun m hm => (bits_succ n m (List.mem_range.mp hm)).1
    have e2 : (List.range (2 ^ n)).map (bitsL (n + 1) ∘ fun x => 2 ^ n + x) = (List.range (2 ^ n)).map ((fun x => x ++ [((n : Nat) : Int)]) ∘ bitsL n) := List.map_congr_left fun m hm => (bits_succ n m (List.mem_range.mp hm)).2
    rw [e1, e2]
theorem bits_tail (n : Nat) : lotsN n = [] :: (List.range (2 ^ n - 1)).map fun i => bitsL n (1 + i) := by
  have h := bits_lots n
  have hp : 0 < 2 ^ n := Nat.pow_pos (by decide)
  rw [show 2 ^ n = 1 + (2 ^ n - 1) by omega, List.range_add, List.map_append, List.map_map] at h
  rw [← h]
  have e : bitsL n 0 = [] := by
    unfold bitsL
    have : List.filter (fun j => decide (0 / 2 ^ j % 2 = 1)) (List.range n) = [] := List.filter_eq_nil_iff.mpr fun j _ => by simp
    rw [this]
    rfl
  show [bitsL n 0] ++ _ = _
  rw [e]
  rfl
def bitF (m : Nat) : D → Bool
  | .int j => decide (m / 2 ^ j.toNat % 2 = 1)
  | _ => false
theorem bit_list (m n : Nat) : ((numbers n).filter (bitF m)).map id = (bitsL n m).map D.int := by
  rw [List.map_id]
  unfold numbers bitsL
  rw [List.filter_map, List.map_map]
  rfl
section
variable {P : Program} {w : World} {K : PySem.W.Frag} {mg : Str → Option Value} {base : Heap}
abbrev sp_lots : Sp := spD 1 (fun ds => ∃ n : Nat, ds = [.int n] ∧ n ≤ 10) fun ds d => ∀ n : Nat, ds = [.int n] → ∃ S, SortOf n S ∧ d = .lst (S.map dayD)
abbrev N_lots : List Str := ["many", "found", "at", "lot"]
theorem S_lots : FnScope N_lots ["many"] (sc 39) := ⟨rfl, rfl, rfl, by decide +kernel, rfl, by decide +kernel, by decide +kernel⟩
theorem ok_lots {f : Addr} {fd : FuncData} (F : Fun K "_law_lots" "_law_lots" (top 39) f fd) (T : Blt mg) : FnG P w K mg base 1 f fd ["many"] sp_lots := by
  refine ok_D (m := 3) F S_lots rfl rfl fun cdv A outer s H E ds hr hl hp => ?_
  obtain ⟨n, rfl, hn⟩ := hp
  have size : ∀ k, k ≤ n → ((lotsN k).map dayD).length ≤ 1024 := fun k hk => by
    rw [List.length_map, lots_len]
    exact Nat.le_trans (Nat.pow_le_pow_right (by decide) (Nat.le_trans hk hn)) (by decide)
  refine jss_cons (js_set 1 S_lots.nd rfl (j_lst (j_cons (j_tup (j_nil ⟨Nat.zero_le _, j_nil ⟨Nat.le_of_ble_eq_true rfl, ?_⟩⟩)))))
  refine jss_cons (js_for PassesOwn.never rfl (ji_range T.range (j_var 0 rfl rfl ⟨n, rfl, by omega, ?_⟩)))
  refine ⟨fun k sl ms => ∃ t, sl = [.d (.int n), .d (.lst ((lotsN k).map dayD)), t, .u] ∧ ms = [], ⟨.u, rfl, rfl⟩, ?_, ?_⟩
  · rintro k d sl1 ms1 hd ⟨t, rfl, rfl⟩
    obtain ⟨hk, rfl⟩ := numbers_get hd
    have hsz := size k (by omega)
    refine ⟨_, _, jg_name 2 S_lots.nd rfl, ?_⟩
    refine jss_one (js_set 1 S_lots.nd rfl (j_catL (j_var 1 rfl rfl (El.er' (jl_lcF [("lot", 3)] rfl S_lots.nd (blkOk_by (N := N_lots) (sc := sc 39) (by decide +kernel)) (own1 rfl) (ji_lst (j_var 1 rfl rfl ⟨_, rfl, ?_⟩)))))))
    refine ⟨by omega, fun _ => true, catF k, fun d acc hd => ?_, ?_⟩
    · obtain ⟨L, hL, rfl⟩ := List.mem_map.mp hd
      have hLl := (lots_mem hL).2.2
      refine ⟨[3], _, fun s H C cl fp => jg_name 3 S_lots.nd rfl, fun _ h => h, fun s H C cl fp => jts_nil ⟨rfl, fun _ s H C cl fp => ?_⟩⟩
      exact j_cat (j_var 3 rfl rfl (j_tup (j_cons (j_var 2 rfl rfl (j_nil ⟨Nat.le_of_ble_eq_true rfl, _, _, rfl, rfl, by rw [List.length_map]; show L.length + 1 ≤ 100000; omega, rfl⟩)))))
    rw [cat_list]
    refine ⟨_, _, rfl, rfl, by rw [List.length_map, List.length_map, List.length_map]; rw [List.length_map] at hsz; omega, ?_⟩
    refine ⟨.d (.int (k : Nat)), ?_, rfl⟩
    rw [← List.map_append]
    rfl
  · rintro sl1 ms1 ⟨t, rfl, rfl⟩
    rw [numbers_len]
    have hsz := size n (Nat.le_refl _)
    obtain ⟨r, hr0⟩ := lots_head n
    refine jss_one (js_ret (j_sortedT (room64 hr) T.sorted (j_var 1 rfl rfl ⟨lotsN n, rfl, .inr ⟨r, hr0⟩, fun S hp hu n' hy => ?_⟩)))
    injection hy with hy _
    injection hy with hy
    have : n = n' := by omega
    subst this
    exact ⟨S, ⟨hp, hu⟩, rfl⟩
abbrev sp_lof : Sp := spD 1 (fun ds => ∃ n : Nat, ds = [.int n] ∧ n ≤ 10) fun ds d => ∀ n : Nat, ds = [.int n] → ∃ S, SortOf n ([] :: S) ∧ d = .lst (S.map dayD)
abbrev N_lof : List Str := ["many", "found", "mask", "number"]
theorem S_lof : FnScope N_lof ["many"] (sc 19) := ⟨rfl, rfl, rfl, by decide +kernel, rfl, by decide +kernel, by decide +kernel⟩
theorem ok_lof {f : Addr} {fd : FuncData} (F : Fun K "lots_of" "lots_of" (top 19) f fd) (T : Blt mg) : FnG P w K mg base 1 f fd ["many"] sp_lof := by
  refine ok_D (m := 3) F S_lof rfl rfl fun cdv A outer s H E ds hr hl hp => ?_
  obtain ⟨n, rfl, hn⟩ := hp
  have size : 2 ^ n ≤ 1024 := Nat.le_trans (Nat.pow_le_pow_right (by decide) hn) (by decide)
  have hp : 0 < 2 ^ n := Nat.pow_pos (by decide)
  refine jss_cons (js_setL 1 S_lof.nd rfl (jl_lst (j_nil ⟨Nat.zero_le _, ?_⟩)))
  refine jss_cons (js_for PassesOwn.never rfl ?_)
  refine ji_range2 T.range ?_
  refine j_int (j_shl (j_int (j_var 0 rfl rfl ⟨1, n, rfl, rfl, ⟨by omega, by omega, by decide⟩, 1, 2 ^ n - 1, rfl, ?_, by omega, ?_⟩)))
  · rw [Int.toNat_natCast]
    congr 1
    have e : ((2 : Int) ^ n) = ((2 ^ n : Nat) : Int) := by simp
    rw [e]
    omega
  refine ⟨fun k sl ms => ∃ t, sl = [.d (.int n), .m 0, t, .u] ∧ ms = [((List.range k).map fun i => bitsL n (1 + i)).map dayD], ⟨.u, rfl, rfl⟩, ?_, ?_⟩
  · rintro k d sl1 ms1 hd ⟨t, rfl, rfl⟩
    obtain ⟨hk, rfl⟩ := numbersFrom_get hd
    refine ⟨_, _, jg_name 2 S_lof.nd rfl, ?_⟩
    refine jss_one (js_app 1 rfl rfl rfl (by rw [List.length_map, List.length_map, List.length_range]; omega) (j_tupleL T.tup (El.er' (jl_lcF [("number", 3)] rfl S_lof.nd (blkOk_by (N := N_lof) (sc := sc 19) (by decide +kernel)) (own1 rfl) (ji_range T.range (j_var 0 rfl rfl ⟨n, rfl, by omega, ?_⟩))))))
    refine ⟨by rw [numbers_len]; omega, bitF (1 + k), id, fun d acc hd => ?_, ?_⟩
    · obtain ⟨j, hj⟩ := List.getElem?_of_mem hd
      obtain ⟨hj, rfl⟩ := numbers_get hj
      refine ⟨[3], _, fun s H C cl fp => jg_name 3 S_lof.nd rfl, fun _ h => h, fun s H C cl fp => jts_one (jt_cmp (j_bit1 (j_shr (j_var 2 rfl rfl (j_var 3 rfl rfl ⟨_, _, rfl, rfl, by omega, j_int ⟨(1 + k) / 2 ^ j, ?_, rfl, j_int ⟨_, .eq _ _, ?_, fun _ s H C cl fp => j_var 3 rfl rfl rfl⟩⟩⟩)))))⟩
      · rw [Int.toNat_natCast]; simp
      · show decide _ = decide _
        rw [Int.toNat_natCast]
        exact decide_eq_decide.mpr ⟨fun h => by omega, fun h => by omega⟩
    rw [bit_list]
    refine ⟨_, rfl, .d (.int ((1 + k : Nat) : Int)), rfl, ?_⟩
    rw [List.range_succ, List.map_append, List.map_append]
    rfl
  · rintro sl1 ms1 ⟨t, rfl, rfl⟩
    rw [numbersFrom_len]
    have ht := bits_tail n
    refine jss_one (js_ret (j_sortedTM 1 (room64 hr) rfl rfl rfl T.sorted (.inl fun l hl e => ?_) fun S hp hu n' hy => ?_))
    · have hnd : (lotsN n).Nodup := lots_nodup n
      rw [ht, List.nodup_cons] at hnd
      exact hnd.1 (e ▸ hl)
    · injection hy with hy _
      injection hy with hy
      have : n = n' := by omega
      subst this
      refine ⟨S, ⟨?_, List.pairwise_cons.mpr ⟨fun b _ => by cases b <;> rfl, hu⟩⟩, rfl⟩
      rw [ht]
      exact hp.cons []
end
end A
set_option Elab.async false
set_option linter.all false
set_option maxRecDepth 100000
/-! Cases in time, plainly: what a row of (due, work) asks; leaving out the greatest work. -/
namespace A
open PySem PySem.Spec PyProof.Rows L2 E
abbrev Row := Int × Int
def fitR : Int → List Row → Bool
  | _, [] => true
  | t, x :: r => if x.1 < t + x.2 then false else fitR (t + x.2) r
def upto (l : List Row) (d : Int) : Int := ((l.filter fun y => decide (y.1 ≤ d)).map (·.2)).sum
def Fz (l : List Row) : Prop := ∀ x ∈ l, upto l x.1 ≤ x.1
theorem sum_perm {l m : List Int} (h : l.Perm m) : l.sum = m.sum := by
  induction h with
  | nil => rfl
  | cons x _ ih => rw [List.sum_cons, List.sum_cons, ih]
  | swap x y l => simp only [List.sum_cons]; omega
  | trans _ _ h1 h2 => rw [h1, h2]
theorem upto_perm {l m : List Row} (h : l.Perm m) (d : Int) : upto l d = upto m d := sum_perm ((h.filter _).map _)
theorem Fz.perm {l m : List Row} (h : l.Perm m) (f : Fz l) : Fz m := fun x hx => by rw [← upto_perm h]; exact f x (h.mem_iff.mpr hx)
theorem sum_nn2 {l : List Int} (h : ∀ x ∈ l, 0 ≤ x) : 0 ≤ l.sum := by
  induction l with
  | nil => exact Int.le_refl 0
  | cons x r ih => rw [List.sum_cons]; have := h x (.head _); have := ih fun y hy => h y (.tail _ hy); omega
theorem upto_nn {l : List Row} (h : ∀ x ∈ l, 0 ≤ x.2) (d : Int) : 0 ≤ upto l d := sum_nn2 fun x hx => by
  obtain ⟨y, hy, rfl⟩ := List.mem_map.mp hx
  exact h y (List.mem_filter.mp hy).1
theorem upto_cons (x : Row) (l : List Row) (d : Int) : upto (x :: l) d = (if x.1 ≤ d then x.2 else 0) + upto l d := by
  unfold upto
  rw [List.filter_cons]
  by_cases h : x.1 ≤ d
  · rw [if_pos h, if_pos (by simpa using h)]; rfl
  · rw [if_neg h, if_neg (by simpa using h)]; simp
theorem fit_iff : ∀ (l : List Row) (t : Int), l.Pairwise (fun x y => x.1 ≤ y.1) → (∀ x ∈ l, 0 ≤ x.2) → (fitR t l = true ↔ ∀ x ∈ l, t + upto l x.1 ≤ x.1)
  | [], t, _, _ => ⟨fun _ x hx => by simp at hx, fun _ => rfl⟩
  | x :: r, t, hs, hw => by
    obtain ⟨h1, h2⟩ := List.pairwise_cons.mp hs
    have ih := fit_iff r (t + x.2) h2 fun y hy => hw y (.tail _ hy)
    have nn := upto_nn (fun y hy => hw y (.tail _ hy) : ∀ y ∈ r, 0 ≤ y.2)
    unfold fitR
    by_cases hx : x.1 < t + x.2
    · rw [if_pos hx]
      refine ⟨(fun h => by cases h), fun h => ?_⟩
      have := h x (.head _)
      rw [upto_cons, if_pos (Int.le_refl _)] at this
      have := nn x.1
      omega
    · rw [if_neg hx, ih]
      refine ⟨fun h y hy => ?_, fun h y hy => ?_⟩
      · rcases List.mem_cons.mp hy with rfl | hy
        · rw [upto_cons, if_pos (Int.le_refl _)]
          by_cases he : ∃ z ∈ r, z.1 ≤ y.1
          · obtain ⟨z, hz, hzy⟩ := he
            have e : z.1 = y.1 := Int.le_antisymm hzy (h1 z hz)
            have := h z hz
            rw [e] at this
            omega
          · have : upto r y.1 = 0 := by
              unfold upto
              rw [List.filter_eq_nil_iff.mpr fun z hz => by have : ¬ z.1 ≤ y.1 := fun q => he ⟨z, hz, q⟩; simpa using this]
              rfl
            omega
        · rw [upto_cons, if_pos (h1 y hy)]
          have := h y hy
          omega
      · have := h y (.tail _ hy)
        rw [upto_cons, if_pos (h1 y hy)] at this
        omega
theorem fit_Fz {l : List Row} (hs : l.Pairwise fun x y => x.1 ≤ y.1) (hw : ∀ x ∈ l, 0 ≤ x.2) : fitR 0 l = true ↔ Fz l := by
  rw [fit_iff l 0 hs hw]
  exact ⟨fun h x hx => by have := h x hx; omega, fun h x hx => by have := h x hx; omega⟩
theorem fit_snoc : ∀ (l : List Row) (t : Int) (x : Row), fitR t (l ++ [x]) = (fitR t l && !decide (x.1 < t + (l.map (·.2)).sum + x.2))
  | [], t, x => by
    show (if x.1 < t + x.2 then false else fitR (t + x.2) []) = (true && !decide (x.1 < t + 0 + x.2))
    rw [Int.add_zero]
    by_cases h : x.1 < t + x.2
    · rw [if_pos h, decide_eq_true h]; rfl
    · rw [if_neg h, decide_eq_false h]; rfl
  | y :: l, t, x => by
    rw [List.cons_append]
    unfold fitR
    by_cases h : y.1 < t + y.2
    · rw [if_pos h, if_pos h]; rfl
    · rw [if_neg h, if_neg h, fit_snoc l _ x, List.map_cons, List.sum_cons, show t + y.2 + (l.map (·.2)).sum = t + (y.2 + (l.map (·.2)).sum) by omega]
theorem fit_less : ∀ (l : List Row) {t t' : Int}, t' ≤ t → fitR t l = true → fitR t' l = true
  | [], _, _, _, _ => rfl
  | x :: l, t, t', h, q => by
    unfold fitR at q ⊢
    by_cases hx : x.1 < t + x.2
    · rw [if_pos hx] at q; cases q
    · rw [if_neg hx] at q
      rw [if_neg (by omega)]
      exact fit_less l (by omega) q
theorem fit_sub {l m : List Row} (s : l.Sublist m) : ∀ {t : Int}, (∀ x ∈ m, 0 ≤ x.2) → fitR t m = true → fitR t l = true := by
  induction s with
  | slnil => intro t _ h; exact h
  | cons x s ih =>
    intro t hw h
    unfold fitR at h
    split at h
    · cases h
    · exact ih (fun y hy => hw y (.tail _ hy)) (fit_less _ (by have := hw x (.head _); omega) h)
  | cons_cons x s ih =>
    intro t hw h
    unfold fitR at h ⊢
    split at h
    · cases h
    · rename_i hx
      rw [if_neg hx]
      exact ih (fun y hy => hw y (.tail _ hy)) h
/-- the last due bounds what is done -/
theorem fit_total : ∀ (l : List Row) {t : Int}, l ≠ [] → fitR t l = true → ∃ x ∈ l, t + (l.map (·.2)).sum ≤ x.1
  | [], _, h, _ => absurd rfl h
  | [x], t, _, h => by
    unfold fitR at h
    split at h
    · cases h
    · exact ⟨x, .head _, by simp; omega⟩
  | x :: y :: l, t, _, h => by
    unfold fitR at h
    split at h
    · cases h
    · obtain ⟨z, hz, hq⟩ := fit_total (y :: l) (by simp) h
      exact ⟨z, .tail _ hz, by rw [List.map_cons, List.sum_cons]; omega⟩

/-! ### the least works -/
theorem least_sum : ∀ (s A C : List Int), s.Pairwise (· ≤ ·) → (A ++ C).Perm s → (s.take A.length).sum ≤ A.sum
  | [], A, C, _, p => by
    have : A = [] := by have := p.eq_nil; simp at this; exact this.1
    subst this
    exact Int.le_refl _
  | a :: s, [], C, _, _ => by simp
  | a :: s, b :: A, C, hs, p => by
    obtain ⟨h1, h2⟩ := List.pairwise_cons.mp hs
    by_cases ha : a ∈ b :: A
    · obtain ⟨L, R, e⟩ := List.append_of_mem ha
      have p1 : (b :: A).Perm (a :: (L ++ R)) := by rw [e]; exact List.perm_middle
      have p2 : ((L ++ R) ++ C).Perm s := by
        have : (a :: (L ++ R) ++ C).Perm (a :: s) := (p1.append_right C).symm.trans p
        exact this.cons_inv
      have ih := least_sum s (L ++ R) C h2 p2
      have hl : (b :: A).length = (L ++ R).length + 1 := by rw [p1.length_eq]; rfl
      rw [hl, List.take_succ_cons, List.sum_cons, sum_perm p1, List.sum_cons]
      omega
    · have hc : a ∈ C := by
        have : a ∈ b :: A ++ C := p.mem_iff.mpr (.head _)
        rcases List.mem_append.mp this with h | h
        · exact absurd h ha
        · exact h
      obtain ⟨L, R, e⟩ := List.append_of_mem hc
      have p1 : C.Perm (a :: (L ++ R)) := by rw [e]; exact List.perm_middle
      have p2 : (A ++ (b :: (L ++ R))).Perm s := by
        have q1 : (a :: (A ++ (b :: (L ++ R)))).Perm (b :: A ++ C) := by
          refine List.Perm.trans ?_ ((List.Perm.refl (b :: A)).append p1.symm)
          refine List.Perm.trans (List.Perm.cons a List.perm_middle) ?_
          refine List.Perm.trans ?_ List.perm_middle.symm
          exact List.Perm.cons a (List.Perm.refl _)
        exact (q1.trans p).cons_inv
      have ih := least_sum s A (b :: (L ++ R)) h2 p2
      have hb : b ∈ a :: s := p.mem_iff.mp (by simp)
      have hab : a ≤ b := by
        rcases List.mem_cons.mp hb with e | h
        · exact Int.le_of_eq e.symm
        · exact h1 b h
      rw [List.length_cons, List.take_succ_cons, List.sum_cons, List.sum_cons]
      omega

/-! ### leaving out the greatest work -/
def works (l : List Row) : List Int := l.map (·.2)
structure Stay (l : List Row) (k : Nat) (stay : List Int) : Prop where
  up : stay.Pairwise (· ≤ ·)
  some : ∃ T, T.Sublist (l.take k) ∧ fitR 0 T = true ∧ (works T).Perm stay
  most : ∀ T, T.Sublist (l.take k) → fitR 0 T = true → T.length ≤ stay.length ∧ (stay.take T.length).sum ≤ (works T).sum
theorem stay_start (l : List Row) : Stay l 0 [] := ⟨List.Pairwise.nil, ⟨[], List.Sublist.refl _, rfl, List.Perm.refl _⟩, fun T h _ => by
  have : T = [] := by simpa using h
  subst this
  exact ⟨Nat.le_refl _, Int.le_refl _⟩⟩
theorem take_last {s : List Int} {m : Nat} (h : m < s.length) : s.dropLast.take m = s.take m := by
  rw [List.dropLast_eq_take, List.take_take, Nat.min_eq_left (by omega)]
theorem sub_snoc {l T : List Row} {x : Row} (h : T.Sublist (l ++ [x])) : T.Sublist l ∨ ∃ U, T = U ++ [x] ∧ U.Sublist l := by
  obtain ⟨U, V, rfl, h1, h2⟩ := List.sublist_append_iff.mp h
  cases V with
  | nil => exact .inl (by rw [List.append_nil]; exact h1)
  | cons v V =>
    have e : v :: V = [x] := h2.eq_of_length (by
      have := h2.length_le
      simp only [List.length_cons, List.length_nil] at this ⊢
      omega)
    rw [e]
    exact .inr ⟨U, rfl, h1⟩
theorem last_most {s : List Int} (hs : s.Pairwise (· ≤ ·)) (hn : s ≠ []) : ∀ y ∈ s, y ≤ s.getLast hn := fun y hy => by
  rw [← List.dropLast_concat_getLast hn] at hs hy
  rcases List.mem_append.mp hy with h | h
  · exact (List.pairwise_append.mp hs).2.2 y h _ (by simp)
  · have : y = s.getLast hn := by simpa using h
    exact Int.le_of_eq this
theorem stay_step {l : List Row} {k : Nat} {x : Row} {stay s : List Int} (hx : l[k]? = some x) (hl : l.Pairwise fun x y => x.1 ≤ y.1) (hw : ∀ x ∈ l, 0 ≤ x.2) (h : Stay l k stay) (hs : s.Pairwise (· ≤ ·)) (hp : s.Perm (stay ++ [x.2])) :
    Stay l (k + 1) (if x.1 < stay.sum + x.2 then s.dropLast else s) := by
  have ht : l.take (k + 1) = l.take k ++ [x] := by rw [List.take_add_one, hx]; rfl
  have hxm : x ∈ l := List.mem_of_getElem? hx
  have hlen : s.length = stay.length + 1 := by rw [hp.length_eq, List.length_append]; rfl
  have hw' : ∀ y ∈ l.take (k + 1), 0 ≤ y.2 := fun y hy => hw y (List.take_subset _ _ hy)
  have hlast : ∀ y ∈ l.take k, y.1 ≤ x.1 := fun y hy => by
    have hpr : (l.take (k + 1)).Pairwise fun x y => x.1 ≤ y.1 := hl.sublist (List.take_sublist _ _)
    rw [ht] at hpr
    exact (List.pairwise_append.mp hpr).2.2 y hy x (by simp)
  obtain ⟨T0, t1, t2, t3⟩ := h.some
  have hsum : (works T0).sum = stay.sum := sum_perm t3
  -- the least works with the new one
  have low1 : ∀ T, T.Sublist (l.take k) → fitR 0 T = true → (s.take T.length).sum ≤ (works T).sum := fun T hT hf => by
    obtain ⟨m1, m2⟩ := h.most T hT hf
    have q := least_sum s (stay.take T.length) (stay.drop T.length ++ [x.2]) hs (by rw [← List.append_assoc, List.take_append_drop]; exact hp.symm)
    rw [List.length_take, Nat.min_eq_left m1] at q
    omega
  have low2 : ∀ T, T.Sublist (l.take k) → fitR 0 T = true → (s.take (T.length + 1)).sum ≤ (works T).sum + x.2 := fun T hT hf => by
    obtain ⟨m1, m2⟩ := h.most T hT hf
    have q := least_sum s (stay.take T.length ++ [x.2]) (stay.drop T.length) hs (by
      refine List.Perm.trans ?_ hp.symm
      rw [List.append_assoc]
      refine List.Perm.trans ((List.Perm.refl _).append List.perm_append_comm) ?_
      rw [← List.append_assoc, List.take_append_drop])
    rw [List.length_append, List.length_take, Nat.min_eq_left m1, List.sum_append] at q
    have q : (s.take (T.length + 1)).sum ≤ (stay.take T.length).sum + (x.2 + 0) := q
    omega
  by_cases hd : x.1 < stay.sum + x.2
  · rw [if_pos hd]
    have hn : s ≠ [] := fun e => by rw [e] at hlen; simp at hlen
    refine ⟨hs.sublist (List.dropLast_sublist _), ?_, fun T hT hf => ?_⟩
    · -- the greatest goes
      have e1 : s.dropLast ++ [s.getLast hn] = s := List.dropLast_concat_getLast hn
      by_cases hg : s.getLast hn = x.2
      · refine ⟨T0, by rw [ht]; exact t1.trans (List.sublist_append_left _ _), t2, t3.trans ?_⟩
        have q : (s.dropLast ++ [x.2]).Perm (stay ++ [x.2]) := by rw [← hg, e1, hg]; exact hp
        exact ((List.perm_append_right_iff _).mp q).symm
      · have hm : s.getLast hn ∈ stay := by
          have : s.getLast hn ∈ stay ++ [x.2] := hp.mem_iff.mp (List.getLast_mem hn)
          rcases List.mem_append.mp this with h | h
          · exact h
          · exact absurd (by simpa using h) hg
        have hm' : s.getLast hn ∈ works T0 := t3.mem_iff.mpr hm
        obtain ⟨y, hy, ey⟩ := List.mem_map.mp hm'
        obtain ⟨L, R, e2⟩ := List.append_of_mem hy
        have sub : (L ++ R).Sublist T0 := by rw [e2]; exact (List.Sublist.refl L).append (List.sublist_cons_self _ _)
        have hwT : ∀ z ∈ T0, 0 ≤ z.2 := fun z hz => hw z (List.take_subset _ _ (t1.subset hz))
        have hsum2 : (works (L ++ R)).sum + y.2 = stay.sum := by
          rw [← hsum, e2]
          simp only [works, List.map_append, List.map_cons, List.sum_append, List.sum_cons]
          omega
        have hge : x.2 ≤ y.2 := by
          rw [ey]
          exact last_most hs hn x.2 (hp.mem_iff.mpr (by simp))
        refine ⟨L ++ R ++ [x], by rw [ht]; exact (sub.trans t1).append (List.Sublist.refl _), ?_, ?_⟩
        · rw [fit_snoc, fit_sub sub hwT t2]
          obtain ⟨z, hz, hq⟩ := fit_total T0 (fun e => by rw [e] at hy; cases hy) t2
          have hzx := hlast z (t1.subset hz)
          have hq : 0 + (works T0).sum ≤ z.1 := hq
          have : ¬ x.1 < 0 + (works (L ++ R)).sum + x.2 := by omega
          show (true && !decide (x.1 < 0 + (works (L ++ R)).sum + x.2)) = true
          rw [decide_eq_false this]
          rfl
        · have q1 : (works (L ++ R ++ [x]) ++ [s.getLast hn]).Perm (s.dropLast ++ [s.getLast hn]) := by
            rw [e1]
            refine List.Perm.trans ?_ hp.symm
            have q2 : (works T0 ++ [x.2]).Perm (stay ++ [x.2]) := t3.append_right _
            refine List.Perm.trans ?_ q2
            rw [e2, ← ey]
            simp only [works, List.map_append, List.map_cons, List.map_nil, List.append_assoc]
            refine (List.Perm.refl _).append ?_
            refine List.Perm.trans (List.perm_append_comm_assoc _ _ _) ?_
            show ([x.2] ++ (List.map (fun z : Row => z.2) R ++ [y.2])).Perm ([y.2] ++ (List.map (fun z : Row => z.2) R ++ [x.2]))
            refine List.Perm.trans (List.perm_append_comm) ?_
            rw [List.append_assoc]
            refine List.Perm.trans (List.perm_append_comm_assoc _ _ _) ?_
            exact List.Perm.refl _
          exact (List.perm_append_right_iff _).mp q1
    · rw [ht] at hT
      have hdl : s.dropLast.length = stay.length := by rw [List.length_dropLast, hlen]; rfl
      rcases sub_snoc hT with hT | ⟨U, rfl, hU⟩
      · have m1 := (h.most T hT hf).1
        refine ⟨by omega, ?_⟩
        rw [take_last (by omega)]
        exact low1 T hT hf
      · rw [fit_snoc, Bool.and_eq_true] at hf
        obtain ⟨f1, f2⟩ := hf
        obtain ⟨m1, m2⟩ := h.most U hU f1
        have f2 : ¬ x.1 < 0 + (works U).sum + x.2 := fun q => by
          have f2 : (!decide (x.1 < 0 + (works U).sum + x.2)) = true := f2
          rw [decide_eq_true q] at f2; cases f2
        have hlt : U.length < stay.length := by
          rcases Nat.lt_or_ge U.length stay.length with q | q
          · exact q
          · have e : U.length = stay.length := by omega
            rw [e, List.take_length] at m2
            omega
        have hlen2 : (U ++ [x]).length = U.length + 1 := by rw [List.length_append]; rfl
        refine ⟨by omega, ?_⟩
        rw [hlen2, take_last (by omega)]
        have := low2 U hU f1
        show _ ≤ (List.map _ (U ++ [x])).sum
        rw [List.map_append, List.sum_append]
        show _ ≤ (works U).sum + (x.2 + 0)
        omega
  · rw [if_neg hd]
    refine ⟨hs, ⟨T0 ++ [x], by rw [ht]; exact t1.append (List.Sublist.refl _), ?_, ?_⟩, fun T hT hf => ?_⟩
    · rw [fit_snoc, t2]
      have : ¬ x.1 < 0 + (works T0).sum + x.2 := by omega
      show (true && !decide (x.1 < 0 + (works T0).sum + x.2)) = true
      rw [decide_eq_false this]
      rfl
    · refine List.Perm.trans ?_ hp.symm
      show (List.map _ (T0 ++ [x])).Perm _
      rw [List.map_append]
      exact t3.append_right _
    · rw [ht] at hT
      rcases sub_snoc hT with hT | ⟨U, rfl, hU⟩
      · have m1 := (h.most T hT hf).1
        exact ⟨by omega, low1 T hT hf⟩
      · rw [fit_snoc, Bool.and_eq_true] at hf
        obtain ⟨m1, m2⟩ := h.most U hU hf.1
        have hlen2 : (U ++ [x]).length = U.length + 1 := by rw [List.length_append]; rfl
        refine ⟨by omega, ?_⟩
        rw [hlen2]
        have := low2 U hU hf.1
        show _ ≤ (List.map _ (U ++ [x])).sum
        rw [List.map_append, List.sum_append]
        show _ ≤ (works U).sum + (x.2 + 0)
        omega
end A
set_option Elab.async false
set_option linter.all false
set_option maxRecDepth 100000
/-! Lots and rows. -/
namespace A
open PySem PySem.Spec PyProof.Rows L2 E
def rowOf (c : Case) : Row := (c.2.2, c.2.1)
def rowsOf (q : List Case) (L : List Int) : List Row := L.map fun n => rowOf (caseAt q n)
def rowsAll (q : List Case) : List Row := q.map rowOf
def idxs (n : Nat) : List Int := (List.range n).map fun j : Nat => ((j : Nat) : Int)
theorem idxs_succ (n : Nat) : idxs (n + 1) = idxs n ++ [((n : Nat) : Int)] := by
  unfold idxs
  rw [List.range_succ, List.map_append]; rfl
theorem idxs_len (n : Nat) : (idxs n).length = n := by simp [idxs]
theorem rows_idxs (q : List Case) : rowsOf q (idxs q.length) = rowsAll q := by
  refine List.ext_getElem? fun j => ?_
  unfold rowsOf idxs rowsAll
  rw [List.getElem?_map, List.getElem?_map, List.getElem?_map]
  by_cases h : j < q.length
  · rw [List.getElem?_range h, List.getElem?_eq_getElem h]
    have e : caseAt q ((j : Nat) : Int) = q[j] := by
      have := caseAt_get (q := q) (n := (j : Int)) ⟨by omega, by omega⟩
      rw [Int.toNat_natCast, List.getElem?_eq_getElem h] at this
      exact (Option.some.inj this).symm
    show some (rowOf (caseAt q ((j : Nat) : Int))) = some (rowOf q[j])
    rw [e]
  · rw [List.getElem?_eq_none (by simpa using Nat.le_of_not_lt h), List.getElem?_eq_none (Nat.le_of_not_lt h)]; rfl
theorem lots_sub : ∀ {n : Nat} {L : List Int}, L ∈ lotsN n → L.Sublist (idxs n)
  | 0, L, h => by
    have : L = [] := by simpa [lotsN] using h
    subst this
    exact List.Sublist.refl _
  | n + 1, L, h => by
    rw [idxs_succ]
    rw [lotsN, List.mem_append] at h
    rcases h with h | h
    · exact (lots_sub h).trans (List.sublist_append_left _ _)
    · obtain ⟨M, hM, rfl⟩ := List.mem_map.mp h
      exact (lots_sub hM).append (List.Sublist.refl _)
theorem sub_lots {n : Nat} {L : List Int} (h : L.Sublist (idxs n)) : L ∈ lotsN n := by
  refine mem_lots (List.Pairwise.sublist h ?_) fun k hk => ?_
  · unfold idxs
    refine List.pairwise_map.mpr ?_
    exact (List.pairwise_lt_range).imp fun h => by omega
  · have := h.subset hk
    unfold idxs at this
    obtain ⟨j, hj, rfl⟩ := List.mem_map.mp this
    have := List.mem_range.mp hj
    omega
theorem taken {q : List Case} (hw : ∀ c ∈ q, 0 ≤ c.2.1) {l : List Row} {stay : List Int} (hp : l.Perm (rowsAll q)) (hl : l.Pairwise fun x y => x.1 ≤ y.1) (S : Stay l l.length stay) :
    (∃ L ∈ lotsN q.length, Fz (rowsOf q L) ∧ L.length = stay.length) ∧ ∀ L ∈ lotsN q.length, Fz (rowsOf q L) → L.length ≤ stay.length := by
  have hwl : ∀ x ∈ l, 0 ≤ x.2 := fun x hx => by
    obtain ⟨c, hc, rfl⟩ := List.mem_map.mp (hp.mem_iff.mp hx)
    exact hw c hc
  have tl : l.take l.length = l := List.take_length
  have fz : ∀ {T : List Row}, T.Sublist l → (fitR 0 T = true ↔ Fz T) := fun {T} hT => fit_Fz (hl.sublist hT) fun x hx => hwl x (hT.subset hx)
  constructor
  · obtain ⟨T, t1, t2, t3⟩ := S.some
    rw [tl] at t1
    obtain ⟨T', p1, p2⟩ := List.exists_perm_sublist t1 hp
    rw [← rows_idxs] at p2
    obtain ⟨L, hL, e⟩ := List.sublist_map_iff.mp p2
    refine ⟨L, sub_lots hL, ?_, ?_⟩
    · have := ((fz t1).mp t2).perm p1.symm
      rw [e] at this
      exact this
    · have h1 := t3.length_eq
      have h2 := p1.length_eq
      rw [e, List.length_map] at h2
      unfold works at h1
      rw [List.length_map] at h1
      omega
  · intro L hL hf
    have s1 : (rowsOf q L).Sublist (rowsAll q) := by
      rw [← rows_idxs]
      exact (lots_sub hL).map _
    obtain ⟨T, p1, p2⟩ := List.exists_perm_sublist s1 hp.symm
    have := (S.most T (by rw [tl]; exact p2) ((fz p2).mpr (hf.perm p1.symm))).1
    have h2 := p1.length_eq
    unfold rowsOf at h2
    rw [List.length_map] at h2
    omega
def feas (q : List Case) (L : List Int) : Bool := (rowsOf q L).all fun x => decide (upto (rowsOf q L) x.1 ≤ x.1)
theorem feas_iff {q : List Case} {L : List Int} : feas q L = true ↔ Fz (rowsOf q L) := by
  unfold feas Fz
  rw [List.all_eq_true]
  exact ⟨fun h x hx => of_decide_eq_true (h x hx), fun h x hx => decide_eq_true (h x hx)⟩
theorem feas_nil (q : List Case) : feas q [] = true := rfl
theorem feas_of {q : List Case} {L : List Int} {b : Bool} (h : b = true ↔ Fz (rowsOf q L)) : b = feas q L := by
  rw [← feas_iff] at h
  cases b <;> cases e : feas q L <;> simp_all
/-- a lot within a lot that can, can -/
theorem feas_sub {q : List Case} (hw : ∀ c ∈ q, 0 ≤ c.2.1) {L M : List Int} (hi : ∀ k ∈ M, 0 ≤ k ∧ k < (q.length : Int)) (s : L.Sublist M) (h : feas q M = true) : feas q L = true := by
  rw [feas_iff] at h ⊢
  have s' : (rowsOf q L).Sublist (rowsOf q M) := s.map _
  intro x hx
  refine Int.le_trans ?_ (h x (s'.subset hx))
  have key : ∀ {l m : List Row}, l.Sublist m → (∀ x ∈ m, 0 ≤ x.2) → ∀ d, upto l d ≤ upto m d := by
    intro l m hs
    induction hs with
    | slnil => intro _ d; exact Int.le_refl _
    | cons y s ih =>
      intro hw d
      rw [upto_cons]
      have := ih (fun z hz => hw z (.tail _ hz)) d
      have := hw y (.head _)
      split <;> omega
    | cons_cons y s ih =>
      intro hw d
      rw [upto_cons, upto_cons]
      have := ih (fun z hz => hw z (.tail _ hz)) d
      omega
  refine key s' (fun y hy => ?_) _
  obtain ⟨n, hn, rfl⟩ := List.mem_map.mp hy
  have := caseAt_get (hi n hn)
  exact hw _ (List.mem_of_getElem? this)

/-! ### the first of the longest -/
def bestStep (p : List Int → Bool) (b : Nat × List Int) (L : List Int) : Nat × List Int := if b.1 < L.length ∧ p L = true then (L.length, L) else b
theorem best_fold (p : List Int → Bool) : ∀ (l : List (List Int)) (b : Nat × List Int), let r := l.foldl (bestStep p) b
    b.1 ≤ r.1 ∧ (∀ L ∈ l, p L = true → L.length ≤ r.1) ∧ (r = b ∨ (b.1 < r.1 ∧ ∃ t, (l.filter p).filter (fun L => decide (L.length = r.1)) = r.2 :: t))
  | [], b => ⟨Nat.le_refl _, (fun L hL => by cases hL), .inl rfl⟩
  | L :: l, b => by
    obtain ⟨h1, h2, h3⟩ := best_fold p l (bestStep p b L)
    have hs : b.1 ≤ (bestStep p b L).1 := by
      unfold bestStep; split
      · rename_i h; exact Nat.le_of_lt h.1
      · exact Nat.le_refl _
    refine ⟨Nat.le_trans hs h1, fun M hM hp => ?_, ?_⟩
    · rcases List.mem_cons.mp hM with rfl | hM
      · refine Nat.le_trans ?_ h1
        unfold bestStep
        split
        · exact Nat.le_refl _
        · rename_i h
          have : ¬ b.1 < M.length := fun q => h ⟨q, hp⟩
          omega
      · exact h2 M hM hp
    · rw [List.foldl_cons]
      by_cases hb : b.1 < L.length ∧ p L = true
      · have e : bestStep p b L = (L.length, L) := if_pos hb
        rw [e] at h1 h2 h3 ⊢
        right
        rcases h3 with h3 | ⟨h3, t, h4⟩
        · rw [h3]
          refine ⟨hb.1, (l.filter p).filter (fun M => decide (M.length = L.length)), ?_⟩
          rw [List.filter_cons, if_pos hb.2, List.filter_cons, if_pos (by simp)]
        · refine ⟨Nat.lt_trans hb.1 h3, t, ?_⟩
          rw [List.filter_cons, if_pos hb.2, List.filter_cons, if_neg (by
            have h3 : L.length < _ := h3
            simp only [decide_eq_true_eq]
            omega)]
          exact h4
      · have e : bestStep p b L = b := if_neg hb
        rw [e] at h1 h2 h3 ⊢
        rcases h3 with h3 | ⟨h3, t, h4⟩
        · exact .inl h3
        · refine .inr ⟨h3, t, ?_⟩
          rw [List.filter_cons]
          by_cases hp : p L = true
          · rw [if_pos hp, List.filter_cons, if_neg (by
              have : ¬ b.1 < L.length := fun q => hb ⟨q, hp⟩
              simp only [decide_eq_true_eq]
              omega)]
            exact h4
          · rw [if_neg hp]; exact h4
/-- what most_in_time tells is what the law's own look tells -/
theorem best_is {q : List Case} {S : List (List Int)} (hS : SortOf q.length ([] :: S)) {m : Nat} (hm : ∃ L ∈ [] :: S, feas q L = true ∧ L.length = m) (hu : ∀ L ∈ [] :: S, feas q L = true → L.length ≤ m) :
    ∃ t, ((([] :: S).filter (feas q)).filter fun L => decide (L.length = m)) = (S.foldl (bestStep (feas q)) (0, [])).2 :: t ∧ (S.foldl (bestStep (feas q)) (0, [])).1 = m := by
  obtain ⟨h1, h2, h3⟩ := best_fold (feas q) S (0, [])
  generalize S.foldl (bestStep (feas q)) (0, []) = r at h1 h2 h3
  obtain ⟨L, hL, hf, hl⟩ := hm
  have hge : m ≤ r.1 := by
    rcases List.mem_cons.mp hL with rfl | hL
    · rw [← hl]; exact Nat.zero_le _
    · rw [← hl]; exact h2 L hL hf
  rcases h3 with h3 | ⟨h3, t, h4⟩
  · subst h3
    have e : m = 0 := Nat.le_zero.mp hge
    subst e
    rw [List.filter_cons, if_pos (feas_nil q), List.filter_cons, if_pos (by simp)]
    exact ⟨_, rfl, rfl⟩
  · have hmem : r.2 ∈ (S.filter (feas q)).filter (fun L => decide (L.length = r.1)) := by rw [h4]; exact .head _
    obtain ⟨k1, k2⟩ := List.mem_filter.mp hmem
    obtain ⟨k3, k4⟩ := List.mem_filter.mp k1
    have hle := hu r.2 (.tail _ k3) k4
    have k2 : r.2.length = r.1 := of_decide_eq_true k2
    have e : r.1 = m := by omega
    rw [← e]
    rw [List.filter_cons, if_pos (feas_nil q), List.filter_cons, if_neg (by
      have h3 : 0 < r.1 := h3
      simp only [List.length_nil, decide_eq_true_eq]
      omega)]
    exact ⟨t, h4, rfl⟩

/-! ### all in time -/
theorem lot_map {q0 : List Case} {a d : Int} {α : Type} (f : Case → α) : ∀ (q : List Case) (k : Nat), (∀ (j : Nat) (c : Case), q[j]? = some c → q0[k + j]? = some c) → (lotFrom a d k q).map (fun n => f (caseAt q0 n)) = (q.filter fun c => decide (a ≤ c.1 ∧ c.2.2 ≤ d)).map f
  | [], _, _ => rfl
  | c :: q, k, h => by
    have ih := lot_map (q0 := q0) (a := a) (d := d) f q (k + 1) fun j x hx => by have := h (j + 1) x (by simpa using hx); rwa [show k + 1 + j = k + (j + 1) by omega]
    have h0 := h 0 c rfl
    have e : caseAt q0 ((k : Nat) : Int) = c := by
      have hk : k < q0.length := (List.getElem?_eq_some_iff.mp h0).1
      have := caseAt_get (q := q0) (n := (k : Int)) ⟨by omega, by omega⟩
      rw [Int.toNat_natCast] at this
      rw [Nat.add_zero] at h0
      rw [h0] at this
      exact (Option.some.inj this).symm
    unfold lotFrom
    by_cases hc : a ≤ c.1 ∧ c.2.2 ≤ d
    · rw [if_pos hc, List.filter_cons, if_pos (decide_eq_true hc), List.map_cons, List.map_cons, ih, e]
    · rw [if_neg hc, List.filter_cons, if_neg (by simpa using hc), ih]
theorem lot_upto {q : List Case} {a d : Int} (h0 : ∀ c ∈ q, c.1 = 0) (ha : a ≤ 0) : ((lotOf2 q a d).map fun n => (caseAt q n).2.1).sum = upto (rowsAll q) d := by
  rw [lot_map (fun c => c.2.1) q 0 fun j c h => by rw [Nat.zero_add]; exact h]
  unfold upto rowsAll
  rw [List.filter_map, List.map_map]
  congr 1
  congr 1
  refine List.filter_congr fun c hc => ?_
  have := h0 c hc
  show decide (a ≤ c.1 ∧ c.2.2 ≤ d) = decide (c.2.2 ≤ d)
  exact decide_eq_decide.mpr ⟨fun h => h.2, fun h => ⟨by omega, h⟩⟩
theorem min_zero {q : List Case} {L : List Int} (h0 : ∀ c ∈ q, c.1 = 0) (hi : ∀ k ∈ L, 0 ≤ k ∧ k < (q.length : Int)) (hn : L ≠ []) : minI (L.map fun n => (caseAt q n).1) = 0 := by
  obtain ⟨n, hn, e⟩ := List.mem_map.mp (minI_mem (l := L.map fun n => (caseAt q n).1) (by simpa using hn)).1
  rw [← e]
  exact h0 _ (List.mem_of_getElem? (caseAt_get (hi n hn)))
theorem lot_idx {q : List Case} {a d : Int} : ∀ k ∈ lotOf2 q a d, 0 ≤ k ∧ k < (q.length : Int) := fun k hk => by
  obtain ⟨j, c, rfl, hj, _⟩ := mem_lot.mp hk
  have := (List.getElem?_eq_some_iff.mp hj).1
  omega
theorem late_iff {q : List Case} (h0 : ∀ c ∈ q, c.1 = 0) {v : Int} {L : List Int} (hs : showAll q = some (v, L)) : v ≤ 0 ↔ Fz (rowsAll q) := by
  constructor
  · intro hv x hx
    obtain ⟨c, hc, rfl⟩ := List.mem_map.mp hx
    obtain ⟨j, hj⟩ := List.getElem?_of_mem hc
    have hm : ((0 + j : Nat) : Int) ∈ lotOf2 q c.1 c.2.2 := mem_lot.mpr ⟨j, c, rfl, hj, Int.le_refl _, Int.le_refl _⟩
    have hne : lotOf2 q c.1 c.2.2 ≠ [] := fun e => by rw [e] at hm; cases hm
    obtain ⟨m, e, hle⟩ := show_ge hc hc hne
    rw [hs] at e; cases e
    have hle : bound q (lotOf2 q c.1 c.2.2) ≤ v := hle
    unfold bound at hle
    rw [min_zero h0 lot_idx hne, lot_upto h0 (by rw [h0 c hc]; exact Int.le_refl _)] at hle
    have hmax : maxI ((lotOf2 q c.1 c.2.2).map fun n => (caseAt q n).2.2) ≤ c.2.2 := by
      obtain ⟨n, hn, e⟩ := List.mem_map.mp (maxI_mem (l := (lotOf2 q c.1 c.2.2).map fun n => (caseAt q n).2.2) (by simpa using hne)).1
      rw [← e]
      obtain ⟨i, c', rfl, hi, _, hd⟩ := mem_lot.mp hn
      have := caseAt_get (lot_idx _ hn)
      rw [Nat.zero_add, Int.toNat_natCast, hi] at this
      rw [Nat.zero_add, ← Option.some.inj this]
      exact hd
    show upto (rowsAll q) c.2.2 ≤ c.2.2
    omega
  · intro hf
    obtain ⟨a, d, e, hne⟩ := show_from q _ hs
    have e1 : v = bound q (lotOf2 q a d) := congrArg Prod.fst e
    obtain ⟨hM, hle⟩ := maxI_mem (l := (lotOf2 q a d).map fun n => (caseAt q n).2.2) (by simpa using hne)
    obtain ⟨n, hn, eD⟩ := List.mem_map.mp hM
    have hc := List.mem_of_getElem? (caseAt_get (lot_idx _ hn))
    obtain ⟨i, c', ei, hi, ha, hd⟩ := mem_lot.mp hn
    have ecase : caseAt q n = c' := by
      have := caseAt_get (lot_idx _ hn)
      rw [ei, Nat.zero_add, Int.toNat_natCast, hi] at this
      rw [ei, Nat.zero_add]
      exact (Option.some.inj this).symm
    rw [ecase] at hc eD
    have h0' := h0 c' hc
    rw [e1]
    unfold bound
    rw [min_zero h0 lot_idx hne, lot_upto h0 (by omega), ← eD]
    have hq := hf (rowOf c') (List.mem_map.mpr ⟨c', hc, rfl⟩)
    have hq : upto (rowsAll q) c'.2.2 ≤ c'.2.2 := hq
    have hsame : upto (rowsAll q) d = upto (rowsAll q) c'.2.2 := by
      unfold upto
      congr 2
      refine List.filter_congr fun y hy => decide_eq_decide.mpr ⟨fun hy' => ?_, fun hy' => Int.le_trans hy' hd⟩
      obtain ⟨c2, hc2, rfl⟩ := List.mem_map.mp hy
      obtain ⟨j, hj⟩ := List.getElem?_of_mem hc2
      have hm : ((0 + j : Nat) : Int) ∈ lotOf2 q a d := mem_lot.mpr ⟨j, c2, rfl, hj, by rw [h0 c2 hc2]; omega, hy'⟩
      have := hle _ (List.mem_map.mpr ⟨_, hm, rfl⟩)
      have e3 := caseAt_get (lot_idx _ hm)
      rw [Nat.zero_add, Int.toNat_natCast, hj] at e3
      rw [Nat.zero_add, ← Option.some.inj e3] at this
      show c2.2.2 ≤ c'.2.2
      omega
    omega
/-- as many as there are, where all are in time -/
theorem many_all {q : List Case} {m : Nat} (hm : ∃ L ∈ lotsN q.length, Fz (rowsOf q L) ∧ L.length = m) (hu : ∀ L ∈ lotsN q.length, Fz (rowsOf q L) → L.length ≤ m) : m = q.length ↔ Fz (rowsAll q) := by
  obtain ⟨L, hL, hf, hl⟩ := hm
  constructor
  · intro e
    have : L = idxs q.length := (lots_sub hL).eq_of_length (by rw [idxs_len]; omega)
    rw [this, rows_idxs] at hf
    exact hf
  · intro h
    have h1 := hu (idxs q.length) (sub_lots (List.Sublist.refl _)) (by rw [rows_idxs]; exact h)
    rw [idxs_len] at h1
    have h2 := (lots_mem hL).2.2
    omega
end A
set_option Elab.async false
set_option linter.all false
set_option maxRecDepth 100000
/-! Defs that may raise: their promise, their calls, raise, try .. except as. -/
namespace E
open PySem PySem.Spec PyProof.Rows L2

/-- as FnG, of a def that may raise -/
structure FnX (P : Program) (w : World) (K : PySem.W.Frag) (mg : Str → Option Value) (base : Heap) (k : Nat) (f : Addr) (fd : FuncData) (ps : List Str) (sp : Sp) : Prop where
  len : ∀ vs H Q E, sp vs H Q E → vs.length = ps.length
  runs : ∀ (A : Around) (outer : List Env) (s : Shared) (H : Hp) (args : Args) (us : List Value) (vs : List V) (Q : VK) (E : XK), RoomG k A → Env0 P w K mg base A outer s H → BindsTo s fd args (ps.zip us) → Vals vs us → sp vs H Q E →
    codeAny (model P w) A (.call (.ref f) args) (CR (L2.CX P w) outer P w H s Q E) s
/-- what it promises: a value at Post, a class at Bad -/
def spX (n : Nat) (Pre : List D → Prop) (Post : List D → D → Prop) (Bad : List D → Value → Prop) : Sp := fun vs H Q E => ∃ F ds, Ex F H ∧ DnL F vs ds ∧ ds.length = n ∧ Pre ds ∧
  (∀ u d F' H', Post ds d → (∀ c, ¬ Bad ds c) → Ext none F H F' H' → Dn F' u d → Q u H') ∧ ∀ c F' H', Bad ds c → Ext none F H F' H' → E c none H'
abbrev cxX (P : Program) (w : World) (K : PySem.W.Frag) (mg : Str → Option Value) (base : Heap) (N : List Str) (x : Str) (st : Stmt) (f : Addr) (cdv : Value) (A : Around) (outer : List Env) (s : Shared) (H : Hp) (E : XK) : Cx := cxOf (L2.CX P w) P w K mg base N x (defScope st) f cdv A outer s H E
section
variable {P : Program} {w : World} {K : PySem.W.Frag} {mg : Str → Option Value} {base : Heap}
theorem FnX.mono {j k : Nat} {f : Addr} {fd : FuncData} {ps : List Str} {sp : Sp} (F : FnX P w K mg base j f fd ps sp) (h : j ≤ k) : FnX P w K mg base k f fd ps sp :=
  ⟨F.len, fun A outer s H args us vs Q E hr => F.runs A outer s H args us vs Q E (hr.mono h)⟩
theorem fun_X {x : Str} {st : Stmt} {f : Addr} {fd : FuncData} {N ps : List Str} {k : Nat} {sp : Sp} (F : Fun K x x st f fd) (S : FnScope N ps (defScope st)) (len : ∀ vs H Q E, sp vs H Q E → vs.length = ps.length)
    (hbody : ∀ (cdv : Value) (A : Around) (outer : List Env) (s : Shared) (H : Hp) (vs : List V) (Q : VK) (E : XK), RoomG k (A.deeper (envOfC x (defScope st) s.heap.objs.size f cdv)) → sp vs H Q E →
      ∃ t, PSs (cxX P w K mg base N x st f cdv A outer s H E) (defBody st) t ∧ t { nx := fun _ H' => Q .non H', rt := Q } (L2.start N vs) H) : FnX P w K mg base (k + 1) f fd ps sp := by
  obtain ⟨oc, od, kV, doc, pm, an, cdv, ct, osl, rfl, lk, hcd⟩ := F.ex
  refine ⟨len, fun A outer s H args us vs Q E hr e0 hb r hsp => ?_⟩
  have hl := len _ _ _ _ hsp
  have KX : K.In s.heap := e0.mod.kin.keeps fun b o e => (e0.bs b o e).1
  have lim : s.heap.NoLimit := e0.mod.nolimit.keeps fun b o e => (e0.bs b o e).1
  have hkind : ∀ y ∈ ps.zip us, (defScope st).names.lookup y.1 = some .local ∨ ((defScope st).names.lookup y.1 = some .cell ∧ ((cellsFrom (s.heap.objs.size + 1) (defScope st).names []).lookup y.1).isSome = true) := fun ⟨n, v⟩ hy => by
    rcases S.par n (List.of_mem_zip hy).1 with q | q
    · exact .inl q
    · exact .inr ⟨q, PySem.W.cellsFrom_some _ _ _ (.inl q)⟩
  refine codeAny_call_function hr.rm.depth (KX _ _ lk) rfl S.co S.gen rfl (PySem.W.codeRec_of KX hcd) (hb _ _ _ _ ?_)
  refine wpAny_newFunctionEnv_cells S.kind hkind fun env he s1 x => ?_
  subst he
  refine ⟨lim.keeps x.toInCall.keep, codeAny_func ?_⟩
  obtain ⟨t, ht, hq⟩ := hbody cdv A outer s H vs Q E (hr.deeper _) hsp
  have I : Inv (cxX P w K mg base N _ st f cdv A outer s H E) [] (L2.start N vs) H s1 := inv_start S hr.rm.hd e0 hl r x
  refine wpAny_mono (ht.run [] s1 (L2.start N vs) H _ I hq) (fun fl s' hs => ?_) fun e s' hs => hs
  cases fl with
  | ret u =>
    obtain ⟨v, σ', H', J, rv, q⟩ := hs
    exact ⟨v, H', J.os, J.bare, J.base, J.hok, rv, q⟩
  | next =>
    obtain ⟨σ', H', J, q⟩ := hs
    exact ⟨V.non, H', J.os, J.bare, J.base, J.hok, rfl, q⟩
  | brk =>
    obtain ⟨_, _, _, q⟩ := hs
    exact False.elim q
  | cont =>
    obtain ⟨_, _, _, q⟩ := hs
    exact False.elim q
end
section
variable {X : Cx} {x : Str} {p pos : Pos} {e : Expr} {es : List Expr} {t : TA} {k : Nat} {f : Addr} {fd : FuncData} {ps : List Str} {sp : Sp} {Ee : L2.St → XK}
theorem pe_callX (F : FnX X.prog X.w X.K X.mg X.base k f fd ps sp) (hr : RoomG k X.A) (hg : Gl X x) (hm : X.mg x = some (.ref f)) (hk : PySem.W.keepIn X.K (.ref f) = true) (hb : Binds X.K fd ps []) (hx : ∀ σ, PassesAt (L2.CX X.prog X.w) X σ (Ee σ))
    (ha : PA X (e :: es) t) (hdb : (x == ("__debug__" : Str)) = false := by decide) (he : starEach (e :: es) X.env = (false, eval e X.env) :: starEach es X.env := by rfl) (hpl : (backTo pos (starEach es X.env)).any (·.1) = false := by rfl) :
    PE X (.Call (.Name x p) (e :: es) [] pos) (tCallS sp Ee t) := by
  refine ⟨fun pins s σ H Q I h => ?_⟩
  refine wpAny_Call_Name_kw (ld_glob I hg hm ?_ hdb)
  refine PySem.W.callWith_K (h₀ := X.base) I.ok.mod.kin hk (thn (ha.run pos pins s σ H _ I h) fun us s1 ⟨vs, H1, I1, r, q⟩ => ⟨I1.kIn, ?_⟩) he hpl
  have q : sp vs H1 Q (Ee σ) := q
  have hl : us.length = ps.length := by rw [← r.length]; exact F.len _ _ _ _ q
  have hbt := hb s1 us I1.kIn (by rw [List.append_nil]; exact hl)
  rw [List.append_nil] at hbt
  refine wpAny_call (codeAny_mono (F.runs X.A X.stack s1 H1 ⟨us, []⟩ us vs Q (Ee σ) hr I1.env0 hbt r q) fun r s' hq => ?_)
  cases r with
  | error e => exact hx σ pins H1 s1 e s' I1 hq
  | ok fl =>
    cases fl with
    | ret u => exact I1.after hq
    | next => exact False.elim hq
    | brk => exact False.elim hq
    | cont => exact False.elim hq
/-- C() of an own class -/
theorem pmk_own0 {C : Addr} {bmB : List Value} {B newId initId : String} (F : ExcBaseFacts B newId initId bmB) (q : PySem.W.excIn X.K C bmB newId = true) (gC : X.mg x = some (.ref C))
    (kC : PySem.W.keepIn X.K (.ref C) = true) (r : Raises X (.ref C)) (hg : Gl X x) (hdb : (x == ("__debug__" : Str)) = false := by decide) :
    PMk X (.Call (.Name x p) [] [] pos) (fun _ H Q => Q (.ref C) none H) := by
  intro pins s σ H Q I h
  refine wpAny_Call_Name_kw (ld_glob I hg gC ?_ hdb)
  refine PySem.W.callWith_K0 I.kIn kC ?_
  obtain ⟨bm, N, nm, qn, bs, hdct, sn, sub, ab, col, dd, k0, k1, k2, k3, k5, mN, hC, hN, hni, T⟩ := exc_obj I.kIn q
  obtain ⟨hp1, g1, d1, tk1, os1⟩ := s
  exact wpAny_call_exc_subT F T hC hN hni (fun h' e hm => mk_of I hm r h (I.hok.gone hm.new)) (Nat.zero_le _)
end

/-! ### what raises -/
/-- as Sr, where Z may be leant on -/
def SrZ (Z : Option Addr → Hp → Hp → List (V × D) → Prop) (sl : List Sl) (ms : List (List D)) (t : TS) (O : Out) : Prop :=
  ∀ (ho : Option Addr) (F0 H0 : Hp) (ex : List (V × D)), Z ho F0 H0 ex → ∀ (F : Hp) (ps : List Addr) (σ : L2.St) (H : Hp), At ho F0 H0 F ps sl ms ex σ H → ∀ D : Ends,
    (∀ sl' ms' F' ps' σ' H', O.nx sl' ms' → At ho F0 H0 F' ps' sl' ms' ex σ' H' → D.nx σ' H') →
    (∀ v d F' H', O.rt d → Ext ho F0 H0 F' H' → (∀ h, ho = some h → Hand F' H' h) → Dn F' v d → D.rt v H') →
    (∀ sl' ms' F' ps' σ' H', O.bk sl' ms' → At ho F0 H0 F' ps' sl' ms' ex σ' H' → D.bk σ' H') →
    (∀ sl' ms' F' ps' σ' H', O.ct sl' ms' → At ho F0 H0 F' ps' sl' ms' ex σ' H' → D.ct σ' H') → t D σ H
/-- the wish W takes the class c wherever the slots and lists are as P says -/
def Zw (W : WX) (P : List Sl → List (List D) → Prop) (c : Value) : Option Addr → Hp → Hp → List (V × D) → Prop := fun ho F0 H0 ex => ∀ sl ms F ps σ H, P sl ms → At ho F0 H0 F ps sl ms ex σ H → W c none σ H
section
variable {X : Cx} {sl : List Sl} {ms : List (List D)} {Z : Option Addr → Hp → Hp → List (V × D) → Prop} {O : Out} {t u : TS} {st : Stmt} {rest body : List Stmt} {e c : Expr} {es : List Expr} {p pos np : Pos} {x n : Str} {W : WX} {Pl : List Sl → List (List D) → Prop} {cls : Value}
theorem Sr.z (h : Sr sl ms t O) : SrZ Z sl ms t O := fun ho F0 H0 ex _ F ps σ H a => h ho F0 H0 F ps ex σ H a
theorem z_seq (h : Sr sl ms t { O with nx := fun sl' ms' => SrZ Z sl' ms' u O }) : SrZ Z sl ms (tSeq t u) O := fun ho F0 H0 ex z F ps σ H a D n r b c =>
  h ho F0 H0 F ps ex σ H a { D with nx := u D } (fun sl' ms' F' ps' σ' H' k a' => k ho F0 H0 ex z F' ps' σ' H' a' D n r b c) r b c
theorem z_seqZ (h : SrZ Z sl ms t { O with nx := fun sl' ms' => SrZ Z sl' ms' u O }) : SrZ Z sl ms (tSeq t u) O := fun ho F0 H0 ex z F ps σ H a D n r b c =>
  h ho F0 H0 ex z F ps σ H a { D with nx := u D } (fun sl' ms' F' ps' σ' H' k a' => k ho F0 H0 ex z F' ps' σ' H' a' D n r b c) r b c
theorem z_if {tc : TT} (h : Et sl ms tc fun b => (b = true → SrZ Z sl ms t O) ∧ (b = false → SrZ Z sl ms u O)) : SrZ Z sl ms (tIfS tc t u) O := fun ho F0 H0 ex z F ps σ H a D n r b c =>
  h ho F0 H0 F ps ex σ H a _ fun x F' H' ⟨k1, k2⟩ a' => by
    cases x with
    | true => exact k1 rfl ho F0 H0 ex z F' ps σ H' a' D n r b c
    | false => exact k2 rfl ho F0 H0 ex z F' ps σ H' a' D n r b c
theorem SrZ.of (h : PS X st t) (q : SrZ Z sl ms t O) : SrZ Z sl ms (wS X st) O := fun ho F0 H0 ex z F ps σ H a D n r b c pins s I => h.run pins s σ H D I (q ho F0 H0 ex z F ps σ H a D n r b c)
theorem SrZ.ofs (h : PSs X body t) (q : SrZ Z sl ms t O) : SrZ Z sl ms (wSs X body) O := fun ho F0 H0 ex z F ps σ H a D n r b c pins s I => h.run pins s σ H D I (q ho F0 H0 ex z F ps σ H a D n r b c)
theorem zss_cons (h : Sr sl ms (wS X st) { O with nx := fun s m => SrZ Z s m (wSs X rest) O }) : SrZ Z sl ms (wSs X (st :: rest)) O := SrZ.ofs (pss_cons ps_w pss_w) (z_seq h)
theorem zss_consZ (h : SrZ Z sl ms (wS X st) { O with nx := fun s m => SrZ Z s m (wSs X rest) O }) : SrZ Z sl ms (wSs X (st :: rest)) O := SrZ.ofs (pss_cons ps_w pss_w) (z_seqZ h)
theorem zss_one (h : SrZ Z sl ms (wS X st) O) : SrZ Z sl ms (wSs X [st]) O := SrZ.ofs (pss_one ps_w) h
theorem zs_if {t u : List Stmt} (h : Et sl ms (wT X c) fun b => (b = true → SrZ Z sl ms (wSs X t) O) ∧ (b = false → SrZ Z sl ms (wSs X u) O)) : SrZ Z sl ms (wS X (.If c t u pos)) O := SrZ.of (ps_if pt_w pss_w pss_w) (z_if h)
/-- raise C() -/
theorem zs_raise {C : Addr} {bmB : List Value} {B newId initId : String} {pos' : Pos} (hc : X.calm = true) (tk : Takes X W) (F : ExcBaseFacts B newId initId bmB) (q : PySem.W.excIn X.K C bmB newId = true) (gC : X.mg x = some (.ref C)) (kC : PySem.W.keepIn X.K (.ref C) = true)
    (h1 : PySem.W.subIn X.K (.ref C) (.type "BaseException") = some true) (h2 : PySem.W.typeIn X.K (.ref C) = some (.type "type")) (hp : Pl sl ms) (hg : Gl X x := by rfl) (hdb : (x == ("__debug__" : Str)) = false := by decide) :
    SrZ (Zw W Pl (.ref C)) sl ms (wS X (.Raise (some (.Call (.Name x p) [] [] pos)) none pos')) O := SrZ.of (ps_raise hc tk (pmk_own0 F q gC kC (raises_own h1 h2) hg hdb)) fun ho F0 H0 ex z F ps σ H a D n r b c => z sl ms F ps σ H hp a
/-- a call that raises, alone in its line -/
theorem zs_call {k j m : Nat} {Pre : List D → Prop} {Post : List D → D → Prop} {Bad : List D → Value → Prop} {f : Addr} {fd : FuncData} {pn : List Str} (F : FnX X.prog X.w X.K X.mg X.base k f fd pn (spX m Pre Post Bad)) (hm : X.mg x = some (.ref f)) (hkp : PySem.W.keepIn X.K (.ref f) = true) (hb : Binds X.K fd pn [])
    (hr : RoomG j X.A) (hk : k ≤ j) (tk : Takes X W) (hp : Pl sl ms) (h : Ea sl ms (wA X (e :: es)) fun ds => ds.length = m ∧ Pre ds ∧ Bad ds cls ∧ ∀ c, Bad ds c → c = cls) (hg : Gl X x := by rfl)
    (hs : swapsWith (.Call (.Name x p) (e :: es) [] np) none pos.line X.env = pure false := by rfl)
    (hdb : (x == ("__debug__" : Str)) = false := by decide) (he : starEach (e :: es) X.env = (false, eval e X.env) :: starEach es X.env := by rfl) (hpl : (backTo np (starEach es X.env)).any (·.1) = false := by rfl) :
    SrZ (Zw W Pl cls) sl ms (wS X (.Expr (.Call (.Name x p) (e :: es) [] np) pos)) O := SrZ.of (ps_expr (pe_callX F (hr.mono hk) hg hm hkp hb (passAt tk) pa_w hdb he hpl) hs) fun ho F0 H0 ex z F ps σ H a D n r b c =>
  h ho F0 H0 F ps ex σ H a _ fun vs ds F1 H1 ⟨hn, hpr, hbd, hu⟩ a1 l => ⟨F1, ds, a1.fh, l, hn, hpr, fun u d F' H' _ nb => absurd hbd (nb cls), fun c' F' H' hc' x' => by
    rw [hu c' hc']
    exact z sl ms F' ps σ H' hp (a1.step0 x')⟩
/-- a call that does not raise -/
theorem er_callX {m : Nat} {Pre : List D → Prop} {Post : List D → D → Prop} {Bad : List D → Value → Prop} {ta : TA} {R : D → Prop} (h : Ea sl ms ta fun ds => ds.length = m ∧ Pre ds ∧ (∀ c, ¬ Bad ds c) ∧ ∀ d, Post ds d → R d) : Er sl ms (tCallS (spX m Pre Post Bad) (fun _ => E0) ta) R := fun ho F0 H0 F ps ex σ H a Q q =>
  h ho F0 H0 F ps ex σ H a _ fun vs ds F1 H1 ⟨hn, hp, hb, hr⟩ a1 l => ⟨F1, ds, a1.fh, l, hn, hp, fun u d F' H' p _ x du => q u d F' H' (hr d p) ((a1.step0 x).push du), fun c _ _ hc => absurd hc (hb c)⟩
end
/-- a def that may raise, as it stands in the text and as its callers know it -/
structure ClX (P : Program) (w : World) (K : PySem.W.Frag) (mg : Str → Option Value) (base : Heap) (k : Nat) (x : Str) (sp : Sp) : Prop where
  ex : ∃ (f : Addr) (fd : FuncData) (ps : List Str), FnX P w K mg base k f fd ps sp ∧ mg x = some (.ref f) ∧ PySem.W.keepIn K (.ref f) = true ∧ Binds K fd ps []
section
variable {P : Program} {w : World} {K : PySem.W.Frag} {mg : Str → Option Value} {base : Heap}
theorem Df.clX {x : Str} {st : Stmt} {ps : List Str} {f : Addr} {fd : FuncData} {k : Nat} {sp : Sp} (d : Df K mg x st ps f fd) (h : FnX P w K mg base k f fd ps sp) : ClX P w K mg base k x sp := ⟨f, fd, ps, h, d.mgf, d.fn.kp, d.bd⟩
/-- a def by its body: where it does not raise, where it does -/
theorem ok_X {x : Str} {st : Stmt} {f : Addr} {fd : FuncData} {N ps : List Str} {k n m : Nat} {Pre : List D → Prop} {Post : List D → D → Prop} {Bad : List D → Value → Prop} (F : Fun K x x st f fd) (S : FnScope N ps (defScope st)) (hn : ps.length = n) (hm : N.length = n + m)
    (hb : ∀ (cdv : Value) (A : Around) (outer : List Env) (s : Shared) (H : Hp) (E : XK) (ds : List D), RoomG k (A.deeper (envOfC x (defScope st) s.heap.objs.size f cdv)) → ds.length = n → Pre ds → (∀ c, ¬ Bad ds c) →
      Sr (ds.map .d ++ List.replicate m .u) [] (wSs (cx P w K mg base N x st f cdv A outer s H E) (defBody st)) { nx := fun _ _ => Post ds .non, rt := Post ds })
    (hz : ∀ (cdv : Value) (A : Around) (outer : List Env) (s : Shared) (H : Hp) (E : XK) (ds : List D) (c : Value), RoomG k (A.deeper (envOfC x (defScope st) s.heap.objs.size f cdv)) → ds.length = n → Pre ds → Bad ds c →
      SrZ (Zw (fun c d _ H => E c d H) (fun _ _ => True) c) (ds.map .d ++ List.replicate m .u) [] (wSs (cxX P w K mg base N x st f cdv A outer s H E) (defBody st)) { nx := fun _ _ => False, rt := fun _ => False }) :
    FnX P w K mg base (k + 1) f fd ps (spX n Pre Post Bad) := by
  refine fun_X F S (fun vs H Q E h => ?_) (fun cdv A outer s H vs Q E hr h => ?_)
  · obtain ⟨F, ds, _, l, e, _⟩ := h
    rw [l.len, e, hn]
  · obtain ⟨F0, ds, e, l, hl, hp, q, qx⟩ := h
    have a0 : At none F0 H F0 [] (ds.map .d ++ List.replicate m .u) [] [] (L2.start N vs) H := by
      have := at_start (m := m) (vs := vs) (sl := ds.map .d) (ho := none) e (by rw [List.length_map]; exact l.len) (fun i v s h1 h2 => by
        rw [List.getElem?_map] at h2
        cases h3 : ds[i]? with
        | none => rw [h3] at h2; cases h2
        | some d =>
          rw [h3] at h2; cases h2
          obtain ⟨v', h4, h5⟩ := l.get i h3
          rw [h1] at h4; cases h4
          exact ⟨v, rfl, h5⟩) (fun h hh => by cases hh)
      rw [show L2.start N vs = vs.map some ++ List.replicate m none by unfold L2.start; rw [l.len, hl, hm]; congr 2; omega]
      exact this
    by_cases hc : ∃ c, Bad ds c
    · obtain ⟨c, hc⟩ := hc
      refine ⟨_, pss_w, ?_⟩
      exact hz cdv A outer s H E ds c hr hl hp hc none F0 H [] (fun sl ms F' ps' σ' H' _ a' => qx c F' H' hc a'.ext) F0 [] (L2.start N vs) H a0 _ (fun _ _ _ _ _ _ z => z.elim) (fun _ _ _ _ z => z.elim) (fun _ _ _ _ _ _ z => z.elim) (fun _ _ _ _ _ _ z => z.elim)
    · have nc : ∀ c, ¬ Bad ds c := fun c z => hc ⟨c, z⟩
      refine ⟨wSs (cx P w K mg base N x st f cdv A outer s H E) (defBody st), PSs.nox (t := wSs (cx P w K mg base N x st f cdv A outer s H E) (defBody st)) ⟨fun pins s1 σ1 H1 D I h => h pins s1 I⟩, ?_⟩
      exact hb cdv A outer s H E ds hr hl hp nc none F0 H F0 [] [] (L2.start N vs) H a0 _ (fun _ _ F' _ _ H' p a' => q _ _ F' H' p nc a'.ext .non) (fun v d F' H' p x _ dv => q v d F' H' p nc x dv) (fun _ _ _ _ _ _ z => z.elim) (fun _ _ _ _ _ _ z => z.elim)
end
section
variable {X : Cx} {sl : List Sl} {ms : List (List D)} {x n : Str} {e : Expr} {es : List Expr} {p pos np : Pos} {R : D → Prop} {O : Out}
theorem j_callX {k j m : Nat} {Pre : List D → Prop} {Post : List D → D → Prop} {Bad : List D → Value → Prop} (c : ClX X.prog X.w X.K X.mg X.base k x (spX m Pre Post Bad)) (hr : RoomG j X.A) (hk : k ≤ j) (h : Ea sl ms (wA X (e :: es)) fun ds => ds.length = m ∧ Pre ds ∧ (∀ c, ¬ Bad ds c) ∧ ∀ d, Post ds d → R d) (hg : Gl X x := by rfl)
    (hdb : (x == ("__debug__" : Str)) = false := by decide) (he : starEach (e :: es) X.env = (false, eval e X.env) :: starEach es X.env := by rfl) (hpl : (backTo pos (starEach es X.env)).any (·.1) = false := by rfl) :
    Er sl ms (wE X (.Call (.Name x p) (e :: es) [] pos)) R := by
  obtain ⟨f, fd, ps, F, hm, kp, b⟩ := c.ex
  exact Er.of (pe_callX F (hr.mono hk) hg hm kp b (fun σ pins H s e s' => passL pins σ H s e s') pa_w hdb he hpl) (er_callX h)
theorem j_raises {k j m : Nat} {Pre : List D → Prop} {Post : List D → D → Prop} {Bad : List D → Value → Prop} {W : WX} {Pl : List Sl → List (List D) → Prop} {cls : Value} (c : ClX X.prog X.w X.K X.mg X.base k x (spX m Pre Post Bad)) (hr : RoomG j X.A) (hk : k ≤ j) (tk : Takes X W) (hp : Pl sl ms)
    (h : Ea sl ms (wA X (e :: es)) fun ds => ds.length = m ∧ Pre ds ∧ Bad ds cls ∧ ∀ c, Bad ds c → c = cls) (hg : Gl X x := by rfl) (hs : swapsWith (.Call (.Name x p) (e :: es) [] np) none pos.line X.env = pure false := by rfl)
    (hdb : (x == ("__debug__" : Str)) = false := by decide) (he : starEach (e :: es) X.env = (false, eval e X.env) :: starEach es X.env := by rfl) (hpl : (backTo np (starEach es X.env)).any (·.1) = false := by rfl) :
    SrZ (Zw W Pl cls) sl ms (wS X (.Expr (.Call (.Name x p) (e :: es) [] np) pos)) O := by
  obtain ⟨f, fd, ps, F, hm, kp, b⟩ := c.ex
  exact zs_call F hm kp b hr hk tk hp h hg hs hdb he hpl
end

/-! ### try: body, except x as n: suite -/
section
variable {X : Cx} {sl : List Sl} {ms : List (List D)} {x n : Str} {np pos pos' : Pos} {O : Out} {body suite : List Stmt} {b₀ : Stmt} {c : Value} {i : Nat}
/-- the suite's reading -/
def wSuite (X : Cx) (body : List Stmt) : Addr → Value → Option Addr → TS := fun a cls d D σ H => ∀ (oe : Obj) (pn : List (Addr × Obj)), Zc cls d oe → (∃ vs, oe.data = .fields vs) → wSs (X.suite a ((a, oe) :: pn)) body D σ H
def wTry (X : Cx) (body : List Stmt) (W : WX) : TS := fun D σ H => ∀ (pn : List (Addr × Obj)) (xe : Value → Shared → Prop), Takes (X.tr pn xe) W → PassesOwn (model X.prog X.w) X.A X.env xe → wSs (X.tr pn xe) body D σ H
theorem ps_try_w (hs : X.stack = X.env :: X.outer) (hf : X.env.frame = some X.env.locals) (hN : X.N.Nodup) (hi : X.N[i]? = some n) (hln : X.env.kindOf n = some .local) (hc : Names X x c) :
    PS X (.Try body [.ExceptHandler (some (.Name x np)) (some n) (b₀ :: suite) pos'] [] [] pos) (fun D σ H => wTry X body (wAs X.K c i (wSuite X (b₀ :: suite)) (fun _ _ _ _ => False) D) D σ H) :=
  ps_try_as (tb := wTry X body) (ts := wSuite X (b₀ :: suite)) (Wout := fun _ _ _ _ => False) hs hf hN hi hln hc takes0 (fun W pn xe tk po => ⟨fun pins s σ H D I h => h pn xe tk po pins s I⟩) fun a oe cls d pn hz hv => ⟨fun pins s σ H D I h => h oe pn hz hv pins s I⟩
/-- nothing is raised -/
theorem js_try0 (hs : X.stack = X.env :: X.outer) (hf : X.env.frame = some X.env.locals) (hN : X.N.Nodup) (hi : X.N[i]? = some n) (hln : X.env.kindOf n = some .local) (hc : Names X x c)
    (h : ∀ (pn : List (Addr × Obj)) (xe : Value → Shared → Prop), Sr sl ms (wSs (X.tr pn xe) body) O) : Sr sl ms (wS X (.Try body [.ExceptHandler (some (.Name x np)) (some n) (b₀ :: suite) pos'] [] [] pos)) O :=
  Sr.of (ps_try_w hs hf hN hi hln hc) fun ho F0 H0 F ps ex σ H a D n r b ct pn xe tk po => h pn xe ho F0 H0 F ps ex σ H a D n r b ct
/-- an error of the class C is raised: the suite -/
theorem js_tryC {C : Value} (hs : X.stack = X.env :: X.outer) (hf : X.env.frame = some X.env.locals) (hN : X.N.Nodup) (hi : X.N[i]? = some n) (hln : X.env.kindOf n = some .local) (hc : Names X x c) (hm : PySem.W.exmOne X.K C c = some true)
    (h : ∀ (W : WX) (pn : List (Addr × Obj)) (xe : Value → Shared → Prop), Takes (X.tr pn xe) W → SrZ (Zw W (fun s m => s = sl ∧ m = ms) C) sl ms (wSs (X.tr pn xe) body) { nx := fun _ _ => False, rt := fun _ => False })
    (hsu : ∀ (a : Addr) (oe : Obj) (pn : List (Addr × Obj)) (ho : Option Addr) (F0 H0 F : Hp) (ps : List Addr) (ex : List (V × D)) (σ : L2.St) (H : Hp), Zc C none oe → (∃ vs, oe.data = .fields vs) → At ho F0 H0 F ps sl ms ex σ H → ∀ D : Ends,
      (∀ sl' ms' F' ps' σ' H', O.nx sl' ms' → At ho F0 H0 F' ps' sl' ms' ex (σ'.set i none) H' → D.nx σ' H') → wSs (X.suite a ((a, oe) :: pn)) (b₀ :: suite) D (σ.set i (some (.ref a))) H) :
    Sr sl ms (wS X (.Try body [.ExceptHandler (some (.Name x np)) (some n) (b₀ :: suite) pos'] [] [] pos)) O :=
  Sr.of (ps_try_w hs hf hN hi hln hc) fun ho F0 H0 F ps ex σ H a D n r b ct pn xe tk po =>
    h _ pn xe tk ho F0 H0 ex (fun sl1 ms1 F1 ps1 σ1 H1 ⟨e1, e2⟩ a1 => ⟨true, hm, fun _ ad hna oe pn' hz hv => by
      subst e1 e2
      exact hsu ad oe pn' ho F0 H0 F1 ps1 ex σ1 H1 hz hv a1 _ fun sl' ms' F' ps' σ' H' o a' => n sl' ms' F' ps' _ H' o a', fun z => by cases z⟩) F ps σ H a D (fun _ _ _ _ _ _ z => z.elim) (fun _ _ _ _ z => z.elim) (fun _ _ _ _ _ _ z => z.elim) (fun _ _ _ _ _ _ z => z.elim)
end
end E
set_option Elab.async false
set_option linter.all false
set_option maxRecDepth 100000
/-! The walk: are_in_time, _law_do_fit. -/
namespace A
open PySem PySem.Spec PyProof.Rows L2 E
theorem heads_up {tr : List Int → Row} : ∀ {l : List (List Int)}, (∀ x ∈ l, ∃ r, x = (tr x).1 :: r) → (l.Pairwise fun a b => HT.lexLt b a = false) → (l.map tr).Pairwise fun x y => x.1 ≤ y.1 := fun {l} hf h => by
  refine List.pairwise_map.mpr (List.Pairwise.imp_of_mem (fun {x y} hx hy hxy => ?_) h)
  obtain ⟨r, e⟩ := hf x hx
  obtain ⟨s, e'⟩ := hf y hy
  rw [e, e', HT.lexLt_cons] at hxy
  by_cases q : (tr y).1 = (tr x).1
  · omega
  · rw [if_neg q] at hxy
    have := of_decide_eq_false hxy
    omega
/-- places of cases, the empty lot too -/
structure Idz (q : List Case) (L : List Int) : Prop where
  len : L.length < 100000
  lt : ∀ n ∈ L, 0 ≤ n ∧ n < (q.length : Int)
def trN (q : List Case) : List Int → Row
  | [d, n] => (d, (caseAt q n).2.1)
  | _ => (0, 0)
def trW : List Int → Row
  | [d, w] => (d, w)
  | _ => (0, 0)
def gN (q : List Case) (n : Int) : List Int := [(caseAt q n).2.2, n]
def gW (q : List Case) (n : Int) : List Int := [(caseAt q n).2.2, (caseAt q n).2.1]
def dF (g : Int → List Int) : D → D
  | .int n => tupI (g n)
  | _ => .non
theorem d_list (g : Int → List Int) (L : List Int) : ((L.map D.int).filter fun _ => true).map (dF g) = (L.map g).map tupI := by
  rw [filter_all, List.map_map, List.map_map]
  rfl
theorem rows_of {q : List Case} {L : List Int} {g : Int → List Int} {tr : List Int → Row} {l : List (List Int)} (hg : ∀ n, tr (g n) = rowOf (caseAt q n)) (hf : ∀ n, ∃ r, g n = (tr (g n)).1 :: r) (hp : l.Perm (L.map g)) (hu : l.Pairwise fun a b => HT.lexLt b a = false) :
    (l.map tr).Perm (rowsOf q L) ∧ (l.map tr).Pairwise fun x y => x.1 ≤ y.1 := by
  constructor
  · refine (hp.map tr).trans ?_
    rw [List.map_map]
    have : L.map (tr ∘ g) = rowsOf q L := List.map_congr_left fun n _ => hg n
    rw [this]
  · refine heads_up (fun x hx => ?_) hu
    obtain ⟨n, _, rfl⟩ := List.mem_map.mp (hp.mem_iff.mp hx)
    exact hf n
theorem feas_rows {q : List Case} {L : List Int} {l : List Row} (hw : ∀ c ∈ q, 0 ≤ c.2.1) (hi : ∀ n ∈ L, 0 ≤ n ∧ n < (q.length : Int)) (hp : l.Perm (rowsOf q L)) (hu : l.Pairwise fun x y => x.1 ≤ y.1) : fitR 0 l = feas q L := by
  refine feas_of ?_
  rw [fit_Fz hu fun x hx => ?_]
  · exact ⟨fun h => h.perm hp, fun h => h.perm hp.symm⟩
  · obtain ⟨n, hn, rfl⟩ := List.mem_map.mp (hp.mem_iff.mp hx)
    exact hw _ (List.mem_of_getElem? (caseAt_get (hi n hn)))
theorem fit_take {l : List Row} {i : Nat} {x : Row} (h : l[i]? = some x) (hf : fitR 0 (l.take i) = true) : fitR 0 (l.take (i + 1)) = !decide (x.1 < ((l.take i).map (·.2)).sum + x.2) := by
  rw [List.take_add_one, h]
  show fitR 0 (l.take i ++ [x]) = _
  rw [fit_snoc, hf, Int.zero_add, Bool.true_and]
theorem sum_take {l : List Row} {i : Nat} {x : Row} (h : l[i]? = some x) : ((l.take (i + 1)).map (·.2)).sum = ((l.take i).map (·.2)).sum + x.2 := by
  rw [List.take_add_one, h, List.map_append, List.sum_append]
  show _ + (x.2 + 0) = _
  omega
theorem fit_part {l : List Row} {i : Nat} (hw : ∀ x ∈ l, 0 ≤ x.2) (h : fitR 0 (l.take i) = false) : fitR 0 l = false := by
  cases e : fitR 0 l with
  | false => rfl
  | true => rw [fit_sub (List.take_sublist i l) hw e] at h; cases h
section
variable {P : Program} {w : World} {K : PySem.W.Frag} {mg : Str → Option Value} {base : Heap}
abbrev FitPre (q : List Case) (L : List Int) : Prop := Idz q L ∧ ∀ c ∈ q, 0 ≤ c.2.1
abbrev sp_fit : Sp := spD 2 (fun ds => ∃ q L, ds = [queueD q, dayD L] ∧ FitPre q L) fun ds d => ∀ q L, ds = [queueD q, dayD L] → d = .bl (feas q L)
abbrev N_air : List Str := ["queue", "lot", "through", "due", "number"]
theorem S_air : FnScope N_air ["queue", "lot"] (sc 24) := ⟨rfl, rfl, rfl, by decide +kernel, rfl, by decide +kernel, by decide +kernel⟩
theorem ok_air {f : Addr} {fd : FuncData} (F : Fun K "are_in_time" "are_in_time" (top 24) f fd) (T : Blt mg) : FnG P w K mg base 1 f fd ["queue", "lot"] sp_fit := by
  refine ok_D (m := 3) F S_air rfl rfl fun cdv A outer s H E ds hr hl hp => ?_
  obtain ⟨q, L, rfl, hL, hw⟩ := hp
  have hlen := hL.len
  refine jss_cons (js_set 2 S_air.nd rfl (j_int ?_))
  refine jss_cons (js_for PassesOwn.never rfl (ji_lst (j_sortedT (room64 hr) T.sorted (El.er' (jl_lcF [("number", 4)] rfl S_air.nd (blkOk_by (N := N_air) (sc := sc 24) (by decide +kernel)) (own1 rfl) (ji_tup (j_var 1 rfl rfl ⟨L.map D.int, rfl, ?_⟩)))))))
  refine ⟨by rw [List.length_map]; exact hlen, fun _ => true, dF (gN q), fun d acc hd => ?_, ?_⟩
  · obtain ⟨n, hn, rfl⟩ := List.mem_map.mp hd
    refine ⟨[4], _, fun s H C cl fp => jg_name 4 S_air.nd rfl, fun _ h => h, fun s H C cl fp => jts_nil ⟨rfl, fun _ s H C cl fp => ?_⟩⟩
    exact j_tup (j_cons (j_ixT (j_ixT (j_var 0 rfl rfl (j_var 4 rfl rfl ⟨_, _, _, rfl, rfl, atq (hL.lt n hn), j_int ⟨_, _, _, rfl, rfl, rfl, j_cons (j_var 4 rfl rfl (j_nil ⟨Nat.le_of_ble_eq_true rfl, rfl⟩))⟩⟩)))))
  rw [d_list]
  refine ⟨_, rfl, .inl fun l hl e => ?_, fun l hp hu => ?_⟩
  · obtain ⟨n, _, rfl⟩ := List.mem_map.mp hl
    cases e
  obtain ⟨r1, r2⟩ := rows_of (q := q) (tr := trN q) (fun n => rfl) (fun n => ⟨[n], rfl⟩) hp hu
  have hfeas := feas_rows hw hL.lt r1 r2
  have hwl : ∀ x ∈ l.map (trN q), 0 ≤ x.2 := fun x hx => by
    obtain ⟨n, hn, rfl⟩ := List.mem_map.mp (r1.mem_iff.mp hx)
    exact hw _ (List.mem_of_getElem? (caseAt_get (hL.lt n hn)))
  refine ⟨_, rfl, ?_⟩
  refine ⟨fun k sl ms => ∃ a b, sl = [.d (queueD q), .d (dayD L), .d (.int (((l.map (trN q)).take k).map (·.2)).sum), a, b] ∧ ms = [] ∧ fitR 0 ((l.map (trN q)).take k) = true, ⟨.u, .u, rfl, rfl, rfl⟩, ?_, ?_⟩
  · rintro k d sl1 ms1 hd ⟨a, b, rfl, rfl, hfit⟩
    rw [List.getElem?_map] at hd
    cases hk : l[k]? with
    | none => rw [hk] at hd; cases hd
    | some x =>
      rw [hk] at hd
      cases hd
      obtain ⟨n, hn, rfl⟩ := List.mem_map.mp (hp.mem_iff.mp (List.mem_of_getElem? hk))
      have hrow : (l.map (trN q))[k]? = some (rowOf (caseAt q n)) := by rw [List.getElem?_map, hk]; rfl
      have hs := sum_take hrow
      have ht := fit_take hrow hfit
      refine ⟨_, _, jg_tup rfl (jgs_cons (jg_name 3 S_air.nd rfl) (jgs_cons (jg_name 4 S_air.nd rfl) jgs_nil)), ?_⟩
      refine jss_cons (js_augI 2 S_air.nd rfl rfl (j_ixT (j_ixT (j_var 0 rfl rfl (j_var 4 rfl rfl ⟨_, _, _, rfl, rfl, atq (hL.lt n hn), j_int ⟨_, _, _, rfl, rfl, rfl, _, rfl, ?_⟩⟩)))))
      refine jss_one (js_if (jt_cmp (j_var 2 rfl rfl (j_var 3 rfl rfl ⟨_, .gt _ _, fun e => ?_, fun e => jss_nil ?_⟩))))
      · refine jss_one (js_ret (j_bl fun q' L' hy => ?_))
        obtain ⟨rfl, rfl⟩ := qday_inj hy
        rw [← hfeas]
        have e' : decide ((rowOf (caseAt q n)).1 < (((l.map (trN q)).take k).map (·.2)).sum + (rowOf (caseAt q n)).2) = true := e
        rw [e'] at ht
        rw [fit_part hwl ht]
      · have e' : decide ((rowOf (caseAt q n)).1 < (((l.map (trN q)).take k).map (·.2)).sum + (rowOf (caseAt q n)).2) = false := e
        rw [e'] at ht
        exact ⟨.d (.int (caseAt q n).2.2), .d (.int n), by rw [hs]; rfl, rfl, ht⟩
  · rintro sl1 ms1 ⟨a, b, rfl, rfl, hfit⟩
    rw [List.length_map] at hfit
    have e : (l.map (trN q)).take l.length = l.map (trN q) := List.take_of_length_le (by rw [List.length_map]; exact Nat.le_refl _)
    rw [e] at hfit
    refine jss_one (js_ret (j_bl fun q' L' hy => ?_))
    obtain ⟨rfl, rfl⟩ := qday_inj hy
    rw [← hfeas, hfit]
abbrev N_dof : List Str := ["queue", "lot", "day", "rows", "due", "work", "at"]
theorem S_dof : FnScope N_dof ["queue", "lot"] (sc 38) := ⟨rfl, rfl, rfl, by decide +kernel, rfl, by decide +kernel, by decide +kernel⟩
theorem ok_dof {f : Addr} {fd : FuncData} (F : Fun K "_law_do_fit" "_law_do_fit" (top 38) f fd) (T : Blt mg) : FnG P w K mg base 1 f fd ["queue", "lot"] sp_fit := by
  refine ok_D (m := 5) F S_dof rfl rfl fun cdv A outer s H E ds hr hl hp => ?_
  obtain ⟨q, L, rfl, hL, hw⟩ := hp
  have hlen := hL.len
  refine jss_cons (js_par 2 3 rfl S_dof.nd rfl rfl (by decide) (j_int (j_sortedT (room64 hr) T.sorted (El.er' (jl_lcF [("at", 6)] rfl S_dof.nd (blkOk_by (N := N_dof) (sc := sc 38) (by decide +kernel)) (own1 rfl) (ji_tup (j_var 1 rfl rfl ⟨L.map D.int, rfl, ?_⟩)))))))
  refine ⟨by rw [List.length_map]; exact hlen, fun _ => true, dF (gW q), fun d acc hd => ?_, ?_⟩
  · obtain ⟨n, hn, rfl⟩ := List.mem_map.mp hd
    refine ⟨[6], _, fun s H C cl fp => jg_name 6 S_dof.nd rfl, fun _ h => h, fun s H C cl fp => jts_nil ⟨rfl, fun _ s H C cl fp => ?_⟩⟩
    exact j_tup (j_cons (j_ixT (j_ixT (j_var 0 rfl rfl (j_var 6 rfl rfl ⟨_, _, _, rfl, rfl, atq (hL.lt n hn), j_int ⟨_, _, _, rfl, rfl, rfl, j_cons (j_ixT (j_ixT (j_var 0 rfl rfl (j_var 6 rfl rfl ⟨_, _, _, rfl, rfl, atq (hL.lt n hn), j_int ⟨_, _, _, rfl, rfl, rfl, j_nil ⟨Nat.le_of_ble_eq_true rfl, rfl⟩⟩⟩))))⟩⟩)))))
  rw [d_list]
  refine ⟨_, rfl, .inl fun l hl e => ?_, fun l hp hu => ?_⟩
  · obtain ⟨n, _, rfl⟩ := List.mem_map.mp hl
    cases e
  obtain ⟨r1, r2⟩ := rows_of (q := q) (tr := trW) (fun n => rfl) (fun n => ⟨[(caseAt q n).2.1], rfl⟩) hp hu
  have hfeas := feas_rows hw hL.lt r1 r2
  have hwl : ∀ x ∈ l.map trW, 0 ≤ x.2 := fun x hx => by
    obtain ⟨n, hn, rfl⟩ := List.mem_map.mp (r1.mem_iff.mp hx)
    exact hw _ (List.mem_of_getElem? (caseAt_get (hL.lt n hn)))
  refine jss_cons (js_for PassesOwn.never rfl (ji_lst (j_var 3 rfl rfl ⟨_, rfl, ?_⟩)))
  refine ⟨fun k sl ms => ∃ a b, sl = [.d (queueD q), .d (dayD L), .d (.int (((l.map trW).take k).map (·.2)).sum), .d (.lst (l.map tupI)), a, b, .u] ∧ ms = [] ∧ fitR 0 ((l.map trW).take k) = true, ⟨.u, .u, rfl, rfl, rfl⟩, ?_, ?_⟩
  · rintro k d sl1 ms1 hd ⟨a, b, rfl, rfl, hfit⟩
    rw [List.getElem?_map] at hd
    cases hk : l[k]? with
    | none => rw [hk] at hd; cases hd
    | some x =>
      rw [hk] at hd
      cases hd
      obtain ⟨n, hn, rfl⟩ := List.mem_map.mp (hp.mem_iff.mp (List.mem_of_getElem? hk))
      have hrow : (l.map trW)[k]? = some (rowOf (caseAt q n)) := by rw [List.getElem?_map, hk]; rfl
      have hs := sum_take hrow
      have ht := fit_take hrow hfit
      refine ⟨_, _, jg_tup rfl (jgs_cons (jg_name 4 S_dof.nd rfl) (jgs_cons (jg_name 5 S_dof.nd rfl) jgs_nil)), ?_⟩
      refine jss_cons (js_set 2 S_dof.nd rfl (j_add (j_var 2 rfl rfl (j_var 5 rfl rfl ⟨_, _, rfl, rfl, ?_⟩))))
      refine jss_one (js_if (jt_cmp (j_var 2 rfl rfl (j_var 4 rfl rfl ⟨_, .gt _ _, fun e => ?_, fun e => jss_nil ?_⟩))))
      · refine jss_one (js_ret (j_bl fun q' L' hy => ?_))
        obtain ⟨rfl, rfl⟩ := qday_inj hy
        rw [← hfeas]
        have e' : decide ((rowOf (caseAt q n)).1 < (((l.map trW).take k).map (·.2)).sum + (rowOf (caseAt q n)).2) = true := e
        rw [e'] at ht
        rw [fit_part hwl ht]
      · have e' : decide ((rowOf (caseAt q n)).1 < (((l.map trW).take k).map (·.2)).sum + (rowOf (caseAt q n)).2) = false := e
        rw [e'] at ht
        exact ⟨.d (.int (caseAt q n).2.2), .d (.int (caseAt q n).2.1), by rw [hs]; rfl, rfl, ht⟩
  · rintro sl1 ms1 ⟨a, b, rfl, rfl, hfit⟩
    rw [List.length_map] at hfit
    have e : (l.map trW).take l.length = l.map trW := List.take_of_length_le (by rw [List.length_map]; exact Nat.le_refl _)
    rw [e] at hfit
    refine jss_one (js_ret (j_bl fun q' L' hy => ?_))
    obtain ⟨rfl, rfl⟩ := qday_inj hy
    rw [← hfeas, hfit]
end
end A
set_option Elab.async false
set_option linter.all false
set_option maxRecDepth 100000
/-! The walk: _law_taken. -/
namespace A
open PySem PySem.Spec PyProof.Rows L2 E
theorem cut_init (l : List D) (h : 1 ≤ l.length) : E.cutD l none (some (-1)) = l.dropLast := by
  unfold E.cutD
  have e1 : HT.sIx l.length 0 none = 0 := HT.sIx_none ..
  have e2 : HT.sIx l.length l.length (some (-1)) = l.length - 1 := by
    unfold HT.sIx
    simp
    omega
  rw [e1, e2, List.drop_zero, Nat.sub_zero, List.dropLast_eq_take]
def gC (c : Case) : List Int := [c.2.2, c.2.1]
def cF : D → D
  | .tup [_, w, d] => .tup [d, w]
  | _ => .non
theorem c_list (q : List Case) : ((q.map caseD).filter fun _ => true).map cF = (q.map gC).map tupI := by
  rw [filter_all, List.map_map, List.map_map]
  rfl
theorem rows_all {q : List Case} {l : List (List Int)} (hp : l.Perm (q.map gC)) (hu : l.Pairwise fun a b => HT.lexLt b a = false) : (l.map trW).Perm (rowsAll q) ∧ (l.map trW).Pairwise fun x y => x.1 ≤ y.1 := by
  constructor
  · refine (hp.map trW).trans ?_
    rw [List.map_map]
    have : q.map (trW ∘ gC) = rowsAll q := List.map_congr_left fun n _ => rfl
    rw [this]
  · refine heads_up (fun x hx => ?_) hu
    obtain ⟨c, _, rfl⟩ := List.mem_map.mp (hp.mem_iff.mp hx)
    exact ⟨[c.2.1], rfl⟩
/-- so many can be in time, no more -/
def ManyIs (q : List Case) (m : Nat) : Prop := (∃ L ∈ lotsN q.length, Fz (rowsOf q L) ∧ L.length = m) ∧ ∀ L ∈ lotsN q.length, Fz (rowsOf q L) → L.length ≤ m
theorem ManyIs.uniq {q : List Case} {m k : Nat} (h : ManyIs q m) (h' : ManyIs q k) : m = k := by
  obtain ⟨⟨L, a, b, rfl⟩, c⟩ := h
  obtain ⟨⟨M, a', b', rfl⟩, c'⟩ := h'
  exact Nat.le_antisymm (c' L a b) (c M a' b')
section
variable {P : Program} {w : World} {K : PySem.W.Frag} {mg : Str → Option Value} {base : Heap}
abbrev sp_taken : Sp := spD 1 (fun ds => ∃ q, ds = [queueD q] ∧ Qok q) fun ds d => ∀ q, ds = [queueD q] → ∃ m : Nat, d = .int m ∧ ManyIs q m
abbrev N_taken : List Str := ["queue", "day", "stay", "due", "work", "one"]
theorem S_taken : FnScope N_taken ["queue"] (sc 40) := ⟨rfl, rfl, rfl, by decide +kernel, rfl, by decide +kernel, by decide +kernel⟩
theorem ok_taken {f : Addr} {fd : FuncData} (F : Fun K "_law_taken" "_law_taken" (top 40) f fd) (T : Blt mg) : FnG P w K mg base 1 f fd ["queue"] sp_taken := by
  refine ok_D (m := 5) F S_taken rfl rfl fun cdv A outer s H E ds hr hl hp => ?_
  obtain ⟨q, rfl, hq⟩ := hp
  have hlen := hq.h10
  have hw : ∀ c ∈ q, 0 ≤ c.2.1 := fun c hc => by have := hq.w0 c hc; omega
  refine jss_cons (js_par 1 2 rfl S_taken.nd rfl rfl (by decide) (j_int (j_lst (j_nil ⟨Nat.zero_le _, ?_⟩))))
  refine jss_cons (js_for PassesOwn.never rfl (ji_lst (j_sortedT (room64 hr) T.sorted (El.er' (jl_lcF [("one", 5)] rfl S_taken.nd (blkOk_by (N := N_taken) (sc := sc 40) (by decide +kernel)) (own1 rfl) (ji_tup (j_var 0 rfl rfl ⟨q.map caseD, rfl, ?_⟩)))))))
  refine ⟨by rw [List.length_map]; omega, fun _ => true, cF, fun d acc hd => ?_, ?_⟩
  · obtain ⟨c, hc, rfl⟩ := List.mem_map.mp hd
    refine ⟨[5], _, fun s H C cl fp => jg_name 5 S_taken.nd rfl, fun _ h => h, fun s H C cl fp => jts_nil ⟨rfl, fun _ s H C cl fp => ?_⟩⟩
    exact j_tup (j_cons (j_ixT (j_var 5 rfl rfl (j_int ⟨_, _, _, rfl, rfl, rfl, j_cons (j_ixT (j_var 5 rfl rfl (j_int ⟨_, _, _, rfl, rfl, rfl, j_nil ⟨Nat.le_of_ble_eq_true rfl, rfl⟩⟩)))⟩))))
  rw [c_list]
  refine ⟨_, rfl, .inl fun l hl e => ?_, fun l hp hu => ?_⟩
  · obtain ⟨c, _, rfl⟩ := List.mem_map.mp hl
    cases e
  obtain ⟨r1, r2⟩ := rows_all hp hu
  have hll : l.length = q.length := by rw [hp.length_eq, List.length_map]
  have hwl : ∀ x ∈ l.map trW, 0 ≤ x.2 := fun x hx => by
    obtain ⟨c, hc, rfl⟩ := List.mem_map.mp (r1.mem_iff.mp hx)
    exact hw c hc
  refine ⟨_, rfl, ?_⟩
  refine ⟨fun k sl ms => ∃ (st : List Int) (a b : Sl), sl = [.d (queueD q), .d (.int st.sum), .d (.lst (st.map D.int)), a, b, .u] ∧ ms = [] ∧ Stay (l.map trW) k st, ⟨[], .u, .u, rfl, rfl, stay_start _⟩, ?_, ?_⟩
  · rintro k d sl1 ms1 hd ⟨st, a, b, rfl, rfl, hst⟩
    rw [List.getElem?_map] at hd
    cases hk : l[k]? with
    | none => rw [hk] at hd; cases hd
    | some x =>
      rw [hk] at hd
      cases hd
      obtain ⟨c, hc, rfl⟩ := List.mem_map.mp (hp.mem_iff.mp (List.mem_of_getElem? hk))
      have hrow : (l.map trW)[k]? = some (rowOf c) := by rw [List.getElem?_map, hk]; rfl
      have hstl : st.length ≤ 10 := by
        obtain ⟨T0, t1, _, t3⟩ := hst.some
        have h1 := t1.length_le
        have h2 := t3.length_eq
        unfold works at h2
        rw [List.length_map] at h2
        have h3 : ((l.map trW).take k).length ≤ (l.map trW).length := by rw [List.length_take]; exact Nat.min_le_right _ _
        rw [List.length_map] at h3
        omega
      refine ⟨_, _, jg_tup rfl (jgs_cons (jg_name 3 S_taken.nd rfl) (jgs_cons (jg_name 4 S_taken.nd rfl) jgs_nil)), ?_⟩
      refine jss_cons (js_par 2 1 rfl S_taken.nd rfl rfl (by decide) (j_sorted T.sorted (j_catL (j_var 2 rfl rfl (j_lst (j_cons (j_var 4 rfl rfl (j_nil ⟨Nat.le_of_ble_eq_true rfl, _, _, rfl, rfl, ?_, st ++ [c.2.1], ?_, fun s hs1 hs2 => ?_⟩))))))))
      · rw [List.length_map]; show st.length + 1 ≤ 100000; omega
      · rw [List.map_append]; rfl
      have hnext := stay_step hrow r2 hwl hst hs2 hs1
      have hsl : s.length = st.length + 1 := by rw [hs1.length_eq, List.length_append]; rfl
      have hsum : s.sum = st.sum + c.2.1 := by rw [sum_perm hs1, List.sum_append]; show _ + (_ + 0) = _; omega
      have hsn : s ≠ [] := fun e => by rw [e] at hsl; cases hsl
      refine j_add (j_var 1 rfl rfl (j_var 4 rfl rfl ⟨_, _, rfl, rfl, ?_⟩))
      refine jss_one (js_if (jt_cmp (j_var 1 rfl rfl (j_var 3 rfl rfl ⟨_, .gt _ _, fun e => ?_, fun e => jss_nil ?_⟩))))
      · have e' : (rowOf c).1 < st.sum + (rowOf c).2 := of_decide_eq_true e
        rw [if_pos e'] at hnext
        have hlast : (s.map D.int).getLast? = some (.int (s.getLast hsn)) := by rw [List.getLast?_map, List.getLast?_eq_some_getLast hsn]; rfl
        refine jss_cons (js_set 1 S_taken.nd rfl (j_sub (j_var 1 rfl rfl (j_ixL (j_var 2 rfl rfl (j_neg (j_int ⟨_, rfl, _, _, _, rfl, rfl, atI_last hlast, _, _, rfl, rfl, ?_⟩)))))))
        refine jss_one (js_set 2 S_taken.nd rfl (j_slL (j_var 2 rfl rfl (jo_n (jo_s (j_neg (j_int ⟨1, rfl, -1, rfl, _, rfl, ?_⟩)))))))
        rw [cut_init _ (by rw [List.length_map]; omega)]
        refine ⟨s.dropLast, .d (.int c.2.2), .d (.int c.2.1), ?_, rfl, hnext⟩
        have h1 : s.dropLast.sum + s.getLast hsn = s.sum := by
          have := congrArg List.sum (List.dropLast_concat_getLast hsn)
          rw [List.sum_append] at this
          have : s.dropLast.sum + (s.getLast hsn + 0) = s.sum := this
          omega
        have h2 : st.sum + c.2.1 - s.getLast hsn = s.dropLast.sum := by omega
        rw [List.map_dropLast, ← h2]
        rfl
      · have e' : ¬ (rowOf c).1 < st.sum + (rowOf c).2 := of_decide_eq_false e
        rw [if_neg e'] at hnext
        exact ⟨s, .d (.int c.2.2), .d (.int c.2.1), by rw [hsum]; rfl, rfl, hnext⟩
  · rintro sl1 ms1 ⟨st, a, b, rfl, rfl, hst⟩
    rw [List.length_map] at hst
    have hst' : Stay (l.map trW) (l.map trW).length st := by rw [List.length_map]; exact hst
    refine jss_one (js_ret (j_len T.len (j_var 2 rfl rfl ⟨_, .inr ⟨_, rfl, rfl⟩, fun q' hy => ?_⟩)))
    injection hy with hy _
    obtain rfl := queue_inj hy
    refine ⟨st.length, by rw [List.length_map], taken hw r1 r2 hst'⟩
end
end A
set_option Elab.async false
set_option linter.all false
set_option maxRecDepth 100000
/-! The walk: check_together, most_in_time, in_time. -/
namespace A
open PySem PySem.Spec PyProof.Rows L2 E
/-- an own class of errors, made without arguments -/
structure Exs (K : PySem.W.Frag) (mg : Str → Option Value) (x : Str) (C : Addr) : Prop where
  g : mg x = some (.ref C)
  q : PySem.W.excIn K C [.type "ValueError", .type "Exception", .type "BaseException", .type "object"] "ValueError.__new__" = true
  k : PySem.W.keepIn K (.ref C) = true
  b : PySem.W.subIn K (.ref C) (.type "BaseException") = some true
  t : PySem.W.typeIn K (.ref C) = some (.type "type")
def Later (q : List Case) : Prop := ∃ c ∈ q, ¬ c.1 = 0
def neF : D → D
  | .tup (.int c :: _) => .bl (!decide (c = 0))
  | _ => .non
theorem ne_list (q : List Case) : ((q.map caseD).filter fun _ => true).map neF = (q.map fun c => !decide (c.1 = 0)).map D.bl := by
  rw [filter_all, List.map_map, List.map_map]
  rfl
theorem ne_any {q : List Case} : (q.map fun c => !decide (c.1 = 0)).any id = true ↔ Later q := by
  rw [List.any_map, List.any_eq_true]
  refine ⟨fun ⟨c, hc, h⟩ => ⟨c, hc, fun e => ?_⟩, fun ⟨c, hc, h⟩ => ⟨c, hc, ?_⟩⟩
  · have h : (!decide (c.1 = 0)) = true := h
    rw [decide_eq_true e] at h; cases h
  · show (!decide (c.1 = 0)) = true
    rw [decide_eq_false h]; rfl
def bestD (b : Nat × List Int) : D := .tup [.int b.1, dayD b.2]
theorem lot_of_is {x : D} {n : Nat} (h : isLot x n = true) : ∃ L, x = dayD L ∧ L ∈ lotsN n := by
  cases x with
  | tup l =>
    unfold isLot at h
    rw [Bool.and_eq_true] at h
    obtain ⟨h1, h2⟩ := h
    have e := all_int h1
    refine ⟨l.map toI, by unfold dayD; rw [← e], mem_lots ?_ fun k hk => ?_⟩
    · generalize l.map toI = ns at h2
      clear e h1
      induction ns with
      | nil => exact List.Pairwise.nil
      | cons a r ih =>
        have hr : incr r = true ∧ ∀ b r', r = b :: r' → a < b := by
          cases r with
          | nil => exact ⟨rfl, fun b r' e => by cases e⟩
          | cons b r =>
            unfold incr at h2
            rw [Bool.and_eq_true] at h2
            exact ⟨h2.2, fun b' r' e => by cases e; exact of_decide_eq_true h2.1⟩
        have ih' := ih hr.1
        refine List.pairwise_cons.mpr ⟨fun y hy => ?_, ih'⟩
        cases r with
        | nil => cases hy
        | cons b r =>
          have hab := hr.2 b r rfl
          rcases List.mem_cons.mp hy with rfl | hy
          · exact hab
          · have := (List.pairwise_cons.mp ih').1 y hy
            omega
    · obtain ⟨d, hd, rfl⟩ := List.mem_map.mp hk
      obtain ⟨i, rfl, a, b⟩ := within_int (List.all_eq_true.mp h1 d hd)
      show 0 ≤ i ∧ i < (n : Int)
      omega
  | _ => cases h
theorem is_of_lot {L : List Int} {n : Nat} (h : L ∈ lotsN n) : isLot (dayD L) n = true := by
  obtain ⟨h1, h2, h3⟩ := lots_mem h
  unfold isLot dayD
  rw [Bool.and_eq_true]
  refine ⟨List.all_eq_true.mpr fun d hd => ?_, ?_⟩
  · obtain ⟨k, hk, rfl⟩ := List.mem_map.mp hd
    have := h2 k hk
    show (decide (0 ≤ k) && decide (k ≤ (n : Int) - 1)) = true
    rw [decide_eq_true this.1, decide_eq_true (by omega)]
    rfl
  · rw [toI_int]
    clear h2 h h3
    induction L with
    | nil => rfl
    | cons a r ih =>
      cases r with
      | nil => rfl
      | cons b r =>
        unfold incr
        rw [decide_eq_true ((List.pairwise_cons.mp h1).1 b (.head _)), ih (List.pairwise_cons.mp h1).2]
        rfl
section
variable {P : Program} {w : World} {K : PySem.W.Frag} {mg : Str → Option Value} {base : Heap} {NT NL : Addr}
abbrev badT (NT : Addr) : List D → Value → Prop := fun ds c => c = .ref NT ∧ ∃ q, ds = [queueD q] ∧ Later q
abbrev sp_ct (NT : Addr) : Sp := spX 1 (fun ds => ∃ q, ds = [queueD q] ∧ Qok q) (fun _ d => d = .non) (badT NT)
theorem notLater {q : List Case} (h : ∀ c, ¬ badT NT [queueD q] c) : ∀ c ∈ q, c.1 = 0 := fun c hc => Classical.byContradiction fun e => h (.ref NT) ⟨rfl, q, rfl, c, hc, e⟩
theorem badT_u {q : List Case} (c : Value) (h : badT NT [queueD q] c) : c = .ref NT := h.1
theorem badT_l {q : List Case} {c : Value} (h : badT NT [queueD q] c) : Later q := by
  obtain ⟨_, q', e, h⟩ := h
  injection e with e _
  rw [queue_inj e]; exact h
theorem S_ct : FnScope ["queue", "case"] ["queue"] (sc 23) := ⟨rfl, rfl, rfl, by decide +kernel, rfl, by decide +kernel, by decide +kernel⟩
theorem ok_ct {f : Addr} {fd : FuncData} (F : Fun K "check_together" "check_together" (top 23) f fd) (T : Blt mg) (x : Exs K mg "NotTogether" NT) (c8 : Cl P w K mg base 5 "check_queue" sp_check) : FnX P w K mg base 6 f fd ["queue"] (sp_ct NT) := by
  refine ok_X (m := 1) F S_ct rfl rfl (fun cdv A outer s H E ds hr hl hp nb => ?_) (fun cdv A outer s H E ds c hr hl hp hb => ?_)
  · obtain ⟨q, rfl, hq⟩ := hp
    have h0 := notLater nb
    refine jss_cons (js_expr (j_call c8 hr (by decide) (j_cons (j_var 0 rfl rfl (j_nil ⟨rfl, ⟨_, rfl, isQueue_ok hq⟩, fun d hd => ?_⟩)))))
    refine jss_one (js_if (jt_val (j_any rfl T.any (El.er' (jl_lcF [("case", 1)] rfl S_ct.nd (blkOk_by (N := ["queue", "case"]) (sc := sc 23) (by decide +kernel)) (own1 rfl) (ji_tup (j_var 0 rfl rfl ⟨q.map caseD, rfl, ?_⟩)))))))
    refine ⟨by rw [List.length_map]; have := hq.h10; omega, fun _ => true, neF, fun d acc hd => ?_, ?_⟩
    · obtain ⟨c, hc, rfl⟩ := List.mem_map.mp hd
      refine ⟨[1], _, fun s H C cl fp => jg_name 1 S_ct.nd rfl, fun _ h => h, fun s H C cl fp => jts_nil ⟨rfl, fun _ s H C cl fp => ?_⟩⟩
      exact j_cmp (j_ixT (j_var 1 rfl rfl (j_int ⟨_, _, _, rfl, rfl, rfl, j_int ⟨_, .ne _ _, rfl⟩⟩)))
    rw [ne_list]
    refine ⟨_, rfl, _, rfl, fun e => ?_, fun e => jss_nil rfl⟩
    obtain ⟨c, hc, h⟩ := ne_any.mp e
    exact absurd (h0 c hc) h
  · obtain ⟨q, rfl, hq⟩ := hp
    have ec := hb.1
    subst ec
    have hlate := badT_l hb
    refine zss_cons (js_expr (j_call c8 hr (by decide) (j_cons (j_var 0 rfl rfl (j_nil ⟨rfl, ⟨_, rfl, isQueue_ok hq⟩, fun d hd => ?_⟩)))))
    refine zss_one (zs_if (jt_val (j_any rfl T.any (El.er' (jl_lcF [("case", 1)] rfl S_ct.nd (blkOk_by (N := ["queue", "case"]) (sc := sc 23) (by decide +kernel)) (own1 rfl) (ji_tup (j_var 0 rfl rfl ⟨q.map caseD, rfl, ?_⟩)))))))
    refine ⟨by rw [List.length_map]; have := hq.h10; omega, fun _ => true, neF, fun d acc hd => ?_, ?_⟩
    · obtain ⟨c, hc, rfl⟩ := List.mem_map.mp hd
      refine ⟨[1], _, fun s H C cl fp => jg_name 1 S_ct.nd rfl, fun _ h => h, fun s H C cl fp => jts_nil ⟨rfl, fun _ s H C cl fp => ?_⟩⟩
      exact j_cmp (j_ixT (j_var 1 rfl rfl (j_int ⟨_, _, _, rfl, rfl, rfl, j_int ⟨_, .ne _ _, rfl⟩⟩)))
    rw [ne_list]
    refine ⟨_, rfl, _, rfl, fun e => ?_, fun e => ?_⟩
    · exact zss_one (zs_raise rfl (takes_of rfl rfl rfl rfl) PySem.F.excBase_ValueError x.q x.g x.k x.b x.t trivial)
    · have := ne_any.mpr hlate
      rw [this] at e; cases e
abbrev sp_mit (NT : Addr) : Sp := spX 1 (fun ds => ∃ q, ds = [queueD q] ∧ Qok q) (fun ds d => ∀ q, ds = [queueD q] → ∃ S, SortOf q.length ([] :: S) ∧ d = bestD (S.foldl (bestStep (feas q)) (0, []))) (badT NT)
abbrev N_mit : List Str := ["queue", "best", "lot"]
theorem S_mit : FnScope N_mit ["queue"] (sc 25) := ⟨rfl, rfl, rfl, by decide +kernel, rfl, by decide +kernel, by decide +kernel⟩
theorem ok_mit {f : Addr} {fd : FuncData} (F : Fun K "most_in_time" "most_in_time" (top 25) f fd) (T : Blt mg) (ct : ClX P w K mg base 6 "check_together" (sp_ct NT)) (c1 : Cl P w K mg base 1 "lots_of" sp_lof) (c2 : Cl P w K mg base 1 "are_in_time" sp_fit) : FnX P w K mg base 7 f fd ["queue"] (sp_mit NT) := by
  refine ok_X (m := 2) F S_mit rfl rfl (fun cdv A outer s H E ds hr hl hp nb => ?_) (fun cdv A outer s H E ds c hr hl hp hb => ?_)
  · obtain ⟨q, rfl, hq⟩ := hp
    have hw : ∀ c ∈ q, 0 ≤ c.2.1 := fun c hc => by have := hq.w0 c hc; omega
    refine jss_cons (js_expr (j_callX ct hr (by decide) (j_cons (j_var 0 rfl rfl (j_nil ⟨rfl, ⟨q, rfl, hq⟩, nb, fun d hd => ?_⟩)))))
    refine jss_cons (js_set 1 S_mit.nd rfl (j_tup (j_cons (j_int (j_cons (j_tup (j_nil ⟨Nat.zero_le _, j_nil ⟨Nat.le_of_ble_eq_true rfl, ?_⟩⟩)))))))
    refine jss_cons (js_for PassesOwn.never rfl (ji_lst (j_call c1 hr (by decide) (j_cons (j_len T.len (j_var 0 rfl rfl ⟨_, .inl ⟨_, rfl, rfl⟩, j_nil ⟨rfl, ⟨q.length, by rw [List.length_map], hq.h10⟩, fun d hd => ?_⟩⟩))))))
    obtain ⟨S, hS, rfl⟩ := hd q.length (by rw [List.length_map])
    refine ⟨_, rfl, fun k sl ms => ∃ a, sl = [.d (queueD q), .d (bestD ((S.take k).foldl (bestStep (feas q)) (0, []))), a] ∧ ms = [], ⟨.u, rfl, rfl⟩, ?_, ?_⟩
    · rintro k d sl1 ms1 hd ⟨a, rfl, rfl⟩
      rw [List.getElem?_map] at hd
      cases hk : S[k]? with
      | none => rw [hk] at hd; cases hd
      | some L =>
        rw [hk] at hd
        cases hd
        have hL : L ∈ lotsN q.length := hS.perm.mem_iff.mp (.tail _ (List.mem_of_getElem? hk))
        obtain ⟨l1, l2, l3⟩ := lots_mem hL
        have hq10 := hq.h10
        have hstep : (S.take (k + 1)).foldl (bestStep (feas q)) (0, []) = bestStep (feas q) ((S.take k).foldl (bestStep (feas q)) (0, [])) L := by
          rw [List.take_add_one, hk, List.foldl_append]; rfl
        generalize (S.take k).foldl (bestStep (feas q)) (0, []) = b at hstep
        refine ⟨_, _, jg_name 2 S_mit.nd rfl, ?_⟩
        have keep : ¬ (b.1 < L.length ∧ feas q L = true) → ∃ a, ([Sl.d (queueD q), .d (bestD b), .d (dayD L)] : List Sl) = [.d (queueD q), .d (bestD ((S.take (k + 1)).foldl (bestStep (feas q)) (0, []))), a] ∧ ([] : List (List D)) = [] := fun h =>
          ⟨.d (dayD L), by rw [hstep]; unfold bestStep; rw [if_neg h], rfl⟩
        refine jss_one (js_if (jt_w (jw_and (jt_cmp (j_len T.len (j_var 2 rfl rfl ⟨_, .inl ⟨_, rfl, rfl⟩, j_ixT (j_var 1 rfl rfl (j_int ⟨_, _, _, rfl, rfl, rfl, _, .gt _ _, fun e => ?_, fun e => ⟨(fun z => by cases z), fun _ => jss_nil ?_⟩⟩))⟩))))))
        · rw [List.length_map] at e
          have e1 : (b.1 : Int) < (L.length : Int) := of_decide_eq_true e
          refine jw_and1 (jt_val (j_call c2 hr (by decide) (j_cons (j_var 0 rfl rfl (j_cons (j_var 2 rfl rfl (j_nil ⟨rfl, ⟨q, L, rfl, ⟨by omega, l2⟩, hw⟩, fun d hd => ?_⟩)))))))
          obtain rfl := hd q L rfl
          refine ⟨_, rfl, fun e2 => ?_, fun e2 => jss_nil (keep fun h => by rw [h.2] at e2; cases e2)⟩
          refine jss_one (js_set 1 S_mit.nd rfl (j_tup (j_cons (j_len T.len (j_var 2 rfl rfl ⟨_, .inl ⟨_, rfl, rfl⟩, j_cons (j_var 2 rfl rfl (j_nil ⟨Nat.le_of_ble_eq_true rfl, .d (dayD L), ?_, rfl⟩))⟩)))))
          rw [hstep]
          unfold bestStep
          rw [if_pos ⟨by omega, e2⟩, List.length_map]
          rfl
        · rw [List.length_map] at e
          have e1 : ¬ (b.1 : Int) < (L.length : Int) := of_decide_eq_false e
          exact keep fun h => by omega
    · rintro sl1 ms1 ⟨a, rfl, rfl⟩
      rw [List.length_map, List.take_length]
      refine jss_one (js_ret (j_var 1 rfl rfl fun q' hy => ?_))
      injection hy with hy _
      obtain rfl := queue_inj hy
      exact ⟨S, hS, rfl⟩
  · obtain ⟨q, rfl, hq⟩ := hp
    have ec := hb.1
    subst ec
    exact zss_consZ (j_raises ct hr (by decide) (takes_of rfl rfl rfl rfl) trivial (j_cons (j_var 0 rfl rfl (j_nil ⟨rfl, ⟨q, rfl, hq⟩, hb, badT_u⟩))))
/-- (queue, lot): a case comes later; no lot -/
abbrev badI (NT NL : Addr) : List D → Value → Prop := fun ds c => ∃ q x, ds = [queueD q, x] ∧ ((c = .ref NT ∧ Later q) ∨ (c = .ref NL ∧ ¬ Later q ∧ isLot x q.length = false))
abbrev sp_int (NT NL : Addr) : Sp := spX 2 (fun ds => ∃ q x, ds = [queueD q, x] ∧ Qok q ∧ lenT x < 100000) (fun ds d => ∀ q L, ds = [queueD q, dayD L] → d = .bl (feas q L)) (badI NT NL)
theorem badI_at {q : List Case} {x : D} {c : Value} (h : badI NT NL [queueD q, x] c) : (c = .ref NT ∧ Later q) ∨ (c = .ref NL ∧ ¬ Later q ∧ isLot x q.length = false) := by
  obtain ⟨q', x', e, h⟩ := h
  injection e with e1 e2
  injection e2 with e2 _
  rw [queue_inj e1, e2]
  exact h
theorem S_int : FnScope ["queue", "lot"] ["queue", "lot"] (sc 26) := ⟨rfl, rfl, rfl, by decide +kernel, rfl, by decide +kernel, by decide +kernel⟩
theorem ok_int2 {f : Addr} {fd : FuncData} (F : Fun K "in_time" "in_time" (top 26) f fd) (T : Blt mg) (x : Exs K mg "NoLot" NL) (ct : ClX P w K mg base 6 "check_together" (sp_ct NT)) (c1 : Cl P w K mg base 3 "is_lot" sp_lot) (c2 : Cl P w K mg base 1 "are_in_time" sp_fit) : FnX P w K mg base 7 f fd ["queue", "lot"] (sp_int NT NL) := by
  refine ok_X (m := 0) F S_int rfl rfl (fun cdv A outer s H E ds hr hl hp nb => ?_) (fun cdv A outer s H E ds c hr hl hp hb => ?_)
  · obtain ⟨q, y, rfl, hq, hy⟩ := hp
    have hw : ∀ c ∈ q, 0 ≤ c.2.1 := fun c hc => by have := hq.w0 c hc; omega
    have nl : ¬ Later q := fun h => nb (.ref NT) ⟨q, y, rfl, .inl ⟨rfl, h⟩⟩
    have hlot : isLot y q.length = true := by
      cases e : isLot y q.length with
      | true => rfl
      | false => exact absurd ⟨q, y, rfl, .inr ⟨rfl, nl, e⟩⟩ (nb (.ref NL))
    obtain ⟨L, rfl, hL⟩ := lot_of_is hlot
    refine jss_cons (js_expr (j_callX ct hr (by decide) (j_cons (j_var 0 rfl rfl (j_nil ⟨rfl, ⟨q, rfl, hq⟩, fun c h => nl (badT_l h), fun d hd => ?_⟩)))))
    refine jss_cons (js_if (jt_not (jt_val (j_call c1 hr (by decide) (j_cons (j_var 1 rfl rfl (j_cons (j_len T.len (j_var 0 rfl rfl ⟨_, .inl ⟨_, rfl, rfl⟩, j_nil ⟨rfl, ⟨_, _, rfl, hy⟩, fun d hd => ?_⟩⟩)))))))))
    obtain rfl := hd _ _ rfl
    rw [List.length_map, hlot]
    refine ⟨_, rfl, (fun z => by cases z), fun _ => jss_nil ?_⟩
    refine jss_one (js_ret (j_call c2 hr (by decide) (j_cons (j_var 0 rfl rfl (j_cons (j_var 1 rfl rfl (j_nil ⟨rfl, ⟨q, L, rfl, ⟨by have := (lots_mem hL).2.2; have := hq.h10; omega, (lots_mem hL).2.1⟩, hw⟩, fun d hd => ?_⟩)))))))
    exact hd
  · obtain ⟨q, y, rfl, hq, hy⟩ := hp
    rcases badI_at hb with ⟨rfl, hlate⟩ | ⟨rfl, nl, hlot⟩
    · exact zss_consZ (j_raises ct hr (by decide) (takes_of rfl rfl rfl rfl) trivial (j_cons (j_var 0 rfl rfl (j_nil ⟨rfl, ⟨q, rfl, hq⟩, ⟨rfl, q, rfl, hlate⟩, badT_u⟩))))
    · refine zss_cons (js_expr (j_callX ct hr (by decide) (j_cons (j_var 0 rfl rfl (j_nil ⟨rfl, ⟨q, rfl, hq⟩, fun c h => nl (badT_l h), fun d hd => ?_⟩)))))
      refine zss_consZ (zs_if (jt_not (jt_val (j_call c1 hr (by decide) (j_cons (j_var 1 rfl rfl (j_cons (j_len T.len (j_var 0 rfl rfl ⟨_, .inl ⟨_, rfl, rfl⟩, j_nil ⟨rfl, ⟨_, _, rfl, hy⟩, fun d hd => ?_⟩⟩)))))))))
      obtain rfl := hd _ _ rfl
      rw [List.length_map, hlot]
      refine ⟨_, rfl, fun _ => ?_, (fun z => by cases z)⟩
      exact zss_one (zs_raise rfl (takes_of rfl rfl rfl rfl) PySem.F.excBase_ValueError x.q x.g x.k x.b x.t trivial)
end
end A
set_option Elab.async false
set_option linter.all false
set_option maxRecDepth 100000
set_option maxHeartbeats 1000000
/-! zip of a tuple and a list (of any two feeders). -/
namespace ZZ
open PySem
/-- it hands out xs (out of src), one by one; st k: k are out -/
structure Fd (prog : Program) (w : World) (it src : Addr) (xs : Array Value) (st : Nat → Heap → Prop) : Prop where
  low : ∀ k h, st k h → ∃ o, h.get? it = some o ∧ ∀ v, o.data ≠ .cell v
  move : ∀ k h h', st k h → (∀ o, h.get? it = some o → h'.get? it = some o) → (∀ o, h.get? src = some o → h'.get? src = some o) → st k h'
  item : ∀ (A : Around) (E : Value → Shared → Prop) (s : Shared) (k : Nat) (x : Value) (Q : Value → Shared → Prop), st k s.heap → xs[k]? = some x → (∀ h', st (k + 1) h' → Heap.SameBut it s.heap h' → Q x { s with heap := h' }) →
    wpAny (model prog w) A (Builtin.SmallTypes.nextOf (.ref it)) Q E s
  stop : ∀ (A : Around) (E : Value → Shared → Prop) (s : Shared) (k : Nat) (Q : Value → Shared → Prop), A.handled = none → st k s.heap → xs[k]? = none →
    (∀ h' e, Heap.ExtBut it s.heap h' → (∃ o, h'.get? e = some o ∧ o.cls = .type "StopIteration") → E (.ref e) { s with heap := h' }) → wpAny (model prog w) A (Builtin.SmallTypes.nextOf (.ref it)) Q E s
theorem fd_tup {prog : Program} {w : World} {it l : Addr} {xs : Array Value} (ne : l ≠ it) : Fd prog w it l xs fun k h => h.IsTupleIter it l k ∧ h.IsTuple l xs where
  low := fun k h ⟨⟨o, e, _, d⟩, _⟩ => ⟨o, e, fun v q => by rw [d] at q; cases q⟩
  move := fun k h h' ⟨a, ⟨o, e, r⟩⟩ m1 m2 => ⟨a.at m1, o, m2 _ e, r⟩
  item := fun A E s k x Q ⟨a, b⟩ hx q => RZ.nextOf_tuple_item a b hx fun h' a' sb => q h' ⟨a', b.extBut sb.extBut ne⟩ sb
  stop := fun A E s k Q hh ⟨a, b⟩ hx q => RZ.nextOf_tuple_end hh a b hx q
theorem fd_list {prog : Program} {w : World} {it l : Addr} {xs : Array Value} (ne : l ≠ it) : Fd prog w it l xs fun k h => h.IsListIter it l k ∧ h.IsList l xs where
  low := fun k h ⟨⟨o, e, _, d⟩, _⟩ => ⟨o, e, fun v q => by rw [d] at q; cases q⟩
  move := fun k h h' ⟨a, ⟨o, e, r⟩⟩ m1 m2 => ⟨a.at m1, o, m2 _ e, r⟩
  item := fun A E s k x Q ⟨a, b⟩ hx q => wpAny_nextOf_list_item a b hx fun h' a' sb => q h' ⟨a', b.extBut sb.extBut ne⟩ sb
  stop := fun A E s k Q hh ⟨a, b⟩ hx q => wpAny_nextOf_list_end hh a b hx q
section
variable {prog : Program} {w : World} {A : Around} {E : Value → Shared → Prop} {s : Shared} {z TI TO i1 i2 l1 l2 : Addr} {k : Nat} {xs ys : Array Value} {x y a b : Value} {st1 st2 : Nat → Heap → Prop}
/-- all but the zip, its last pair and the two iterators -/
abbrev Else (z TO i1 i2 : Addr) (h h' : Heap) : Prop := ∀ c o, c ≠ z → c ≠ TO → c ≠ i1 → c ≠ i2 → h.get? c = some o → h'.get? c = some o
theorem next_item {Q : Value → Shared → Prop} (D : ZipApart z TI TO i1 i2 l1 l2) (f1 : Fd prog w i1 l1 xs st1) (f2 : Fd prog w i2 l2 ys st2) (oz : IsZip s.heap z TI TO .none) (pI : IsPair s.heap TI (.ref i1) (.ref i2)) (pO : IsPair s.heap TO a b)
    (u1 : st1 k s.heap) (u2 : st2 k s.heap) (ex : xs[k]? = some x) (ey : ys[k]? = some y)
    (done : ∀ h', IsZip h' z TI TO (rawInt s.heap.objs.size) → IsPair h' TO x y → st1 (k + 1) h' → st2 (k + 1) h' → IsPair h' s.heap.objs.size x y → Else z TO i1 i2 s.heap h' → Q (.ref s.heap.objs.size) { s with heap := h' }) :
    wpAny (model prog w) A (Builtin.«zip.__next__» ⟨[.ref z], []⟩) (fun fin s' => ∃ v, fin = .done (.ret v) ∧ Q v s') E s := by
  show wpAny _ _ (field (.ref z) 2 >>= _) _ _ _
  refine wpAny_bind (wpAny_field oz rfl (x := .bool false) rfl (show wpAny _ _ (field (.ref z) 3 >>= _) _ _ _ from wpAny_bind (wpAny_field oz rfl (x := .ref TI) rfl (wpAny_bind (wpAny_seqItems pI rfl ?_)))))
  show wpAny _ _ (Builtin.SmallTypes.ownedTupleIsFree (.ref z) >>= _) _ _ _
  unfold Builtin.SmallTypes.ownedTupleIsFree
  refine wpAny_bind (wpAny_bind (wpAny_field oz rfl (x := .none) rfl (wpAny_pure ?_)))
  simp only [if_true]
  refine wpAny_bind (wpAny_rule (wpAny_bind (wpAny_field oz rfl (x := .ref TO) rfl (wpAny_bind (wpAny_setField_rec oz (by simp) fun g1 oz1 b1 => wpAny_bind ?_)))))
  have oz1 : IsZip g1 z TI TO .ellipsis := oz1
  simp only [List.zipIdx_cons, List.zipIdx_nil, List.forIn_cons, List.forIn_nil]
  refine wpAny_bind (wpAny_bind (wpAny_onRaise (show wpAny _ _ (Builtin.SmallTypes.nextOf (.ref i1) >>= _) _ _ _ from wpAny_bind (f1.item _ _ { s with heap := g1 } k x _ (f1.move _ _ _ u1 (fun o e => b1.extBut _ _ D.i1z e) fun o e => b1.extBut _ _ D.l1z e) ex fun g2 v1 b2 => wpAny_pure ?_))))
  have pO2 : IsPair g2 TO a b := b2.extBut _ _ D.TOi1 (b1.extBut _ _ D.TOz pO)
  refine wpAny_bind (wpAny_seqItems pO2 rfl (wpAny_bind (wpAny_updateSeq_pair pO2 fun g3 pO3 b3 => wpAny_bind (wpAny_letGo (wpAny_pure ?_)))))
  have pO3 : IsPair g3 TO x b := pO3
  have u2' : st2 k g3 := f2.move _ _ _ u2 (fun o e => b3.extBut _ _ D.TOi2.symm (b2.extBut _ _ D.i12.symm (b1.extBut _ _ D.i2z e))) fun o e => b3.extBut _ _ D.l2TO (b2.extBut _ _ D.l2i1 (b1.extBut _ _ D.l2z e))
  refine wpAny_bind (wpAny_bind (wpAny_onRaise (show wpAny _ _ (Builtin.SmallTypes.nextOf (.ref i2) >>= _) _ _ _ from wpAny_bind (f2.item _ _ { s with heap := g3 } k y _ u2' ey fun g4 v2 b4 => wpAny_pure ?_))))
  have pO4 : IsPair g4 TO x b := b4.extBut _ _ D.TOi2 pO3
  refine wpAny_bind (wpAny_seqItems pO4 rfl (wpAny_bind (wpAny_updateSeq_pair pO4 fun g5 pO5 b5 => wpAny_bind (wpAny_letGo (wpAny_pure (wpAny_pure ?_))))))
  have pO5 : IsPair g5 TO x y := pO5
  refine wpAny_bind (wpAny_seqItems pO5 rfl (wpAny_bind (wpAny_newTuple ?_)))
  have size : g5.objs.size = s.heap.objs.size := b5.1.trans (b4.1.trans (b3.1.trans (b2.1.trans b1.1)))
  have oz5 : IsZip g5 z TI TO .ellipsis := b5.extBut _ _ D.TOz.symm (b4.extBut _ _ D.i2z.symm (b3.extBut _ _ D.TOz.symm (b2.extBut _ _ D.i1z.symm oz1)))
  have rest : Else z TO i1 i2 s.heap g5 := fun c o n1 n2 n3 n4 e => b5.extBut _ _ n2 (b4.extBut _ _ n4 (b3.extBut _ _ n2 (b2.extBut _ _ n3 (b1.extBut _ _ n1 e))))
  have w1 : st1 (k + 1) g5 := f1.move _ _ _ v1 (fun o e => b5.extBut _ _ D.TOi1.symm (b4.extBut _ _ D.i12 (b3.extBut _ _ D.TOi1.symm e))) fun o e => b5.extBut _ _ D.l1TO (b4.extBut _ _ D.l1i2 (b3.extBut _ _ D.l1TO e))
  have w2 : st2 (k + 1) g5 := f2.move _ _ _ v2 (fun o e => b5.extBut _ _ D.TOi2.symm e) fun o e => b5.extBut _ _ D.l2TO e
  have zlt : z < g5.objs.size := Heap.lt_size oz5
  show wpAny _ _ (Builtin.SmallTypes.ownedTupleHandOut (.ref z) (.ref g5.objs.size) >>= _) _ _ _
  unfold Builtin.SmallTypes.ownedTupleHandOut
  have oz6 : IsZip (g5.push { cls := .type "tuple", data := .seq #[x, y] }) z TI TO .ellipsis := Heap.get?_push_of_some _ oz5
  refine wpAny_bind (wpAny_bind (wpAny_setField_rec oz6 (by simp) fun g7 oz7 b7 => ?_))
  have oz7 : IsZip g7 z TI TO (rawInt g5.objs.size) := oz7
  refine wpAny_setField_rec oz7 (by simp) fun g8 oz8 b8 => ?_
  have oz8 : IsZip g8 z TI TO (rawInt g5.objs.size) := oz8
  have up : ∀ c o, c ≠ z → g5.get? c = some o → g8.get? c = some o := fun c o n e => b8.extBut _ _ n (b7.extBut _ _ n (Heap.get?_push_of_some _ e))
  have pT : IsPair g8 g5.objs.size x y := b8.extBut _ _ (Nat.ne_of_gt zlt) (b7.extBut _ _ (Nat.ne_of_gt zlt) (Heap.get?_push_size _ rfl))
  rw [size] at oz8 pT
  refine wpAny_pure ⟨_, rfl, ?_⟩
  show Q (.ref g5.objs.size) _
  rw [size]
  exact done g8 oz8 (up _ _ D.TOz pO5) (f1.move _ _ _ w1 (fun o e => up _ o D.i1z e) fun o e => up _ o D.l1z e) (f2.move _ _ _ w2 (fun o e => up _ o D.i2z e) fun o e => up _ o D.l2z e) pT fun c o n1 n2 n3 n4 e => up c o n1 (rest c o n1 n2 n3 n4 e)
theorem next_stop {Q : PySem.Fin → Shared → Prop} (hh : A.handled = none) (D : ZipApart z TI TO i1 i2 l1 l2) (f1 : Fd prog w i1 l1 xs st1) (f2 : Fd prog w i2 l2 ys st2) (oz : IsZip s.heap z TI TO .none) (pI : IsPair s.heap TI (.ref i1) (.ref i2)) (pO : IsPair s.heap TO a b)
    (u1 : st1 k s.heap) (u2 : st2 k s.heap) (over : xs[k]? = none ∨ ys[k]? = none)
    (out : ∀ h' e, Else z TO i1 i2 s.heap h' → (∃ o, h'.get? e = some o ∧ o.cls = .type "StopIteration") → E (.ref e) { s with heap := h' }) :
    wpAny (model prog w) A (Builtin.«zip.__next__» ⟨[.ref z], []⟩) Q E s := by
  show wpAny _ _ (field (.ref z) 2 >>= _) _ _ _
  refine wpAny_bind (wpAny_field oz rfl (x := .bool false) rfl (show wpAny _ _ (field (.ref z) 3 >>= _) _ _ _ from wpAny_bind (wpAny_field oz rfl (x := .ref TI) rfl (wpAny_bind (wpAny_seqItems pI rfl ?_)))))
  show wpAny _ _ (Builtin.SmallTypes.ownedTupleIsFree (.ref z) >>= _) _ _ _
  unfold Builtin.SmallTypes.ownedTupleIsFree
  refine wpAny_bind (wpAny_bind (wpAny_field oz rfl (x := .none) rfl (wpAny_pure ?_)))
  simp only [if_true]
  refine wpAny_bind (wpAny_rule (wpAny_bind (wpAny_field oz rfl (x := .ref TO) rfl (wpAny_bind (wpAny_setField_rec oz (by simp) fun g1 oz1 b1 => wpAny_bind ?_)))))
  have oz1 : IsZip g1 z TI TO .ellipsis := oz1
  simp only [List.zipIdx_cons, List.zipIdx_nil, List.forIn_cons, List.forIn_nil]
  have u1' : st1 k g1 := f1.move _ _ _ u1 (fun o e => b1.extBut _ _ D.i1z e) fun o e => b1.extBut _ _ D.l1z e
  refine wpAny_bind (wpAny_bind (wpAny_onRaise (show wpAny _ _ (Builtin.SmallTypes.nextOf (.ref i1) >>= _) _ _ _ from ?_)))
  cases ex : xs[k]? with
  | none =>
    refine wpAny_bind (f1.stop _ _ { s with heap := g1 } k _ hh u1' ex fun g2 e b2 ⟨oe, he, ce⟩ => ?_)
    have oz2 : IsZip g2 z TI TO .ellipsis := b2 _ _ D.i1z.symm oz1
    have nz : e ≠ z := fun q => by subst q; rw [oz2] at he; cases he; simp at ce
    exact wpAny_setField_rec oz2 (by simp) fun g3 _ b3 => out g3 e (fun c o n1 _ n3 _ q => b3.extBut _ _ n1 (b2 _ _ n3 (b1.extBut _ _ n1 q))) ⟨oe, b3.extBut _ _ nz he, ce⟩
  | some x =>
    have ey : ys[k]? = none := over.resolve_left (by rw [ex]; simp)
    refine wpAny_bind (f1.item _ _ { s with heap := g1 } k x _ u1' ex fun g2 v1 b2 => wpAny_pure ?_)
    have pO2 : IsPair g2 TO a b := b2.extBut _ _ D.TOi1 (b1.extBut _ _ D.TOz pO)
    refine wpAny_bind (wpAny_seqItems pO2 rfl (wpAny_bind (wpAny_updateSeq_pair pO2 fun g3 pO3 b3 => wpAny_bind (wpAny_letGo (wpAny_pure ?_)))))
    have u2' : st2 k g3 := f2.move _ _ _ u2 (fun o e => b3.extBut _ _ D.TOi2.symm (b2.extBut _ _ D.i12.symm (b1.extBut _ _ D.i2z e))) fun o e => b3.extBut _ _ D.l2TO (b2.extBut _ _ D.l2i1 (b1.extBut _ _ D.l2z e))
    refine wpAny_bind (wpAny_bind (wpAny_onRaise (show wpAny _ _ (Builtin.SmallTypes.nextOf (.ref i2) >>= _) _ _ _ from wpAny_bind (f2.stop _ _ { s with heap := g3 } k _ hh u2' ey fun g4 e b4 ⟨oe, he, ce⟩ => ?_))))
    have oz4 : IsZip g4 z TI TO .ellipsis := b4 _ _ D.i2z.symm (b3.extBut _ _ D.TOz.symm (b2.extBut _ _ D.i1z.symm oz1))
    have nz : e ≠ z := fun q => by subst q; rw [oz4] at he; cases he; simp at ce
    exact wpAny_setField_rec oz4 (by simp) fun g5 _ b5 => out g5 e (fun c o n1 n2 n3 n4 q => b5.extBut _ _ n1 (b4 _ _ n4 (b3.extBut _ _ n2 (b2.extBut _ _ n3 (b1.extBut _ _ n1 q))))) ⟨oe, b5.extBut _ _ nz he, ce⟩
theorem py_item {Q : Option Value → Shared → Prop} (D : ZipApart z TI TO i1 i2 l1 l2) (f1 : Fd prog w i1 l1 xs st1) (f2 : Fd prog w i2 l2 ys st2) (oz : IsZip s.heap z TI TO .none) (pI : IsPair s.heap TI (.ref i1) (.ref i2)) (pO : IsPair s.heap TO a b)
    (u1 : st1 k s.heap) (u2 : st2 k s.heap) (ex : xs[k]? = some x) (ey : ys[k]? = some y)
    (done : ∀ h', IsZip h' z TI TO (rawInt s.heap.objs.size) → IsPair h' TO x y → st1 (k + 1) h' → st2 (k + 1) h' → IsPair h' s.heap.objs.size x y → Else z TO i1 i2 s.heap h' → Q (some (.ref s.heap.objs.size)) { s with heap := h' }) :
    wpAny (model prog w) A (pyNext (.ref z)) Q E s := by
  unfold pyNext
  have ty : s.TypeIs (.ref z) "zip" := ⟨_, oz, rfl⟩
  exact wpAny_bind (wpAny_attempt (wpAny_callSpecial?_slot (name := Str.ofString "__next__") ty F.slot_zip_next (wpAny_call_entry F.slot_zip_next ty F.entry_zip_next
    (next_item D f1 f2 oz pI pO u1 u2 ex ey fun h' c1 c2 c3 c4 c5 c6 => wpAny_pure (done h' c1 c2 c3 c4 c5 c6)) (F.args_zip_next_1 _))))
theorem py_stop {Q : Option Value → Shared → Prop} (hh : A.handled = none) (D : ZipApart z TI TO i1 i2 l1 l2) (f1 : Fd prog w i1 l1 xs st1) (f2 : Fd prog w i2 l2 ys st2) (oz : IsZip s.heap z TI TO .none) (pI : IsPair s.heap TI (.ref i1) (.ref i2)) (pO : IsPair s.heap TO a b)
    (u1 : st1 k s.heap) (u2 : st2 k s.heap) (over : xs[k]? = none ∨ ys[k]? = none) (out : ∀ h', Else z TO i1 i2 s.heap h' → Q none { s with heap := h' }) : wpAny (model prog w) A (pyNext (.ref z)) Q E s := by
  unfold pyNext
  have ty : s.TypeIs (.ref z) "zip" := ⟨_, oz, rfl⟩
  refine wpAny_bind (wpAny_attempt (wpAny_callSpecial?_slot (name := Str.ofString "__next__") ty F.slot_zip_next (wpAny_call_entry F.slot_zip_next ty F.entry_zip_next
    (next_stop hh D f1 f2 oz pI pO u1 u2 over fun h' e hk ⟨o, ho, hc⟩ => ?_) (F.args_zip_next_1 _))))
  exact wpAny_bind (wpAny_isInstance (T := "StopIteration") (b := true) ⟨o, ho, hc⟩ isSubtype_stop (wpAny_pure (out _ hk)))
/-! zip(t, l) is made -/
abbrev it1 (l : Addr) : Obj := { cls := .type "tuple_iterator", data := .fields #[.ref l, .int 0 0] }
abbrev it2 (l : Addr) : Obj := { cls := .type "list_iterator", data := .fields #[.ref l, .int 0 0] }
abbrev two (p q : Value) : Obj := { cls := .type "tuple", data := .seq #[p, q] }
abbrev zobj (p q : Addr) : Obj := { cls := .type "zip", data := .fields #[.none, .bool false, .bool false, .ref p, .ref q] }
abbrev made4 (h : Heap) (l1 l2 : Addr) : Heap := (((h.push (it1 l1)).push (it2 l2)).push (two (.ref h.objs.size) (.ref (h.push (it1 l1)).objs.size))).push (two .none .none)
abbrev made5 (h : Heap) (l1 l2 : Addr) : Heap := (made4 h l1 l2).push (zobj ((h.push (it1 l1)).push (it2 l2)).objs.size (((h.push (it1 l1)).push (it2 l2)).push (two (.ref h.objs.size) (.ref (h.push (it1 l1)).objs.size))).objs.size)
theorem new_meets (l1 l2 : Addr) (xs ys : Array Value) :
    Meets (Builtin.«zip.__new__» ⟨[.type "zip", .ref l1, .ref l2], []⟩) (fun _ R s => s.heap.IsTuple l1 xs ∧ s.heap.IsList l2 ys ∧ R (.ok (.ret (.ref (made4 s.heap l1 l2).objs.size))) { s with heap := made5 s.heap l1 l2 }) :=
  .of_wp fun prog w A R s h => by
    obtain ⟨hp, g, d, tk, os⟩ := s; obtain ⟨m1, m2, h⟩ := h
    have isz := sub_zip
    have t1 : Heap.IsTuple (Shared.heap ⟨hp, g, d, tk, os⟩) l1 xs := m1
    have t2 : Heap.IsList (Shared.heap ⟨hp.push (it1 l1), g, d, tk, os⟩) l2 ys := Heap.IsList.push m2 _
    wp_walk using wpAny_pyIter_tuple t1, wpAny_pyIter_list t2
    exact ⟨_, rfl, h⟩
theorem call_new {Q : Value → Shared → Prop} (m1 : s.heap.IsTuple l1 xs) (m2 : s.heap.IsList l2 ys)
    (h : ∀ h', IsZip h' (s.heap.objs.size + 4) (s.heap.objs.size + 2) (s.heap.objs.size + 3) .none → IsPair h' (s.heap.objs.size + 2) (.ref s.heap.objs.size) (.ref (s.heap.objs.size + 1)) →
      IsPair h' (s.heap.objs.size + 3) .none .none → h'.IsTupleIter s.heap.objs.size l1 0 → h'.IsListIter (s.heap.objs.size + 1) l2 0 →
      (∀ c o, s.heap.get? c = some o → h'.get? c = some o) → Q (.ref (s.heap.objs.size + 4)) { s with heap := h' }) :
    wpAny (model prog w) A (call (.type "zip") [.ref l1, .ref l2]) Q E s := by
  refine callType_new F.called_zip (by decide) (F.typeCall_zip_2 _ _) (F.newCall_zip_2 _ _) (fun obj => F.args_object_init_3 obj _ _) F.entry_zip_new (new_meets l1 l2 xs ys) ⟨m1, m2, ?_⟩
  have q0 := Heap.get?_push_size s.heap (o := it1 l1) rfl
  have n1 : (s.heap.push (it1 l1)).objs.size = s.heap.objs.size + 1 := Heap.size_push ..
  have q1 := Heap.get?_push_size (s.heap.push (it1 l1)) (o := it2 l2) rfl
  have n2 : ((s.heap.push (it1 l1)).push (it2 l2)).objs.size = s.heap.objs.size + 2 := (Heap.size_push ..).trans (congrArg (· + 1) n1)
  have q2 := Heap.get?_push_size ((s.heap.push (it1 l1)).push (it2 l2)) (o := two (.ref s.heap.objs.size) (.ref (s.heap.push (it1 l1)).objs.size)) rfl
  have n3 : (((s.heap.push (it1 l1)).push (it2 l2)).push (two (.ref s.heap.objs.size) (.ref (s.heap.push (it1 l1)).objs.size))).objs.size = s.heap.objs.size + 3 := (Heap.size_push ..).trans (congrArg (· + 1) n2)
  have q3 := Heap.get?_push_size (((s.heap.push (it1 l1)).push (it2 l2)).push (two (.ref s.heap.objs.size) (.ref (s.heap.push (it1 l1)).objs.size))) (o := two .none .none) rfl
  have n4 : (made4 s.heap l1 l2).objs.size = s.heap.objs.size + 4 := (Heap.size_push ..).trans (congrArg (· + 1) n3)
  have q4 := Heap.get?_push_size (made4 s.heap l1 l2) (o := zobj ((s.heap.push (it1 l1)).push (it2 l2)).objs.size (((s.heap.push (it1 l1)).push (it2 l2)).push (two (.ref s.heap.objs.size) (.ref (s.heap.push (it1 l1)).objs.size))).objs.size) rfl
  have w0 : (made5 s.heap l1 l2).get? s.heap.objs.size = some (it1 l1) := Heap.get?_push_of_some _ (Heap.get?_push_of_some _ (Heap.get?_push_of_some _ (Heap.get?_push_of_some _ q0)))
  have w1 : (made5 s.heap l1 l2).get? (s.heap.push (it1 l1)).objs.size = some (it2 l2) := Heap.get?_push_of_some _ (Heap.get?_push_of_some _ (Heap.get?_push_of_some _ q1))
  have w2 := Heap.get?_push_of_some (zobj ((s.heap.push (it1 l1)).push (it2 l2)).objs.size (((s.heap.push (it1 l1)).push (it2 l2)).push (two (.ref s.heap.objs.size) (.ref (s.heap.push (it1 l1)).objs.size))).objs.size) (Heap.get?_push_of_some (two .none .none) q2)
  have w3 := Heap.get?_push_of_some (zobj ((s.heap.push (it1 l1)).push (it2 l2)).objs.size (((s.heap.push (it1 l1)).push (it2 l2)).push (two (.ref s.heap.objs.size) (.ref (s.heap.push (it1 l1)).objs.size))).objs.size) q3
  have e4 : IsZip (made5 s.heap l1 l2) (s.heap.objs.size + 4) (s.heap.objs.size + 2) (s.heap.objs.size + 3) .none := by rw [← n4, ← n2, ← n3]; exact q4
  have e2 : IsPair (made5 s.heap l1 l2) (s.heap.objs.size + 2) (.ref s.heap.objs.size) (.ref (s.heap.objs.size + 1)) := by rw [← n2, ← n1]; exact w2
  have e3 : IsPair (made5 s.heap l1 l2) (s.heap.objs.size + 3) .none .none := by rw [← n3]; exact w3
  show _ ∧ _
  rw [n4]
  exact ⟨⟨_, e4, rfl⟩, h _ e4 e2 e3 ⟨_, w0, rfl, rfl⟩ (by rw [← n1]; exact ⟨_, w1, rfl, rfl⟩) fun c o q => Heap.get?_push_of_some _ (Heap.get?_push_of_some _ (Heap.get?_push_of_some _ (Heap.get?_push_of_some _ (Heap.get?_push_of_some _ q))))⟩
end
end ZZ
namespace ZZ
open PySem PySem.Spec PyProof.Rows L2
/-- the tuple at a and the list at b as they stand at each turn -/
def ItM (K : PySem.W.Frag) (a b : Addr) : It :=
  ⟨fun i H => ∃ (xs ys : List V) (x y : V), (SqT K H a xs ∧ SqL K H b ys) ∧ xs[i]? = some x ∧ ys[i]? = some y,
    fun i H v H' => ∃ T x y, (v = .ref T ∧ H T = none ∧ H' = upd H T (.tup [x, y])) ∧ (∀ l, SqT K H a l → l[i]? = some x) ∧ ∀ l, SqL K H b l → l[i]? = some y,
    fun i H => ∃ xs ys : List V, (SqT K H a xs ∧ SqL K H b ys) ∧ (xs.length ≤ i ∨ ys.length ≤ i)⟩
theorem five {z TI TO i1 i2 c : Addr} (h : c ∈ [z, TI, TO, i1, i2]) : c = z ∨ c = TI ∨ c = TO ∨ c = i1 ∨ c = i2 := by simpa using h
abbrev Tn (z TI TO i1 i2 a b : Addr) (i : Nat) (h : Heap) : Prop := IsZip h z TI TO .none ∧ IsPair h TI (.ref i1) (.ref i2) ∧ (∃ x y, IsPair h TO x y) ∧ h.IsTupleIter i1 a i ∧ h.IsListIter i2 b i
theorem turnM {P : Program} {w : World} {K : PySem.W.Frag} {elts : List Expr} {kk : Nat} {tpos : Pos} {a b z TI TO i1 i2 : Addr} (D : ZipApart z TI TO i1 i2 a b) : Turn P w K (.Tuple elts kk tpos) (ItM K a b) [z, TI, TO, i1, i2] z (Tn z TI TO i1 i2 a b) where
  mem := List.mem_cons_self
  obj := fun i h ⟨oz, pI, ⟨x, y, pO⟩, ⟨u1, e1, _, d1⟩, ⟨u2, e2, _, d2⟩⟩ c hc => by
    rcases five hc with rfl | rfl | rfl | rfl | rfl
    · exact ⟨_, oz, fun v q => nomatch q⟩
    · exact ⟨_, pI, fun v q => nomatch q⟩
    · exact ⟨_, pO, fun v q => nomatch q⟩
    · exact ⟨u1, e1, fun v q => by rw [d1] at q; cases q⟩
    · exact ⟨u2, e2, fun v q => by rw [d2] at q; cases q⟩
  keep := fun i h h' ⟨oz, pI, ⟨x, y, pO⟩, t1, t2⟩ k => ⟨k z (by simp) _ oz, k TI (by simp) _ pI, ⟨x, y, k TO (by simp) _ pO⟩, t1.at fun o q => k i1 (by simp) o q, t2.at fun o q => k i2 (by simp) o q⟩
  item := by
    intro X hP hw hK hc i pins s σ H E I hf ⟨oz, pI, ⟨x0, y0, pO⟩, t1, t2⟩ ⟨xs, ys, x, y, ⟨qx, qy⟩, hx, hy⟩
    subst hP hw hK
    obtain ⟨its, rv, p, _⟩ := I.tuple qx
    obtain ⟨its2, rv2, p2, _⟩ := I.list qy
    obtain ⟨u, hu, ru⟩ := rv.get hx
    obtain ⟨u2, hu2, ru2⟩ := rv2.get hy
    have zlt : z < s.heap.objs.size := Heap.lt_size oz
    refine py_item D (fd_tup (xs := its.toArray) D.l1i1) (fd_list (xs := its2.toArray) D.l2i2) oz pI pO ⟨t1, p⟩ ⟨t2, p2.isList⟩ (by simpa using hu) (by simpa using hu2) fun h' z' TO' t1' t2' pT hk => ?_
    refine ⟨_, rfl, wpAny_letOwnedTupleGo_zip (s := { s with heap := h' }) z' fun h'' z'' sb => ?_⟩
    have pT2 : h''.get? s.heap.objs.size = some { cls := .type "tuple", data := .seq #[u, u2] } := (sb.2 _ (Nat.ne_of_gt zlt)).trans pT
    have ob : ObjOk X.prog X.w (upd H s.heap.objs.size (.tup [x, y])) h'' s.heap.objs.size (.tup [x, y]) := ⟨by show 2 ≤ sizeLine; decide, [u, u2], .cons ru (.cons ru2 .nil), ⟨_, pT2, rfl, _, rfl⟩⟩
    have I1 : Inv X pins σ (upd H s.heap.objs.size (.tup [x, y])) { s with heap := h'' } :=
      I.turnedNew (t' := s.toks) (ch := [z, TI, TO, i1, i2]) (fun c o n q => (sb.2 c fun e => n (by simp [e])).trans (hk c o (fun e => n (by simp [e])) (fun e => n (by simp [e])) (fun e => n (by simp [e])) (fun e => n (by simp [e])) q)) hf (Nat.le_refl _) ob
    refine ⟨.ref s.heap.objs.size, _, I1, rfl, ⟨_, x, y, ⟨rfl, I.hok.fresh (Nat.le_refl _), rfl⟩, fun l hl => by rw [I.tuple_inj hl qx]; exact hx, fun l hl => by rw [I.list_inj hl qy]; exact hy⟩, ⟨z'', ?_, ⟨u, u2, ?_⟩, ?_, ?_⟩, fun c hcm => ?_⟩
    · exact (sb.2 _ D.TIz).trans (hk _ _ D.TIz D.TITO D.TIi1 D.TIi2 pI)
    · exact (sb.2 _ D.TOz).trans TO'
    · exact t1'.1.at fun o q => (sb.2 _ D.i1z).trans q
    · exact t2'.1.at fun o q => (sb.2 _ D.i2z).trans q
    · have lt : c < s.heap.objs.size := by
        obtain ⟨_, e1, _⟩ := t1
        obtain ⟨_, e2, _⟩ := t2
        rcases five hcm with rfl | rfl | rfl | rfl | rfl
        · exact zlt
        · exact Heap.lt_size pI
        · exact Heap.lt_size pO
        · exact Heap.lt_size e1
        · exact Heap.lt_size e2
      rw [upd_ne (Nat.ne_of_lt lt)]
      exact (hf c hcm).1
  done := by
    intro X hP hw hK hc i pins s σ H E I hf ⟨oz, pI, ⟨x0, y0, pO⟩, t1, t2⟩ ⟨xs, ys, ⟨qx, qy⟩, over⟩
    subst hP hw hK
    obtain ⟨its, rv, p, _⟩ := I.tuple qx
    obtain ⟨its2, rv2, p2, _⟩ := I.list qy
    have n1 := rv.length
    have n2 := rv2.length
    have he : its.toArray[i]? = none ∨ its2.toArray[i]? = none := over.imp (fun q => by simp; omega) fun q => by simp; omega
    exact py_stop (I.ok.hd hc) D (fd_tup (xs := its.toArray) D.l1i1) (fd_list (xs := its2.toArray) D.l2i2) oz pI pO ⟨t1, p⟩ ⟨t2, p2.isList⟩ he fun h' hk => ⟨rfl, I.turnedL (t' := s.toks) (ch := [z, TI, TO, i1, i2]) (fun c o n q =>
      hk c o (fun e => n (by simp [e])) (fun e => n (by simp [e])) (fun e => n (by simp [e])) (fun e => n (by simp [e])) q) hf⟩
  self := fun A i s Q E st h => wpAny_pyIter_zip st.1 h
def iZipM (K : PySem.W.Frag) (ta : TA) : TI := fun σ H R => ta σ H fun vs H1 => ∃ a b xs ys, vs = [.ref a, .ref b] ∧ (SqT K H1 a xs ∧ SqL K H1 b ys) ∧ R (ItM K a b) H1
theorem pi_zipM {X : Cx} {e e2 : Expr} {ta : TA} {p pos tpos : Pos} {elts : List Expr} {kk : Nat} (hg : Gl X "zip") (hm : X.mg "zip" = none) (ha : PA X [e, e2] ta)
    (hs : starEach [e, e2] X.env = (false, eval e X.env) :: starEach [e2] X.env := by rfl) (hpl : (backTo pos (starEach [e2] X.env)).any (·.1) = false := by rfl) :
    PI X (.Tuple elts kk tpos) (.Call (.Name "zip" p) [e, e2] [] pos) (iZipM X.K ta) := by
  refine ⟨fun pins s σ H R I h => Call_ (ld_blt I hg hm PyProof.Rows.boot_zip (PyProof.Rows.callWith_type1 (thn (ha.run pos pins s σ H _ I h) fun us s1 ⟨vs, H1, I1, r1, q1⟩ => ?_) hs hpl))⟩
  obtain ⟨a, b, xs, ys, ex, ⟨qx, qy⟩, q⟩ := q1
  subst ex
  cases r1 with
  | cons r rr =>
    cases rr with
    | cons r' rr =>
      cases rr; cases r; cases r'
      have fresh : ∀ c, c ∈ [s1.heap.objs.size + 4, s1.heap.objs.size + 2, s1.heap.objs.size + 3, s1.heap.objs.size, s1.heap.objs.size + 1] → FpOk X pins H1 c := fun c hc => by
        have le : s1.heap.objs.size ≤ c := by
          rcases five hc with rfl | rfl | rfl | rfl | rfl
          · exact Nat.le_add_right _ _
          · exact Nat.le_add_right _ _
          · exact Nat.le_add_right _ _
          · exact Nat.le_refl _
          · exact Nat.le_add_right _ _
        exact I1.fpOk le (I1.hok.fresh le)
      obtain ⟨its, rv, p1, _⟩ := I1.tuple qx
      obtain ⟨its2, rv2, p2, _⟩ := I1.list qy
      obtain ⟨o1, ho1, _⟩ := id p1
      refine call_new (show s1.heap.IsTuple a its.toArray from p1) p2.isList fun h' oz pI pO t1 t2 hk => wpAny_pyIter_zip oz ?_
      have I2 : Inv X pins σ H1 { s1 with heap := h' } := I1.kept (t' := s1.toks) hk
      exact ⟨_, [_, _, _, _, _], _, _, H1, rfl, I2, turnM (PySem.W.ktu_apart s1.heap.objs.size a b (Heap.lt_size ho1) p2.lt), ⟨oz, pI, ⟨_, _, pO⟩, t1, t2⟩, fresh, q⟩
end ZZ
namespace E
open PySem PySem.Spec PyProof.Rows L2
section
variable {X : Cx} {sl : List Sl} {ms : List (List D)} {ta tb : TE} {Kf : PySem.W.Frag} {a b : Expr} {p pos : Pos}
theorem ei_zipM {K : List D → Prop} (h : Er sl ms ta fun x => Er sl ms tb fun y => ∃ ds es, x = .tup ds ∧ y = .lst es ∧ K (zipD ds es)) : Ei sl ms (ZZ.iZipM Kf (tCons ta (tCons tb tNil))) none K := ⟨nofx, fun ho F0 H0 F ps ex σ H a Rr q =>
  h ho F0 H0 F ps ex σ H a _ fun v d F1 H1 h' a1 => h' ho F0 H0 F1 ps _ σ H1 a1 _ fun w d' F2 H2 ⟨ds, es, e, e', k⟩ a2 => by
    subst e e'
    obtain ⟨p, xs, rfl, ha, hl⟩ : ∃ p xs, v = .ref p ∧ F2 p = some (.tup xs) ∧ DnL F2 xs ds := by cases a2.pop.top with | tup ha hl => exact ⟨_, _, rfl, ha, hl⟩
    obtain ⟨p', xs', rfl, ha', hl'⟩ : ∃ p xs, w = .ref p ∧ F2 p = some (.lst xs) ∧ DnL F2 xs es := by cases a2.top with | lst ha hl => exact ⟨_, _, rfl, ha, hl⟩
    refine ⟨p, p', xs, xs', rfl, ⟨sq_t a2.fh ha, sq_l a2.fh ha'⟩, q _ F2 H2 [(.ref p', .lst es), (.ref p, .tup ds)] _ k a2 fun F3 H3 e3 hp _ => ?_⟩
    have hq := hp (.ref p, .tup ds) (by simp)
    cases hp (.ref p', .lst es) (by simp) with
    | @lst _ zs _ hb hm =>
      cases hq with
      | @tup _ ys _ ha hl =>
        refine ⟨fun i d hd => ?_, ys, zs, ⟨sq_t e3 ha, sq_l e3 hb⟩, ?_⟩
        · obtain ⟨x, y, hx, hy, rfl⟩ := zipD_get hd
          obtain ⟨x, hx, hxd⟩ := hl.get i hx
          obtain ⟨y, hy, hyd⟩ := hm.get i hy
          refine ⟨⟨ys, zs, x, y, ⟨sq_t e3 ha, sq_l e3 hb⟩, hx, hy⟩, fun u H4 hu => ?_⟩
          obtain ⟨T, x', y', ⟨rfl, hT, rfl⟩, h1, h2⟩ := hu
          have w := h1 ys (sq_t e3 ha)
          rw [hx] at w; cases w
          have w := h2 zs (sq_l e3 hb)
          rw [hy] at w; cases w
          have ef := Ex.new (o := HO.tup [x, y]) (e3.none hT)
          exact ⟨_, Ext.new e3 hT, .tup upd_same (.cons (hxd.mono ef) (.cons (hyd.mono ef) .nil))⟩
        · rw [hl.len, hm.len]
          show ds.length ≤ (zipD ds es).length ∨ es.length ≤ (zipD ds es).length
          unfold zipD
          rw [List.length_map, List.length_zip]
          omega⟩
theorem ji_zipM {elts kk tpos} {K : List D → Prop} (hm : X.mg "zip" = none) (h : Er sl ms (wE X a) fun x => Er sl ms (wE X b) fun y => ∃ ds es, x = .tup ds ∧ y = .lst es ∧ K (zipD ds es)) (hg : Gl X "zip" := by rfl)
    (he : starEach [a, b] X.env = (false, eval a X.env) :: starEach [b] X.env := by rfl) (he2 : starEach [b] X.env = (false, eval b X.env) :: starEach [] X.env := by rfl) (hpl : (backTo pos (starEach [b] X.env)).any (·.1) = false := by rfl) :
    Ei sl ms (wI X (.Tuple elts kk tpos) (.Call (.Name "zip" p) [a, b] [] pos)) none K := Ei.of (ZZ.pi_zipM hg hm (pa_cons pe_w (pa_cons pe_w pa_nil he2) he) he hpl) (ei_zipM h)
end
end E
set_option Elab.async false
set_option linter.all false
set_option maxRecDepth 100000
/-! The walk: with_more, with_one, sharpest. -/
namespace A
open PySem PySem.Spec PyProof.Rows L2 E
/-- a queue with one day less of a case, the case left out where that was its only day -/
def lessQ (q : List Case) (k : Nat) : List Case := match q[k]? with
  | some c => q.take k ++ ((if 1 < c.2.1 then [(c.1, c.2.1 - 1, c.2.2)] else []) ++ q.drop (k + 1))
  | none => q
def oneAt (n k : Nat) (m : Int) : List Int := (List.range n).map fun j => if j = k then m else 0
theorem one_less {q : List Case} {k : Nat} {c : Case} (h : q[k]? = some c) (hw : 1 < c.2.1) : withMore q (oneAt q.length k (-1)) = lessQ q k := by
  have hk : k < q.length := (List.getElem?_eq_some_iff.mp h).1
  unfold lessQ
  rw [h]
  show _ = q.take k ++ ((if 1 < c.2.1 then [(c.1, c.2.1 - 1, c.2.2)] else []) ++ q.drop (k + 1))
  rw [if_pos hw]
  refine List.ext_getElem? fun j => ?_
  unfold withMore oneAt
  rw [List.getElem?_map]
  rcases Nat.lt_trichotomy j k with hj | hj | hj
  · rw [List.getElem?_append_left (by rw [List.length_take]; omega), List.getElem?_take_of_lt hj]
    have e : (q.zip ((List.range q.length).map fun i => if i = k then (-1 : Int) else 0))[j]? = some (q[j]'(by omega), 0) := by
      rw [List.getElem?_zip_eq_some]
      refine ⟨List.getElem?_eq_getElem _, ?_⟩
      rw [List.getElem?_map, List.getElem?_range (by omega)]
      show some (if j = k then (-1 : Int) else 0) = some 0
      rw [if_neg (by omega)]
    rw [e, List.getElem?_eq_getElem (by omega)]
    show some ((q[j]'(by omega)).1, (q[j]'(by omega)).2.1 + 0, (q[j]'(by omega)).2.2) = _
    rw [Int.add_zero]
  · subst hj
    have e : (q.zip ((List.range q.length).map fun i => if i = j then (-1 : Int) else 0))[j]? = some (c, -1) := by
      rw [List.getElem?_zip_eq_some]
      refine ⟨h, ?_⟩
      rw [List.getElem?_map, List.getElem?_range hk]
      show some (if j = j then (-1 : Int) else 0) = some (-1)
      rw [if_pos rfl]
    rw [e, List.getElem?_append_right (by rw [List.length_take]; omega), List.length_take, Nat.min_eq_left (by omega), Nat.sub_self]
    rfl
  · rw [List.getElem?_append_right (by rw [List.length_take]; omega), List.length_take, Nat.min_eq_left (by omega), List.getElem?_append_right (by simp; omega)]
    simp only [List.length_cons, List.length_nil]
    rw [List.getElem?_drop, show k + 1 + (j - k - (0 + 1)) = j by omega]
    by_cases hl : j < q.length
    · have e : (q.zip ((List.range q.length).map fun i => if i = k then (-1 : Int) else 0))[j]? = some (q[j]'hl, 0) := by
        rw [List.getElem?_zip_eq_some]
        refine ⟨List.getElem?_eq_getElem _, ?_⟩
        rw [List.getElem?_map, List.getElem?_range hl]
        show some (if j = k then (-1 : Int) else 0) = some 0
        rw [if_neg (by omega)]
      rw [e, List.getElem?_eq_getElem hl]
      show some ((q[j]'hl).1, (q[j]'hl).2.1 + 0, (q[j]'hl).2.2) = _
      rw [Int.add_zero]
    · rw [List.getElem?_eq_none (by rw [List.length_zip, List.length_map, List.length_range]; omega), List.getElem?_eq_none (by omega)]
      rfl
theorem less_gone {q : List Case} {k : Nat} {c : Case} (h : q[k]? = some c) (hw : ¬ 1 < c.2.1) : lessQ q k = q.take k ++ q.drop (k + 1) := by
  unfold lessQ
  rw [h]
  show q.take k ++ ((if 1 < c.2.1 then [(c.1, c.2.1 - 1, c.2.2)] else []) ++ q.drop (k + 1)) = _
  rw [if_neg hw]
  rfl
theorem less_mem {q : List Case} {k : Nat} {c : Case} (h : q[k]? = some c) {x : Case} (hx : x ∈ lessQ q k) : x ∈ q ∨ (1 < c.2.1 ∧ x = (c.1, c.2.1 - 1, c.2.2)) := by
  unfold lessQ at hx
  rw [h] at hx
  rcases List.mem_append.mp hx with hx | hx
  · exact .inl (List.take_subset _ _ hx)
  · rcases List.mem_append.mp hx with hx | hx
    · by_cases hw : 1 < c.2.1
      · rw [if_pos hw] at hx
        exact .inr ⟨hw, by simpa using hx⟩
      · rw [if_neg hw] at hx
        cases hx
    · exact .inl (List.mem_of_mem_drop hx)
theorem less_len {q : List Case} {k : Nat} {c : Case} (h : q[k]? = some c) : (lessQ q k).length ≤ q.length ∧ (1 < c.2.1 → (lessQ q k).length = q.length) ∧ q.length ≤ (lessQ q k).length + 1 := by
  have hk : k < q.length := (List.getElem?_eq_some_iff.mp h).1
  unfold lessQ
  rw [h]
  show (q.take k ++ ((if 1 < c.2.1 then [(c.1, c.2.1 - 1, c.2.2)] else []) ++ q.drop (k + 1))).length ≤ _ ∧ _
  by_cases hw : 1 < c.2.1
  · simp only [if_pos hw, List.length_append, List.length_take, List.length_drop, List.length_cons, List.length_nil]
    omega
  · simp only [if_neg hw, List.length_append, List.length_take, List.length_drop, List.length_nil]
    omega
theorem less_ok {q : List Case} (hq : Qok q) {k : Nat} {c : Case} (h : q[k]? = some c) (hn : lessQ q k ≠ []) : Qok (lessQ q k) := by
  have hl := less_len h
  have hc := List.mem_of_getElem? h
  have a0 := hq.c0 c hc
  have a1 := hq.c1 c hc
  have a2 := hq.w1 c hc
  have a3 := hq.d0 c hc
  have a4 := hq.d1 c hc
  refine qok_of (List.length_pos_iff.mpr hn) (Nat.le_trans hl.1 hq.h10) fun x hx => ?_
  rcases less_mem h hx with hx | ⟨hw, rfl⟩
  · exact ⟨hq.c0 x hx, hq.c1 x hx, hq.w0 x hx, hq.w1 x hx, hq.d0 x hx, hq.d1 x hx⟩
  · exact ⟨a0, a1, by show 1 ≤ c.2.1 - 1; omega, by show c.2.1 - 1 ≤ 8; omega, a3, a4⟩
def showVal (q : List Case) : Int := match showAll q with
  | some m => m.1
  | none => 0
theorem show_val {q : List Case} (h : q ≠ []) : ∃ L, showAll q = some (showVal q, L) := by
  obtain ⟨m, e⟩ := show_some h
  exact ⟨m.2, by unfold showVal; rw [e]⟩
def sharpB (q : List Case) (k : Nat) : Bool := if lessQ q k = [] then true else decide (showVal (lessQ q k) < showVal q)
def sharpK (q : List Case) (k : Nat) : List Int := ((List.range k).filter (sharpB q)).map fun j : Nat => ((j : Nat) : Int)
abbrev sharpL (q : List Case) : List Int := sharpK q q.length
theorem sharp_len (q : List Case) (k : Nat) : (sharpK q k).length ≤ k := by
  unfold sharpK
  rw [List.length_map]
  have := List.length_filter_le (sharpB q) (List.range k)
  rw [List.length_range] at this
  exact this
theorem sharp_yes {q : List Case} {k : Nat} (h : sharpB q k = true) : (sharpK q k).map D.int ++ [.int (k : Nat)] = (sharpK q (k + 1)).map D.int := by
  unfold sharpK
  rw [List.range_succ, List.filter_append, List.map_append, List.filter_cons, if_pos h, List.map_append]
  rfl
theorem sharp_no {q : List Case} {k : Nat} (h : sharpB q k = false) : (sharpK q k).map D.int = (sharpK q (k + 1)).map D.int := by
  unfold sharpK
  rw [List.range_succ, List.filter_append, List.map_append, List.filter_cons, if_neg (by rw [h]; decide), List.map_append]
  simp
theorem sharp_some {q : List Case} {k : Nat} (h : lessQ q k ≠ []) : sharpB q k = decide (showVal (lessQ q k) < showVal q) := if_neg h
theorem sharp_none {q : List Case} {k : Nat} (h : lessQ q k = []) : sharpB q k = true := if_pos h
def oneF (k : Nat) (m : Int) : D → D
  | .int j => .int (if j = (k : Int) then m else 0)
  | _ => .non
theorem one_list (n k : Nat) (m : Int) : ((numbers n).filter fun _ => true).map (oneF k m) = (oneAt n k m).map D.int := by
  rw [filter_all]
  unfold numbers oneAt
  rw [List.map_map, List.map_map]
  refine List.map_congr_left fun j _ => ?_
  show D.int (if ((j : Nat) : Int) = (k : Int) then m else 0) = D.int (if j = k then m else 0)
  by_cases h : j = k
  · rw [if_pos h, if_pos (by omega)]
  · rw [if_neg h, if_neg (by omega)]
theorem lst_inj {L M : List Int} (h : D.lst (L.map D.int) = D.lst (M.map D.int)) : L = M := by
  injection h with h
  have := congrArg (List.map toI) h
  rwa [toI_int, toI_int] at this
section
variable {P : Program} {w : World} {K : PySem.W.Frag} {mg : Str → Option Value} {base : Heap}
abbrev sp_moreL : Sp := spD 2 (fun ds => ∃ (q : List Case) (ms : List Int), ds = [queueD q, .lst (ms.map D.int)] ∧ q.length ≤ 10 ∧ ms.length ≤ 10) fun ds d => ∀ (q : List Case) (ms : List Int), ds = [queueD q, .lst (ms.map D.int)] → d = queueD (withMore q ms)
theorem ok_moreL {f : Addr} {fd : FuncData} (F : Fun K "with_more" "with_more" (top 27) f fd) (T : Blt mg) : FnG P w K mg base 1 f fd ["queue", "more"] sp_moreL := by
  refine ok_D (m := 4) F S_more rfl rfl fun cdv A outer s H E ds hr hl hp => ?_
  obtain ⟨q, ms, rfl, h10, hm10⟩ := hp
  refine jss_one (js_ret (j_tupleL T.tup (El.er' (jl_lcF [("comes", 2), ("work", 3), ("due", 4), ("one", 5)] rfl S_more.nd (blkOk_by (N := N_more) (sc := sc 27) (by decide +kernel)) (own4 rfl rfl rfl rfl) (ji_zipM T.zip (j_var 0 rfl rfl (j_var 1 rfl rfl ⟨q.map caseD, ms.map D.int, rfl, rfl, ?_⟩)))))))
  refine ⟨by unfold zipD; rw [List.length_map, List.length_zip, List.length_map]; omega, fun _ => true, moreF, fun d acc hd => ?_, ?_⟩
  · obtain ⟨i, hi⟩ := List.getElem?_of_mem hd
    obtain ⟨x, y, hx, hy, rfl⟩ := zipD_get hi
    obtain ⟨c, hc, rfl⟩ := getF hx
    obtain ⟨m, hm, rfl⟩ := getF hy
    refine ⟨[2, 3, 4, 5], _, fun s H C cl fp => jg_tup rfl (jgs_cons (jg_tup rfl (jgs_cons (jg_name 2 S_more.nd rfl) (jgs_cons (jg_name 3 S_more.nd rfl) (jgs_cons (jg_name 4 S_more.nd rfl) jgs_nil)))) (jgs_cons (jg_name 5 S_more.nd rfl) jgs_nil)), fun _ h => h, fun s H C cl fp => jts_nil ⟨rfl, fun _ s H C cl fp => ?_⟩⟩
    exact j_tup (j_cons (j_var 2 rfl rfl (j_cons (j_add (j_var 3 rfl rfl (j_var 5 rfl rfl ⟨_, _, rfl, rfl, j_cons (j_var 4 rfl rfl (j_nil ⟨Nat.le_of_ble_eq_true rfl, rfl⟩))⟩))))))
  rw [more_list]
  refine ⟨_, rfl, fun q' ms' hy => ?_⟩
  injection hy with h1 h2
  injection h2 with h2 _
  rw [queue_inj h1, lst_inj h2]
  rfl
abbrev sp_one : Sp := spD 3 (fun ds => ∃ (q : List Case) (k : Nat) (m : Int), ds = [queueD q, .int k, .int m] ∧ q.length ≤ 10) fun ds d => ∀ (q : List Case) (k : Nat) (m : Int), ds = [queueD q, .int k, .int m] → d = queueD (withMore q (oneAt q.length k m))
abbrev N_one : List Str := ["queue", "number", "more", "at"]
theorem S_one : FnScope N_one ["queue", "number", "more"] (sc 28) := ⟨rfl, rfl, rfl, by decide +kernel, rfl, by decide +kernel, by decide +kernel⟩
theorem ok_one {f : Addr} {fd : FuncData} (F : Fun K "with_one" "with_one" (top 28) f fd) (T : Blt mg) (c1 : Cl P w K mg base 1 "with_more" sp_moreL) : FnG P w K mg base 2 f fd ["queue", "number", "more"] sp_one := by
  refine ok_D (m := 1) F S_one rfl rfl fun cdv A outer s H E ds hr hl hp => ?_
  obtain ⟨q, k, m, rfl, h10⟩ := hp
  refine jss_one (js_ret (j_call c1 hr (by decide) (j_cons (j_var 0 rfl rfl (j_cons (El.er' (jl_lcF [("at", 3)] rfl S_one.nd (blkOk_by (N := N_one) (sc := sc 28) (by decide +kernel)) (own1 rfl) (ji_range T.range (j_len T.len (j_var 0 rfl rfl ⟨_, .inl ⟨_, rfl, rfl⟩, q.length, by rw [List.length_map], by omega, ?_⟩))))))))))
  refine ⟨by rw [numbers_len]; omega, fun _ => true, oneF k m, fun d acc hd => ?_, ?_⟩
  · obtain ⟨j, hj⟩ := List.getElem?_of_mem hd
    obtain ⟨hj, rfl⟩ := numbers_get hj
    refine ⟨[3], _, fun s H C cl fp => jg_name 3 S_one.nd rfl, fun _ h => h, fun s H C cl fp => jts_nil ⟨rfl, fun _ s H C cl fp => ?_⟩⟩
    refine j_if (jt_cmp (j_var 3 rfl rfl (j_var 1 rfl rfl ⟨_, .eq _ _, fun e => ?_, fun e => ?_⟩)))
    · refine j_var 2 rfl rfl ?_
      show D.int m = D.int (if ((j : Nat) : Int) = (k : Int) then m else 0)
      rw [if_pos (of_decide_eq_true e)]
    · refine j_int ?_
      show D.int 0 = D.int (if ((j : Nat) : Int) = (k : Int) then m else 0)
      rw [if_neg (of_decide_eq_false e)]
  rw [one_list]
  refine j_nil ⟨rfl, ⟨q, oneAt q.length k m, rfl, h10, by unfold oneAt; rw [List.length_map, List.length_range]; exact h10⟩, fun d hd q' k' m' hy => ?_⟩
  obtain rfl := hd _ _ rfl
  injection hy with h1 h2
  injection h2 with h2 h3
  injection h3 with h3 _
  injection h2 with h2
  injection h3 with h3
  obtain rfl := queue_inj h1
  have : k = k' := by omega
  rw [this, h3]
abbrev sp_sharp : Sp := spD 1 (fun ds => ∃ q, ds = [queueD q] ∧ Qok q) fun ds d => ∀ q, ds = [queueD q] → d = dayD (sharpL q)
abbrev N_sharp : List Str := ["queue", "late", "found", "number", "less", "others"]
theorem S_sharp : FnScope N_sharp ["queue"] (sc 29) := ⟨rfl, rfl, rfl, by decide +kernel, rfl, by decide +kernel, by decide +kernel⟩
theorem opt_val {q : List Case} (h : q ≠ []) : ∃ d, optD (showAll q) = .tup [.int (showVal q), d] := by
  obtain ⟨L, e⟩ := show_val h
  rw [e]
  exact ⟨_, rfl⟩
theorem ok_sharp {f : Addr} {fd : FuncData} (F : Fun K "sharpest" "sharpest" (top 29) f fd) (T : Blt mg) (c8 : Cl P w K mg base 5 "check_queue" sp_check) (c2 : Cl P w K mg base 2 "showing_lot" sp_showing) (c3 : Cl P w K mg base 2 "with_one" sp_one) : FnG P w K mg base 6 f fd ["queue"] sp_sharp := by
  refine ok_D (m := 5) F S_sharp rfl rfl fun cdv A outer s H E ds hr hl hp => ?_
  obtain ⟨q, rfl, hq⟩ := hp
  have hne : q ≠ [] := List.length_pos_iff.mp hq.h1
  obtain ⟨dq, eq⟩ := opt_val hne
  refine jss_cons (js_expr (j_call c8 hr (by decide) (j_cons (j_var 0 rfl rfl (j_nil ⟨rfl, ⟨_, rfl, isQueue_ok hq⟩, fun d hd => ?_⟩)))))
  refine jss_cons (js_set 1 S_sharp.nd rfl (j_ixT (j_call c2 hr (by decide) (j_cons (j_var 0 rfl rfl (j_nil ⟨rfl, ⟨q, rfl, hq.h10⟩, fun d hd => ?_⟩))))))
  obtain rfl := hd q rfl
  rw [eq]
  refine j_int ⟨_, _, _, rfl, rfl, rfl, ?_⟩
  refine jss_cons (js_setL 2 S_sharp.nd rfl (jl_lst (j_nil ⟨Nat.zero_le _, ?_⟩)))
  refine jss_cons (js_for PassesOwn.never rfl (ji_range T.range (j_len T.len (j_var 0 rfl rfl ⟨_, .inl ⟨_, rfl, rfl⟩, q.length, by rw [List.length_map], by have := hq.h10; omega, ?_⟩))))
  refine ⟨fun k sl ms => ∃ a b c, sl = [.d (queueD q), .d (.int (showVal q)), .m 0, a, b, c] ∧ ms = [(sharpK q k).map D.int], ⟨.u, .u, .u, rfl, rfl⟩, ?_, ?_⟩
  · rintro k d sl1 ms1 hd ⟨a, b, c0, rfl, rfl⟩
    obtain ⟨hk, rfl⟩ := numbers_get hd
    obtain ⟨c, hc⟩ : ∃ c, q[k]? = some c := ⟨_, List.getElem?_eq_getElem hk⟩
    have hcD : (q.map caseD)[k]? = some (caseD c) := by rw [List.getElem?_map, hc]; rfl
    have hlen := less_len hc
    have h10 := hq.h10
    have hfl := sharp_len q k
    refine ⟨_, _, jg_name 3 S_sharp.nd rfl, ?_⟩
    refine jss_cons (js_if (jt_cmp (j_ixT (j_ixT (j_var 0 rfl rfl (j_var 3 rfl rfl ⟨_, _, _, rfl, rfl, atI_nat hcD, j_int ⟨_, _, _, rfl, rfl, rfl, j_int ⟨_, .gt _ _, fun e => ?_, fun e => ?_⟩⟩⟩))))))
    · have hw : 1 < c.2.1 := of_decide_eq_true e
      have hn : lessQ q k ≠ [] := fun z => by
        have := hlen.2.1 hw
        rw [z] at this
        simp at this
        omega
      obtain ⟨dl, el⟩ := opt_val hn
      refine jss_one (js_set 4 S_sharp.nd rfl (j_ixT (j_call c2 hr (by decide) (j_cons (j_call c3 hr (by decide) (j_cons (j_var 0 rfl rfl (j_cons (j_var 3 rfl rfl (j_cons (j_neg (j_int ⟨1, rfl, j_nil ⟨rfl, ⟨q, k, -1, rfl, h10⟩, fun d hd => ?_⟩⟩))))))))))))
      obtain rfl := hd q k (-1) rfl
      rw [one_less hc hw]
      refine j_nil ⟨rfl, ⟨_, rfl, by omega⟩, fun d hd => ?_⟩
      obtain rfl := hd _ rfl
      rw [el]
      refine j_int ⟨_, _, _, rfl, rfl, rfl, ?_⟩
      refine jss_one (js_if (jt_cmp (j_var 4 rfl rfl (j_var 1 rfl rfl ⟨_, .lt _ _, fun e2 => ?_, fun e2 => jss_nil ?_⟩))))
      · refine jss_one (js_app 2 rfl rfl rfl (by rw [List.length_map]; omega) (j_var 3 rfl rfl ?_))
        exact ⟨.d (.int (k : Nat)), .d (.int (showVal (lessQ q k))), c0, rfl, congrArg (fun l => [l]) (sharp_yes (by rw [sharp_some hn]; exact e2))⟩
      · exact ⟨.d (.int (k : Nat)), .d (.int (showVal (lessQ q k))), c0, rfl, congrArg (fun l => [l]) (sharp_no (by rw [sharp_some hn]; exact e2))⟩
    · have hw : ¬ 1 < c.2.1 := of_decide_eq_false e
      have eg := less_gone hc hw
      refine jss_cons (js_set 5 S_sharp.nd rfl (j_cat (j_slT (j_var 0 rfl rfl (jo_n (jo_s (j_var 3 rfl rfl ⟨_, rfl, q.map caseD, rfl, j_slT (j_var 0 rfl rfl (jo_s (j_add (j_var 3 rfl rfl (j_int ⟨_, _, rfl, rfl, _, rfl, jo_n ⟨q.map caseD, rfl, _, _, rfl, rfl, ?_, ?_⟩⟩)))))⟩)))))))
      · rw [cut_to, show ((k : Nat) : Int) + 1 = ((k + 1 : Nat) : Int) from rfl, cut_from, List.length_take, List.length_drop, List.length_map]
        omega
      rw [cut_to, show ((k : Nat) : Int) + 1 = ((k + 1 : Nat) : Int) from rfl, cut_from, ← List.map_take, ← List.map_drop, ← List.map_append, ← eg]
      refine jss_one (js_set 4 S_sharp.nd rfl (j_if (jt_cmp (j_len T.len (j_var 5 rfl rfl ⟨_, .inl ⟨_, rfl, rfl⟩, j_int ⟨_, .gt _ _, fun e1 => ?_, fun e1 => ?_⟩⟩)))))
      · have hn : lessQ q k ≠ [] := fun z => by
          have := of_decide_eq_true e1
          rw [z] at this
          simp at this
        obtain ⟨dl, el⟩ := opt_val hn
        refine j_ixT (j_call c2 hr (by decide) (j_cons (j_var 5 rfl rfl (j_nil ⟨rfl, ⟨lessQ q k, rfl, by omega⟩, fun d hd => ?_⟩))))
        obtain rfl := hd _ rfl
        rw [el]
        refine j_int ⟨_, _, _, rfl, rfl, rfl, ?_⟩
        refine jss_one (js_if (jt_cmp (j_var 4 rfl rfl (j_var 1 rfl rfl ⟨_, .lt _ _, fun e2 => ?_, fun e2 => jss_nil ?_⟩))))
        · refine jss_one (js_app 2 rfl rfl rfl (by rw [List.length_map]; omega) (j_var 3 rfl rfl ?_))
          exact ⟨.d (.int (k : Nat)), .d (.int (showVal (lessQ q k))), .d (queueD (lessQ q k)), rfl, congrArg (fun l => [l]) (sharp_yes (by rw [sharp_some hn]; exact e2))⟩
        · exact ⟨.d (.int (k : Nat)), .d (.int (showVal (lessQ q k))), .d (queueD (lessQ q k)), rfl, congrArg (fun l => [l]) (sharp_no (by rw [sharp_some hn]; exact e2))⟩
      · have hn : lessQ q k = [] := by
          have := of_decide_eq_false e1
          rw [List.length_map] at this
          exact List.length_eq_zero_iff.mp (by omega)
        refine j_sub (j_var 1 rfl rfl (j_int ⟨_, _, rfl, rfl, ?_⟩))
        refine jss_one (js_if (jt_cmp (j_var 4 rfl rfl (j_var 1 rfl rfl ⟨_, .lt _ _, fun e2 => ?_, fun e2 => jss_nil ?_⟩))))
        · refine jss_one (js_app 2 rfl rfl rfl (by rw [List.length_map]; omega) (j_var 3 rfl rfl ?_))
          exact ⟨.d (.int (k : Nat)), .d (.int (showVal q - 1)), .d (queueD (lessQ q k)), rfl, congrArg (fun l => [l]) (sharp_yes (sharp_none hn))⟩
        · have := of_decide_eq_false e2
          omega
  · rintro sl1 ms1 ⟨a, b, c, rfl, rfl⟩
    rw [numbers_len]
    refine jss_one (js_ret (j_tupleM 2 rfl rfl rfl T.tup fun q' hy => ?_))
    injection hy with hy _
    obtain rfl := queue_inj hy
    rfl
end
end A
set_option Elab.async false
set_option linter.all false
set_option maxRecDepth 100000
/-! The walk: _law_sharp. -/
namespace E
open PySem PySem.Spec PyProof.Rows L2
section
variable {X : Cx} {sl : List Sl} {ms : List (List D)} {a b : Expr} {x y : Str} {pos : Pos} {O : Out}
/-- x, y = e, [..] -/
theorem js_parDM {kt k2 pt2 px py pt} (i j : Nat) (hc : X.calm = true) (hN : X.N.Nodup) (hi : X.N[i]? = some x) (hj : X.N[j]? = some y) (hij : i ≠ j) (h : Er sl ms (wE X a) fun d => El sl ms (wE X b) fun d' => O.nx ((sl.set i (.d d)).set j (.m ms.length)) (ms ++ [d']))
    (hx : X.env.scope.names.lookup x = some .local := by rfl) (hy : X.env.scope.names.lookup y = some .local := by rfl) (hw : swappedStores [.Tuple [.Name x px, .Name y py] kt pt] (.Tuple [a, b] k2 pt2) X.env = pure (some [x, y]) := by rfl)
    (hs : swapsWithSole [.Tuple [.Name x px, .Name y py] kt pt] (.Tuple [a, b] k2 pt2) pos.line X.env = pure false := by rfl) (he : starEach [a, b] X.env = (false, eval a X.env) :: starEach [b] X.env := by rfl) (he2 : starEach [b] X.env = (false, eval b X.env) :: starEach [] X.env := by rfl) :
    Sr sl ms (wS X (.Assign [.Tuple [.Name x px, .Name y py] kt pt] (.Tuple [a, b] k2 pt2) pos)) O :=
  Sr.of (ps_par hc hN hi hj hij hx hy (pa_cons pe_w (pa_cons pe_w pa_nil he2) he) hw hs) fun ho F0 H0 F ps ex σ H at0 Z nx rt bk ct => h ho F0 H0 F ps ex σ H at0 _ fun v d F1 H1 h1 a1 => h1 ho F0 H0 F1 ps _ σ H1 a1 _ fun p2 d' F2 H2 k a2 => by
    have e0 := at0.len
    have e1 : (ps ++ [p2])[ms.length]? = some p2 := by rw [← e0, List.getElem?_append_right (Nat.le_refl _)]; simp
    exact ⟨v, .ref p2, rfl, nx _ _ F2 _ _ H2 k ((a2.pop.store (s := .d d) i ⟨v, rfl, a2.top⟩).store (s := .m ms.length) j ⟨p2, rfl, e1⟩)⟩
end
end E
namespace A
open PySem PySem.Spec PyProof.Rows L2 E
/-- what the law's plan by dues comes to is what a lot shows -/
theorem led_val {q : List Case} (hq : Qok q) {k : Nat} (h : LedAt q k) : lateOf q (ledN q k).2 = showVal q ∧ Good q (ledN q k).2 := by
  obtain ⟨L, e, _⟩ := show_led hq h
  obtain ⟨f, hl⟩ := led_fine hq h
  exact ⟨by unfold showVal; rw [e], good_of (f.plan hq (by omega))⟩
section
variable {P : Program} {w : World} {K : PySem.W.Frag} {mg : Str → Option Value} {base : Heap}
abbrev N_lsharp : List Str := ["queue", "best", "found", "at", "comes", "work", "due", "rest"]
theorem S_lsharp : FnScope N_lsharp ["queue"] (sc 41) := ⟨rfl, rfl, rfl, by decide +kernel, rfl, by decide +kernel, by decide +kernel⟩
theorem ok_lsharp {f : Addr} {fd : FuncData} (F : Fun K "_law_sharp" "_law_sharp" (top 41) f fd) (T : Blt mg) (dl : Cl P w K mg base 1 "_law_late" sp_late) (d6 : Cl P w K mg base 1 "_law_led" sp_led) : FnG P w K mg base 2 f fd ["queue"] sp_sharp := by
  refine ok_D (m := 7) F S_lsharp rfl rfl fun cdv A outer s H E ds hr hl hp => ?_
  obtain ⟨q, rfl, hq⟩ := hp
  have h10 := hq.h10
  have h1 := hq.h1
  have hc0 : ∃ c, q[0]? = some c := ⟨_, List.getElem?_eq_getElem (by omega)⟩
  obtain ⟨c0, hc0⟩ := hc0
  have hcD0 : (q.map caseD)[0]? = some (caseD c0) := by rw [List.getElem?_map, hc0]; rfl
  -- the rest, where more is left than one day
  have rest : ¬ (q.length = 1 ∧ c0.2.1 = 1) → Sr [.d (queueD q), .u, .u, .u, .u, .u, .u, .u] [] (wSs (cx P w K mg base N_lsharp "_law_sharp" (top 41) f cdv A outer s H E) ((defBody (top 41)).drop 1)) { nx := fun _ _ => ∀ q', [queueD q] = [queueD q'] → D.non = dayD (sharpL q'), rt := fun d => ∀ q', [queueD q] = [queueD q'] → d = dayD (sharpL q') } := fun hno => by
    refine jss_cons (js_parDM 1 2 rfl S_lsharp.nd rfl rfl (by decide) (j_call dl hr (by decide) (j_cons (j_var 0 rfl rfl (j_cons (j_call d6 hr (by decide) (j_cons (j_var 0 rfl rfl (j_nil ⟨rfl, ⟨q, rfl, hq⟩, fun d hd => ?_⟩)))))))))
    obtain ⟨m, hm, rfl⟩ := hd q rfl
    obtain ⟨ev, good⟩ := led_val hq hm
    refine j_nil ⟨rfl, ⟨q, _, rfl, hq, good⟩, fun d hd => ?_⟩
    obtain rfl := hd q _ rfl
    rw [ev]
    refine jl_lst (j_nil ⟨Nat.zero_le _, ?_⟩)
    refine jss_cons (js_for PassesOwn.never rfl (ji_enumT T.enum (j_var 0 rfl rfl ⟨q.map caseD, rfl, ?_⟩)))
    refine ⟨fun k sl ms => ∃ a b c d e, sl = [.d (queueD q), .d (.int (showVal q)), .m 0, a, b, c, d, e] ∧ ms = [(sharpK q k).map D.int], ⟨.u, .u, .u, .u, .u, rfl, rfl⟩, ?_, ?_⟩
    · rintro k d sl1 ms1 hd ⟨a, b, c1, d1, e1, rfl, rfl⟩
      obtain ⟨x, hx, rfl⟩ := enumD_get hd
      obtain ⟨c, hc, rfl⟩ := getF hx
      have hk : k < q.length := (List.getElem?_eq_some_iff.mp hc).1
      have hlen := less_len hc
      have hfl := sharp_len q k
      have hwc := hq.w0 c (List.mem_of_getElem? hc)
      have hn : lessQ q k ≠ [] := fun z => by
        rw [z] at hlen
        simp only [List.length_nil] at hlen
        have h1' : q.length = 1 := by omega
        have hw : ¬ 1 < c.2.1 := fun hw => by have := hlen.2.1 hw; omega
        have hk0 : k = 0 := by omega
        subst hk0
        rw [hc0] at hc
        cases hc
        exact hno ⟨h1', by omega⟩
      have hok := less_ok hq hc hn
      refine ⟨_, _, jg_tup rfl (jgs_cons (jg_name 3 S_lsharp.nd rfl) (jgs_cons (jg_tup rfl (jgs_cons (jg_name 4 S_lsharp.nd rfl) (jgs_cons (jg_name 5 S_lsharp.nd rfl) (jgs_cons (jg_name 6 S_lsharp.nd rfl) jgs_nil)))) jgs_nil)), ?_⟩
      have hmid : ∀ l : List D, l = (if 1 < c.2.1 then [caseD (c.1, c.2.1 - 1, c.2.2)] else []) → (q.map caseD).take k ++ l ++ (q.map caseD).drop (k + 1) = (lessQ q k).map caseD := fun l e => by
        unfold lessQ
        rw [hc, e]
        show _ = (q.take k ++ ((if 1 < c.2.1 then [(c.1, c.2.1 - 1, c.2.2)] else []) ++ q.drop (k + 1))).map caseD
        rw [List.map_append, List.map_append, List.map_take, List.map_drop, List.append_assoc]
        by_cases hw : 1 < c.2.1
        · rw [if_pos hw, if_pos hw]; rfl
        · rw [if_neg hw, if_neg hw]; rfl
      have hll : ∀ l : List D, l = (if 1 < c.2.1 then [caseD (c.1, c.2.1 - 1, c.2.2)] else []) → l.length ≤ 1 := fun l e => by
        rw [e]; split <;> simp
      refine jss_cons (js_set 7 S_lsharp.nd rfl (j_cat (j_cat (j_slT (j_var 0 rfl rfl (jo_n (jo_s (j_var 3 rfl rfl ⟨_, rfl, q.map caseD, rfl, ?_⟩))))))))
      rw [cut_to]
      refine j_if (jt_cmp (j_var 5 rfl rfl (j_int ⟨_, .gt _ _, fun e => ?_, fun e => ?_⟩)))
      · have hw : 1 < c.2.1 := of_decide_eq_true e
        have key : D.tup ((q.map caseD).take k ++ [.tup [.int c.1, .int (c.2.1 - 1), .int c.2.2]] ++ (q.map caseD).drop (k + 1)) = queueD (lessQ q k) := congrArg D.tup (hmid [.tup [.int c.1, .int (c.2.1 - 1), .int c.2.2]] (if_pos hw).symm)
        refine j_tup (j_cons (j_tup (j_cons (j_var 4 rfl rfl (j_cons (j_sub (j_var 5 rfl rfl (j_int ⟨_, _, rfl, rfl, j_cons (j_var 6 rfl rfl (j_nil ⟨Nat.le_of_ble_eq_true rfl, j_nil ⟨Nat.le_of_ble_eq_true rfl, _, _, rfl, rfl, ?_, ?_⟩⟩))⟩))))))))
        · rw [List.length_take, List.length_map]
          show min k q.length + 1 ≤ 100000
          omega
        refine j_slT (j_var 0 rfl rfl (jo_s (j_add (j_var 3 rfl rfl (j_int ⟨_, _, rfl, rfl, _, rfl, jo_n ⟨q.map caseD, rfl, _, _, rfl, rfl, ?_, ?_⟩⟩)))))
        · rw [show ((k : Nat) : Int) + 1 = ((k + 1 : Nat) : Int) from rfl, cut_from, List.length_append, List.length_take, List.length_drop, List.length_map]
          show min k q.length + 1 + (q.length - (k + 1)) ≤ 100000
          omega
        rw [show ((k : Nat) : Int) + 1 = ((k + 1 : Nat) : Int) from rfl, cut_from]
        rw [key]
        refine jss_one (js_if (jt_cmp (j_call dl hr (by decide) (j_cons (j_var 7 rfl rfl (j_cons (j_call d6 hr (by decide) (j_cons (j_var 7 rfl rfl (j_nil ⟨rfl, ⟨lessQ q k, rfl, hok⟩, fun d hd => ?_⟩))))))))))
        obtain ⟨m2, hm2, rfl⟩ := hd _ rfl
        obtain ⟨ev2, good2⟩ := led_val hok hm2
        refine j_nil ⟨rfl, ⟨lessQ q k, _, rfl, hok, good2⟩, fun d hd => ?_⟩
        obtain rfl := hd _ _ rfl
        rw [ev2]
        refine j_var 1 rfl rfl ⟨_, .lt _ _, fun e2 => ?_, fun e2 => jss_nil ?_⟩
        · refine jss_one (js_app 2 rfl rfl rfl (by rw [List.length_map]; omega) (j_var 3 rfl rfl ?_))
          exact ⟨.d (.int (k : Nat)), .d (.int c.1), .d (.int c.2.1), .d (.int c.2.2), .d (queueD (lessQ q k)), rfl, congrArg (fun l => [l]) (sharp_yes (by rw [sharp_some hn]; exact e2))⟩
        · exact ⟨.d (.int (k : Nat)), .d (.int c.1), .d (.int c.2.1), .d (.int c.2.2), .d (queueD (lessQ q k)), rfl, congrArg (fun l => [l]) (sharp_no (by rw [sharp_some hn]; exact e2))⟩
      · have hw : ¬ 1 < c.2.1 := of_decide_eq_false e
        have key : D.tup ((q.map caseD).take k ++ [] ++ (q.map caseD).drop (k + 1)) = queueD (lessQ q k) := congrArg D.tup (hmid [] (if_neg hw).symm)
        refine j_tup (j_nil ⟨Nat.zero_le _, _, _, rfl, rfl, ?_, ?_⟩)
        · rw [List.length_take, List.length_map]
          show min k q.length + 0 ≤ 100000
          omega
        refine j_slT (j_var 0 rfl rfl (jo_s (j_add (j_var 3 rfl rfl (j_int ⟨_, _, rfl, rfl, _, rfl, jo_n ⟨q.map caseD, rfl, _, _, rfl, rfl, ?_, ?_⟩⟩)))))
        · rw [show ((k : Nat) : Int) + 1 = ((k + 1 : Nat) : Int) from rfl, cut_from, List.length_append, List.length_take, List.length_drop, List.length_map]
          show min k q.length + 0 + (q.length - (k + 1)) ≤ 100000
          omega
        rw [show ((k : Nat) : Int) + 1 = ((k + 1 : Nat) : Int) from rfl, cut_from]
        rw [key]
        refine jss_one (js_if (jt_cmp (j_call dl hr (by decide) (j_cons (j_var 7 rfl rfl (j_cons (j_call d6 hr (by decide) (j_cons (j_var 7 rfl rfl (j_nil ⟨rfl, ⟨lessQ q k, rfl, hok⟩, fun d hd => ?_⟩))))))))))
        obtain ⟨m2, hm2, rfl⟩ := hd _ rfl
        obtain ⟨ev2, good2⟩ := led_val hok hm2
        refine j_nil ⟨rfl, ⟨lessQ q k, _, rfl, hok, good2⟩, fun d hd => ?_⟩
        obtain rfl := hd _ _ rfl
        rw [ev2]
        refine j_var 1 rfl rfl ⟨_, .lt _ _, fun e2 => ?_, fun e2 => jss_nil ?_⟩
        · refine jss_one (js_app 2 rfl rfl rfl (by rw [List.length_map]; omega) (j_var 3 rfl rfl ?_))
          exact ⟨.d (.int (k : Nat)), .d (.int c.1), .d (.int c.2.1), .d (.int c.2.2), .d (queueD (lessQ q k)), rfl, congrArg (fun l => [l]) (sharp_yes (by rw [sharp_some hn]; exact e2))⟩
        · exact ⟨.d (.int (k : Nat)), .d (.int c.1), .d (.int c.2.1), .d (.int c.2.2), .d (queueD (lessQ q k)), rfl, congrArg (fun l => [l]) (sharp_no (by rw [sharp_some hn]; exact e2))⟩
    · rintro sl1 ms1 ⟨a, b, c, d, e, rfl, rfl⟩
      have hl' : (enumD (q.map caseD)).length = q.length := by unfold enumD; rw [enumFrom_len, List.length_map]
      rw [hl']
      refine jss_one (js_ret (j_tupleM 2 rfl rfl rfl T.tup fun q' hy => ?_))
      injection hy with hy _
      obtain rfl := queue_inj hy
      rfl
  refine jss_cons (js_if (jt_w (jw_and (jt_cmp (j_len T.len (j_var 0 rfl rfl ⟨_, .inl ⟨_, rfl, rfl⟩, j_int ⟨_, .eq _ _, fun e => ?_, fun e => ⟨(fun z => by cases z), fun _ => jss_nil ?_⟩⟩⟩))))))
  · rw [List.length_map] at e
    have e1 : ((q.length : Nat) : Int) = 1 := of_decide_eq_true e
    refine jw_and1 (jt_cmp (j_ixT (j_ixT (j_var 0 rfl rfl (j_int ⟨_, _, _, rfl, rfl, atI_nat (n := 0) hcD0, j_int ⟨_, _, _, rfl, rfl, rfl, j_int ⟨_, .eq _ _, fun e2 => ?_, fun e2 => jss_nil ?_⟩⟩⟩)))))
    · have e3 : c0.2.1 = 1 := of_decide_eq_true e2
      refine jss_one (js_ret (j_tup (j_cons (j_int (j_nil ⟨Nat.le_of_ble_eq_true rfl, fun q' hy => ?_⟩)))))
      injection hy with hy _
      obtain rfl := queue_inj hy
      have hl0 : lessQ q 0 = [] := by
        have hlen := less_gone hc0 (by omega)
        rw [hlen]
        have : q.length = 1 := by omega
        rw [List.take_zero, List.nil_append]
        exact List.drop_eq_nil_iff.mpr (by omega)
      have : sharpL q = [0] := by
        show sharpK q q.length = [0]
        rw [show q.length = 1 by omega]
        have := sharp_none hl0
        unfold sharpK
        rw [show List.range 1 = [0] from rfl, List.filter_cons, if_pos this]
        rfl
      rw [this]
      rfl
    · exact rest fun h => by
        have := of_decide_eq_false e2
        exact this h.2
  · rw [List.length_map] at e
    exact rest fun h => by
      have := of_decide_eq_false e
      omega
end
end A
set_option Elab.async false
set_option linter.all false
set_option maxRecDepth 100000
/-! The walk: _law_word. -/
namespace A
open PySem PySem.Spec PyProof.Rows L2 E
section
variable {X : Cx} {a b c e : Expr} {t u : List Stmt} {pos p p1 p2 : Pos} {σ : L2.St} {H : Hp} {D : Ends} {x n : Str}
theorem r_ifE {Q : VK} (h : wT X c σ H fun k H1 => if k = true then wE X a σ H1 Q else wE X b σ H1 Q) : wE X (.IfExp c a b pos) σ H Q := r_of (pe_ifExp pt_w pe_w pe_w) h
theorem r_ne {Q : Bool → Hp → Prop} (h : wE X a σ H fun x H1 => wE X b σ H1 fun y H2 => rNe x y H2 fun v H3 => ∃ k, v = .bl k ∧ Q k H3) (hm : behindInMarks .NotEq b = false := by first | exact nobehind _ (by decide) (by decide) | rfl) : wT X (.Compare a [.NotEq] [b] pos) σ H Q :=
  r_ofT (pt_cmpR op_ne pe_w pe_w hm) h
theorem r_val {Q : Bool → Hp → Prop} (h : wE X e σ H fun v H' => ∃ k, v = .bl k ∧ Q k H') (he : ∀ whole, isTrue e X.env whole = (do let v ← whole; standAt e.pos; holding [v] (truthy v)) := by intro _; rfl) : wT X e σ H Q := r_ofT (pt_val pe_w he) h
theorem r_str {s : Str} {j} {Q : VK} (q : Q (.str s) H) : wE X (.Constant (.str s) j pos) σ H Q := r_of pe_str q
/-- isinstance(e, G), e the error that the suite holds, G an own class -/
theorem r_isE {ad C G : Addr} {oe : Obj} {pn : List (Addr × Obj)} {k : Bool} {Q : VK} (i : Nat) (F : ExcC X.K C) (hz : Zc (.ref C) none oe) (hv : ∃ vs, oe.data = .fields vs) (hN : X.N[i]? = some n) (hs : σ[i]? = some (some (.ref ad))) (hG : X.mg x = some (.ref G)) (kit : PySem.W.kitOne X.K (.ref C) (.ref G) = some k)
    (hi : X.mg "isinstance" = none) (q : Q (.bl k) H) (hg : Gl X "isinstance" := by rfl) (hg2 : Gl X x := by rfl) (hvi : Vis X.env.scope n := by first | exact Or.inl rfl | exact Or.inr (Or.inl rfl) | exact Or.inr (Or.inr rfl)) (hd : (n == ("__debug__" : Str)) = false := by decide) (hcd : (n == ("__classdict__" : Str)) = false := by decide) (hd2 : (x == ("__debug__" : Str)) = false := by decide)
    (he : starEach [.Name n p1, .Name x p2] X.env = (false, eval (.Name n p1) X.env) :: starEach [.Name x p2] X.env := by rfl) (he2 : starEach [.Name x p2] X.env = (false, eval (.Name x p2) X.env) :: starEach [] X.env := by rfl) (hpl : (backTo pos (starEach [.Name x p2] X.env)).any (·.1) = false := by rfl) :
    wE (X.suite ad ((ad, oe) :: pn)) (.Call (.Name "isinstance" p) [.Name n p1, .Name x p2] [] pos) σ H Q :=
  r_of (pe_callB (X := X.suite ad ((ad, oe) :: pn)) (call_isE F hz hv) hg hi (by decide +kernel) (pa_cons (pv (X := X.suite ad ((ad, oe) :: pn)) i hN hvi hd hcd) (pa_cons (pe_glob (X := X.suite ad ((ad, oe) :: pn)) (v := .ref G) hg2 hG rfl hd2) pa_nil he2) he) (he := he) (hpl := hpl)) ⟨_, hs, .ref G, .ref G, k, rfl, fun u r => r, kit, q⟩
/-- .. G a built-in type -/
theorem r_isB {ad C : Addr} {oe : Obj} {pn : List (Addr × Obj)} {k : Bool} {Q : VK} {ty : String} (i : Nat) (F : ExcC X.K C) (hz : Zc (.ref C) none oe) (hv : ∃ vs, oe.data = .fields vs) (hN : X.N[i]? = some n) (hs : σ[i]? = some (some (.ref ad))) (hG : X.mg x = none) (hb : bootBuiltins x = some (.type ty)) (kit : PySem.W.kitOne X.K (.ref C) (.type ty) = some k)
    (hi : X.mg "isinstance" = none) (q : Q (.bl k) H) (hn : x ≠ "__name__" := by decide) (hg : Gl X "isinstance" := by rfl) (hg2 : Gl X x := by rfl) (hvi : Vis X.env.scope n := by first | exact Or.inl rfl | exact Or.inr (Or.inl rfl) | exact Or.inr (Or.inr rfl)) (hd : (n == ("__debug__" : Str)) = false := by decide) (hcd : (n == ("__classdict__" : Str)) = false := by decide) (hd2 : (x == ("__debug__" : Str)) = false := by decide)
    (he : starEach [.Name n p1, .Name x p2] X.env = (false, eval (.Name n p1) X.env) :: starEach [.Name x p2] X.env := by rfl) (he2 : starEach [.Name x p2] X.env = (false, eval (.Name x p2) X.env) :: starEach [] X.env := by rfl) (hpl : (backTo pos (starEach [.Name x p2] X.env)).any (·.1) = false := by rfl) :
    wE (X.suite ad ((ad, oe) :: pn)) (.Call (.Name "isinstance" p) [.Name n p1, .Name x p2] [] pos) σ H Q :=
  r_of (pe_callB (X := X.suite ad ((ad, oe) :: pn)) (call_isE F hz hv) hg hi (by decide +kernel) (pa_cons (pv (X := X.suite ad ((ad, oe) :: pn)) i hN hvi hd hcd) (pa_cons (pe_bltn (X := X.suite ad ((ad, oe) :: pn)) (v := .ty ty) hg2 hG hb rfl hn hd2) pa_nil he2) he) (he := he) (hpl := hpl)) ⟨_, hs, .ty ty, .type ty, k, rfl, fun u r => r, kit, q⟩
end
/-- what the law's clause asks of the classes -/
structure Ers (K : PySem.W.Frag) (mg : Str → Option Value) (CW NT NL : Addr) : Prop where
  gW : mg "WayError" = some (.ref CW)
  gT : mg "NotTogether" = some (.ref NT)
  gL : mg "NoLot" = some (.ref NL)
  xT : ExcC K NT
  xL : ExcC K NL
  mT : PySem.W.exmOne K (.ref NT) (.ref CW) = some true
  mL : PySem.W.exmOne K (.ref NL) (.ref CW) = some true
  tt : PySem.W.kitOne K (.ref NT) (.ref NT) = some true
  tl : PySem.W.kitOne K (.ref NT) (.ref NL) = some false
  lt : PySem.W.kitOne K (.ref NL) (.ref NT) = some false
  ll : PySem.W.kitOne K (.ref NL) (.ref NL) = some true
  tv : PySem.W.kitOne K (.ref NT) (.type "ValueError") = some true
  lv : PySem.W.kitOne K (.ref NL) (.type "ValueError") = some true
  ve : mg "ValueError" = none
section
variable {P : Program} {w : World} {K : PySem.W.Frag} {mg : Str → Option Value} {base : Heap} {CW NT NL : Addr}
abbrev sp_word : Sp := spD 3 (fun ds => ∃ (q : List Case) (i : Int) (x : D), ds = [queueD q, .int i, x] ∧ Qok q ∧ lenT x < 100000 ∧ (Later q ∨ (i = 1 ∧ isLot x q.length = false))) fun ds d => ∀ (q : List Case) (i : Int) (x : D), ds = [queueD q, .int i, x] → (Later q → d = .str "together") ∧ (¬ Later q → d = .str "lot")
abbrev N_word : List Str := ["queue", "which", "lot", "found", "e"]
theorem S_word : FnScope N_word ["queue", "which", "lot"] (sc 42) := ⟨rfl, rfl, rfl, by decide +kernel, rfl, by decide +kernel, by decide +kernel⟩
/-- the suite's end -/
theorem word_end {ms : List (List D)} {ho : Option Addr} {F0 H0 F H : Hp} {ps : List Addr} {ex : List (V × D)} {σ : L2.St} {a : Addr} {s s' : Str} {q0 q1 q2 f0 : Sl} (h : At ho F0 H0 F ps [q0, q1, q2, f0, .u] ms ex σ H) :
    At ho F0 H0 F ps [q0, q1, q2, .d (.str s), .u] ms ex (((((σ.set 4 (some (.ref a))).set 3 (some (.str s'))).set 3 (some (.str s)))).set 4 none) H := by
  have h1 := h.store (v := .str s) (s := .d (.str s)) 3 ⟨_, rfl, .str s⟩
  refine At.other (vs := [4]) h1 (by simp) (fun j hj t ht => ?_) fun j hj => ?_
  · have : j = 4 := by simpa using hj
    subst this
    cases ht
    rfl
  · have h4 : j ≠ 4 := by simpa using hj
    rw [List.getElem?_set_ne (Ne.symm h4), List.set_set]
    by_cases h3 : j = 3
    · subst h3
      by_cases hl : 3 < σ.length
      · rw [List.getElem?_set_self (by rw [List.length_set]; exact hl), List.getElem?_set_self hl]
      · rw [List.getElem?_eq_none (by rw [List.length_set, List.length_set]; omega), List.getElem?_eq_none (by rw [List.length_set]; omega)]
    · rw [List.getElem?_set_ne (Ne.symm h3), List.getElem?_set_ne (Ne.symm h4), List.getElem?_set_ne (Ne.symm h3)]
theorem ok_word {f : Addr} {fd : FuncData} (F : Fun K "_law_word" "_law_word" (top 42) f fd) (T : Blt mg) (x : Ers K mg CW NT NL) (cm : ClX P w K mg base 7 "most_in_time" (sp_mit NT)) (ci : ClX P w K mg base 7 "in_time" (sp_int NT NL)) : FnG P w K mg base 8 f fd ["queue", "which", "lot"] sp_word := by
  refine ok_D (m := 2) F S_word rfl rfl fun cdv A outer s H E ds hr hl hp => ?_
  obtain ⟨q, i, y, rfl, hq, hy, hcase⟩ := hp
  refine jss_cons (js_set 3 S_word.nd rfl (j_str ?_))
  -- the clause
  have suite : ∀ (C : Addr) (bT bL : Bool) (word : Str), ExcC K C → PySem.W.exmOne K (.ref C) (.ref CW) = some true → PySem.W.kitOne K (.ref C) (.ref NT) = some bT → PySem.W.kitOne K (.ref C) (.ref NL) = some bL → PySem.W.kitOne K (.ref C) (.type "ValueError") = some true → (!decide (V.bl bT = V.bl bL)) = true → word = (if bL = true then ("lot" : Str) else ("together" : Str)) →
      (∀ (W : WX) (pn : List (Addr × Obj)) (xe : Value → Shared → Prop), Takes ((cx P w K mg base N_word "_law_word" (top 42) f cdv A outer s H E).tr pn xe) W → SrZ (Zw W (fun s m => s = [.d (queueD q), .d (.int i), .d y, .d (.str "let"), .u] ∧ m = []) (.ref C)) [.d (queueD q), .d (.int i), .d y, .d (.str "let"), .u] []
        (wSs ((cx P w K mg base N_word "_law_word" (top 42) f cdv A outer s H E).tr pn xe) (match (defBody (top 42)).drop 1 with | .Try b _ _ _ _ :: _ => b | _ => [])) { nx := fun _ _ => False, rt := fun _ => False }) →
      (∀ q' i' x', [queueD q, .int i, y] = [queueD q', .int i', x'] → (Later q' → D.str word = .str "together") ∧ (¬ Later q' → D.str word = .str "lot")) →
      Sr [.d (queueD q), .d (.int i), .d y, .d (.str "let"), .u] [] (wSs (cx P w K mg base N_word "_law_word" (top 42) f cdv A outer s H E) ((defBody (top 42)).drop 1))
        { nx := fun _ _ => ∀ (q' : List Case) (i' : Int) (x' : D), [queueD q, .int i, y] = [queueD q', .int i', x'] → (Later q' → D.non = .str "together") ∧ (¬ Later q' → D.non = .str "lot"), rt := fun d => ∀ (q' : List Case) (i' : Int) (x' : D), [queueD q, .int i, y] = [queueD q', .int i', x'] → (Later q' → d = .str "together") ∧ (¬ Later q' → d = .str "lot") } := by
    intro C bT bL word xc hm hT hL hV hne hw hbody hpost
    refine jss_cons (js_tryC (i := 4) rfl rfl S_word.nd rfl rfl ⟨rfl, by decide, .inl x.gW⟩ hm hbody ?_)
    intro a oe pn ho F0 H0 F1 ps ex σ H1 hz hv at1 D hD
    have hσ : σ.length = 5 := at1.sln
    have h4 : ∀ v, ((σ.set 4 (some (.ref a))).set 3 v)[4]? = some (some (.ref a)) := fun v => by
      rw [List.getElem?_set_ne (by decide), List.getElem?_set_self (by omega)]
    have is4 : ∀ v, (((σ.set 4 (some (.ref a))).set 3 v).set 3 v)[4]? = some (some (.ref a)) := fun v => by
      rw [List.getElem?_set_ne (by decide)]; exact h4 v
    refine r_cons (r_set 3 S_word.nd rfl (r_str ?_))
    refine r_cons (r_if (r_and2 (r_ne (r_isE 4 xc hz hv rfl (h4 _) x.gT hT T.isi (r_isE 4 xc hz hv rfl (h4 _) x.gL hL T.isi ⟨rfl, _, rfl, ?_⟩)))))
    rw [hne]
    refine ⟨fun _ => ?_, fun z => by cases z⟩
    refine r_val (r_isB 4 xc hz hv rfl (h4 _) x.ve (by decide +kernel) hV T.isi ⟨_, rfl, ?_⟩)
    refine ⟨fun _ => ?_, fun z => by cases z⟩
    refine r_cons (r_set 3 S_word.nd rfl (r_ifE (r_val (r_isE 4 xc hz hv rfl (h4 _) x.gL hL T.isi ⟨_, rfl, ?_⟩))))
    have fin : ∀ s', D.nx (((σ.set 4 (some (.ref a))).set 3 (some (.str s'))).set 3 (some (.str word))) H1 := fun s' => hD _ _ F1 ps _ H1 (jss_one (js_ret (j_var 3 rfl rfl hpost))) (word_end at1)
    cases bL with
    | true =>
      rw [if_pos rfl]
      refine r_str (r_nil (r_nil ?_))
      rw [if_pos rfl] at hw
      have := fin "other"
      rw [hw] at this
      exact this
    | false =>
      rw [if_neg Bool.false_ne_true]
      refine r_str (r_nil (r_nil ?_))
      rw [if_neg Bool.false_ne_true] at hw
      have := fin "other"
      rw [hw] at this
      exact this
  by_cases hlate : Later q
  · refine suite NT true false "together" x.xT x.mT x.tt x.tl x.tv rfl rfl (fun W pn xe tk => ?_) fun q' i' x' e => ?_
    · refine zss_one (zs_if (jt_cmp (j_var 1 rfl rfl (j_int ⟨_, .eq _ _, fun e => ?_, fun e => ?_⟩))))
      · exact zss_one (j_raises cm hr (by decide) tk ⟨rfl, rfl⟩ (j_cons (j_var 0 rfl rfl (j_nil ⟨rfl, ⟨q, rfl, hq⟩, ⟨rfl, q, rfl, hlate⟩, badT_u⟩))))
      · exact zss_one (j_raises ci hr (by decide) tk ⟨rfl, rfl⟩ (j_cons (j_var 0 rfl rfl (j_cons (j_var 2 rfl rfl (j_nil ⟨rfl, ⟨q, y, rfl, hq, hy⟩, ⟨q, y, rfl, .inl ⟨rfl, hlate⟩⟩, fun c h => (badI_at h).elim (fun h => h.1) fun h => absurd hlate h.2.1⟩))))))
    · injection e with e _
      rw [← queue_inj e]
      exact ⟨fun _ => rfl, fun h => absurd hlate h⟩
  · obtain ⟨rfl, hnl⟩ := hcase.resolve_left hlate
    refine suite NL false true "lot" x.xL x.mL x.lt x.ll x.lv rfl rfl (fun W pn xe tk => ?_) fun q' i' x' e => ?_
    · refine zss_one (zs_if (jt_cmp (j_var 1 rfl rfl (j_int ⟨_, .eq _ _, fun e => ?_, fun e => ?_⟩))))
      · have := of_decide_eq_true e
        omega
      · exact zss_one (j_raises ci hr (by decide) tk ⟨rfl, rfl⟩ (j_cons (j_var 0 rfl rfl (j_cons (j_var 2 rfl rfl (j_nil ⟨rfl, ⟨q, y, rfl, hq, hy⟩, ⟨q, y, rfl, .inr ⟨rfl, hlate, hnl⟩⟩, fun c h => (badI_at h).elim (fun h => absurd h.2 hlate) fun h => h.1⟩))))))
    · injection e with e _
      rw [← queue_inj e]
      exact ⟨fun h => absurd h hlate, fun _ => rfl⟩
end
end A
set_option Elab.async false
set_option linter.all false
set_option maxRecDepth 100000
/-! in, not in, == of data. -/
namespace E
open PySem PySem.Spec PyProof.Rows L2
/-! ### a tuple and a dict -/
namespace TD
open PySem.SeqAt PySem.MeetsSeq
open PySem.AutoSeq1 (wpAny_loadPart')
theorem sub_dt : isSubtype (.type "dict") (.type "tuple") = pure false := by rw [isSubtype_type]; kernel_rfl
theorem sub_td : isSubtype (.type "tuple") (.type "dict") = pure false := by rw [isSubtype_type]; kernel_rfl
theorem tuple_declines (l b : Addr) (its : Array Value) (n k : Nat) (d1 d2 : Option Addr) (es : Array DictEntry) (s1 s2 : Array (Option Value)) :
    Meets (Builtin.«tuple.__eq__» ⟨[.ref l, .ref b], []⟩) (fun _ R s => s.heap.get? l = some { cls := .type "tuple", dict := d1, data := .seq its n, slots := s1 } ∧ s.heap.get? b = some { cls := .type "dict", dict := d2, data := .dict es k, slots := s2 } ∧ R (.ok (.ret .notImplemented)) s) :=
  .of_wp fun prog w A R s h => by
    obtain ⟨hp, g, d, tk, os⟩ := s
    obtain ⟨a1, a2, h⟩ := h
    have f1 := sub_dt
    wp_walk using wpAny_loadPart' a1, wpAny_loadPart' a2
    exact ⟨_, rfl, h⟩
theorem dict_declines (l b : Addr) (its : Array Value) (n k : Nat) (d1 d2 : Option Addr) (es : Array DictEntry) (s1 s2 : Array (Option Value)) :
    Meets (Builtin.«dict.__eq__» ⟨[.ref b, .ref l], []⟩) (fun _ R s => s.heap.get? l = some { cls := .type "tuple", dict := d1, data := .seq its n, slots := s1 } ∧ s.heap.get? b = some { cls := .type "dict", dict := d2, data := .dict es k, slots := s2 } ∧ R (.ok (.ret .notImplemented)) s) :=
  .of_wp fun prog w A R s h => by
    obtain ⟨hp, g, d, tk, os⟩ := s
    obtain ⟨a1, a2, h⟩ := h
    have f1 := sub_td
    wp_walk using wpAny_loadPart' a1, wpAny_loadPart' a2
    exact ⟨_, rfl, h⟩
theorem eq_td {A : Around} {s : Shared} {l b : Addr} {its : Array Value} {o : Obj} {es : Array DictEntry} {k : Nat} (h1 : s.heap.IsTuple l its) (h2 : s.heap.get? b = some o) (hc : o.cls = .type "dict") (hd : o.data = .dict es k) (hu : A.units < cLine) : EqAt A s (.ref l) (.ref b) false := by
  obtain ⟨⟨c1, d1, t1, s1⟩, ho, hc1, n, hd1⟩ := id h1
  obtain ⟨c2, d2, t2, s2⟩ := o
  simp only at hc1 hd1 hc hd
  subst hc1 hd1 hc hd
  have ne : l ≠ b := fun e => by
    subst e
    exact absurd (congrArg Obj.cls (Option.some.inj (ho.symm.trans h2))) (by simp)
  refine .of_refs ne fun prog w E Q h => ?_
  exact (rc_eq_decline_or (k := false) ⟨_, ho, rfl⟩ ⟨_, h2, rfl⟩ (by decide) sub_dt F.slot_tuple_eq F.slot_dict_eq_refl
    (fun _ hq => call_meets F.slot_tuple_eq ⟨_, ho, rfl⟩ F.entry_tuple_eq (F.args_tuple_eq_2 _ _) (tuple_declines l b its n k d1 d2 es s1 s2) ⟨ho, h2, hq⟩)
    (fun _ hq => call_meets F.slot_dict_eq_refl ⟨_, h2, rfl⟩ F.entry_dict_eq (F.args_dict_eq_2 _ _) (dict_declines l b its n k d1 d2 es s1 s2) ⟨ho, h2, hq⟩)
    (fun _ hq => wpAny_isSame_ref_other' ne ho h2 (by simp) hq) (.inr hu) h)
end TD
abbrev tupN (ns : List Int) : D := .tup (ns.map D.int)
theorem eqv_tups (l m : List Int) : PyData.eqv (toP (tupN l)) (toP (tupN m)) = decide (l = m) := by rw [toP, toP, PyData.eqv, eqv_ints]
theorem lay_tups : ∀ ls : List (List Int), PyData.canLayAll0 (toPs (ls.map tupN)) = true ∧ PyData.depthAll (toPs (ls.map tupN)) ≤ 1
  | [] => by simp [toPs, PyData.canLayAll0, PyData.depthAll]
  | l :: ls => by
    have ⟨h1, h2⟩ := lay_tups ls
    have ⟨h3, h4⟩ := lay_ints l
    rw [List.map_cons, toPs, toP, PyData.canLayAll0, PyData.canLay0, h1, h3, PyData.depthAll, PyData.depth, h4]
    exact ⟨rfl, by omega⟩
theorem any_tups (l : List Int) : ∀ ls : List (List Int), ((toPs (ls.map tupN)).any fun z => PyData.eqv z (toP (tupN l))) = decide (l ∈ ls)
  | [] => by simp [toPs]
  | m :: ls => by
    rw [List.map_cons, toPs, List.any_cons, any_tups l ls, eqv_tups]
    by_cases h : m = l
    · subst h; simp
    · have h' : ¬ l = m := fun e => h e.symm
      simp [h, h']
/-- x not in a tuple of tuples of whole numbers -/
def rNotInT : L2.R2 := fun x y H Q => ∃ (F : Hp) (d : D) (ls : List (List Int)), Ex F H ∧ Dn F x d ∧ Dn F y (.tup (ls.map tupN)) ∧ (PyData.canLay0 (toP d) = true ∨ d = .dic) ∧ ∀ b : Bool, (b = true → ∀ l ∈ ls, d ≠ tupN l) → Q (.bl b) H
theorem op_notInT {X : Cx} (hu : X.A.units + 64 < cLine) : OpR X (compareOp .NotIn) rNotInT := by
  intro pins s σ H x y v u Q I rx ry h
  obtain ⟨F, d, ls, ef, hd, he, hcase, q⟩ := h
  obtain ⟨bs, r2⟩ := he.reads I ef ry
  rw [toP] at r2
  rcases hcase with hlay | rfl
  · obtain ⟨as, r1⟩ := hd.reads I ef rx
    refine SeqAt.notIn_tuple_reads r2 r1 (lay_tups ls).1 hlay (by have := (lay_tups ls).2; omega) ⟨.bl _, H, I, rfl, q _ fun hb l hl e => ?_⟩
    subst e
    rw [any_tups, decide_eq_true hl] at hb
    cases hb
  · cases hd with
    | @dic a ha =>
      cases rx
      obtain ⟨_, o, es, n, k1, k2, k3, _⟩ := dic_at I (ef _ _ ha)
      cases he with
      | @tup b xs _ hb hl =>
        cases ry
        obtain ⟨its, rv, p, _⟩ := I.tuple (sq_t ef hb)
        refine SeqAt.notIn_tupleAt (fun _ => false) (show s.heap.IsTuple b its.toArray from p) (fun z hz => ?_) ⟨.bl _, H, I, rfl, q _ fun _ l _ e => by cases e⟩
        have hz : z ∈ its := by simpa using hz
        have key : ∀ {xs : List V} {us : List Value} {ls : List (List Int)}, DnL F xs (ls.map tupN) → Vals xs us → ∀ z ∈ us, ∃ t js, z = .ref t ∧ s.heap.IsTuple t js := by
          intro xs us ls h1
          induction ls generalizing xs us with
          | nil => intro h2 z hz; cases h1; cases h2; cases hz
          | cons l ls ih =>
            intro h2 z hz
            cases h1 with
            | cons g1 g2 =>
              cases h2 with
              | cons f1 f2 =>
                rcases List.mem_cons.mp hz with rfl | hz
                · cases g1 with
                  | @tup t xs _ ht _ =>
                    cases f1
                    obtain ⟨js, _, p, _⟩ := I.tuple (sq_t ef ht)
                    exact ⟨t, _, rfl, p⟩
                · exact ih g2 f2 z hz
        obtain ⟨t, js, rfl, ht⟩ := key hl rv z hz
        exact TD.eq_td ht k1 k2 k3 (by show X.A.units + 1 < cLine; omega)
/-- a tuple of whole numbers in a list of such -/
def rInT : L2.R2 := fun x y H Q => ∃ (F : Hp) (l : List Int) (ls : List (List Int)), Ex F H ∧ Dn F x (tupN l) ∧ Dn F y (.lst (ls.map tupN)) ∧ Q (.bl (decide (l ∈ ls))) H
theorem op_inT {X : Cx} (hu : X.A.units + 64 < cLine) : OpR X (compareOp .In) rInT := by
  intro pins s σ H x y v u Q I rx ry h
  obtain ⟨F, l, ls, ef, hd, he, q⟩ := h
  obtain ⟨bs, r2⟩ := he.reads I ef ry
  obtain ⟨as, r1⟩ := hd.reads I ef rx
  rw [toP] at r2
  refine SeqAt.in_list_reads r2 r1 (lay_tups ls).1 (by rw [toP, PyData.canLay0]; exact (lay_ints l).1) (by have := (lay_tups ls).2; omega) ⟨.bl _, H, I, rfl, ?_⟩
  rw [any_tups]
  exact q
def rEqA : L2.R2 := fun x y H Q => ∃ F d e, Ex F H ∧ Dn F x d ∧ Dn F y e ∧ SeqAt.shaped (toP d) = true ∧ SeqAt.shaped (toP e) = true ∧ Q (.bl (PyData.eqv (toP d) (toP e))) H
theorem op_eqA {X : Cx} (hu : X.A.units + 64 < cLine) : OpR X (compareOp .Eq) rEqA := by
  intro pins s σ H x y v u Q I rx ry h
  obtain ⟨F, d, e, ef, hd, he, sd, se, q⟩ := h
  obtain ⟨as, r1⟩ := hd.reads I ef rx
  obtain ⟨bs, r2⟩ := he.reads I ef ry
  exact SeqAt.compareEq_shaped r1 r2 sd se hu ⟨.bl _, H, I, rfl, q⟩
section
variable {X : Cx} {sl : List Sl} {ms : List (List D)} {R : D → Prop} {B : Bool → Prop} {a b : Expr} {pos : Pos}
theorem jt_notInT (hu : X.A.units + 64 < cLine) (h : Er sl ms (wE X a) fun x => Er sl ms (wE X b) fun y => ∃ ls : List (List Int), y = .tup (ls.map tupN) ∧ (PyData.canLay0 (toP x) = true ∨ x = .dic) ∧ ∀ k : Bool, (k = true → ∀ l ∈ ls, x ≠ tupN l) → B k) (hm : behindInMarks .NotIn b = false := by first | exact nobehind _ (by decide) (by decide) | rfl) :
    Et sl ms (wT X (.Compare a [.NotIn] [b] pos)) B :=
  Et.of (pt_cmpR (op_notInT hu) pe_w pe_w hm) (et_test (er_op' (h.mono fun x h => h.mono fun y ⟨ls, e, hl, k⟩ => fun F H v w eh hv hw Q q => by
    subst e
    exact ⟨F, x, ls, eh, hv, hw, hl, fun c hc => q _ _ F H ⟨_, rfl, k c hc⟩ (Ext.refl eh) (.bl _)⟩)))
theorem j_inL (hu : X.A.units + 64 < cLine) (h : Er sl ms (wE X a) fun x => Er sl ms (wE X b) fun y => ∃ (l : List Int) (ls : List (List Int)), x = tupN l ∧ y = .lst (ls.map tupN) ∧ R (.bl (decide (l ∈ ls)))) (hm : behindInMarks .In b = false := by first | exact nobehind _ (by decide) (by decide) | rfl) :
    Er sl ms (wE X (.Compare a [.In] [b] pos)) R :=
  Er.of (pe_cmpR (op_inT hu) pe_w pe_w hm) (er_op' (h.mono fun x h => h.mono fun y ⟨l, ls, e1, e2, k⟩ => fun F H v w eh hv hw Q q => by
    subst e1 e2
    exact ⟨F, l, ls, eh, hv, hw, q _ _ F H k (Ext.refl eh) (.bl _)⟩))
theorem jt_inL (hu : X.A.units + 64 < cLine) (h : Er sl ms (wE X a) fun x => Er sl ms (wE X b) fun y => ∃ (l : List Int) (ls : List (List Int)), x = tupN l ∧ y = .lst (ls.map tupN) ∧ B (decide (l ∈ ls))) (hm : behindInMarks .In b = false := by first | exact nobehind _ (by decide) (by decide) | rfl) :
    Et sl ms (wT X (.Compare a [.In] [b] pos)) B :=
  Et.of (pt_cmpR (op_inT hu) pe_w pe_w hm) (et_test (er_op' (h.mono fun x h => h.mono fun y ⟨l, ls, e1, e2, k⟩ => fun F H v w eh hv hw Q q => by
    subst e1 e2
    exact ⟨F, l, ls, eh, hv, hw, q _ _ F H ⟨_, rfl, k⟩ (Ext.refl eh) (.bl _)⟩)))
theorem j_eqA (hu : X.A.units + 64 < cLine) (h : Er sl ms (wE X a) fun x => Er sl ms (wE X b) fun y => SeqAt.shaped (toP x) = true ∧ SeqAt.shaped (toP y) = true ∧ R (.bl (PyData.eqv (toP x) (toP y)))) (hm : behindInMarks .Eq b = false := by first | exact nobehind _ (by decide) (by decide) | rfl) :
    Er sl ms (wE X (.Compare a [.Eq] [b] pos)) R :=
  Er.of (pe_cmpR (op_eqA hu) pe_w pe_w hm) (er_op' (h.mono fun x h => h.mono fun y ⟨s1, s2, k⟩ => fun F H v w eh hv hw Q q => ⟨F, x, y, eh, hv, hw, s1, s2, q _ _ F H k (Ext.refl eh) (.bl _)⟩))
theorem jt_neT (hu : X.A.units + 64 < cLine) (h : Er sl ms (wE X a) fun x => Er sl ms (wE X b) fun y => ∃ l m : List Int, x = tupN l ∧ y = tupN m ∧ B (!decide (l = m))) : Et sl ms (wT X (.Compare a [.NotEq] [b] pos)) B :=
  Et.of (pt_cmpR (op_neA hu) pe_w pe_w (nomark _)) (et_test (er_op' (h.mono fun x h => h.mono fun y ⟨l, m, e1, e2, k⟩ => fun F H v w eh hv hw Q q => by
    subst e1 e2
    have sh : ∀ n : List Int, SeqAt.shaped (toP (tupN n)) = true := fun n => by
      have ⟨h1, h2⟩ := lay_ints n
      simp [SeqAt.shaped, toP, PyData.canLay0, PyData.depth, h1, h2]
    exact ⟨F, _, _, eh, hv, hw, sh l, sh m, by rw [eqv_tups]; exact q _ _ F H ⟨_, rfl, k⟩ (Ext.refl eh) (.bl _)⟩)))
/-- bool == bool -/
theorem j_eqB (h : Er sl ms (wE X a) fun x => Er sl ms (wE X b) fun y => ∃ i j : Bool, x = .bl i ∧ y = .bl j ∧ R (.bl (decide (i = j)))) (hm : behindInMarks .Eq b = false := by first | exact nobehind _ (by decide) (by decide) | rfl) : Er sl ms (wE X (.Compare a [.Eq] [b] pos)) R :=
  Er.of (pe_cmpR op_eq pe_w pe_w hm) (er_op' (h.mono fun x h => h.mono fun y ⟨i, j, e1, e2, k⟩ => fun F H v w eh hv hw Q q => by
    subst e1 e2
    cases hv; cases hw
    have e : decide (V.bl i = V.bl j) = decide (i = j) := by
      by_cases h : i = j
      · subst h; rw [decide_eq_true rfl, decide_eq_true rfl]
      · rw [decide_eq_false h, decide_eq_false fun z => h (V.bl.inj z)]
    exact ⟨rfl, by rw [e]; exact q _ _ F H k (Ext.refl eh) (.bl _)⟩))
/-- list * n -/
theorem j_repL (h : Er sl ms (wE X a) fun x => Er sl ms (wE X b) fun y => ∃ (ds : List D) (n : Nat), x = .lst ds ∧ y = .int n ∧ n ≤ 1000 ∧ ds.length ≤ 1000 ∧ R (.lst (List.replicate n ds).flatten)) : Er sl ms (wE X (.BinOp a .Mult b pos)) R :=
  Er.of (pe_op op_rep pe_w pe_w) (er_op' (h.mono fun x h => h.mono fun y ⟨ds, n, e1, e2, h1, h2, k⟩ => fun F H v w eh hv hw Q q => by
    subst e1 e2
    cases hw
    cases hv with
    | @lst p xs _ ha hl =>
      have hz : xs.length * n ≤ 1000 * 1000 := Nat.mul_le_mul (by rw [hl.len]; exact h2) h1
      refine ⟨p, n, xs, rfl, rfl, eh _ _ ha, by omega, by omega, ?_, fun z hp => ?_⟩
      · rw [Int.toNat_natCast]
        exact Nat.le_trans hz (by rw [sizeLine_eq]; decide)
      · rw [Int.toNat_natCast]
        exact q _ _ _ _ k (Ext.new eh hp) (.lst upd_same ((hl.rep n).mono (Ex.new (eh.none hp))))))
end
end E
set_option Elab.async false
set_option linter.all false
set_option maxRecDepth 100000
/-! What _law_is_right leans on, plainly. -/
namespace A
open PySem PySem.Spec PyProof.Rows L2 E
theorem sort_head {n : Nat} {S : List (List Int)} (h : SortOf n S) : ∃ S', S = [] :: S' := by
  obtain ⟨r, hr⟩ := lots_head n
  have hm : [] ∈ S := h.perm.mem_iff.mpr (by rw [hr]; exact .head _)
  cases S with
  | nil => cases hm
  | cons x S' =>
    cases x with
    | nil => exact ⟨S', rfl⟩
    | cons a l =>
      rcases List.mem_cons.mp hm with e | hm
      · cases e
      · have := (List.pairwise_cons.mp h.up).1 [] hm
        cases this
def feasF (q : List Case) (d : D) : Bool := feas q (lotOf d)
theorem lot_day (L : List Int) : lotOf (dayD L) = L := toI_int L
theorem fit_list (q : List Case) (S : List (List Int)) : ((S.map dayD).filter (feasF q)).map id = (S.filter (feas q)).map dayD := by
  rw [List.map_id, List.filter_map]
  congr 1
  refine List.filter_congr fun L _ => ?_
  show feas q (lotOf (dayD L)) = feas q L
  rw [lot_day]
def lenF (d : D) : D := .int (lenT d)
theorem len_list (S : List (List Int)) : ((S.map dayD).filter fun _ => true).map lenF = (S.map fun L => ((L.length : Nat) : Int)).map D.int := by
  rw [filter_all, List.map_map, List.map_map]
  refine List.map_congr_left fun L _ => ?_
  show D.int ((L.map D.int).length : Nat) = D.int (L.length : Nat)
  rw [List.length_map]
def lenIs (m : Nat) (d : D) : Bool := decide ((lenT d : Int) = (m : Int))
theorem lenIs_list (m : Nat) (S : List (List Int)) : ((S.map dayD).filter (lenIs m)).map id = (S.filter fun L => decide (L.length = m)).map dayD := by
  rw [List.map_id, List.filter_map]
  congr 1
  refine List.filter_congr fun L _ => ?_
  show decide (((L.map D.int).length : Int) = (m : Int)) = decide (L.length = m)
  rw [List.length_map]
  exact decide_eq_decide.mpr ⟨fun h => by omega, fun h => by omega⟩
theorem many_ex (q : List Case) : ∃ m, ManyIs q m := by
  have key : ∀ l : List (List Int), (∃ L ∈ l, Fz (rowsOf q L)) → ∃ L ∈ l, Fz (rowsOf q L) ∧ ∀ M ∈ l, Fz (rowsOf q M) → M.length ≤ L.length := by
    intro l
    induction l with
    | nil => rintro ⟨L, h, _⟩; cases h
    | cons a l ih =>
      rintro ⟨L, hL, hf⟩
      by_cases hl : ∃ L ∈ l, Fz (rowsOf q L)
      · obtain ⟨M, hM, fM, uM⟩ := ih hl
        by_cases ha : Fz (rowsOf q a) ∧ M.length ≤ a.length
        · refine ⟨a, .head _, ha.1, fun N hN fN => ?_⟩
          rcases List.mem_cons.mp hN with rfl | hN
          · exact Nat.le_refl _
          · exact Nat.le_trans (uM N hN fN) ha.2
        · refine ⟨M, .tail _ hM, fM, fun N hN fN => ?_⟩
          rcases List.mem_cons.mp hN with rfl | hN
          · have : ¬ M.length ≤ N.length := fun h => ha ⟨fN, h⟩
            omega
          · exact uM N hN fN
      · rcases List.mem_cons.mp hL with rfl | hL
        · refine ⟨L, .head _, hf, fun N hN fN => ?_⟩
          rcases List.mem_cons.mp hN with rfl | hN
          · exact Nat.le_refl _
          · exact absurd ⟨N, hN, fN⟩ hl
        · exact absurd ⟨L, hL, hf⟩ hl
  obtain ⟨r, hr⟩ := lots_head q.length
  obtain ⟨L, h1, h2, h3⟩ := key (lotsN q.length) ⟨[], by rw [hr]; exact .head _, fun x hx => by cases hx⟩
  exact ⟨L.length, ⟨L, h1, h2, rfl⟩, h3⟩
/-- the lengths of those that can -/
theorem many_max {q : List Case} {m : Nat} (h : ManyIs q m) {S : List (List Int)} (hS : SortOf q.length S) : ∀ k, k ∈ ((S.filter (feas q)).map fun L => ((L.length : Nat) : Int)) → (∀ y, y ∈ ((S.filter (feas q)).map fun L => ((L.length : Nat) : Int)) → y ≤ k) → k = (m : Int) := by
  intro k hk hle
  obtain ⟨L, hL, rfl⟩ := List.mem_map.mp hk
  obtain ⟨h1, h2⟩ := List.mem_filter.mp hL
  have a := h.2 L (hS.perm.mem_iff.mp h1) (feas_iff.mp h2)
  obtain ⟨M, m1, m2, m3⟩ := h.1
  have b := hle M.length (List.mem_map.mpr ⟨M, List.mem_filter.mpr ⟨hS.perm.mem_iff.mpr m1, feas_iff.mpr m2⟩, rfl⟩)
  omega
theorem many_best {q : List Case} {m : Nat} (h : ManyIs q m) {S : List (List Int)} (hS : SortOf q.length ([] :: S)) :
    ∃ t, ((([] :: S).filter (feas q)).filter fun L => decide (L.length = m)) = (S.foldl (bestStep (feas q)) (0, [])).2 :: t ∧ (S.foldl (bestStep (feas q)) (0, [])).1 = m := by
  obtain ⟨L, a, b, c⟩ := h.1
  exact best_is hS ⟨L, hS.perm.mem_iff.mpr a, feas_iff.mpr b, c⟩ fun M hM hf => h.2 M (hS.perm.mem_iff.mp hM) (feas_iff.mp hf)
theorem many_le {q : List Case} {m : Nat} (h : ManyIs q m) : m ≤ q.length := by
  obtain ⟨L, a, _, rfl⟩ := h.1
  exact (lots_mem a).2.2
/-- what is no lot, or one of the two that are left out -/
def BadOk (n : Nat) (d : D) : Prop := (PyData.canLay0 (toP d) = true ∨ d = .dic) ∧ lenT d < 100000 ∧ (d ≠ .tup [] → d ≠ .tup [.int 0] → isLot d n = false)
theorem bad_odd {n : Nat} {d : D} (h : Odd d) (hl : lenT d ≤ 1) : BadOk n d := by
  refine ⟨h.1, by omega, fun h1 h2 => ?_⟩
  cases d with
  | tup l =>
    rcases h.2 l rfl with rfl | rfl | ⟨x, rfl, hx⟩
    · exact absurd rfl h1
    · exact absurd rfl h2
    · have hw : within x 0 ((n : Int) - 1) = false := by cases x <;> first | rfl | cases hx
      show ([x].all (within · 0 ((n : Int) - 1)) && _) = false
      rw [List.all_cons, hw]
      rfl
  | _ => rfl
theorem bad_out {n : Nat} {k : Int} (h : ¬ (0 ≤ k ∧ k < (n : Int))) : isLot (.tup [.int k]) n = false := by
  have hw : within (.int k) 0 ((n : Int) - 1) = false := by
    show (decide (0 ≤ k) && decide (k ≤ (n : Int) - 1)) = false
    by_cases h0 : 0 ≤ k
    · rw [decide_eq_true h0, decide_eq_false (by omega)]; rfl
    · rw [decide_eq_false h0]; rfl
  show ([D.int k].all (within · 0 ((n : Int) - 1)) && _) = false
  rw [List.all_cons, hw]
  rfl
theorem bad_two {n : Nat} {a b : Int} (h : ¬ a < b) : isLot (.tup [.int a, .int b]) n = false := by
  show (_ && incr [a, b]) = false
  have : incr [a, b] = false := by unfold incr; rw [decide_eq_false h]; rfl
  rw [this, Bool.and_false]
/-- a queue whose last case comes later -/
theorem later_ok {q : List Case} (hq : Qok q) (h0 : ∀ c ∈ q, c.1 = 0) {c : Case} (hc : c ∈ q) {u : Int} (h1 : 1 ≤ u) (h2 : u ≤ 20) : Qok (q.dropLast ++ [(u, c.2.1, c.2.2)]) ∧ Later (q.dropLast ++ [(u, c.2.1, c.2.2)]) ∧ (q.dropLast ++ [(u, c.2.1, c.2.2)]).length = q.length := by
  have hl : (q.dropLast ++ [(u, c.2.1, c.2.2)]).length = q.length := by
    rw [List.length_append, List.length_dropLast]
    show q.length - 1 + 1 = q.length
    have := hq.h1
    omega
  refine ⟨qok_of (by rw [hl]; exact hq.h1) (by rw [hl]; exact hq.h10) fun x hx => ?_, ⟨(u, c.2.1, c.2.2), by simp, by show ¬ u = 0; omega⟩, hl⟩
  rcases List.mem_append.mp hx with hx | hx
  · have hx := (List.dropLast_sublist q).subset hx
    exact ⟨hq.c0 x hx, hq.c1 x hx, hq.w0 x hx, hq.w1 x hx, hq.d0 x hx, hq.d1 x hx⟩
  · have : x = (u, c.2.1, c.2.2) := by simpa using hx
    subst this
    exact ⟨by show 0 ≤ u; omega, h2, hq.w0 c hc, hq.w1 c hc, hq.d0 c hc, hq.d1 c hc⟩
theorem best_shw {n m : Nat} {L : List Int} (hL : L ∈ lotsN n) (hn : n ≤ 10) (hm : m ≤ 10) : Shw (.lst [bestD (m, L), bestD (m, L)]) := by
  obtain ⟨_, h2, h3⟩ := lots_mem hL
  have lok := day_ok (ns := L) (fun k hk => by have := h2 k hk; omega) (by omega)
  obtain ⟨s1, s2, s3⟩ := small_int (i := (m : Int)) (by omega) (by omega)
  have iok : Ok 2 1 (.int (m : Int)) := ⟨s1, by rw [s3]; decide, s2⟩
  have b := (two_ok iok lok).1
  exact (two_ok b b).2.shw (by decide) (by decide)
theorem strs_eq : PyData.eqv (toP (.lst [.str "together", .str "together", .str "together"])) (toP (.lst (List.replicate 3 [D.str "together"]).flatten)) = true := by decide +kernel
theorem strs_sh : SeqAt.shaped (toP (.lst [.str "together", .str "together", .str "together"])) = true ∧ SeqAt.shaped (toP (.lst (List.replicate 3 [D.str "together"]).flatten)) = true := ⟨by decide +kernel, by decide +kernel⟩
end A
set_option Elab.async false
set_option linter.all false
set_option maxRecDepth 100000
set_option maxHeartbeats 1000000
set_option pp.maxSteps 1500
/-! The walk: _law_is_right. -/
namespace A
open PySem PySem.Spec PyProof.Rows L2 E
section
variable {P : Program} {w : World} {K : PySem.W.Frag} {mg : Str → Option Value} {base : Heap} {NT NL : Addr}
abbrev sp_right : Sp := spH 1 (fun ds => ∃ q, ds = [queueD q] ∧ Qok q ∧ q.length ≤ 7 ∧ ∀ c ∈ q, c.1 = 0) fun _ d => d = .bl true
abbrev N_right : List Str := ["hand", "queue", "every", "fit", "many", "due", "lap", "lot", "less", "bad", "comes", "work", "last", "later", "words", "one"]
theorem S_right : FnScope N_right ["hand", "queue"] (sc 43) := ⟨rfl, rfl, rfl, by decide +kernel, rfl, by decide +kernel, by decide +kernel⟩
theorem B_lot : blkC N_right (sc 43) (match (defBody (top 43)).drop 1 with | .Assign _ (.ListComp _ _ s _) _ :: _ => s | _ => sc 43) [("lot", 7)] = true := by decide +kernel
theorem ok_right {f : Addr} {fd : FuncData} (F : Fun K "_law_is_right" "_law_is_right" (top 43) f fd) (T : Blt mg) (dlots : Cl P w K mg base 1 "_law_lots" sp_lots) (ddf : Cl P w K mg base 1 "_law_do_fit" sp_fit) (cm : ClX P w K mg base 7 "most_in_time" (sp_mit NT)) (ci : ClX P w K mg base 7 "in_time" (sp_int NT NL))
    (dt : Cl P w K mg base 1 "_law_taken" sp_taken) (d1 : Cl P w K mg base 1 "_law_draw" sp_draw) (d2 : Cl P w K mg base 2 "_law_any" sp_any) (dodd : Cl P w K mg base 3 "_law_odd" sp_odd) (dw : Cl P w K mg base 8 "_law_word" sp_word) (cll : Cl P w K mg base 6 "least_late" sp_ll) : FnG P w K mg base 9 f fd ["hand", "queue"] sp_right := by
  refine ok_H (m := 14) F S_right rfl rfl fun cdv A outer s H E ds hr hl hp => ?_
  obtain ⟨q, rfl, hq, h7, h0⟩ := hp
  have h10 := hq.h10
  have h1q := hq.h1
  have hr0 := hr.mono (Nat.zero_le _)
  have hu := room64 hr
  have nl : ¬ Later q := fun ⟨c, hc, h⟩ => h (h0 c hc)
  have nbT : ∀ c, ¬ badT NT [queueD q] c := fun c h => nl (badT_l h)
  have hw : ∀ c ∈ q, 0 ≤ c.2.1 := fun c hc => by have := hq.w0 c hc; omega
  have nbI : ∀ L ∈ lotsN q.length, ∀ c, ¬ badI NT NL [queueD q, dayD L] c := fun L hL c h => by
    rcases badI_at h with ⟨_, h⟩ | ⟨_, _, h⟩
    · exact nl h
    · rw [is_of_lot hL] at h; cases h
  have hlq : (q.map caseD).length = q.length := List.length_map _
  -- the lots
  refine jss_cons (js_set 2 S_right.nd rfl (j_call dlots hr (by decide) (j_cons (j_len T.len (j_var 1 rfl rfl ⟨_, .inl ⟨_, rfl, rfl⟩, j_nil ⟨rfl, ⟨q.length, by rw [hlq], h10⟩, fun d hd => ?_⟩⟩)))))
  obtain ⟨S, hS, rfl⟩ := hd q.length (by rw [hlq])
  obtain ⟨S', rfl⟩ := sort_head hS
  have memS : ∀ L ∈ [] :: S', L ∈ lotsN q.length := fun L h => hS.perm.mem_iff.mp h
  have lenS : ([] :: S').length ≤ 1024 := by
    rw [hS.perm.length_eq, lots_len]
    exact Nat.le_trans (Nat.pow_le_pow_right (by decide) h10) (by decide)
  have lenSD : (([] :: S').map dayD).length < 100000 := by rw [List.length_map]; omega
  -- those that can
  refine jss_cons (js_lcF 3 [("lot", 7)] rfl S_right.nd rfl (blkOk_by (N := N_right) (sc := sc 43) (by decide +kernel)) (own1 rfl) (ji_lst (j_var 2 rfl rfl ⟨_, rfl, ?_⟩)))
  refine ⟨lenSD, feasF q, id, fun d acc hd => ?_, ?_⟩
  · obtain ⟨L, hL, rfl⟩ := List.mem_map.mp hd
    refine ⟨[7], _, fun s H C cl fp => jg_name 7 S_right.nd rfl, fun _ h => h, fun s H C cl fp => jts_one (jt_val (j_call ddf hr (by decide) (j_cons (j_var 1 rfl rfl (j_cons (j_var 7 rfl rfl (j_nil ⟨rfl, ⟨q, L, rfl, ⟨?_, (lots_mem (memS L hL)).2.1⟩, hw⟩, fun d hd => ⟨_, hd q L rfl, ?_, fun _ s H C cl fp => j_var 7 rfl rfl rfl⟩⟩)))))))⟩
    · have := (lots_mem (memS L hL)).2.2; omega
    · show feas q L = feas q (lotOf (dayD L))
      rw [lot_day]
  rw [fit_list]
  obtain ⟨m, hm⟩ := many_ex q
  have hmle := many_le hm
  obtain ⟨t, hbest, hbm⟩ := many_best hm hS
  have lenF1 : (([] :: S').filter (feas q)).length ≤ 1024 := Nat.le_trans (List.length_filter_le _ _) lenS
  have lenFD : ((([] :: S').filter (feas q)).map dayD).length < 100000 := by rw [List.length_map]; omega
  have posF : 0 < (([] :: S').filter (feas q)).length := by
    rw [List.filter_cons, if_pos (feas_nil q)]; exact Nat.succ_pos _
  generalize hfit : ([] :: S').filter (feas q) = fit at hbest lenF1 lenFD posF
  -- how many
  refine jss_cons (js_set 4 S_right.nd rfl (j_max rfl T.max (El.er' (jl_lcF [("lot", 7)] rfl S_right.nd (blkOk_by (N := N_right) (sc := sc 43) (by decide +kernel)) (own1 rfl) (ji_lst (j_var 3 rfl rfl ⟨_, rfl, ?_⟩))))))
  refine ⟨lenFD, fun _ => true, lenF, fun d acc hd => ?_, ?_⟩
  · obtain ⟨L, hL, rfl⟩ := List.mem_map.mp hd
    exact ⟨[7], _, fun s H C cl fp => jg_name 7 S_right.nd rfl, fun _ h => h, fun s H C cl fp => jts_nil ⟨rfl, fun _ s H C cl fp => j_len T.len (j_var 7 rfl rfl ⟨_, .inl ⟨_, rfl, rfl⟩, rfl⟩)⟩⟩
  rw [len_list]
  refine ⟨_, (m : Int), rfl, by rw [List.length_map]; exact posF, ?_, ?_⟩
  · rw [← hfit]; exact many_max hm hS
  -- what is due
  refine jss_cons (js_set 5 S_right.nd rfl (j_tup (j_cons (j_var 4 rfl rfl (j_cons (j_ixL (El.er' (jl_lcF [("lot", 7)] rfl S_right.nd (blkOk_by (N := N_right) (sc := sc 43) (by decide +kernel)) (own1 rfl) (ji_lst (j_var 3 rfl rfl ⟨_, rfl, ?_⟩))))))))))
  refine ⟨lenFD, lenIs m, id, fun d acc hd => ?_, ?_⟩
  · obtain ⟨L, hL, rfl⟩ := List.mem_map.mp hd
    exact ⟨[7], _, fun s H C cl fp => jg_name 7 S_right.nd rfl, fun _ h => h, fun s H C cl fp => jts_one (jt_cmp (j_len T.len (j_var 7 rfl rfl ⟨_, .inl ⟨_, rfl, rfl⟩, j_var 4 rfl rfl ⟨_, .eq _ _, rfl, fun _ s H C cl fp => j_var 7 rfl rfl rfl⟩⟩)))⟩
  rw [lenIs_list, hbest]
  refine j_int ⟨_, 0, _, rfl, rfl, atI_0, j_nil ⟨Nat.le_of_ble_eq_true rfl, ?_⟩⟩
  generalize hb : S'.foldl (bestStep (feas q)) (0, []) = b at hbest hbm
  have hbL : b.2 ∈ lotsN q.length := by
    have : b.2 ∈ fit.filter fun L => decide (L.length = m) := by rw [hbest]; exact .head _
    have := (List.mem_filter.mp this).1
    rw [← hfit] at this
    exact memS _ (List.mem_filter.mp this).1
  have shw := best_shw (m := m) hbL h10 (by omega)
  show Sr [.h, .d (queueD q), .d (.lst (([] :: S').map dayD)), .d (.lst (fit.map dayD)), .d (.int (m : Int)), .d (bestD (m, b.2)), .u, .u, .u, .u, .u, .u, .u, .u, .u, .u] [] _ _
  -- told alike
  have mit : ∀ d, (∀ q', [queueD q] = [queueD q'] → ∃ S, SortOf q'.length ([] :: S) ∧ d = bestD (S.foldl (bestStep (feas q')) (0, []))) → d = bestD (m, b.2) := fun d hd => by
    obtain ⟨S2, h2, rfl⟩ := hd q rfl
    have := hS.uniq h2
    injection this with _ this
    subst this
    rw [hb, ← hbm]
  refine jss_cons (js_if (jt_w (jw_or (jt_cmp (j_repr hr0 T.repr (j_lst (j_cons (j_callX cm hr (by decide) (j_cons (j_var 1 rfl rfl (j_nil ⟨rfl, ⟨q, rfl, hq⟩, nbT, fun d hd => ?_⟩)))))))))))
  obtain rfl := mit d hd
  refine j_cons (j_callX cm hr (by decide) (j_cons (j_var 1 rfl rfl (j_nil ⟨rfl, ⟨q, rfl, hq⟩, nbT, fun d hd => ?_⟩))))
  obtain rfl := mit d hd
  refine j_nil ⟨Nat.le_of_ble_eq_true rfl, shw, j_repr hr0 T.repr (j_lst (j_cons (j_var 5 rfl rfl (j_cons (j_var 5 rfl rfl (j_nil ⟨Nat.le_of_ble_eq_true rfl, shw, _, .neS _ _, fun _ => ?_, fun e => by simp at e⟩))))))⟩
  refine jw_or1 (jt_cmp (j_call dt hr (by decide) (j_cons (j_var 1 rfl rfl (j_nil ⟨rfl, ⟨q, rfl, hq⟩, fun d hd => ?_⟩)))))
  obtain ⟨m2, rfl, hm2⟩ := hd q rfl
  obtain rfl := hm.uniq hm2
  refine j_var 4 rfl rfl ⟨_, .ne _ _, fun e => by simp at e, fun _ => jss_nil ?_⟩
  -- five lots
  refine jss_cons (js_for PassesOwn.never rfl (ji_range T.range (j_int ⟨5, rfl, by decide, ?_⟩)))
  refine ⟨fun k sl ms => ∃ a l c, sl = [.h, .d (queueD q), .d (.lst (([] :: S').map dayD)), .d (.lst (fit.map dayD)), .d (.int (m : Int)), .d (bestD (m, b.2)), a, l, c, .u, .u, .u, .u, .u, .u, .u] ∧ ms = [], ⟨.u, .u, .u, rfl, rfl⟩, ?_, ?_⟩
  · rintro k d sl1 ms1 hd ⟨a, l, c, rfl, rfl⟩
    refine ⟨_, _, jg_name 6 S_right.nd rfl, ?_⟩
    refine jss_cons (js_set 7 S_right.nd rfl (j_callH 0 d2 hr (by decide) rfl rfl (j_cons (j_var 2 rfl rfl (j_nil ⟨rfl, ⟨_, rfl, by rw [List.length_map]; exact Nat.succ_pos _, lenSD⟩, fun d hd => ?_⟩)))))
    obtain ⟨L, hL, rfl⟩ := List.mem_map.mp (hd _ rfl)
    have hLn := memS L hL
    have hLl := (lots_mem hLn).2.2
    have hlL : (L.map D.int).length = L.length := List.length_map _
    have hin : decide (L ∈ fit) = feas q L := by
      rw [← hfit]
      cases e : feas q L with
      | true => exact decide_eq_true (List.mem_filter.mpr ⟨hL, e⟩)
      | false => exact decide_eq_false fun h => by rw [(List.mem_filter.mp h).2] at e; cases e
    refine jss_cons (js_if (jt_cmp (j_repr hr0 T.repr (j_callX ci hr (by decide) (j_cons (j_var 1 rfl rfl (j_cons (j_var 7 rfl rfl (j_nil ⟨rfl, ⟨q, _, rfl, hq, ?_⟩, nbI L hLn, fun d hd => ?_⟩)))))))))
    · show (L.map D.int).length < 100000
      omega
    obtain rfl := hd q L rfl
    refine ⟨bl_shw _, j_repr hr0 T.repr (j_inL hu (j_var 7 rfl rfl (j_var 3 rfl rfl ⟨L, fit, rfl, rfl, bl_shw _, _, .neS _ _, fun e => ?_, fun _ => jss_nil ?_⟩)))⟩
    · rw [hin] at e; simp at e
    refine jss_cons (js_set 8 S_right.nd rfl (j_tupleL T.tup (El.er' (jl_lc [("one", 15)] rfl S_right.nd (blkOk_by (N := N_right) (sc := sc 43) (by decide +kernel)) (own1 rfl) (ji_tup (j_var 7 rfl rfl ⟨L.map D.int, rfl, ?_⟩))))))
    refine ⟨by omega, fun i acc => ∃ M : List Int, acc = M.map D.int ∧ M.Sublist (L.take i), ⟨[], rfl, List.nil_sublist _⟩, fun i d acc hd hacc => ?_, fun acc hacc => ?_⟩
    · obtain ⟨M, rfl, hM⟩ := hacc
      rw [List.getElem?_map] at hd
      cases hi : L[i]? with
      | none => rw [hi] at hd; cases hd
      | some n =>
        rw [hi] at hd
        cases hd
        have ht : L.take (i + 1) = L.take i ++ [n] := by rw [List.take_add_one, hi]; rfl
        refine ⟨[15], _, fun s H C cl fp => jg_name 15 S_right.nd rfl, fun _ h => h, fun s H C cl fp => jts_one (jt_cmp (j_callH 0 d1 hr (by decide) rfl rfl (j_cons (j_int (j_nil ⟨rfl, ⟨2, rfl, by decide, by decide⟩, fun d hd => ?_⟩)))))⟩
        obtain ⟨v, rfl, _⟩ := hd 2 rfl
        refine j_int ⟨_, .eq _ _, fun _ s H C cl fp => j_var 15 rfl rfl ⟨M ++ [n], ?_, ?_⟩, fun _ => ⟨M, rfl, ?_⟩⟩
        · rw [List.map_append]; rfl
        · rw [ht]; exact hM.append (List.Sublist.refl _)
        · rw [ht]; exact hM.trans (List.sublist_append_left _ _)
    obtain ⟨M, rfl, hM⟩ := hacc
    rw [List.length_map, List.take_length] at hM
    have hMn : M ∈ lotsN q.length := sub_lots (hM.trans (lots_sub hLn))
    refine ⟨_, rfl, ?_⟩
    refine jss_one (js_if (jt_w (jw_and (jt_inL hu (j_var 7 rfl rfl (j_var 3 rfl rfl ⟨L, fit, rfl, rfl, fun e => ?_, fun e => ⟨(fun z => by cases z), fun _ => jss_nil ⟨.d (.int ((k : Nat) : Int)), .d (dayD L), .d (dayD M), ?_, rfl⟩⟩⟩))))))
    · rw [hin] at e
      refine jw_and1 (jt_cmp (j_callX ci hr (by decide) (j_cons (j_var 1 rfl rfl (j_cons (j_var 8 rfl rfl (j_nil ⟨rfl, ⟨q, _, rfl, hq, ?_⟩, nbI M hMn, fun d hd => ?_⟩)))))))
      · show (M.map D.int).length < 100000
        have := hM.length_le
        rw [List.length_map]
        omega
      obtain rfl := hd q M rfl
      rw [feas_sub hw (lots_mem hLn).2.1 hM e]
      refine j_bl ⟨_, .isnot _ _, (fun z => by simp at z), fun _ => jss_nil ⟨.d (.int ((k : Nat) : Int)), .d (dayD L), .d (dayD M), ?_, rfl⟩⟩
      obtain ⟨_, rfl⟩ := numbers_get ‹_›
      rfl
    · obtain ⟨_, rfl⟩ := numbers_get ‹_›
      rfl
  rintro sl1 ms1 ⟨a, l, c, rfl, rfl⟩
  -- what is no lot
  refine jss_cons (js_set 9 S_right.nd rfl (j_callH 0 d2 hr (by decide) rfl rfl (j_cons (j_lst ?_))))
  refine j_con ?_
  refine j_non ?_
  refine j_con ?_
  refine j_lst (j_cons (j_int (j_nil ⟨Nat.le_of_ble_eq_true rfl, ?_⟩)))
  refine j_con ?_
  refine j_tup (j_cons (j_len T.len (j_var 1 rfl rfl ⟨_, .inl ⟨_, rfl, rfl⟩, j_nil ⟨Nat.le_of_ble_eq_true rfl, ?_⟩⟩)))
  refine j_con ?_
  refine j_tup (j_cons (j_neg (j_int ⟨1, rfl, j_nil ⟨Nat.le_of_ble_eq_true rfl, ?_⟩⟩)))
  refine j_con ?_
  refine j_tup (j_cons (j_int (j_cons (j_int (j_nil ⟨Nat.le_of_ble_eq_true rfl, ?_⟩)))))
  refine j_con ?_
  refine j_tup (j_cons (j_int (j_cons (j_int (j_nil ⟨Nat.le_of_ble_eq_true rfl, ?_⟩)))))
  refine j_con ?_
  refine j_tup (j_cons (j_bl (j_nil ⟨Nat.le_of_ble_eq_true rfl, ?_⟩)))
  refine j_con ?_
  refine j_str ?_
  refine j_con ?_
  refine j_int ?_
  refine j_con ?_
  refine j_callH 0 dodd hr (by decide) rfl rfl (j_nil ⟨rfl, trivial, fun od hod => ?_⟩)
  refine j_nil ⟨Nat.le_of_ble_eq_true rfl, j_nil ⟨rfl, ⟨_, rfl, Nat.le_of_ble_eq_true rfl, Nat.le_of_ble_eq_true rfl⟩, fun bad hbad => ?_⟩⟩
  have hbad : BadOk q.length bad := by
    have hbad := hbad _ rfl
    rw [hlq] at hbad
    simp only [List.mem_cons, List.not_mem_nil, or_false] at hbad
    rcases hbad with rfl | rfl | rfl | rfl | rfl | rfl | rfl | rfl | rfl | rfl
    · exact ⟨.inl rfl, by decide, fun _ _ => rfl⟩
    · exact ⟨.inl rfl, by decide, fun _ _ => rfl⟩
    · exact ⟨.inl rfl, by show 1 < 100000; decide, fun _ _ => bad_out (by omega)⟩
    · exact ⟨.inl rfl, by show 1 < 100000; decide, fun _ _ => bad_out (by omega)⟩
    · exact ⟨.inl rfl, by show 2 < 100000; decide, fun _ _ => bad_two (by omega)⟩
    · exact ⟨.inl rfl, by show 2 < 100000; decide, fun _ _ => bad_two (by omega)⟩
    · exact ⟨.inl rfl, by show 1 < 100000; decide, fun _ _ => rfl⟩
    · exact ⟨.inl (by decide +kernel), by decide, fun _ _ => rfl⟩
    · exact ⟨.inl rfl, by decide, fun _ _ => rfl⟩
    · exact bad_odd hod.2.2 hod.2.1
  -- () and (0,) are none of it
  have key : ∀ x : D, isLot x q.length = false → lenT x < 100000 → Sr [.h, .d (queueD q), .d (.lst (([] :: S').map dayD)), .d (.lst (fit.map dayD)), .d (.int (m : Int)), .d (bestD (m, b.2)), a, l, c, .d x, .u, .u, .u, .u, .u, .u] []
      (wSs (cx P w K mg base N_right "_law_is_right" (top 43) f cdv A outer s H E) ((defBody (top 43)).drop 8)) { nx := fun _ _ => D.non = .bl true, rt := fun d => d = .bl true } := fun x hx hxl => by
    have word : ∀ (q' : List Case) (i : Int) (y d : D), Qok q' → (Later q' → (∀ q2 i2 x2, [queueD q', .int i, y] = [queueD q2, .int i2, x2] → (Later q2 → d = .str "together") ∧ (¬ Later q2 → d = .str "lot")) → d = .str "together") := fun q' i y d _ hl h => (h q' i y rfl).1 hl
    refine jss_cons (js_if (jt_cmp (j_call dw hr (by decide) (j_cons (j_var 1 rfl rfl (j_cons (j_int (j_cons (j_var 9 rfl rfl (j_nil ⟨rfl, ⟨q, 1, x, rfl, hq, hxl, .inr ⟨rfl, hx⟩⟩, fun d hd => ?_⟩))))))))))
    obtain rfl := (hd q 1 x rfl).2 nl
    refine j_str ⟨_, .neS _ _, fun e => by simp at e, fun _ => jss_nil ?_⟩
    -- one that comes later
    have hne : q ≠ [] := List.length_pos_iff.mp h1q
    obtain ⟨cl, hcl⟩ : ∃ cl, q.getLast? = some cl := ⟨_, List.getLast?_eq_some_getLast hne⟩
    have hclm : cl ∈ q := List.mem_of_getLast? hcl
    have hlast : (q.map caseD).getLast? = some (caseD cl) := by rw [List.getLast?_map, hcl]; rfl
    refine jss_cons (js_tg (j_ixT (j_var 1 rfl rfl (j_neg (j_int ⟨_, rfl, _, _, _, rfl, rfl, atI_last hlast, _, _, jg_tup rfl (jgs_cons (jg_name 10 S_right.nd rfl) (jgs_cons (jg_name 11 S_right.nd rfl) (jgs_cons (jg_name 12 S_right.nd rfl) jgs_nil))), ?_⟩)))))
    refine jss_cons (js_set 13 S_right.nd rfl (j_cat (j_slT (j_var 1 rfl rfl (jo_n (jo_s (j_neg (j_int ⟨1, rfl, -1, rfl, q.map caseD, rfl, j_tup (j_cons (j_tup (j_cons (j_add (j_int (j_callH 0 d1 hr (by decide) rfl rfl (j_cons (j_int (j_nil ⟨rfl, ⟨20, rfl, by decide, by decide⟩, fun d hd => ?_⟩)))))))))⟩))))))))
    obtain ⟨u, rfl, hu20⟩ := hd 20 rfl
    refine ⟨_, _, rfl, rfl, j_cons (j_var 11 rfl rfl (j_cons (j_var 12 rfl rfl (j_nil ⟨Nat.le_of_ble_eq_true rfl, j_nil ⟨Nat.le_of_ble_eq_true rfl, _, _, rfl, rfl, ?_, ?_⟩⟩))))⟩
    · rw [cut_init _ (by omega), List.length_dropLast]
      show (q.map caseD).length - 1 + 1 ≤ 100000
      omega
    rw [cut_init _ (by omega)]
    obtain ⟨lk1, lk2, lk3⟩ := later_ok hq h0 hclm (u := 1 + (u : Int)) (by omega) (by omega)
    have hform : D.tup ((q.map caseD).dropLast ++ [.tup [.int (1 + (u : Int)), .int cl.2.1, .int cl.2.2]]) = queueD (q.dropLast ++ [(1 + (u : Int), cl.2.1, cl.2.2)]) := by
      unfold queueD
      rw [List.map_append, List.map_dropLast]
      rfl
    rw [hform]
    generalize q.dropLast ++ [(1 + (u : Int), cl.2.1, cl.2.2)] = q' at lk1 lk2 lk3
    -- the words
    refine jss_cons (js_set 14 S_right.nd rfl (j_lst ?_))
    refine j_con ?_
    refine j_call dw hr (by decide) (j_cons (j_var 13 rfl rfl (j_cons (j_int (j_cons (j_tup (j_nil ⟨Nat.zero_le _, j_nil ⟨rfl, ⟨q', 0, .tup [], rfl, lk1, by decide, .inl lk2⟩, fun d hd => ?_⟩⟩)))))))
    obtain rfl := (hd q' 0 (.tup []) rfl).1 lk2
    refine j_con ?_
    refine j_call dw hr (by decide) (j_cons (j_var 13 rfl rfl (j_cons (j_int (j_cons (j_tup (j_nil ⟨Nat.zero_le _, j_nil ⟨rfl, ⟨q', 1, .tup [], rfl, lk1, by decide, .inl lk2⟩, fun d hd => ?_⟩⟩)))))))
    obtain rfl := (hd q' 1 (.tup []) rfl).1 lk2
    refine j_con ?_
    refine j_call dw hr (by decide) (j_cons (j_var 13 rfl rfl (j_cons (j_int (j_cons (j_var 9 rfl rfl (j_nil ⟨rfl, ⟨q', 1, x, rfl, lk1, hxl, .inl lk2⟩, fun d hd => ?_⟩)))))))
    obtain rfl := (hd q' 1 x rfl).1 lk2
    refine j_nil ⟨Nat.le_of_ble_eq_true rfl, ?_⟩
    -- the end
    refine jss_one (js_ret (j_and (j_eqA hu (j_var 14 rfl rfl (j_repL (j_lst (j_cons (j_str (j_nil ⟨Nat.le_of_ble_eq_true rfl, j_int ⟨_, 3, rfl, rfl, by decide, by decide, strs_sh.1, strs_sh.2, ?_⟩⟩)))))))))
    rw [strs_eq]
    refine ⟨true, rfl, fun _ => j_one (j_eqB (j_cmp (j_var 4 rfl rfl (j_len T.len (j_var 1 rfl rfl ⟨_, .inl ⟨_, rfl, rfl⟩, _, .eq _ _, j_cmp (j_ixT (j_call cll hr (by decide) (j_cons (j_var 1 rfl rfl (j_nil ⟨rfl, ⟨q, rfl, hq⟩, fun d hd => ?_⟩)))))⟩))))), fun z => by cases z⟩
    obtain ⟨mm, L, hmm, hsh, rfl⟩ := hd q rfl
    refine j_int ⟨_, _, _, rfl, rfl, rfl, j_int ⟨_, .lt _ _, _, _, rfl, rfl, ?_⟩⟩
    have e1 : ((m : Int) = ((q.map caseD).length : Int)) ↔ lateOf q (ledN q mm).2 < 1 := by
      rw [hlq]
      have a1 := many_all hm.1 hm.2
      have a2 := late_iff h0 hsh
      constructor
      · intro h
        have := a2.mpr (a1.mp (by omega))
        omega
      · intro h
        have := a1.mpr (a2.mp (by omega))
        omega
    have e2 : decide ((m : Int) = ((q.map caseD).length : Int)) = decide (lateOf q (ledN q mm).2 < 1) := decide_eq_decide.mpr e1
    rw [e2]
    exact congrArg D.bl (decide_eq_true rfl)
  refine jss_cons (js_set 9 S_right.nd rfl (j_if (jt_notInT hu (j_var 9 rfl rfl (j_tup (j_cons (j_tup (j_nil ⟨Nat.zero_le _, j_cons (j_tup (j_cons (j_int (j_nil ⟨Nat.le_of_ble_eq_true rfl, j_nil ⟨Nat.le_of_ble_eq_true rfl, [[], [0]], rfl, hbad.1, fun k hk => ⟨fun e => j_var 9 rfl rfl ?_, fun e => j_non ?_⟩⟩⟩))))⟩))))))))
  · have hk := hk e
    exact key bad (hbad.2.2 (hk [] (by simp)) (hk [0] (by simp))) hbad.2.1
  · exact key .non rfl (by decide)
end
end A
set_option Elab.async false
set_option linter.all false
set_option maxRecDepth 100000
set_option pp.maxSteps 400
/-! The hand, the law. -/
namespace A
open PySem PySem.Spec PyProof.Rows L2 E
def absI (z : Int) : Int := if z < 0 then -z else z
theorem absI_nn (z : Int) : 0 ≤ absI z := by unfold absI; split <;> omega
theorem cut63 {ns : List Int} (h : ns.length ≤ 63) : cutV (ns.map V.int) none (some 63) = ns.map V.int := by
  unfold cutV
  rw [HT.sIx_none, show (some (63 : Int)) = some ((63 : Nat) : Int) from rfl, HT.sIx_nat, List.length_map, Nat.min_eq_right h]
  show List.take (ns.length - 0) (ns.map V.int) = _
  rw [Nat.sub_zero, List.take_of_length_le (by rw [List.length_map]; exact Nat.le_refl _)]
theorem upd_twice (H : Hp) (a : Addr) (x y : HO) : upd (upd H a x) a y = upd H a y := by
  funext b
  by_cases h : b = a
  · subst h; rw [upd_same, upd_same]
  · rw [upd_ne h, upd_ne h, upd_ne h]
section
variable {P : Program} {w : World} {K : PySem.W.Frag} {mg : Str → Option Value} {base : Heap}
abbrev sp_hand (K : PySem.W.Frag) : Sp := fun vs H Q _ => ∃ (a : Addr) (ns : List Int), vs = [.ref a] ∧ SqL K H a (ns.map V.int) ∧ ns.length ≤ 63 ∧
  ∀ (H' : Hp) (h c : Addr) (cs : List Int) (i3 : Int), h ≠ c → H' h = some (.lst [.ref c, .int 0, .int 0, .int i3, .int 0]) → H' c = some (.lst (cs.map V.int)) → (∀ z ∈ cs, 0 ≤ z) → cs.length ≤ 63 → 0 ≤ i3 → Q (.ref h) H'
abbrev N_hand : List Str := ["script", "cells", "cell"]
theorem S_hand : FnScope N_hand ["script"] (sc 31) := ⟨rfl, rfl, rfl, by decide +kernel, rfl, by decide +kernel, by decide +kernel⟩
theorem ok_hand {f : Addr} {fd : FuncData} (F : Fun K "_law_hand" "_law_hand" (top 31) f fd) (T : Blt mg) : FnG P w K mg base 1 f fd ["script"] (sp_hand K) := by
  refine fun_G F S_hand (fun vs H Q E h => ?_) fun cdv A outer s H vs Q E hr h => ?_
  · obtain ⟨a, ns, rfl, _⟩ := h
    rfl
  · obtain ⟨a, ns, rfl, hS, h63, q⟩ := h
    refine ⟨_, pss_cons (ps_setLc (i := 1) (own := [("cell", 2)]) rfl S_hand.nd rfl rfl rfl (pi_list (pe_slice sl_list (pv 0) po_none (po_some pe_int))) (blkOk_by (N := N_hand) (sc := sc 31) (by decide +kernel))
      (fun s H C cl fp => pg_name (i := 2) S_hand.nd rfl (Or.inl rfl)) (fun s H C cl fp => pts_nil) (fun s H C cl fp => pe_callB call_abs (by rfl) T.abs (by decide +kernel) (pa_cons (pe_callTy call_int1 (by rfl) T.int boot_int (pa_cons (pv 2) pa_nil)) pa_nil)))
      (pss_one (ps_ret (pe_lst (pa_cons (pv 1) (pa_cons pe_int (pa_cons pe_int (pa_cons (pe_op op_add pe_int (pe_op op_mul pe_int (pe_callB call_len_seq (by rfl) T.len PySem.boot_len (pa_cons (pv 1) pa_nil)))) (pa_cons pe_int pa_nil)))))))), ?_⟩
    refine ⟨.ref a, rfl, 63, rfl, a, _, rfl, hS, fun p hp => ⟨p, rfl, ⟨_, .inl (.inl upd_same)⟩, fun Dd hD => ?_⟩⟩
    rw [cut63 h63] at hD ⊢
    have hpD : Dd ≠ p := fun z => by subst z; rw [upd_same] at hD; cases hD
    refine ⟨fun i m H' => m = ns.length - i ∧ i ≤ ns.length ∧ H' = upd (upd H p (.lst (ns.map V.int))) Dd (.lst ((ns.take i).map fun z => V.int (absI z))), ⟨_, rfl, Nat.zero_le _, rfl⟩, ?_⟩
    rintro i m H' ⟨rfl, hi, rfl⟩
    have hsq : SqL K (upd (upd H p (.lst (ns.map V.int))) Dd (.lst ((ns.take i).map fun z => V.int (absI z)))) p (ns.map V.int) := .inl (.inl (by rw [upd_ne (Ne.symm hpD)]; exact upd_same))
    by_cases hlt : i < ns.length
    · have hget : (ns.map V.int)[i]? = some (.int ns[i]) := by rw [List.getElem?_map, List.getElem?_eq_getElem hlt]; rfl
      refine .inr ⟨⟨_, _, hsq, hget⟩, _, fun H' z => ⟨ns.length - (i + 1), by omega, rfl, hlt, z⟩, fun x H'' y => ?_⟩
      obtain ⟨rfl, hy⟩ := y
      have hx := hy _ hsq
      rw [hget] at hx
      obtain rfl := Option.some.inj hx
      refine ⟨rfl, ?_⟩
      dsimp only [tYes]
      rw [if_pos (rfl : true = true)]
      refine ⟨.int ns[i], rfl, .inl ⟨ns[i], rfl, ns[i], rfl, _, upd_same, ?_, ?_⟩⟩
      · rw [List.length_map, List.length_take]
        exact Nat.lt_of_le_of_lt (Nat.min_le_right _ _) (Nat.lt_of_le_of_lt h63 (by decide))
      · rw [upd_twice, List.take_add_one, List.getElem?_eq_getElem hlt, List.map_append]
        rfl
    · have e : i = ns.length := by omega
      subst e
      refine .inl ⟨⟨_, hsq, by rw [List.length_map]; exact Nat.le_refl _⟩, ?_⟩
      rw [List.take_length]
      refine ⟨.ref Dd, rfl, .ref Dd, rfl, Dd, _, rfl, .inl (.inl (.inl upd_same)), 5, _, rfl, rfl, .inl ⟨by decide, by decide⟩, 83, _, rfl, rfl, by show 5 ≤ sizeLine; decide, fun h hh => ?_⟩
      have hne : h ≠ Dd := fun z => by subst z; rw [upd_same] at hh; cases hh
      refine q _ h Dd (ns.map absI) _ hne upd_same ?_ (fun z hz => ?_) (by rw [List.length_map]; exact h63) (by omega)
      · rw [upd_ne (Ne.symm hne), upd_same, List.map_map]
        rfl
      · obtain ⟨y, _, rfl⟩ := List.mem_map.mp hz
        exact absI_nn y
end
end A
set_option Elab.async false
set_option linter.all false
set_option maxRecDepth 100000
set_option pp.maxSteps 400
/-! The law's statements. -/
namespace A
open PySem PySem.Spec PyProof.Rows L2 E
abbrev known : List Case := [(0, 2, 2), (0, 1, 3), (0, 3, 4), (0, 1, 4)]
abbrev one1 : List Case := [(3, 1, 2)]
abbrev two2 : List Case := [(0, 2, 5), (4, 1, 4)]
theorem cok_of {c : Case} (h : decide (0 ≤ c.1) && decide (c.1 ≤ 20) && decide (1 ≤ c.2.1) && decide (c.2.1 ≤ 8) && decide (0 ≤ c.2.2) && decide (c.2.2 ≤ 40) = true) : Cok c := by
  simp only [Bool.and_eq_true, decide_eq_true_eq] at h
  obtain ⟨⟨⟨⟨⟨h1, h2⟩, h3⟩, h4⟩, h5⟩, h6⟩ := h
  exact ⟨h1, h2, h3, h4, h5, h6⟩
theorem known_ok : Qok known := qok_of (by decide) (by decide) fun c hc => by
  simp only [List.mem_cons, List.not_mem_nil, or_false] at hc
  rcases hc with rfl | rfl | rfl | rfl <;> exact cok_of (by decide)
theorem one_ok : Qok one1 := qok_of (by decide) (by decide) fun c hc => by
  simp only [List.mem_cons, List.not_mem_nil, or_false] at hc
  rcases hc with rfl
  exact cok_of (by decide)
theorem two_okq : Qok two2 := qok_of (by decide) (by decide) fun c hc => by
  simp only [List.mem_cons, List.not_mem_nil, or_false] at hc
  rcases hc with rfl | rfl <;> exact cok_of (by decide)
theorem known_now : ¬ Later known := fun ⟨c, hc, h⟩ => by
  simp only [List.mem_cons, List.not_mem_nil, or_false] at hc
  rcases hc with rfl | rfl | rfl | rfl <;> exact h rfl
abbrev S4 : List (List Int) := [[0], [0, 1], [0, 1, 2], [0, 1, 2, 3], [0, 1, 3], [0, 2], [0, 2, 3], [0, 3], [1], [1, 2], [1, 2, 3], [1, 3], [2], [2, 3], [3]]
theorem S4_perm : ([] :: S4).Perm (lotsN 4) := by decide +kernel
theorem S4_up : ([] :: S4).Pairwise fun a b => HT.lexLt b a = false := by decide +kernel
theorem S4_best : S4.foldl (bestStep (feas known)) (0, []) = (3, [0, 1, 3]) := by decide +kernel
theorem best4 {d : D} (h : ∃ S, SortOf known.length ([] :: S) ∧ d = bestD (S.foldl (bestStep (feas known)) (0, []))) : d = .tup [.int 3, dayD [0, 1, 3]] := by
  obtain ⟨S, hS, rfl⟩ := h
  have := hS.uniq ⟨S4_perm, S4_up⟩
  injection this with _ this
  rw [this, S4_best]
  rfl
theorem feas12 : feas known [1, 2] = true := by decide +kernel
theorem feas02 : feas known [0, 2] = false := by decide +kernel
theorem lot12 : isLot (dayD [1, 2]) (known.length : Nat) = true := by decide +kernel
theorem lot02 : isLot (dayD [0, 2]) (known.length : Nat) = true := by decide +kernel
theorem sharp1 : sharpL one1 = [0] := by decide +kernel
theorem sharp2 : sharpL two2 = [1] := by decide +kernel
theorem told_shw : Shw (.lst [.tup [.int 3, dayD [0, 1, 3]], .bl true, .bl false]) := ⟨by decide +kernel, by decide +kernel, by decide +kernel⟩
theorem sharp_shw {q : List Case} (hq : Qok q) : Shw (.lst [dayD (sharpL q), dayD (sharpL q)]) := by
  have h10 := hq.h10
  have hl : (sharpL q).length ≤ q.length := sharp_len q q.length
  have ok := day_ok (ns := sharpL q) (fun n hn => by
    obtain ⟨j, hj, rfl⟩ := List.mem_map.mp hn
    have := List.mem_range.mp (List.mem_filter.mp hj).1
    omega) (by omega)
  exact (two_ok ok ok).2.shw (by decide) (by decide)
theorem law_end {t : TS} {H' : Hp} {h c : Addr} {cs : List Int} {i3 : Int} {a : V} {Q : VK} (rest : Sr [.u, .h, .u, .u, .u, .u] [] t { nx := fun _ _ => False, rt := fun d => d = .bl true })
    (hhc : h ≠ c) (hh : H' h = some (.lst [.ref c, .int 0, .int 0, .int i3, .int 0])) (hc : H' c = some (.lst (cs.map V.int))) (hcs : ∀ z ∈ cs, 0 ≤ z) (hc63 : cs.length ≤ 63) (hi3 : 0 ≤ i3) (q : ∀ H', Q (.bl true) H') :
    t { nx := fun _ H' => Q .non H', rt := Q } [some a, some (.ref h), none, none, none, none] H' := by
  have hF : Ex (upd (fun _ => none) c (HO.lst (cs.map V.int))) H' := fun b o e => by
    by_cases hb : b = c
    · subst hb; rw [upd_same] at e; rw [hc]; exact e
    · rw [upd_ne hb] at e; cases e
  have at0 : At (some h) (upd (fun _ => none) c (HO.lst (cs.map V.int))) H' (upd (fun _ => none) c (HO.lst (cs.map V.int))) [] [.u, .h, .u, .u, .u, .u] [] [] [some a, some (.ref h), none, none, none, none] H' := by
    refine ⟨Ext.refl hF, List.nodup_nil, rfl, fun k p ds hk => by simp at hk, rfl, fun i sx hs => ?_, fun x hx => by simp at hx, fun h' e => ?_⟩
    · match i, hs with
      | 0, hs => cases hs; exact ⟨_, rfl, trivial⟩
      | 1, hs => cases hs; exact ⟨_, rfl, h, rfl, rfl⟩
      | 2, hs => cases hs; exact ⟨_, rfl, trivial⟩
      | 3, hs => cases hs; exact ⟨_, rfl, trivial⟩
      | 4, hs => cases hs; exact ⟨_, rfl, trivial⟩
      | 5, hs => cases hs; exact ⟨_, rfl, trivial⟩
      | n + 6, hs => simp at hs
    · cases e
      exact ⟨upd_ne hhc, c, cs, 0, 0, i3, 0, hh, upd_same, hcs, Int.le_refl _, Int.le_refl _, hi3, Int.le_refl _, hc63⟩
  refine rest _ _ _ _ _ _ _ _ at0 _ (fun _ _ _ _ _ _ z => z.elim) (fun v d F' H'' hd _ _ dn => ?_) (fun _ _ _ _ _ _ z => z.elim) (fun _ _ _ _ _ _ z => z.elim)
  subst hd
  cases dn
  exact q H''
section
variable {P : Program} {w : World} {K : PySem.W.Frag} {mg : Str → Option Value} {base : Heap}
abbrev sp_law (K : PySem.W.Frag) : Sp := fun vs H Q _ => ∃ (a : Addr) (ns : List Int), vs = [.ref a] ∧ SqL K H a (ns.map V.int) ∧ ns.length ≤ 63 ∧ ∀ H', Q (.bl true) H'
abbrev N_law : List Str := ["script", "hand", "known", "told", "lap", "queue"]
theorem law_start {u : TS} {a : Addr} {ns : List Int} {Q : VK} {H : Hp} (hS : SqL K H a (ns.map V.int)) (h63 : ns.length ≤ 63) (q : ∀ H', Q (.bl true) H') (rest : Sr [.u, .h, .u, .u, .u, .u] [] u { nx := fun _ _ => False, rt := fun d => d = .bl true }) :
    tSeq (tAsg (tCall (sp_hand K) [] E0 (tCons (tVar 0) tNil)) (gName 1)) u { nx := fun _ H' => Q .non H', rt := Q } (L2.start N_law [.ref a]) H := by
  refine ⟨.ref a, rfl, a, ns, rfl, hS, h63, fun H' h c cs i3 hhc hh hc hcs hc63 hi3 => ?_⟩
  exact law_end rest hhc hh hc hcs hc63 hi3 q
theorem S_law : FnScope N_law ["script"] (sc 44) := ⟨rfl, rfl, rfl, by decide +kernel, rfl, by decide +kernel, by decide +kernel⟩
@[irreducible] def kE : Expr := match (defBody (top 44)).getD 1 (.Pass ⟨0,0,0,0⟩) with | .Assign _ e _ => e | _ => .Constant .none 0 ⟨0,0,0,0⟩
@[irreducible] def kA : Pos := match (defBody (top 44)).getD 1 (.Pass ⟨0,0,0,0⟩) with | .Assign [.Name _ p] e _ => p | _ => ⟨0,0,0,0⟩
@[irreducible] def kB : Pos := match (defBody (top 44)).getD 1 (.Pass ⟨0,0,0,0⟩) with | .Assign [.Name _ p] e q => q | _ => ⟨0,0,0,0⟩
theorem kS : (defBody (top 44)).drop 1 = .Assign [.Name "known" kA] kE kB :: (defBody (top 44)).drop 2 := by
  unfold kE kA kB
  rfl
theorem kW {X : Cx} : swapsWith kE (some (.Name "known" kA)) kB.line X.env = pure false := by
  unfold kE kA kB
  rfl
theorem set_any {X : Cx} {O : Out} (e : Expr) (a b : Pos) (h : X.N.Nodup) (hN : X.N[2]? = some ("known":Str)) (hl : Loc X.env.scope ("known" : Str)) (hf : X.fn ("known" : Str) = true ∨ X.env.scope.names.lookup ("known" : Str) = some NameKind.local) (hs : swapsWith e (some (.Name "known" a)) b.line X.env = pure false) (hh : Er [.u, .h, .u, .u, .u, .u] [] (wE X e) fun d => O.nx [.u, .h, .d d, .u, .u, .u] []) : Sr [.u, .h, .u, .u, .u, .u] [] (wS X (.Assign [.Name "known" a] e b)) O := js_set 2 h hN hh hl hs hf
theorem known_is {X : Cx} {R : D → Prop} (hh : R (queueD known)) : Er [.u, .h, .u, .u, .u, .u] [] (wE X kE) R := by
  unfold kE
  refine j_tup ?_
  refine j_con ?_
  refine j_tup ?_
  refine j_con ?_
  refine j_int ?_
  refine j_con ?_
  refine j_int ?_
  refine j_con ?_
  refine j_int ?_
  refine j_nil ⟨Nat.le_of_ble_eq_true rfl, ?_⟩
  refine j_con ?_
  refine j_tup ?_
  refine j_con ?_
  refine j_int ?_
  refine j_con ?_
  refine j_int ?_
  refine j_con ?_
  refine j_int ?_
  refine j_nil ⟨Nat.le_of_ble_eq_true rfl, ?_⟩
  refine j_con ?_
  refine j_tup ?_
  refine j_con ?_
  refine j_int ?_
  refine j_con ?_
  refine j_int ?_
  refine j_con ?_
  refine j_int ?_
  refine j_nil ⟨Nat.le_of_ble_eq_true rfl, ?_⟩
  refine j_con ?_
  refine j_tup ?_
  refine j_con ?_
  refine j_int ?_
  refine j_con ?_
  refine j_int ?_
  refine j_con ?_
  refine j_int ?_
  refine j_nil ⟨Nat.le_of_ble_eq_true rfl, ?_⟩
  refine j_nil ⟨Nat.le_of_ble_eq_true rfl, ?_⟩
  exact hh
theorem set_known {X : Cx} {O : Out} (h : X.N.Nodup) (hN : X.N[2]? = some ("known":Str)) (hl : Loc X.env.scope ("known" : Str)) (hf : X.fn ("known" : Str) = true ∨ X.env.scope.names.lookup ("known" : Str) = some NameKind.local) (hh : Sr [.u, .h, .d (queueD known), .u, .u, .u] [] (wSs X ((defBody (top 44)).drop 2)) O) :
    Sr [.u, .h, .u, .u, .u, .u] [] (wSs X ((defBody (top 44)).drop 1)) O := by
  rw [kS]
  generalize (defBody (top 44)).drop 2 = rest at hh ⊢
  exact jss_cons (set_any kE kA kB h hN hl hf kW (known_is hh))
theorem kS2 : (defBody (top 44)).drop 2 = (defBody (top 44)).getD 2 (.Pass ⟨0,0,0,0⟩) :: (defBody (top 44)).drop 3 := rfl
theorem kS3 : (defBody (top 44)).drop 3 = (defBody (top 44)).getD 3 (.Pass ⟨0,0,0,0⟩) :: (defBody (top 44)).drop 4 := rfl
theorem kS4 : (defBody (top 44)).drop 4 = (defBody (top 44)).getD 4 (.Pass ⟨0,0,0,0⟩) :: (defBody (top 44)).drop 5 := rfl
variable {NT NL : Addr}
theorem nbK (L : List Int) (h : isLot (dayD L) (known.length : Nat) = true) : ∀ c, ¬ badI NT NL [queueD known, dayD L] c := fun c hb => by
  rcases badI_at hb with ⟨_, hb⟩ | ⟨_, _, hb⟩
  · exact known_now hb
  · rw [h] at hb; cases hb
theorem law_2 {f : Addr} {cdv : Value} {A : Around} {outer : List Env} {s : Shared} {H : Hp} {E : XK} {O : Out} (hr : RoomG 9 (A.deeper (envOfC "law" (defScope (top 44)) s.heap.objs.size f cdv)))
    (cm : ClX P w K mg base 7 "most_in_time" (sp_mit NT)) (ci : ClX P w K mg base 7 "in_time" (sp_int NT NL))
    (hh : Sr [.u, .h, .d (queueD known), .d (.lst [.tup [.int 3, dayD [0, 1, 3]], .bl true, .bl false]), .u, .u] [] (wSs (cx P w K mg base N_law "law" (top 44) f cdv A outer s H E) ((defBody (top 44)).drop 3)) O) :
    Sr [.u, .h, .d (queueD known), .u, .u, .u] [] (wSs (cx P w K mg base N_law "law" (top 44) f cdv A outer s H E) ((defBody (top 44)).drop 2)) O := by
  rw [kS2]
  generalize (defBody (top 44)).drop 3 = rest at hh ⊢
  refine jss_cons (js_set 3 S_law.nd rfl (j_lst ?_))
  refine j_con ?_
  refine j_callX cm hr (by decide) (j_cons (j_var 2 rfl rfl (j_nil ⟨rfl, ⟨known, rfl, known_ok⟩, fun c h => known_now (badT_l h), fun d hd => ?_⟩)))
  obtain rfl := best4 (hd known rfl)
  refine j_con ?_
  refine j_callX ci hr (by decide) ?_
  refine j_con ?_
  refine j_var 2 rfl rfl ?_
  refine j_con ?_
  refine j_tup ?_
  refine j_con ?_
  refine j_int ?_
  refine j_con ?_
  refine j_int ?_
  refine j_nil ⟨Nat.le_of_ble_eq_true rfl, ?_⟩
  refine j_nil ⟨rfl, ⟨known, _, rfl, known_ok, by decide⟩, nbK [1, 2] lot12, fun d hd => ?_⟩
  obtain rfl := hd known [1, 2] rfl
  rw [feas12]
  refine j_con ?_
  refine j_callX ci hr (by decide) ?_
  refine j_con ?_
  refine j_var 2 rfl rfl ?_
  refine j_con ?_
  refine j_tup ?_
  refine j_con ?_
  refine j_int ?_
  refine j_con ?_
  refine j_int ?_
  refine j_nil ⟨Nat.le_of_ble_eq_true rfl, ?_⟩
  refine j_nil ⟨rfl, ⟨known, _, rfl, known_ok, by decide⟩, nbK [0, 2] lot02, fun d hd => ?_⟩
  obtain rfl := hd known [0, 2] rfl
  rw [feas02]
  refine j_nil ⟨Nat.le_of_ble_eq_true rfl, ?_⟩
  exact hh
theorem law_3 {f : Addr} {cdv : Value} {A : Around} {outer : List Env} {s : Shared} {H : Hp} {E : XK} {O : Out} (hr : RoomG 9 (A.deeper (envOfC "law" (defScope (top 44)) s.heap.objs.size f cdv)))
    (T : Blt mg) (hh : Sr [.u, .h, .d (queueD known), .d (.lst [.tup [.int 3, dayD [0, 1, 3]], .bl true, .bl false]), .u, .u] [] (wSs (cx P w K mg base N_law "law" (top 44) f cdv A outer s H E) ((defBody (top 44)).drop 4)) O) :
    Sr [.u, .h, .d (queueD known), .d (.lst [.tup [.int 3, dayD [0, 1, 3]], .bl true, .bl false]), .u, .u] [] (wSs (cx P w K mg base N_law "law" (top 44) f cdv A outer s H E) ((defBody (top 44)).drop 3)) O := by
  have hr0 := hr.mono (Nat.zero_le _)
  rw [kS3]
  generalize (defBody (top 44)).drop 4 = rest at hh ⊢
  refine jss_cons (js_if (jt_cmp (j_repr hr0 T.repr (j_var 3 rfl rfl ⟨told_shw, j_repr hr0 T.repr (j_lst ?_)⟩))))
  refine j_con ?_
  refine j_tup ?_
  refine j_con ?_
  refine j_int ?_
  refine j_con ?_
  refine j_tup ?_
  refine j_con ?_
  refine j_int ?_
  refine j_con ?_
  refine j_int ?_
  refine j_con ?_
  refine j_int ?_
  refine j_nil ⟨Nat.le_of_ble_eq_true rfl, ?_⟩
  refine j_nil ⟨Nat.le_of_ble_eq_true rfl, ?_⟩
  refine j_con ?_
  refine j_bl ?_
  refine j_con ?_
  refine j_bl ?_
  refine j_nil ⟨Nat.le_of_ble_eq_true rfl, told_shw, _, .neS _ _, fun e => ?_, fun _ => jss_nil hh⟩
  have e : (!decide ((toP (.lst [.tup [.int 3, dayD [0, 1, 3]], .bl true, .bl false])).shown = (toP (.lst [.tup [.int 3, dayD [0, 1, 3]], .bl true, .bl false])).shown)) = true := e
  simp at e
theorem law_4 {f : Addr} {cdv : Value} {A : Around} {outer : List Env} {s : Shared} {H : Hp} {E : XK} {O : Out} (hr : RoomG 9 (A.deeper (envOfC "law" (defScope (top 44)) s.heap.objs.size f cdv)))
    (csh : Cl P w K mg base 6 "sharpest" sp_sharp) (hh : Sr [.u, .h, .d (queueD known), .d (.lst [.tup [.int 3, dayD [0, 1, 3]], .bl true, .bl false]), .u, .u] [] (wSs (cx P w K mg base N_law "law" (top 44) f cdv A outer s H E) ((defBody (top 44)).drop 5)) O) :
    Sr [.u, .h, .d (queueD known), .d (.lst [.tup [.int 3, dayD [0, 1, 3]], .bl true, .bl false]), .u, .u] [] (wSs (cx P w K mg base N_law "law" (top 44) f cdv A outer s H E) ((defBody (top 44)).drop 4)) O := by
  have hu := room64 hr
  rw [kS4]
  generalize (defBody (top 44)).drop 5 = rest at hh ⊢
  refine jss_cons (js_if (jt_w (jw_or (jt_neT hu (j_call csh hr (by decide) ?_)))))
  refine j_con ?_
  refine j_tup ?_
  refine j_con ?_
  refine j_tup ?_
  refine j_con ?_
  refine j_int ?_
  refine j_con ?_
  refine j_int ?_
  refine j_con ?_
  refine j_int ?_
  refine j_nil ⟨Nat.le_of_ble_eq_true rfl, ?_⟩
  refine j_nil ⟨Nat.le_of_ble_eq_true rfl, ?_⟩
  refine j_nil ⟨rfl, ⟨one1, rfl, one_ok⟩, fun d hd => ?_⟩
  obtain rfl := hd one1 rfl
  rw [sharp1]
  refine j_tup ?_
  refine j_con ?_
  refine j_int ?_
  refine j_nil ⟨Nat.le_of_ble_eq_true rfl, ?_⟩
  refine ⟨[0], [0], rfl, rfl, fun _ => ?_, fun e => (by cases e)⟩
  refine jw_or1 (jt_neT hu (j_call csh hr (by decide) ?_))
  refine j_con ?_
  refine j_tup ?_
  refine j_con ?_
  refine j_tup ?_
  refine j_con ?_
  refine j_int ?_
  refine j_con ?_
  refine j_int ?_
  refine j_con ?_
  refine j_int ?_
  refine j_nil ⟨Nat.le_of_ble_eq_true rfl, ?_⟩
  refine j_con ?_
  refine j_tup ?_
  refine j_con ?_
  refine j_int ?_
  refine j_con ?_
  refine j_int ?_
  refine j_con ?_
  refine j_int ?_
  refine j_nil ⟨Nat.le_of_ble_eq_true rfl, ?_⟩
  refine j_nil ⟨Nat.le_of_ble_eq_true rfl, ?_⟩
  refine j_nil ⟨rfl, ⟨two2, rfl, two_okq⟩, fun d hd => ?_⟩
  obtain rfl := hd two2 rfl
  rw [sharp2]
  refine j_tup ?_
  refine j_con ?_
  refine j_int ?_
  refine j_nil ⟨Nat.le_of_ble_eq_true rfl, ?_⟩
  refine ⟨[1], [1], rfl, rfl, fun e => (by cases e), fun _ => jss_nil hh⟩
theorem law_5 {f : Addr} {cdv : Value} {A : Around} {outer : List Env} {s : Shared} {H : Hp} {E : XK} (hr : RoomG 9 (A.deeper (envOfC "law" (defScope (top 44)) s.heap.objs.size f cdv)))
    (T : Blt mg) (d2 : Cl P w K mg base 2 "_law_any" sp_any) (d12 : Cl P w K mg base 3 "_law_drawn" sp_drawn) (d13 : Cl P w K mg base 9 "_law_is_right" sp_right) (csh : Cl P w K mg base 6 "sharpest" sp_sharp) (dsh : Cl P w K mg base 2 "_law_sharp" sp_sharp) :
    Sr [.u, .h, .d (queueD known), .d (.lst [.tup [.int 3, dayD [0, 1, 3]], .bl true, .bl false]), .u, .u] [] (wSs (cx P w K mg base N_law "law" (top 44) f cdv A outer s H E) ((defBody (top 44)).drop 5)) { nx := fun _ _ => False, rt := fun d => d = .bl true } := by
  have hr0 := hr.mono (Nat.zero_le _)
  refine jss_cons (js_for PassesOwn.never rfl (ji_range T.range (j_int ⟨4, rfl, by decide, ?_⟩)))
  refine ⟨fun k sl ms => ∃ t u, sl = [.u, .h, .d (queueD known), .d (.lst [.tup [.int 3, dayD [0, 1, 3]], .bl true, .bl false]), t, u] ∧ ms = [], ⟨.u, .u, rfl, rfl⟩, ?_, ?_⟩
  · rintro k d sl1 ms1 hd ⟨t, u, rfl, rfl⟩
    refine ⟨_, _, jg_name 4 S_law.nd rfl, ?_⟩
    refine jss_cons (js_if (jt_not (jt_val (j_callH 1 d13 hr (by decide) rfl rfl (j_cons (j_callH 1 d12 hr (by decide) rfl rfl (j_cons (j_int (j_cons (j_int (j_nil ⟨rfl, ⟨7, 0, rfl, by decide, by decide, by decide⟩, fun d5 hd5 => ?_⟩)))))))))))
    obtain ⟨q5, rfl, hq5, hmore⟩ := hd5
    obtain ⟨m7, m0⟩ := hmore 7 0 rfl
    refine j_nil ⟨rfl, ⟨q5, rfl, hq5, m7, fun c hc => by have := m0 c hc; have := hq5.c0 c hc; omega⟩, fun d6 hd6 => ?_⟩
    subst hd6
    refine ⟨true, rfl, fun e => (by cases e), fun _ => jss_nil ?_⟩
    refine jss_cons (js_set 5 S_law.nd rfl (j_callH 1 d12 hr (by decide) rfl rfl ?_))
    refine j_cons (j_callH 1 d2 hr (by decide) rfl rfl (j_cons (j_lst (j_cons (j_int (j_cons (j_int (j_cons (j_int (j_nil ⟨Nat.le_of_ble_eq_true rfl, ?_⟩))))))))))
    refine j_nil ⟨rfl, ⟨_, rfl, Nat.le_of_ble_eq_true rfl, Nat.le_of_ble_eq_true rfl⟩, fun d3 hd3 => ?_⟩
    have hd3 := hd3 _ rfl
    have hm : ∃ m : Nat, d3 = .int m ∧ 1 ≤ m ∧ m ≤ 10 := by
      simp only [List.mem_cons, List.not_mem_nil, or_false] at hd3
      rcases hd3 with rfl | rfl | rfl
      · exact ⟨1, rfl, by decide, by decide⟩
      · exact ⟨4, rfl, by decide, by decide⟩
      · exact ⟨10, rfl, by decide, by decide⟩
    obtain ⟨m, rfl, hm1, hm2⟩ := hm
    refine j_cons (j_callH 1 d2 hr (by decide) rfl rfl (j_cons (j_lst (j_cons (j_int (j_cons (j_int (j_cons (j_int (j_nil ⟨Nat.le_of_ble_eq_true rfl, ?_⟩))))))))))
    refine j_nil ⟨rfl, ⟨_, rfl, Nat.le_of_ble_eq_true rfl, Nat.le_of_ble_eq_true rfl⟩, fun d4 hd4 => ?_⟩
    have hd4 := hd4 _ rfl
    have hm : ∃ m : Nat, d4 = .int m ∧ m ≤ 20 := by
      simp only [List.mem_cons, List.not_mem_nil, or_false] at hd4
      rcases hd4 with rfl | rfl | rfl
      · exact ⟨0, rfl, by decide⟩
      · exact ⟨5, rfl, by decide⟩
      · exact ⟨20, rfl, by decide⟩
    obtain ⟨m2, rfl, hm3⟩ := hm
    refine j_nil ⟨rfl, ⟨m, m2, rfl, hm1, hm2, hm3⟩, fun d5 hd5 => ?_⟩
    obtain ⟨q, rfl, hq, _⟩ := hd5
    have shw := sharp_shw hq
    refine jss_one (js_if (jt_cmp (j_repr hr0 T.repr (j_lst (j_cons (j_call csh hr (by decide) (j_cons (j_var 5 rfl rfl (j_nil ⟨rfl, ⟨q, rfl, hq⟩, fun d hd => ?_⟩)))))))))
    obtain rfl := hd q rfl
    refine j_cons (j_call csh hr (by decide) (j_cons (j_var 5 rfl rfl (j_nil ⟨rfl, ⟨q, rfl, hq⟩, fun d hd => ?_⟩))))
    obtain rfl := hd q rfl
    refine j_nil ⟨Nat.le_of_ble_eq_true rfl, shw, j_repr hr0 T.repr (j_repL (j_lst (j_cons (j_call dsh hr (by decide) (j_cons (j_var 5 rfl rfl (j_nil ⟨rfl, ⟨q, rfl, hq⟩, fun d hd => ?_⟩)))))))⟩
    obtain rfl := hd q rfl
    refine j_nil ⟨Nat.le_of_ble_eq_true rfl, j_int ⟨_, 2, rfl, rfl, by decide, Nat.le_of_ble_eq_true rfl, shw, _, .neS _ _, fun e => ?_, fun _ => jss_nil ⟨_, _, rfl, rfl⟩⟩⟩
    have e : (!decide ((toP (.lst [dayD (sharpL q), dayD (sharpL q)])).shown = (toP (.lst [dayD (sharpL q), dayD (sharpL q)])).shown)) = true := e
    simp at e
  · rintro sl1 ms1 ⟨t, u, rfl, rfl⟩
    exact jss_one (js_ret (j_bl rfl))
end
end A
set_option Elab.async false
set_option linter.all false
set_option maxRecDepth 100000
set_option pp.maxSteps 400
set_option maxHeartbeats 400000
namespace A
open PySem PySem.Spec PyProof.Rows L2 E
section
variable {P : Program} {w : World} {K : PySem.W.Frag} {mg : Str → Option Value} {base : Heap}
theorem t_hN {f : Addr} {cdv : Value} {A : Around} {outer : List Env} {s : Shared} {H : Hp} {E : XK} : (cx P w K mg base N_law "law" (top 44) f cdv A outer s H E).N[2]? = some ("known" : Str) := rfl
theorem t_nd {f : Addr} {cdv : Value} {A : Around} {outer : List Env} {s : Shared} {H : Hp} {E : XK} : (cx P w K mg base N_law "law" (top 44) f cdv A outer s H E).N.Nodup := S_law.nd
theorem t_l {f : Addr} {cdv : Value} {A : Around} {outer : List Env} {s : Shared} {H : Hp} {E : XK} : Loc (cx P w K mg base N_law "law" (top 44) f cdv A outer s H E).env.scope ("known" : Str) := Or.inl rfl
theorem t_f {f : Addr} {cdv : Value} {A : Around} {outer : List Env} {s : Shared} {H : Hp} {E : XK} : (cx P w K mg base N_law "law" (top 44) f cdv A outer s H E).env.scope.names.lookup ("known" : Str) = some NameKind.local := rfl
theorem t_ff {f : Addr} {cdv : Value} {A : Around} {outer : List Env} {s : Shared} {H : Hp} {E : XK} : (cx P w K mg base N_law "law" (top 44) f cdv A outer s H E).fn ("known" : Str) = true ∨ (cx P w K mg base N_law "law" (top 44) f cdv A outer s H E).env.scope.names.lookup ("known" : Str) = some NameKind.local := Or.inr t_f
theorem t_m {f : Addr} {cdv : Value} {A : Around} {outer : List Env} {s : Shared} {H : Hp} {E : XK} {O : Out} (m2 : Sr ([.u, .h, .d (queueD known), .u, .u, .u]) [] (wSs (cx P w K mg base N_law "law" (top 44) f cdv A outer s H E) ((defBody (top 44)).drop 2)) O) : Sr ([.u, .h, .u, .u, .u, .u]) [] (wSs (cx P w K mg base N_law "law" (top 44) f cdv A outer s H E) ((defBody (top 44)).drop 1)) O :=
  @set_known (cx P w K mg base N_law "law" (top 44) f cdv A outer s H E) O t_nd t_hN t_l t_ff m2
theorem law_main {f : Addr} {cdv : Value} {A : Around} {outer : List Env} {s : Shared} {H : Hp} {E : XK} (hr : RoomG 9 (A.deeper (envOfC "law" (defScope (top 44)) s.heap.objs.size f cdv))) {NT NL : Addr} (T : Blt mg) (d2 : Cl P w K mg base 2 "_law_any" sp_any) (d12 : Cl P w K mg base 3 "_law_drawn" sp_drawn) (d13 : Cl P w K mg base 9 "_law_is_right" sp_right) (csh : Cl P w K mg base 6 "sharpest" sp_sharp) (dsh : Cl P w K mg base 2 "_law_sharp" sp_sharp) (cm : ClX P w K mg base 7 "most_in_time" (sp_mit NT)) (ci : ClX P w K mg base 7 "in_time" (sp_int NT NL)) : Sr ([.u, .h, .u, .u, .u, .u]) [] (wSs (cx P w K mg base N_law "law" (top 44) f cdv A outer s H E) ((defBody (top 44)).drop 1)) { nx := fun _ _ => False, rt := fun d => d = .bl true } :=
  @t_m P w K mg base f cdv A outer s H E _ (@law_2 P w K mg base NT NL f cdv A outer s H E { nx := fun _ _ => False, rt := fun d => d = .bl true } hr cm ci (@law_3 P w K mg base f cdv A outer s H E { nx := fun _ _ => False, rt := fun d => d = .bl true } hr T (@law_4 P w K mg base f cdv A outer s H E { nx := fun _ _ => False, rt := fun d => d = .bl true } hr csh (@law_5 P w K mg base f cdv A outer s H E hr T d2 d12 d13 csh dsh))))
@[irreducible] def hA : Pos := match (defBody (top 44)).getD 0 (.Pass ⟨0,0,0,0⟩) with | .Assign [.Name _ p] _ _ => p | _ => ⟨0,0,0,0⟩
@[irreducible] def hB : Pos := match (defBody (top 44)).getD 0 (.Pass ⟨0,0,0,0⟩) with | .Assign _ (.Call (.Name _ p) _ _ _) _ => p | _ => ⟨0,0,0,0⟩
@[irreducible] def hC : Pos := match (defBody (top 44)).getD 0 (.Pass ⟨0,0,0,0⟩) with | .Assign _ (.Call _ [.Name _ p] _ _) _ => p | _ => ⟨0,0,0,0⟩
@[irreducible] def hD : Pos := match (defBody (top 44)).getD 0 (.Pass ⟨0,0,0,0⟩) with | .Assign _ (.Call _ _ _ p) _ => p | _ => ⟨0,0,0,0⟩
@[irreducible] def hE : Pos := match (defBody (top 44)).getD 0 (.Pass ⟨0,0,0,0⟩) with | .Assign _ _ p => p | _ => ⟨0,0,0,0⟩
theorem hS0 : defBody (top 44) = .Assign [.Name "hand" hA] (.Call (.Name "_law_hand" hB) [.Name "script" hC] [] hD) hE :: (defBody (top 44)).drop 1 := by
  unfold hA hB hC hD hE
  rfl
theorem hW {X : Cx} : swapsWith (.Call (.Name "_law_hand" hB) [.Name "script" hC] [] hD) (some (.Name "hand" hA)) hE.line X.env = pure false := by
  unfold hA hB hC hD hE
  rfl
theorem hand_any {X : Cx} {a0 p0 p1 p2 p3 : Pos} {rest : List Stmt} {fh : Addr} {fdh : FuncData} (Fh : FnG X.prog X.w X.K X.mg X.base 1 fh fdh ["script"] (sp_hand X.K)) (hr : RoomG 1 X.A) (hN : X.N.Nodup)
    (h1 : X.N[1]? = some ("hand" : Str)) (h0 : X.N[0]? = some ("script" : Str)) (hl : Loc X.env.scope ("hand" : Str)) (hf : X.fn ("hand" : Str) = true ∨ X.env.scope.names.lookup ("hand" : Str) = some NameKind.local)
    (hv : Vis X.env.scope ("script" : Str)) (hg : Gl X "_law_hand") (hm : X.mg "_law_hand" = some (.ref fh)) (hk : PySem.W.keepIn X.K (.ref fh) = true) (hb : Binds X.K fdh ["script"] [])
    (hs : swapsWith (.Call (.Name "_law_hand" p0) [.Name "script" p1] [] p2) (some (.Name "hand" a0)) p3.line X.env = pure false) :
    PSs X (.Assign [.Name "hand" a0] (.Call (.Name "_law_hand" p0) [.Name "script" p1] [] p2) p3 :: rest) (tSeq (tAsg (tCall (sp_hand X.K) [] E0 (tCons (tVar 0) tNil)) (gName 1)) (wSs X rest)) :=
  pss_cons (ps_set (i := 1) hN h1 hl (pe_callG Fh hr hg hm hk hb (pa_cons (pv 0 h0 hv) pa_nil)) hs hf) pss_w
theorem h_1 {f : Addr} {cdv : Value} {A : Around} {outer : List Env} {s : Shared} {H : Hp} {E : XK} : (cx P w K mg base N_law "law" (top 44) f cdv A outer s H E).N[1]? = some ("hand" : Str) := rfl
theorem h_0 {f : Addr} {cdv : Value} {A : Around} {outer : List Env} {s : Shared} {H : Hp} {E : XK} : (cx P w K mg base N_law "law" (top 44) f cdv A outer s H E).N[0]? = some ("script" : Str) := rfl
theorem h_l {f : Addr} {cdv : Value} {A : Around} {outer : List Env} {s : Shared} {H : Hp} {E : XK} : Loc (cx P w K mg base N_law "law" (top 44) f cdv A outer s H E).env.scope ("hand" : Str) := Or.inl rfl
theorem h_f {f : Addr} {cdv : Value} {A : Around} {outer : List Env} {s : Shared} {H : Hp} {E : XK} : (cx P w K mg base N_law "law" (top 44) f cdv A outer s H E).env.scope.names.lookup ("hand" : Str) = some NameKind.local := rfl
theorem h_ff {f : Addr} {cdv : Value} {A : Around} {outer : List Env} {s : Shared} {H : Hp} {E : XK} : (cx P w K mg base N_law "law" (top 44) f cdv A outer s H E).fn ("hand" : Str) = true ∨ (cx P w K mg base N_law "law" (top 44) f cdv A outer s H E).env.scope.names.lookup ("hand" : Str) = some NameKind.local := Or.inr h_f
theorem h_v {f : Addr} {cdv : Value} {A : Around} {outer : List Env} {s : Shared} {H : Hp} {E : XK} : Vis (cx P w K mg base N_law "law" (top 44) f cdv A outer s H E).env.scope ("script" : Str) := Or.inl rfl
theorem h_g {f : Addr} {cdv : Value} {A : Around} {outer : List Env} {s : Shared} {H : Hp} {E : XK} : Gl (cx P w K mg base N_law "law" (top 44) f cdv A outer s H E) "_law_hand" := rfl
theorem ok_law {f fh : Addr} {fd fdh : FuncData} (F : Fun K "law" "law" (top 44) f fd) (T : Blt mg) (dh : Df K mg "_law_hand" (top 31) ["script"] fh fdh) {NT NL : Addr} (d2 : Cl P w K mg base 2 "_law_any" sp_any) (d12 : Cl P w K mg base 3 "_law_drawn" sp_drawn) (d13 : Cl P w K mg base 9 "_law_is_right" sp_right) (csh : Cl P w K mg base 6 "sharpest" sp_sharp) (dsh : Cl P w K mg base 2 "_law_sharp" sp_sharp) (cm : ClX P w K mg base 7 "most_in_time" (sp_mit NT)) (ci : ClX P w K mg base 7 "in_time" (sp_int NT NL)) : FnG P w K mg base 10 f fd ["script"] (sp_law K) := by
  have Fh : FnG P w K mg base 1 fh fdh ["script"] (sp_hand K) := ok_hand dh.fn T
  refine fun_G F S_law (fun vs H Q E h => ?_) fun cdv A outer s H vs Q E hr h => ?_
  · obtain ⟨a, ns, rfl, _⟩ := h
    rfl
  · obtain ⟨a, ns, rfl, hS, h63, q⟩ := h
    have main := @law_main P w K mg base f cdv A outer s H E hr NT NL T d2 d12 d13 csh dsh cm ci
    rw [hS0]
    generalize (defBody (top 44)).drop 1 = rest at main ⊢
    refine ⟨_, @hand_any (cx P w K mg base N_law "law" (top 44) f cdv A outer s H E) hA hB hC hD hE rest fh fdh Fh (hr.mono (by decide)) S_law.nd (@h_1 P w K mg base f cdv A outer s H E) (@h_0 P w K mg base f cdv A outer s H E) (@h_l P w K mg base f cdv A outer s H E) (@h_ff P w K mg base f cdv A outer s H E) (@h_v P w K mg base f cdv A outer s H E) (@h_g P w K mg base f cdv A outer s H E) dh.mgf dh.fn.kp dh.bd hW, ?_⟩
    exact law_start hS h63 q main
end
end A
set_option Elab.async false
set_option linter.all false
set_option maxRecDepth 100000
/-! The classes of errors. -/
namespace A
open PySem PySem.Spec PyProof.Rows L2 E
theorem kit_same {K : PySem.W.Frag} {v : Value} : PySem.W.kitOne K v v = some true := if_pos (beq_self_eq_true v)
theorem kit_own {K : PySem.W.Frag} {C D : Addr} {b : Bool} (ne : C ≠ D) (hd : PySem.W.hasDictIn K D = true) (ht : PySem.W.typeIn K (.ref D) = some (.type "type")) (hs : PySem.W.subIn K (.ref C) (.ref D) = some b) : PySem.W.kitOne K (.ref C) (.ref D) = some b := by
  obtain ⟨cd, hc, _⟩ := PySem.W.any_some hd
  have e1 : ¬ (Value.ref C == Value.ref D) = true := fun q => ne (Value.ref.inj (beq_iff_eq.mp q))
  have e2 : ((PySem.W.clsIn K D).isSome && PySem.W.typeIn K (.ref D) == some (.type "type")) = true := by rw [hc, ht]; rfl
  show (if (Value.ref C == Value.ref D) = true then some true else PySem.W.kitCls K (.ref C) (.ref D)) = some b
  rw [if_neg e1]
  show (if ((PySem.W.clsIn K D).isSome && PySem.W.typeIn K (.ref D) == some (.type "type")) = true then PySem.W.subIn K (.ref C) (.ref D) else none) = some b
  rw [if_pos e2]
  exact hs
theorem kit_blt {K : PySem.W.Frag} {C : Addr} {b : Bool} {T : String} (hm : PySem.W.kitMeta T = true) (hs : PySem.W.subIn K (.ref C) (.type T) = some b) : PySem.W.kitOne K (.ref C) (.type T) = some b := by
  have e1 : ¬ (Value.ref C == Value.type T) = true := fun q => by cases (beq_iff_eq.mp q)
  show (if (Value.ref C == Value.type T) = true then some true else PySem.W.kitCls K (.ref C) (.type T)) = some b
  rw [if_neg e1]
  show (if PySem.W.kitMeta T = true then PySem.W.subIn K (.ref C) (.type T) else none) = some b
  rw [if_pos hm]
  exact hs
theorem ne_sub {K : PySem.W.Frag} {C D : Addr} (h : PySem.W.subIn K (.ref C) (.ref C) = some true) (h' : PySem.W.subIn K (.ref C) (.ref D) = some false) : C ≠ D := fun e => by
  subst e
  rw [h] at h'
  cases h'
/-- a class of errors, as it is laid -/
structure Cls (K : PySem.W.Frag) (C CW : Addr) : Prop where
  q : PySem.W.excIn K C [.type "ValueError", .type "Exception", .type "BaseException", .type "object"] "ValueError.__new__" = true
  k : PySem.W.keepIn K (.ref C) = true
  b : PySem.W.subIn K (.ref C) (.type "BaseException") = some true
  t : PySem.W.typeIn K (.ref C) = some (.type "type")
  hg : PySem.W.findIn K (.ref C) "__getattribute__" = some (some (.builtin "BaseException.__getattribute__"))
  hk : PySem.W.findIn K (.ref C) "__getattr__" = some none
  hd : PySem.W.hasDictIn K C = true
  ha : PySem.W.findIn K (.ref C) "__class__" = some (some (.builtin "object.__class__"))
  hm : PySem.W.mroIn K C (.type "object") = some true
  v : PySem.W.subIn K (.ref C) (.type "ValueError") = some true
  w : PySem.W.subIn K (.ref C) (.ref CW) = some true
  s : PySem.W.subIn K (.ref C) (.ref C) = some true
theorem Cls.exs {K : PySem.W.Frag} {mg : Str → Option Value} {C CW : Addr} {x : Str} (c : Cls K C CW) (g : mg x = some (.ref C)) : Exs K mg x C := ⟨g, c.q, c.k, c.b, c.t⟩
theorem ers_of {K : PySem.W.Frag} {mg : Str → Option Value} {CW NT NL : Addr} (gW : mg "WayError" = some (.ref CW)) (gT : mg "NotTogether" = some (.ref NT)) (gL : mg "NoLot" = some (.ref NL)) (ve : mg "ValueError" = none)
    (T : Cls K NT CW) (L : Cls K NL CW) (hn : PySem.W.specialIn K (.builtin "object.__class__") "__get__" = some (some (.builtin "getset_descriptor.__get__"))) (ht : PySem.W.takesIn K (.builtin "object.__class__") = some true)
    (bW : PySem.W.subIn K (.ref CW) (.type "BaseException") = some true) (dW : PySem.W.hasDictIn K CW = true) (tW : PySem.W.typeIn K (.ref CW) = some (.type "type"))
    (tl : PySem.W.subIn K (.ref NT) (.ref NL) = some false) (lt : PySem.W.subIn K (.ref NL) (.ref NT) = some false) : Ers K mg CW NT NL where
  gW := gW
  gT := gT
  gL := gL
  xT := ⟨T.hg, T.hk, T.b, T.hd, T.ha, hn, ht, T.hm⟩
  xL := ⟨L.hg, L.hk, L.b, L.hd, L.ha, hn, ht, L.hm⟩
  mT := PySem.W.exm_ref bW dW tW T.w
  mL := PySem.W.exm_ref bW dW tW L.w
  tt := kit_same
  tl := kit_own (ne_sub T.s tl) L.hd L.t tl
  lt := kit_own (ne_sub L.s lt) T.hd T.t lt
  ll := kit_same
  tv := kit_blt (by decide +kernel) T.v
  lv := kit_blt (by decide +kernel) L.v
  ve := ve
end A
set_option Elab.async false
set_option linter.all false
set_option maxRecDepth 100000
set_option maxHeartbeats 4000000
namespace A
open PySem PySem.Spec PyProof.Rows L2 E
theorem all_mk {l : PySem.W.OpenLaw} {w : World} {K : PySem.W.Frag} {h : Heap} {mg : Str → Option Value} {fa f1 f2 f3 f4 f5 f6 f7 f8 f9 f10 f11 f12 f13 f14 f15 f16 f17 f18 f19 f20 f21 f22 f23 f24 f25 f26 f27 f28 f29 f30 f31 f32 f33 CW NT NL : Addr} (X : K.In h) (G : h.Ns mainGlobals mg) (hfa : mg "law" = some (.ref fa))
    {od1 an1 od2 an2 od3 an3 od4 an4 od5 an5 od6 an6 od7 an7 od8 an8 od9 an9 od10 an10 od11 an11 od12 an12 od13 an13 od14 an14 od15 an15 od16 an16 od17 an17 od18 an18 od19 an19 od20 an20 od21 an21 od22 an22 od23 an23 od24 an24 od25 an25 od26 an26 od27 an27 od28 an28 od29 an29 od30 an30 od31 an31 od32 an32 od33 an33 : Option Addr} {sl1 sl2 sl3 sl4 sl5 sl6 sl7 sl8 sl9 sl10 sl11 sl12 sl13 sl14 sl15 sl16 sl17 sl18 sl19 sl20 sl21 sl22 sl23 sl24 sl25 sl26 sl27 sl28 sl29 sl30 sl31 sl32 sl33 : Array (Option Value)} {oc1 kV1 dc1 pm1 cd1 ct1 oc2 kV2 dc2 pm2 cd2 ct2 oc3 kV3 dc3 pm3 cd3 ct3 oc4 kV4 dc4 pm4 cd4 ct4 oc5 kV5 dc5 pm5 cd5 ct5 oc6 kV6 dc6 pm6 cd6 ct6 oc7 kV7 dc7 pm7 cd7 ct7 oc8 kV8 dc8 pm8 cd8 ct8 oc9 kV9 dc9 pm9 cd9 ct9 oc10 kV10 dc10 pm10 cd10 ct10 oc11 kV11 dc11 pm11 cd11 ct11 oc12 kV12 dc12 pm12 cd12 ct12 oc13 kV13 dc13 pm13 cd13 ct13 oc14 kV14 dc14 pm14 cd14 ct14 oc15 kV15 dc15 pm15 cd15 ct15 oc16 kV16 dc16 pm16 cd16 ct16 oc17 kV17 dc17 pm17 cd17 ct17 oc18 kV18 dc18 pm18 cd18 ct18 oc19 kV19 dc19 pm19 cd19 ct19 oc20 kV20 dc20 pm20 cd20 ct20 oc21 kV21 dc21 pm21 cd21 ct21 oc22 kV22 dc22 pm22 cd22 ct22 oc23 kV23 dc23 pm23 cd23 ct23 oc24 kV24 dc24 pm24 cd24 ct24 oc25 kV25 dc25 pm25 cd25 ct25 oc26 kV26 dc26 pm26 cd26 ct26 oc27 kV27 dc27 pm27 cd27 ct27 oc28 kV28 dc28 pm28 cd28 ct28 oc29 kV29 dc29 pm29 cd29 ct29 oc30 kV30 dc30 pm30 cd30 ct30 oc31 kV31 dc31 pm31 cd31 ct31 oc32 kV32 dc32 pm32 cd32 ct32 oc33 kV33 dc33 pm33 cd33 ct33 : Value} {tk_g0 tk_g1 tk_g2 tk_g3 : Tok}
    (a1 : PySem.W.nsIn K mainGlobals "is_integer" = some (some (.ref f1))) (l1 : K.lookup f1 = some ⟨oc1, od1, .func (PySem.W.fnOf "is_integer" "is_integer" (defArgs (top 1)) (defBody (top 1)) (defScope (top 1)) .none kV1 dc1 pm1 an1 cd1 ct1), sl1⟩) (c1 : PySem.W.codeIn K cd1 "is_integer" = true) (k1 : PySem.W.keepIn K (.ref f1) = true)
    (a2 : PySem.W.nsIn K mainGlobals "is_within" = some (some (.ref f2))) (l2 : K.lookup f2 = some ⟨oc2, od2, .func (PySem.W.fnOf "is_within" "is_within" (defArgs (top 2)) (defBody (top 2)) (defScope (top 2)) .none kV2 dc2 pm2 an2 cd2 ct2), sl2⟩) (c2 : PySem.W.codeIn K cd2 "is_within" = true) (k2 : PySem.W.keepIn K (.ref f2) = true)
    (a3 : PySem.W.nsIn K mainGlobals "is_sized" = some (some (.ref f3))) (l3 : K.lookup f3 = some ⟨oc3, od3, .func (PySem.W.fnOf "is_sized" "is_sized" (defArgs (top 3)) (defBody (top 3)) (defScope (top 3)) .none kV3 dc3 pm3 an3 cd3 ct3), sl3⟩) (c3 : PySem.W.codeIn K cd3 "is_sized" = true) (k3 : PySem.W.keepIn K (.ref f3) = true)
    (a4 : PySem.W.nsIn K mainGlobals "is_case" = some (some (.ref f4))) (l4 : K.lookup f4 = some ⟨oc4, od4, .func (PySem.W.fnOf "is_case" "is_case" (defArgs (top 14)) (defBody (top 14)) (defScope (top 14)) .none kV4 dc4 pm4 an4 cd4 ct4), sl4⟩) (c4 : PySem.W.codeIn K cd4 "is_case" = true) (k4 : PySem.W.keepIn K (.ref f4) = true)
    (a5 : PySem.W.nsIn K mainGlobals "is_queue" = some (some (.ref f5))) (l5 : K.lookup f5 = some ⟨oc5, od5, .func (PySem.W.fnOf "is_queue" "is_queue" (defArgs (top 15)) (defBody (top 15)) (defScope (top 15)) .none kV5 dc5 pm5 an5 cd5 ct5), sl5⟩) (c5 : PySem.W.codeIn K cd5 "is_queue" = true) (k5 : PySem.W.keepIn K (.ref f5) = true)
    (a6 : PySem.W.nsIn K mainGlobals "check_queue" = some (some (.ref f6))) (l6 : K.lookup f6 = some ⟨oc6, od6, .func (PySem.W.fnOf "check_queue" "check_queue" (defArgs (top 16)) (defBody (top 16)) (defScope (top 16)) .none kV6 dc6 pm6 an6 cd6 ct6), sl6⟩) (c6 : PySem.W.codeIn K cd6 "check_queue" = true) (k6 : PySem.W.keepIn K (.ref f6) = true)
    (a7 : PySem.W.nsIn K mainGlobals "is_lot" = some (some (.ref f7))) (l7 : K.lookup f7 = some ⟨oc7, od7, .func (PySem.W.fnOf "is_lot" "is_lot" (defArgs (top 17)) (defBody (top 17)) (defScope (top 17)) .none kV7 dc7 pm7 an7 cd7 ct7), sl7⟩) (c7 : PySem.W.codeIn K cd7 "is_lot" = true) (k7 : PySem.W.keepIn K (.ref f7) = true)
    (a8 : PySem.W.nsIn K mainGlobals "plan_by_dues" = some (some (.ref f8))) (l8 : K.lookup f8 = some ⟨oc8, od8, .func (PySem.W.fnOf "plan_by_dues" "plan_by_dues" (defArgs (top 18)) (defBody (top 18)) (defScope (top 18)) .none kV8 dc8 pm8 an8 cd8 ct8), sl8⟩) (c8 : PySem.W.codeIn K cd8 "plan_by_dues" = true) (k8 : PySem.W.keepIn K (.ref f8) = true)
    (a9 : PySem.W.nsIn K mainGlobals "lots_of" = some (some (.ref f9))) (l9 : K.lookup f9 = some ⟨oc9, od9, .func (PySem.W.fnOf "lots_of" "lots_of" (defArgs (top 19)) (defBody (top 19)) (defScope (top 19)) .none kV9 dc9 pm9 an9 cd9 ct9), sl9⟩) (c9 : PySem.W.codeIn K cd9 "lots_of" = true) (k9 : PySem.W.keepIn K (.ref f9) = true)
    (a10 : PySem.W.nsIn K mainGlobals "shown_by" = some (some (.ref f10))) (l10 : K.lookup f10 = some ⟨oc10, od10, .func (PySem.W.fnOf "shown_by" "shown_by" (defArgs (top 20)) (defBody (top 20)) (defScope (top 20)) .none kV10 dc10 pm10 an10 cd10 ct10), sl10⟩) (c10 : PySem.W.codeIn K cd10 "shown_by" = true) (k10 : PySem.W.keepIn K (.ref f10) = true)
    (a11 : PySem.W.nsIn K mainGlobals "showing_lot" = some (some (.ref f11))) (l11 : K.lookup f11 = some ⟨oc11, od11, .func (PySem.W.fnOf "showing_lot" "showing_lot" (defArgs (top 21)) (defBody (top 21)) (defScope (top 21)) .none kV11 dc11 pm11 an11 cd11 ct11), sl11⟩) (c11 : PySem.W.codeIn K cd11 "showing_lot" = true) (k11 : PySem.W.keepIn K (.ref f11) = true)
    (a12 : PySem.W.nsIn K mainGlobals "least_late" = some (some (.ref f12))) (l12 : K.lookup f12 = some ⟨oc12, od12, .func (PySem.W.fnOf "least_late" "least_late" (defArgs (top 22)) (defBody (top 22)) (defScope (top 22)) .none kV12 dc12 pm12 an12 cd12 ct12), sl12⟩) (c12 : PySem.W.codeIn K cd12 "least_late" = true) (k12 : PySem.W.keepIn K (.ref f12) = true)
    (a13 : PySem.W.nsIn K mainGlobals "check_together" = some (some (.ref f13))) (l13 : K.lookup f13 = some ⟨oc13, od13, .func (PySem.W.fnOf "check_together" "check_together" (defArgs (top 23)) (defBody (top 23)) (defScope (top 23)) .none kV13 dc13 pm13 an13 cd13 ct13), sl13⟩) (c13 : PySem.W.codeIn K cd13 "check_together" = true) (k13 : PySem.W.keepIn K (.ref f13) = true)
    (a14 : PySem.W.nsIn K mainGlobals "are_in_time" = some (some (.ref f14))) (l14 : K.lookup f14 = some ⟨oc14, od14, .func (PySem.W.fnOf "are_in_time" "are_in_time" (defArgs (top 24)) (defBody (top 24)) (defScope (top 24)) .none kV14 dc14 pm14 an14 cd14 ct14), sl14⟩) (c14 : PySem.W.codeIn K cd14 "are_in_time" = true) (k14 : PySem.W.keepIn K (.ref f14) = true)
    (a15 : PySem.W.nsIn K mainGlobals "most_in_time" = some (some (.ref f15))) (l15 : K.lookup f15 = some ⟨oc15, od15, .func (PySem.W.fnOf "most_in_time" "most_in_time" (defArgs (top 25)) (defBody (top 25)) (defScope (top 25)) .none kV15 dc15 pm15 an15 cd15 ct15), sl15⟩) (c15 : PySem.W.codeIn K cd15 "most_in_time" = true) (k15 : PySem.W.keepIn K (.ref f15) = true)
    (a16 : PySem.W.nsIn K mainGlobals "in_time" = some (some (.ref f16))) (l16 : K.lookup f16 = some ⟨oc16, od16, .func (PySem.W.fnOf "in_time" "in_time" (defArgs (top 26)) (defBody (top 26)) (defScope (top 26)) .none kV16 dc16 pm16 an16 cd16 ct16), sl16⟩) (c16 : PySem.W.codeIn K cd16 "in_time" = true) (k16 : PySem.W.keepIn K (.ref f16) = true)
    (a17 : PySem.W.nsIn K mainGlobals "with_more" = some (some (.ref f17))) (l17 : K.lookup f17 = some ⟨oc17, od17, .func (PySem.W.fnOf "with_more" "with_more" (defArgs (top 27)) (defBody (top 27)) (defScope (top 27)) .none kV17 dc17 pm17 an17 cd17 ct17), sl17⟩) (c17 : PySem.W.codeIn K cd17 "with_more" = true) (k17 : PySem.W.keepIn K (.ref f17) = true)
    (a18 : PySem.W.nsIn K mainGlobals "with_one" = some (some (.ref f18))) (l18 : K.lookup f18 = some ⟨oc18, od18, .func (PySem.W.fnOf "with_one" "with_one" (defArgs (top 28)) (defBody (top 28)) (defScope (top 28)) .none kV18 dc18 pm18 an18 cd18 ct18), sl18⟩) (c18 : PySem.W.codeIn K cd18 "with_one" = true) (k18 : PySem.W.keepIn K (.ref f18) = true)
    (a19 : PySem.W.nsIn K mainGlobals "sharpest" = some (some (.ref f19))) (l19 : K.lookup f19 = some ⟨oc19, od19, .func (PySem.W.fnOf "sharpest" "sharpest" (defArgs (top 29)) (defBody (top 29)) (defScope (top 29)) .none kV19 dc19 pm19 an19 cd19 ct19), sl19⟩) (c19 : PySem.W.codeIn K cd19 "sharpest" = true) (k19 : PySem.W.keepIn K (.ref f19) = true)
    (a20 : PySem.W.nsIn K mainGlobals "_law_draw" = some (some (.ref f20))) (l20 : K.lookup f20 = some ⟨oc20, od20, .func (PySem.W.fnOf "_law_draw" "_law_draw" (defArgs (top 32)) (defBody (top 32)) (defScope (top 32)) .none kV20 dc20 pm20 an20 cd20 ct20), sl20⟩) (c20 : PySem.W.codeIn K cd20 "_law_draw" = true) (k20 : PySem.W.keepIn K (.ref f20) = true)
    (a21 : PySem.W.nsIn K mainGlobals "_law_any" = some (some (.ref f21))) (l21 : K.lookup f21 = some ⟨oc21, od21, .func (PySem.W.fnOf "_law_any" "_law_any" (defArgs (top 33)) (defBody (top 33)) (defScope (top 33)) .none kV21 dc21 pm21 an21 cd21 ct21), sl21⟩) (c21 : PySem.W.codeIn K cd21 "_law_any" = true) (k21 : PySem.W.keepIn K (.ref f21) = true)
    (a22 : PySem.W.nsIn K mainGlobals "_law_drawn" = some (some (.ref f22))) (l22 : K.lookup f22 = some ⟨oc22, od22, .func (PySem.W.fnOf "_law_drawn" "_law_drawn" (defArgs (top 34)) (defBody (top 34)) (defScope (top 34)) .none kV22 dc22 pm22 an22 cd22 ct22), sl22⟩) (c22 : PySem.W.codeIn K cd22 "_law_drawn" = true) (k22 : PySem.W.keepIn K (.ref f22) = true)
    (a23 : PySem.W.nsIn K mainGlobals "_law_led" = some (some (.ref f23))) (l23 : K.lookup f23 = some ⟨oc23, od23, .func (PySem.W.fnOf "_law_led" "_law_led" (defArgs (top 35)) (defBody (top 35)) (defScope (top 35)) .none kV23 dc23 pm23 an23 cd23 ct23), sl23⟩) (c23 : PySem.W.codeIn K cd23 "_law_led" = true) (k23 : PySem.W.keepIn K (.ref f23) = true)
    (a24 : PySem.W.nsIn K mainGlobals "_law_late" = some (some (.ref f24))) (l24 : K.lookup f24 = some ⟨oc24, od24, .func (PySem.W.fnOf "_law_late" "_law_late" (defArgs (top 36)) (defBody (top 36)) (defScope (top 36)) .none kV24 dc24 pm24 an24 cd24 ct24), sl24⟩) (c24 : PySem.W.codeIn K cd24 "_law_late" = true) (k24 : PySem.W.keepIn K (.ref f24) = true)
    (a25 : PySem.W.nsIn K mainGlobals "_law_odd" = some (some (.ref f25))) (l25 : K.lookup f25 = some ⟨oc25, od25, .func (PySem.W.fnOf "_law_odd" "_law_odd" (defArgs (top 37)) (defBody (top 37)) (defScope (top 37)) .none kV25 dc25 pm25 an25 cd25 ct25), sl25⟩) (c25 : PySem.W.codeIn K cd25 "_law_odd" = true) (k25 : PySem.W.keepIn K (.ref f25) = true)
    (a26 : PySem.W.nsIn K mainGlobals "_law_do_fit" = some (some (.ref f26))) (l26 : K.lookup f26 = some ⟨oc26, od26, .func (PySem.W.fnOf "_law_do_fit" "_law_do_fit" (defArgs (top 38)) (defBody (top 38)) (defScope (top 38)) .none kV26 dc26 pm26 an26 cd26 ct26), sl26⟩) (c26 : PySem.W.codeIn K cd26 "_law_do_fit" = true) (k26 : PySem.W.keepIn K (.ref f26) = true)
    (a27 : PySem.W.nsIn K mainGlobals "_law_lots" = some (some (.ref f27))) (l27 : K.lookup f27 = some ⟨oc27, od27, .func (PySem.W.fnOf "_law_lots" "_law_lots" (defArgs (top 39)) (defBody (top 39)) (defScope (top 39)) .none kV27 dc27 pm27 an27 cd27 ct27), sl27⟩) (c27 : PySem.W.codeIn K cd27 "_law_lots" = true) (k27 : PySem.W.keepIn K (.ref f27) = true)
    (a28 : PySem.W.nsIn K mainGlobals "_law_taken" = some (some (.ref f28))) (l28 : K.lookup f28 = some ⟨oc28, od28, .func (PySem.W.fnOf "_law_taken" "_law_taken" (defArgs (top 40)) (defBody (top 40)) (defScope (top 40)) .none kV28 dc28 pm28 an28 cd28 ct28), sl28⟩) (c28 : PySem.W.codeIn K cd28 "_law_taken" = true) (k28 : PySem.W.keepIn K (.ref f28) = true)
    (a29 : PySem.W.nsIn K mainGlobals "_law_sharp" = some (some (.ref f29))) (l29 : K.lookup f29 = some ⟨oc29, od29, .func (PySem.W.fnOf "_law_sharp" "_law_sharp" (defArgs (top 41)) (defBody (top 41)) (defScope (top 41)) .none kV29 dc29 pm29 an29 cd29 ct29), sl29⟩) (c29 : PySem.W.codeIn K cd29 "_law_sharp" = true) (k29 : PySem.W.keepIn K (.ref f29) = true)
    (a30 : PySem.W.nsIn K mainGlobals "_law_word" = some (some (.ref f30))) (l30 : K.lookup f30 = some ⟨oc30, od30, .func (PySem.W.fnOf "_law_word" "_law_word" (defArgs (top 42)) (defBody (top 42)) (defScope (top 42)) .none kV30 dc30 pm30 an30 cd30 ct30), sl30⟩) (c30 : PySem.W.codeIn K cd30 "_law_word" = true) (k30 : PySem.W.keepIn K (.ref f30) = true)
    (a31 : PySem.W.nsIn K mainGlobals "_law_is_right" = some (some (.ref f31))) (l31 : K.lookup f31 = some ⟨oc31, od31, .func (PySem.W.fnOf "_law_is_right" "_law_is_right" (defArgs (top 43)) (defBody (top 43)) (defScope (top 43)) .none kV31 dc31 pm31 an31 cd31 ct31), sl31⟩) (c31 : PySem.W.codeIn K cd31 "_law_is_right" = true) (k31 : PySem.W.keepIn K (.ref f31) = true)
    (a32 : PySem.W.nsIn K mainGlobals "law" = some (some (.ref f32))) (l32 : K.lookup f32 = some ⟨oc32, od32, .func (PySem.W.fnOf "law" "law" (defArgs (top 44)) (defBody (top 44)) (defScope (top 44)) .none kV32 dc32 pm32 an32 cd32 ct32), sl32⟩) (c32 : PySem.W.codeIn K cd32 "law" = true) (k32 : PySem.W.keepIn K (.ref f32) = true)
    (a33 : PySem.W.nsIn K mainGlobals "_law_hand" = some (some (.ref f33))) (l33 : K.lookup f33 = some ⟨oc33, od33, .func (PySem.W.fnOf "_law_hand" "_law_hand" (defArgs (top 31)) (defBody (top 31)) (defScope (top 31)) .none kV33 dc33 pm33 an33 cd33 ct33), sl33⟩) (c33 : PySem.W.codeIn K cd33 "_law_hand" = true) (k33 : PySem.W.keepIn K (.ref f33) = true)
    (z_isi : PySem.W.nsIn K mainGlobals "isinstance" = some none)
    (z_int : PySem.W.nsIn K mainGlobals "int" = some none)
    (z_bool : PySem.W.nsIn K mainGlobals "bool" = some none)
    (z_tup : PySem.W.nsIn K mainGlobals "tuple" = some none)
    (z_len : PySem.W.nsIn K mainGlobals "len" = some none)
    (z_all : PySem.W.nsIn K mainGlobals "all" = some none)
    (z_any : PySem.W.nsIn K mainGlobals "any" = some none)
    (z_zip : PySem.W.nsIn K mainGlobals "zip" = some none)
    (z_enum : PySem.W.nsIn K mainGlobals "enumerate" = some none)
    (z_max : PySem.W.nsIn K mainGlobals "max" = some none)
    (z_min : PySem.W.nsIn K mainGlobals "min" = some none)
    (z_sum : PySem.W.nsIn K mainGlobals "sum" = some none)
    (z_list : PySem.W.nsIn K mainGlobals "list" = some none)
    (z_sorted : PySem.W.nsIn K mainGlobals "sorted" = some none)
    (z_set : PySem.W.nsIn K mainGlobals "set" = some none)
    (z_repr : PySem.W.nsIn K mainGlobals "repr" = some none)
    (z_range : PySem.W.nsIn K mainGlobals "range" = some none)
    (z_abs : PySem.W.nsIn K mainGlobals "abs" = some none)
    (n_g0 : PySem.W.nsIn K mainGlobals "MOST_CASES" = some (some (.int 10 tk_g0)))
    (n_g1 : PySem.W.nsIn K mainGlobals "MOST_COMES" = some (some (.int 20 tk_g1)))
    (n_g2 : PySem.W.nsIn K mainGlobals "MOST_WORK" = some (some (.int 8 tk_g2)))
    (n_g3 : PySem.W.nsIn K mainGlobals "MOST_DUE" = some (some (.int 40 tk_g3)))
    (e_W : PySem.W.nsIn K mainGlobals "WayError" = some (some (.ref CW)))
    (e_T : PySem.W.nsIn K mainGlobals "NotTogether" = some (some (.ref NT)))
    (e_L : PySem.W.nsIn K mainGlobals "NoLot" = some (some (.ref NL)))
    (e_v : PySem.W.nsIn K mainGlobals "ValueError" = some none)
    (cT_q : PySem.W.excIn K NT [.type "ValueError", .type "Exception", .type "BaseException", .type "object"] "ValueError.__new__" = true)
    (cT_k : PySem.W.keepIn K (.ref NT) = true)
    (cT_b : PySem.W.subIn K (.ref NT) (.type "BaseException") = some true)
    (cT_t : PySem.W.typeIn K (.ref NT) = some (.type "type"))
    (cT_g : PySem.W.findIn K (.ref NT) "__getattribute__" = some (some (.builtin "BaseException.__getattribute__")))
    (cT_h : PySem.W.findIn K (.ref NT) "__getattr__" = some none)
    (cT_d : PySem.W.hasDictIn K NT = true)
    (cT_a : PySem.W.findIn K (.ref NT) "__class__" = some (some (.builtin "object.__class__")))
    (cT_m : PySem.W.mroIn K NT (.type "object") = some true)
    (cT_v : PySem.W.subIn K (.ref NT) (.type "ValueError") = some true)
    (cT_w : PySem.W.subIn K (.ref NT) (.ref CW) = some true)
    (cT_s : PySem.W.subIn K (.ref NT) (.ref NT) = some true)
    (cL_q : PySem.W.excIn K NL [.type "ValueError", .type "Exception", .type "BaseException", .type "object"] "ValueError.__new__" = true)
    (cL_k : PySem.W.keepIn K (.ref NL) = true)
    (cL_b : PySem.W.subIn K (.ref NL) (.type "BaseException") = some true)
    (cL_t : PySem.W.typeIn K (.ref NL) = some (.type "type"))
    (cL_g : PySem.W.findIn K (.ref NL) "__getattribute__" = some (some (.builtin "BaseException.__getattribute__")))
    (cL_h : PySem.W.findIn K (.ref NL) "__getattr__" = some none)
    (cL_d : PySem.W.hasDictIn K NL = true)
    (cL_a : PySem.W.findIn K (.ref NL) "__class__" = some (some (.builtin "object.__class__")))
    (cL_m : PySem.W.mroIn K NL (.type "object") = some true)
    (cL_v : PySem.W.subIn K (.ref NL) (.type "ValueError") = some true)
    (cL_w : PySem.W.subIn K (.ref NL) (.ref CW) = some true)
    (cL_s : PySem.W.subIn K (.ref NL) (.ref NL) = some true)
    (o_n : PySem.W.specialIn K (.builtin "object.__class__") "__get__" = some (some (.builtin "getset_descriptor.__get__")))
    (o_t : PySem.W.takesIn K (.builtin "object.__class__") = some true)
    (w_b : PySem.W.subIn K (.ref CW) (.type "BaseException") = some true)
    (w_d : PySem.W.hasDictIn K CW = true)
    (w_t : PySem.W.typeIn K (.ref CW) = some (.type "type"))
    (x_tl : PySem.W.subIn K (.ref NT) (.ref NL) = some false)
    (x_lt : PySem.W.subIn K (.ref NL) (.ref NT) = some false)
    : ∃ fd : FuncData, (∀ (s : Shared) (v : Value), BindsTo s fd ⟨[v], []⟩ [("script", v)]) ∧ ∀ base : Heap, K.In base → base.Ns mainGlobals mg → FnG l.prog w K mg base 10 fa fd ["script"] (sp_law K) := by
  have e := hfa.symm.trans (PySem.W.mg_of X G a32)
  cases e
  have T : Blt mg := { isi := PySem.W.mg_none_of X G z_isi, int := PySem.W.mg_none_of X G z_int, bool := PySem.W.mg_none_of X G z_bool, tup := PySem.W.mg_none_of X G z_tup, len := PySem.W.mg_none_of X G z_len, all := PySem.W.mg_none_of X G z_all, any := PySem.W.mg_none_of X G z_any, zip := PySem.W.mg_none_of X G z_zip, enum := PySem.W.mg_none_of X G z_enum, max := PySem.W.mg_none_of X G z_max, min := PySem.W.mg_none_of X G z_min, sum := PySem.W.mg_none_of X G z_sum, list := PySem.W.mg_none_of X G z_list, sorted := PySem.W.mg_none_of X G z_sorted, set := PySem.W.mg_none_of X G z_set, repr := PySem.W.mg_none_of X G z_repr, range := PySem.W.mg_none_of X G z_range, abs := PySem.W.mg_none_of X G z_abs, g0 := ⟨_, PySem.W.mg_of X G n_g0, _, rfl⟩, g1 := ⟨_, PySem.W.mg_of X G n_g1, _, rfl⟩, g2 := ⟨_, PySem.W.mg_of X G n_g2, _, rfl⟩, g3 := ⟨_, PySem.W.mg_of X G n_g3, _, rfl⟩ }
  have kT : Cls K NT CW := ⟨cT_q, cT_k, cT_b, cT_t, cT_g, cT_h, cT_d, cT_a, cT_m, cT_v, cT_w, cT_s⟩
  have kL : Cls K NL CW := ⟨cL_q, cL_k, cL_b, cL_t, cL_g, cL_h, cL_d, cL_a, cL_m, cL_v, cL_w, cL_s⟩
  have xE : Ers K mg CW NT NL := ers_of (PySem.W.mg_of X G e_W) (PySem.W.mg_of X G e_T) (PySem.W.mg_of X G e_L) (PySem.W.mg_none_of X G e_v) kT kL o_n o_t w_b w_d w_t x_tl x_lt
  have F1 := fun_mk (st := top 1) l1 c1 k1
  have D1 : Df K mg "is_integer" (top 1) ["thing"] f1 _ := ⟨F1, PySem.W.mg_of X G a1, F1.binds (ps := ["thing"]) fun _ _ _ _ _ _ us hl => match us, hl with | [_], _ => rfl⟩
  have F2 := fun_mk (st := top 2) l2 c2 k2
  have D2 : Df K mg "is_within" (top 2) ["thing", "low", "high"] f2 _ := ⟨F2, PySem.W.mg_of X G a2, F2.binds (ps := ["thing", "low", "high"]) fun _ _ _ _ _ _ us hl => match us, hl with | [_, _, _], _ => rfl⟩
  have F3 := fun_mk (st := top 3) l3 c3 k3
  have D3 : Df K mg "is_sized" (top 3) ["thing", "low", "high"] f3 _ := ⟨F3, PySem.W.mg_of X G a3, F3.binds (ps := ["thing", "low", "high"]) fun _ _ _ _ _ _ us hl => match us, hl with | [_, _, _], _ => rfl⟩
  have F4 := fun_mk (st := top 14) l4 c4 k4
  have D4 : Df K mg "is_case" (top 14) ["thing"] f4 _ := ⟨F4, PySem.W.mg_of X G a4, F4.binds (ps := ["thing"]) fun _ _ _ _ _ _ us hl => match us, hl with | [_], _ => rfl⟩
  have F5 := fun_mk (st := top 15) l5 c5 k5
  have D5 : Df K mg "is_queue" (top 15) ["thing"] f5 _ := ⟨F5, PySem.W.mg_of X G a5, F5.binds (ps := ["thing"]) fun _ _ _ _ _ _ us hl => match us, hl with | [_], _ => rfl⟩
  have F6 := fun_mk (st := top 16) l6 c6 k6
  have D6 : Df K mg "check_queue" (top 16) ["queue"] f6 _ := ⟨F6, PySem.W.mg_of X G a6, F6.binds (ps := ["queue"]) fun _ _ _ _ _ _ us hl => match us, hl with | [_], _ => rfl⟩
  have F7 := fun_mk (st := top 17) l7 c7 k7
  have D7 : Df K mg "is_lot" (top 17) ["thing", "many"] f7 _ := ⟨F7, PySem.W.mg_of X G a7, F7.binds (ps := ["thing", "many"]) fun _ _ _ _ _ _ us hl => match us, hl with | [_, _], _ => rfl⟩
  have F8 := fun_mk (st := top 18) l8 c8 k8
  have D8 : Df K mg "plan_by_dues" (top 18) ["queue"] f8 _ := ⟨F8, PySem.W.mg_of X G a8, F8.binds (ps := ["queue"]) fun _ _ _ _ _ _ us hl => match us, hl with | [_], _ => rfl⟩
  have F9 := fun_mk (st := top 19) l9 c9 k9
  have D9 : Df K mg "lots_of" (top 19) ["many"] f9 _ := ⟨F9, PySem.W.mg_of X G a9, F9.binds (ps := ["many"]) fun _ _ _ _ _ _ us hl => match us, hl with | [_], _ => rfl⟩
  have F10 := fun_mk (st := top 20) l10 c10 k10
  have D10 : Df K mg "shown_by" (top 20) ["queue", "lot"] f10 _ := ⟨F10, PySem.W.mg_of X G a10, F10.binds (ps := ["queue", "lot"]) fun _ _ _ _ _ _ us hl => match us, hl with | [_, _], _ => rfl⟩
  have F11 := fun_mk (st := top 21) l11 c11 k11
  have D11 : Df K mg "showing_lot" (top 21) ["queue"] f11 _ := ⟨F11, PySem.W.mg_of X G a11, F11.binds (ps := ["queue"]) fun _ _ _ _ _ _ us hl => match us, hl with | [_], _ => rfl⟩
  have F12 := fun_mk (st := top 22) l12 c12 k12
  have D12 : Df K mg "least_late" (top 22) ["queue"] f12 _ := ⟨F12, PySem.W.mg_of X G a12, F12.binds (ps := ["queue"]) fun _ _ _ _ _ _ us hl => match us, hl with | [_], _ => rfl⟩
  have F13 := fun_mk (st := top 23) l13 c13 k13
  have D13 : Df K mg "check_together" (top 23) ["queue"] f13 _ := ⟨F13, PySem.W.mg_of X G a13, F13.binds (ps := ["queue"]) fun _ _ _ _ _ _ us hl => match us, hl with | [_], _ => rfl⟩
  have F14 := fun_mk (st := top 24) l14 c14 k14
  have D14 : Df K mg "are_in_time" (top 24) ["queue", "lot"] f14 _ := ⟨F14, PySem.W.mg_of X G a14, F14.binds (ps := ["queue", "lot"]) fun _ _ _ _ _ _ us hl => match us, hl with | [_, _], _ => rfl⟩
  have F15 := fun_mk (st := top 25) l15 c15 k15
  have D15 : Df K mg "most_in_time" (top 25) ["queue"] f15 _ := ⟨F15, PySem.W.mg_of X G a15, F15.binds (ps := ["queue"]) fun _ _ _ _ _ _ us hl => match us, hl with | [_], _ => rfl⟩
  have F16 := fun_mk (st := top 26) l16 c16 k16
  have D16 : Df K mg "in_time" (top 26) ["queue", "lot"] f16 _ := ⟨F16, PySem.W.mg_of X G a16, F16.binds (ps := ["queue", "lot"]) fun _ _ _ _ _ _ us hl => match us, hl with | [_, _], _ => rfl⟩
  have F17 := fun_mk (st := top 27) l17 c17 k17
  have D17 : Df K mg "with_more" (top 27) ["queue", "more"] f17 _ := ⟨F17, PySem.W.mg_of X G a17, F17.binds (ps := ["queue", "more"]) fun _ _ _ _ _ _ us hl => match us, hl with | [_, _], _ => rfl⟩
  have F18 := fun_mk (st := top 28) l18 c18 k18
  have D18 : Df K mg "with_one" (top 28) ["queue", "number", "more"] f18 _ := ⟨F18, PySem.W.mg_of X G a18, F18.binds (ps := ["queue", "number", "more"]) fun _ _ _ _ _ _ us hl => match us, hl with | [_, _, _], _ => rfl⟩
  have F19 := fun_mk (st := top 29) l19 c19 k19
  have D19 : Df K mg "sharpest" (top 29) ["queue"] f19 _ := ⟨F19, PySem.W.mg_of X G a19, F19.binds (ps := ["queue"]) fun _ _ _ _ _ _ us hl => match us, hl with | [_], _ => rfl⟩
  have F20 := fun_mk (st := top 32) l20 c20 k20
  have D20 : Df K mg "_law_draw" (top 32) ["hand", "many"] f20 _ := ⟨F20, PySem.W.mg_of X G a20, F20.binds (ps := ["hand", "many"]) fun _ _ _ _ _ _ us hl => match us, hl with | [_, _], _ => rfl⟩
  have F21 := fun_mk (st := top 33) l21 c21 k21
  have D21 : Df K mg "_law_any" (top 33) ["hand", "some"] f21 _ := ⟨F21, PySem.W.mg_of X G a21, F21.binds (ps := ["hand", "some"]) fun _ _ _ _ _ _ us hl => match us, hl with | [_, _], _ => rfl⟩
  have F22 := fun_mk (st := top 34) l22 c22 k22
  have D22 : Df K mg "_law_drawn" (top 34) ["hand", "most", "spread"] f22 _ := ⟨F22, PySem.W.mg_of X G a22, F22.binds (ps := ["hand", "most", "spread"]) fun _ _ _ _ _ _ us hl => match us, hl with | [_, _, _], _ => rfl⟩
  have F23 := fun_mk (st := top 35) l23 c23 k23
  have D23 : Df K mg "_law_led" (top 35) ["queue"] f23 _ := ⟨F23, PySem.W.mg_of X G a23, F23.binds (ps := ["queue"]) fun _ _ _ _ _ _ us hl => match us, hl with | [_], _ => rfl⟩
  have F24 := fun_mk (st := top 36) l24 c24 k24
  have D24 : Df K mg "_law_late" (top 36) ["queue", "plan"] f24 _ := ⟨F24, PySem.W.mg_of X G a24, F24.binds (ps := ["queue", "plan"]) fun _ _ _ _ _ _ us hl => match us, hl with | [_, _], _ => rfl⟩
  have F25 := fun_mk (st := top 37) l25 c25 k25
  have D25 : Df K mg "_law_odd" (top 37) ["hand"] f25 _ := ⟨F25, PySem.W.mg_of X G a25, F25.binds (ps := ["hand"]) fun _ _ _ _ _ _ us hl => match us, hl with | [_], _ => rfl⟩
  have F26 := fun_mk (st := top 38) l26 c26 k26
  have D26 : Df K mg "_law_do_fit" (top 38) ["queue", "lot"] f26 _ := ⟨F26, PySem.W.mg_of X G a26, F26.binds (ps := ["queue", "lot"]) fun _ _ _ _ _ _ us hl => match us, hl with | [_, _], _ => rfl⟩
  have F27 := fun_mk (st := top 39) l27 c27 k27
  have D27 : Df K mg "_law_lots" (top 39) ["many"] f27 _ := ⟨F27, PySem.W.mg_of X G a27, F27.binds (ps := ["many"]) fun _ _ _ _ _ _ us hl => match us, hl with | [_], _ => rfl⟩
  have F28 := fun_mk (st := top 40) l28 c28 k28
  have D28 : Df K mg "_law_taken" (top 40) ["queue"] f28 _ := ⟨F28, PySem.W.mg_of X G a28, F28.binds (ps := ["queue"]) fun _ _ _ _ _ _ us hl => match us, hl with | [_], _ => rfl⟩
  have F29 := fun_mk (st := top 41) l29 c29 k29
  have D29 : Df K mg "_law_sharp" (top 41) ["queue"] f29 _ := ⟨F29, PySem.W.mg_of X G a29, F29.binds (ps := ["queue"]) fun _ _ _ _ _ _ us hl => match us, hl with | [_], _ => rfl⟩
  have F30 := fun_mk (st := top 42) l30 c30 k30
  have D30 : Df K mg "_law_word" (top 42) ["queue", "which", "lot"] f30 _ := ⟨F30, PySem.W.mg_of X G a30, F30.binds (ps := ["queue", "which", "lot"]) fun _ _ _ _ _ _ us hl => match us, hl with | [_, _, _], _ => rfl⟩
  have F31 := fun_mk (st := top 43) l31 c31 k31
  have D31 : Df K mg "_law_is_right" (top 43) ["hand", "queue"] f31 _ := ⟨F31, PySem.W.mg_of X G a31, F31.binds (ps := ["hand", "queue"]) fun _ _ _ _ _ _ us hl => match us, hl with | [_, _], _ => rfl⟩
  have F32 := fun_mk (st := top 44) l32 c32 k32
  have F33 := fun_mk (st := top 31) l33 c33 k33
  have D33 : Df K mg "_law_hand" (top 31) ["script"] f33 _ := ⟨F33, PySem.W.mg_of X G a33, F33.binds (ps := ["script"]) fun _ _ _ _ _ _ us hl => match us, hl with | [_], _ => rfl⟩
  refine ⟨PySem.W.fnOf "law" "law" (defArgs (top 44)) (defBody (top 44)) (defScope (top 44)) .none kV32 dc32 pm32 an32 cd32 ct32, fun s v => .of_eq rfl, fun base _ _ => ?_⟩
  have C1 := D1.cl (ok_is_integer (P := l.prog) (w := w) (base := base) F1 T)
  have C2 := D2.cl (ok_is_within (P := l.prog) (w := w) (base := base) F2 T C1)
  have C3 := D3.cl (ok_is_sized (P := l.prog) (w := w) (base := base) F3 T)
  have C4 := D4.cl (ok_is_case (P := l.prog) (w := w) (base := base) F4 T C2 C3)
  have C5 := D5.cl (ok_is_queue (P := l.prog) (w := w) (base := base) F5 T C3 C4)
  have C6 := D6.cl (ok_check_queue (P := l.prog) (w := w) (base := base) F6 C5)
  have C7 := D7.cl (ok_is_lot (P := l.prog) (w := w) (base := base) F7 T C2)
  have C8 := D8.cl (ok_dues (P := l.prog) (w := w) (base := base) F8 T)
  have C9 := D9.cl (ok_lof (P := l.prog) (w := w) (base := base) F9 T)
  have C10 := D10.cl (ok_shown (P := l.prog) (w := w) (base := base) F10 T)
  have C11 := D11.cl (ok_showing (P := l.prog) (w := w) (base := base) F11 T C10)
  have C12 := D12.cl (ok_ll (P := l.prog) (w := w) (base := base) F12 C6 C11 C8)
  have C13 := D13.clX (ok_ct (P := l.prog) (w := w) (base := base) F13 T (kT.exs xE.gT) C6)
  have C14 := D14.cl (ok_air (P := l.prog) (w := w) (base := base) F14 T)
  have C15 := D15.clX (ok_mit (P := l.prog) (w := w) (base := base) F15 T C13 C9 C14)
  have C16 := D16.clX (ok_int2 (P := l.prog) (w := w) (base := base) F16 T (kL.exs xE.gL) C13 C7 C14)
  have C17 := D17.cl (ok_moreL (P := l.prog) (w := w) (base := base) F17 T)
  have C18 := D18.cl (ok_one (P := l.prog) (w := w) (base := base) F18 T C17)
  have C19 := D19.cl (ok_sharp (P := l.prog) (w := w) (base := base) F19 T C6 C11 C18)
  have C20 := D20.cl (ok_draw (P := l.prog) (w := w) (base := base) F20 T)
  have C21 := D21.cl (ok_any (P := l.prog) (w := w) (base := base) F21 T C20)
  have C22 := D22.cl (ok_drawn (P := l.prog) (w := w) (base := base) F22 T C20 C21)
  have C23 := D23.cl (ok_led (P := l.prog) (w := w) (base := base) F23 T)
  have C24 := D24.cl (ok_late (P := l.prog) (w := w) (base := base) F24 T)
  have C25 := D25.cl (ok_odd (P := l.prog) (w := w) (base := base) F25 T C20 C21)
  have C26 := D26.cl (ok_dof (P := l.prog) (w := w) (base := base) F26 T)
  have C27 := D27.cl (ok_lots (P := l.prog) (w := w) (base := base) F27 T)
  have C28 := D28.cl (ok_taken (P := l.prog) (w := w) (base := base) F28 T)
  have C29 := D29.cl (ok_lsharp (P := l.prog) (w := w) (base := base) F29 T C24 C23)
  have C30 := D30.cl (ok_word (P := l.prog) (w := w) (base := base) F30 T xE C15 C16)
  have C31 := D31.cl (ok_right (P := l.prog) (w := w) (base := base) F31 T C27 C26 C15 C16 C28 C20 C21 C25 C30 C12)
  exact ok_law (P := l.prog) (w := w) (base := base) F32 T D33 C21 C22 C31 C19 C29 C15 C16
end A
open PySem PySem.W PyProof.Rows
set_option maxRecDepth 100000 in
set_option maxHeartbeats 0 in
theorem PySem.Challenge.cw_everyedition_k98_whole_most_in_time_and_holds : PySem.Challenge.rw_everyedition_k98_whole_most_in_time_and.Holds := by
  w_on; o_law; k_head; (case hw => w_witness2)
  k_fill
  refine _root_.E.walk_G (l := PySem.Challenge.rw_everyedition_k98_whole_most_in_time_and) (n := 63) (k := 10) (x := "script") (sp := A.sp_law) rfl (by decide) rfl ⟨⟨rfl, by decide, by decide⟩, rfl⟩ (fun w h Y => PySem.W.kIn_of Y) ?F (fun K H a ns hl _ hS => ⟨a, ns, rfl, hS, hl, fun _ => rfl⟩)
  case F =>
    intro w mg fa h KX G hmg
    refine' A.all_mk KX G hmg ?a1 ?l1 ?c1 ?k1 ?a2 ?l2 ?c2 ?k2 ?a3 ?l3 ?c3 ?k3 ?a4 ?l4 ?c4 ?k4 ?a5 ?l5 ?c5 ?k5 ?a6 ?l6 ?c6 ?k6 ?a7 ?l7 ?c7 ?k7 ?a8 ?l8 ?c8 ?k8 ?a9 ?l9 ?c9 ?k9 ?a10 ?l10 ?c10 ?k10 ?a11 ?l11 ?c11 ?k11 ?a12 ?l12 ?c12 ?k12 ?a13 ?l13 ?c13 ?k13 ?a14 ?l14 ?c14 ?k14 ?a15 ?l15 ?c15 ?k15 ?a16 ?l16 ?c16 ?k16 ?a17 ?l17 ?c17 ?k17 ?a18 ?l18 ?c18 ?k18 ?a19 ?l19 ?c19 ?k19 ?a20 ?l20 ?c20 ?k20 ?a21 ?l21 ?c21 ?k21 ?a22 ?l22 ?c22 ?k22 ?a23 ?l23 ?c23 ?k23 ?a24 ?l24 ?c24 ?k24 ?a25 ?l25 ?c25 ?k25 ?a26 ?l26 ?c26 ?k26 ?a27 ?l27 ?c27 ?k27 ?a28 ?l28 ?c28 ?k28 ?a29 ?l29 ?c29 ?k29 ?a30 ?l30 ?c30 ?k30 ?a31 ?l31 ?c31 ?k31 ?a32 ?l32 ?c32 ?k32 ?a33 ?l33 ?c33 ?k33 ?z_isi ?z_int ?z_bool ?z_tup ?z_len ?z_all ?z_any ?z_zip ?z_enum ?z_max ?z_min ?z_sum ?z_list ?z_sorted ?z_set ?z_repr ?z_range ?z_abs ?n_g0 ?n_g1 ?n_g2 ?n_g3 ?e_W ?e_T ?e_L ?e_v ?cT_q ?cT_k ?cT_b ?cT_t ?cT_g ?cT_h ?cT_d ?cT_a ?cT_m ?cT_v ?cT_w ?cT_s ?cL_q ?cL_k ?cL_b ?cL_t ?cL_g ?cL_h ?cL_d ?cL_a ?cL_m ?cL_v ?cL_w ?cL_s ?o_n ?o_t ?w_b ?w_d ?w_t ?x_tl ?x_lt
    (case a1 => k_is)
    (case l1 => k_is)
    (case c1 => k_is)
    (case k1 => k_is)
    (case a2 => k_is)
    (case l2 => k_is)
    (case c2 => k_is)
    (case k2 => k_is)
    (case a3 => k_is)
    (case l3 => k_is)
    (case c3 => k_is)
    (case k3 => k_is)
    (case a4 => k_is)
    (case l4 => k_is)
    (case c4 => k_is)
    (case k4 => k_is)
    (case a5 => k_is)
    (case l5 => k_is)
    (case c5 => k_is)
    (case k5 => k_is)
    (case a6 => k_is)
    (case l6 => k_is)
    (case c6 => k_is)
    (case k6 => k_is)
    (case a7 => k_is)
    (case l7 => k_is)
    (case c7 => k_is)
    (case k7 => k_is)
    (case a8 => k_is)
    (case l8 => k_is)
    (case c8 => k_is)
    (case k8 => k_is)
    (case a9 => k_is)
    (case l9 => k_is)
    (case c9 => k_is)
    (case k9 => k_is)
    (case a10 => k_is)
    (case l10 => k_is)
    (case c10 => k_is)
    (case k10 => k_is)
    (case a11 => k_is)
    (case l11 => k_is)
    (case c11 => k_is)
    (case k11 => k_is)
    (case a12 => k_is)
    (case l12 => k_is)
    (case c12 => k_is)
    (case k12 => k_is)
    (case a13 => k_is)
    (case l13 => k_is)
    (case c13 => k_is)
    (case k13 => k_is)
    (case a14 => k_is)
    (case l14 => k_is)
    (case c14 => k_is)
    (case k14 => k_is)
    (case a15 => k_is)
    (case l15 => k_is)
    (case c15 => k_is)
    (case k15 => k_is)
    (case a16 => k_is)
    (case l16 => k_is)
    (case c16 => k_is)
    (case k16 => k_is)
    (case a17 => k_is)
    (case l17 => k_is)
    (case c17 => k_is)
    (case k17 => k_is)
    (case a18 => k_is)
    (case l18 => k_is)
    (case c18 => k_is)
    (case k18 => k_is)
    (case a19 => k_is)
    (case l19 => k_is)
    (case c19 => k_is)
    (case k19 => k_is)
    (case a20 => k_is)
    (case l20 => k_is)
    (case c20 => k_is)
    (case k20 => k_is)
    (case a21 => k_is)
    (case l21 => k_is)
    (case c21 => k_is)
    (case k21 => k_is)
    (case a22 => k_is)
    (case l22 => k_is)
    (case c22 => k_is)
    (case k22 => k_is)
    (case a23 => k_is)
    (case l23 => k_is)
    (case c23 => k_is)
    (case k23 => k_is)
    (case a24 => k_is)
    (case l24 => k_is)
    (case c24 => k_is)
    (case k24 => k_is)
    (case a25 => k_is)
    (case l25 => k_is)
    (case c25 => k_is)
    (case k25 => k_is)
    (case a26 => k_is)
    (case l26 => k_is)
    (case c26 => k_is)
    (case k26 => k_is)
    (case a27 => k_is)
    (case l27 => k_is)
    (case c27 => k_is)
    (case k27 => k_is)
    (case a28 => k_is)
    (case l28 => k_is)
    (case c28 => k_is)
    (case k28 => k_is)
    (case a29 => k_is)
    (case l29 => k_is)
    (case c29 => k_is)
    (case k29 => k_is)
    (case a30 => k_is)
    (case l30 => k_is)
    (case c30 => k_is)
    (case k30 => k_is)
    (case a31 => k_is)
    (case l31 => k_is)
    (case c31 => k_is)
    (case k31 => k_is)
    (case a32 => k_is)
    (case l32 => k_is)
    (case c32 => k_is)
    (case k32 => k_is)
    (case a33 => k_is)
    (case l33 => k_is)
    (case c33 => k_is)
    (case k33 => k_is)
    (case z_isi => k_is)
    (case z_int => k_is)
    (case z_bool => k_is)
    (case z_tup => k_is)
    (case z_len => k_is)
    (case z_all => k_is)
    (case z_any => k_is)
    (case z_zip => k_is)
    (case z_enum => k_is)
    (case z_max => k_is)
    (case z_min => k_is)
    (case z_sum => k_is)
    (case z_list => k_is)
    (case z_sorted => k_is)
    (case z_set => k_is)
    (case z_repr => k_is)
    (case z_range => k_is)
    (case z_abs => k_is)
    (case n_g0 => k_is)
    (case n_g1 => k_is)
    (case n_g2 => k_is)
    (case n_g3 => k_is)
    (case e_W => k_is)
    (case e_T => k_is)
    (case e_L => k_is)
    (case e_v => k_is)
    (case cT_q => k_exc)
    (case cT_k => k_is)
    (case cT_b => k_is)
    (case cT_t => k_is)
    (case cT_g => k_is)
    (case cT_h => k_is)
    (case cT_d => k_is)
    (case cT_a => k_is)
    (case cT_m => k_is)
    (case cT_v => k_is)
    (case cT_w => k_is)
    (case cT_s => first | rfl | k_is)
    (case cL_q => k_exc)
    (case cL_k => k_is)
    (case cL_b => k_is)
    (case cL_t => k_is)
    (case cL_g => k_is)
    (case cL_h => k_is)
    (case cL_d => k_is)
    (case cL_a => k_is)
    (case cL_m => k_is)
    (case cL_v => k_is)
    (case cL_w => k_is)
    (case cL_s => first | rfl | k_is)
    (case o_n => k_is)
    (case o_t => k_is)
    (case w_b => k_is)
    (case w_d => k_is)
    (case w_t => k_is)
    (case x_tl => k_is)
    (case x_lt => k_is)
#print axioms PySem.Challenge.cw_everyedition_k98_whole_most_in_time_and_holds
