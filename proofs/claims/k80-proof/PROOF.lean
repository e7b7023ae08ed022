import PyProof.Rows.All
import Wide.All
import OpenK.AllK
import Wide.FinOn
import HandS.ForMost
import HandS.IsInst
import HandS.TupAny
import HandS.Strs
import HandS.Style
import HandS.Zip
import HandS.DeepEq
import HandS.SortInts
import KE.GoesMore
import KE.DataMinMax
import HandS.RevTup
import HandS.SetFor
import HandS.TupMul
import HandS.Conv
import HandS.Exc
import HandS.ExcOwn
import HandS.ExcIs
import HandS.WordsExc
import HandS.WideBits
import PyProof.P3In
import HandS.SetKeys
import HandS.WordsDict
import PyProof.Rows.RuleB_bool
import PyProof.EqKinds
import KE.SortData
import PyProof.Rows.SumAny
import PyProof.Walks
import PyProof.ListOps
import HandS.Flow
import PySem.Challenge.RW_everyedition_k80_whole_three_editions
set_option Elab.async false
set_option linter.all false
set_option maxRecDepth 100000
/-! The data layer: what a def computes over plain data, over the hand layer's readings. -/
namespace E
open PySem L2

/-- plain data -/
inductive D where
  | non | bl (b : Bool) | int (i : Int) | str (s : Str) | tup (l : List D) | lst (l : List D) | dic
  /-- a tuple of texts that the module holds -/
  | kon (a : Addr) (l : List Str)
/-- what a law's text gives: the module's tuples that may stand in data; how the hand's cells are -/
class KF where
  kon : Addr → List Str → Prop
  hand : List Int → List Int → Prop
/-- a tuple of texts that the module holds -/
def KonAt (K : PySem.W.Frag) (a : Addr) (l : List Str) : Prop := ∃ (o : Obj) (its : Array Value) (n : Nat), K.lookup a = some o ∧ o.cls = .type "tuple" ∧ o.data = .seq its n ∧ its.size ≤ sizeLine ∧ Vals (l.map V.str) its.toList
variable [KF]
class KonK (K : PySem.W.Frag) : Prop where
  ok : ∀ (a : Addr) (l : List Str), KF.kon a l → KonAt K a l
theorem kon_sq {K : PySem.W.Frag} [k : KonK K] {H : Hp} {a : Addr} {l : List Str} (h : KF.kon a l) : SqT K H a (l.map V.str) := .inr (k.ok a l h)
instance {CX : CXT} {P : Program} {w : World} {K : PySem.W.Frag} {mg : Str → Option Value} {base : Heap} {N : List Str} {q : Str} {sc : Scope} {f : Addr} {cd : Value} {A : Around} {o : List Env} {s : Shared} {H : Hp} {E : XK} [k : KonK K] : KonK (cxOf CX P w K mg base N q sc f cd A o s H E).K := k

abbrev Ex (H H' : Hp) : Prop := ∀ a o, H a = some o → H' a = some o
theorem Ex.refl (H : Hp) : Ex H H := fun _ _ h => h
theorem Ex.trans {H H1 H2 : Hp} (a : Ex H H1) (b : Ex H1 H2) : Ex H H2 := fun x o h => b x o (a x o h)
theorem Ex.new {H : Hp} {p : Addr} {o : HO} (h : H p = none) : Ex H (upd H p o) := fun a u e => by
  rw [upd_ne (ne_of_none e h)]
  exact e
theorem Ex.none {H H' : Hp} {p : Addr} (e : Ex H H') (h : H' p = none) : H p = none := by
  cases h1 : H p with
  | none => rfl
  | some o => rw [e p o h1] at h; cases h

/-! ### what a value stands for -/
mutual
inductive Dn (F : Hp) : V → D → Prop
  | non : Dn F .non .non
  | bl (b : Bool) : Dn F (.bl b) (.bl b)
  | int (i : Int) : Dn F (.int i) (.int i)
  | str (s : Str) : Dn F (.str s) (.str s)
  | tup {a : Addr} {xs : List V} {ds : List D} : F a = some (.tup xs) → DnL F xs ds → Dn F (.ref a) (.tup ds)
  | lst {a : Addr} {xs : List V} {ds : List D} : F a = some (.lst xs) → DnL F xs ds → Dn F (.ref a) (.lst ds)
  | dic {a : Addr} : F a = some (.dK []) → Dn F (.ref a) .dic
  | kon {a : Addr} {l : List Str} : KF.kon a l → Dn F (.ref a) (.kon a l)
inductive DnL (F : Hp) : List V → List D → Prop
  | nil : DnL F [] []
  | cons {x : V} {d : D} {xs : List V} {ds : List D} : Dn F x d → DnL F xs ds → DnL F (x :: xs) (d :: ds)
end
mutual
theorem Dn.mono {F F' : Hp} (e : Ex F F') : ∀ {v : V} {d : D}, Dn F v d → Dn F' v d
  | _, _, .non => .non
  | _, _, .bl b => .bl b
  | _, _, .int i => .int i
  | _, _, .str s => .str s
  | _, _, .tup h l => .tup (e _ _ h) (DnL.mono e l)
  | _, _, .lst h l => .lst (e _ _ h) (DnL.mono e l)
  | _, _, .dic h => .dic (e _ _ h)
  | _, _, .kon h => .kon h
theorem DnL.mono {F F' : Hp} (e : Ex F F') : ∀ {vs : List V} {ds : List D}, DnL F vs ds → DnL F' vs ds
  | _, _, .nil => .nil
  | _, _, .cons h l => .cons (Dn.mono e h) (DnL.mono e l)
end
theorem DnL.len {F : Hp} : ∀ {vs : List V} {ds : List D}, DnL F vs ds → vs.length = ds.length
  | _, _, .nil => rfl
  | _, _, .cons _ l => congrArg (· + 1) (DnL.len l)
theorem DnL.app {F : Hp} : ∀ {vs ws : List V} {ds es : List D}, DnL F vs ds → DnL F ws es → DnL F (vs ++ ws) (ds ++ es)
  | _, _, _, _, .nil, s => s
  | _, _, _, _, .cons h l, s => .cons h (DnL.app l s)
theorem DnL.get {F : Hp} : ∀ {vs : List V} {ds : List D} (i : Nat) {d : D}, DnL F vs ds → ds[i]? = some d → ∃ v, vs[i]? = some v ∧ Dn F v d
  | _, _, 0, _, .cons h _, e => by simp at e; subst e; exact ⟨_, rfl, h⟩
  | _, _, i + 1, d, .cons _ l, e => by
    obtain ⟨v, h1, h2⟩ := DnL.get i l (by simpa using e)
    exact ⟨v, by simpa using h1, h2⟩
theorem DnL.getV {F : Hp} : ∀ {vs : List V} {ds : List D} (i : Nat) {v : V}, DnL F vs ds → vs[i]? = some v → ∃ d, ds[i]? = some d ∧ Dn F v d
  | _, _, 0, _, .cons h _, e => by simp at e; subst e; exact ⟨_, rfl, h⟩
  | _, _, i + 1, d, .cons _ l, e => by
    obtain ⟨v, h1, h2⟩ := DnL.getV i l (by simpa using e)
    exact ⟨v, by simpa using h1, h2⟩
theorem DnL.take {F : Hp} : ∀ {vs : List V} {ds : List D} (n : Nat), DnL F vs ds → DnL F (vs.take n) (ds.take n)
  | _, _, 0, _ => .nil
  | _, _, _ + 1, .nil => .nil
  | _, _, n + 1, .cons h l => .cons h (DnL.take n l)
theorem DnL.drop {F : Hp} : ∀ {vs : List V} {ds : List D} (n : Nat), DnL F vs ds → DnL F (vs.drop n) (ds.drop n)
  | _, _, 0, h => h
  | _, _, _ + 1, .nil => .nil
  | _, _, n + 1, .cons _ l => DnL.drop n l
theorem DnL.set {F : Hp} {x : V} {d : D} (h : Dn F x d) : ∀ {vs : List V} {ds : List D} (n : Nat), DnL F vs ds → DnL F (vs.set n x) (ds.set n d)
  | _, _, _, .nil => .nil
  | _, _, 0, .cons _ l => .cons h l
  | _, _, n + 1, .cons q l => .cons q (DnL.set h n l)
theorem DnL.erase {F : Hp} : ∀ {vs : List V} {ds : List D} (n : Nat), DnL F vs ds → DnL F (vs.eraseIdx n) (ds.eraseIdx n)
  | _, _, _, .nil => .nil
  | _, _, 0, .cons _ l => l
  | _, _, n + 1, .cons q l => .cons q (DnL.erase n l)
theorem DnL.rev {F : Hp} : ∀ {vs : List V} {ds : List D}, DnL F vs ds → DnL F vs.reverse ds.reverse
  | _, _, .nil => .nil
  | _, _, .cons q l => by
    rw [List.reverse_cons, List.reverse_cons]
    exact DnL.app (DnL.rev l) (.cons q .nil)
theorem DnL.ints {F : Hp} : ∀ {vs : List V} (ns : List Int), DnL F vs (ns.map D.int) → vs = ns.map V.int
  | _, [], .nil => rfl
  | _, _ :: r, .cons h l => by cases h; rw [DnL.ints r l]; rfl
theorem DnL.bls {F : Hp} : ∀ {vs : List V} (ns : List Bool), DnL F vs (ns.map D.bl) → vs = ns.map V.bl
  | _, [], .nil => rfl
  | _, _ :: r, .cons h l => by cases h; rw [DnL.bls r l]; rfl
theorem DnL.of_ints {F : Hp} : ∀ (ns : List Int), DnL F (ns.map V.int) (ns.map D.int)
  | [] => .nil
  | i :: r => .cons (.int i) (DnL.of_ints r)
theorem DnL.pair {F : Hp} {P : V × D → Prop} : ∀ {vs : List V} {ds : List D}, DnL F vs ds → ∀ x ∈ vs.zip ds, Dn F x.1 x.2
  | _, _, .nil, x, h => by simp at h
  | _, _, .cons q l, x, h => by
    rw [List.zip_cons_cons, List.mem_cons] at h
    rcases h with rfl | h
    · exact q
    · exact DnL.pair (P := P) l x h
theorem DnL.of_all {F : Hp} : ∀ {vs : List V} {ds : List D}, vs.length = ds.length → (∀ x ∈ vs.zip ds, Dn F x.1 x.2) → DnL F vs ds
  | [], [], _, _ => .nil
  | [], _ :: _, h, _ => by simp at h
  | _ :: _, [], h, _ => by simp at h
  | v :: vs, d :: ds, h, k => .cons (k (v, d) (by simp)) (DnL.of_all (by simpa using h) fun x hx => k x (by rw [List.zip_cons_cons]; exact List.mem_cons_of_mem _ hx))

/-! ### what is one's own -/
/-- plain data, an object of one's own by its place, a tuple of such -/
inductive Di where
  | d (d : D) | o (k : Nat) | t (l : List Di)
/-- an object of one's own: a list of data, a list, a dict, an instance -/
inductive Ob where
  | l (ds : List D) | g (is : List Di) | x (es : List (Key × Di)) | i (C : Addr) (fs : List (Str × Di))
mutual
inductive Iv (F : Hp) (ps : List Addr) : V → Di → Prop
  | d {v : V} {d : D} : Dn F v d → Iv F ps v (.d d)
  | o {k : Nat} {p : Addr} : ps[k]? = some p → Iv F ps (.ref p) (.o k)
  | t {a : Addr} {xs : List V} {is : List Di} : F a = some (.tup xs) → IvL F ps xs is → Iv F ps (.ref a) (.t is)
inductive IvL (F : Hp) (ps : List Addr) : List V → List Di → Prop
  | nil : IvL F ps [] []
  | cons {x : V} {i : Di} {xs : List V} {is : List Di} : Iv F ps x i → IvL F ps xs is → IvL F ps (x :: xs) (i :: is)
end
inductive IvE {κ : Type} (F : Hp) (ps : List Addr) : List (κ × V) → List (κ × Di) → Prop
  | nil : IvE F ps [] []
  | cons {k : κ} {x : V} {i : Di} {xs : List (κ × V)} {is : List (κ × Di)} : Iv F ps x i → IvE F ps xs is → IvE F ps ((k, x) :: xs) ((k, i) :: is)
mutual
theorem Iv.mono {F F' : Hp} {ps ps' : List Addr} (e : Ex F F') (hp : ∀ (k : Nat) (p : Addr), ps[k]? = some p → ps'[k]? = some p) : ∀ {v : V} {i : Di}, Iv F ps v i → Iv F' ps' v i
  | _, _, .d h => .d (h.mono e)
  | _, _, .o h => .o (hp _ _ h)
  | _, _, .t h l => .t (e _ _ h) (IvL.mono e hp l)
theorem IvL.mono {F F' : Hp} {ps ps' : List Addr} (e : Ex F F') (hp : ∀ (k : Nat) (p : Addr), ps[k]? = some p → ps'[k]? = some p) : ∀ {vs : List V} {is : List Di}, IvL F ps vs is → IvL F' ps' vs is
  | _, _, .nil => .nil
  | _, _, .cons h l => .cons (Iv.mono e hp h) (IvL.mono e hp l)
end
theorem IvE.mono {κ : Type} {F F' : Hp} {ps ps' : List Addr} (e : Ex F F') (hp : ∀ (k : Nat) (p : Addr), ps[k]? = some p → ps'[k]? = some p) : ∀ {vs : List (κ × V)} {is : List (κ × Di)}, IvE F ps vs is → IvE F' ps' vs is
  | _, _, .nil => .nil
  | _, _, .cons h l => .cons (Iv.mono e hp h) (IvE.mono e hp l)
mutual
/-- the places it knows lie ahead of n -/
inductive Bd (n : Nat) : Di → Prop
  | d (d : D) : Bd n (.d d)
  | o {k : Nat} : k < n → Bd n (.o k)
  | t {l : List Di} : BdL n l → Bd n (.t l)
inductive BdL (n : Nat) : List Di → Prop
  | nil : BdL n []
  | cons {i : Di} {l : List Di} : Bd n i → BdL n l → BdL n (i :: l)
end
mutual
theorem Iv.bd {F : Hp} {ps : List Addr} : ∀ {v : V} {i : Di}, Iv F ps v i → Bd ps.length i
  | _, _, .d h => .d _
  | _, _, .o h => .o (List.getElem?_eq_some_iff.mp h).1
  | _, _, .t h l => .t (IvL.bd l)
theorem IvL.bd {F : Hp} {ps : List Addr} : ∀ {v : List V} {i : List Di}, IvL F ps v i → BdL ps.length i
  | _, _, .nil => .nil
  | _, _, .cons h l => .cons (Iv.bd h) (IvL.bd l)
end
mutual
theorem Iv.cut {F : Hp} {ps qs : List Addr} : ∀ {v : V} {i : Di}, Iv F (ps ++ qs) v i → Bd ps.length i → Iv F ps v i
  | _, _, .d h, _ => .d h
  | _, _, .o h, .o b => .o (by rw [List.getElem?_append_left b] at h; exact h)
  | _, _, .t h l, .t b => .t h (IvL.cut l b)
theorem IvL.cut {F : Hp} {ps qs : List Addr} : ∀ {v : List V} {i : List Di}, IvL F (ps ++ qs) v i → BdL ps.length i → IvL F ps v i
  | _, _, .nil, _ => .nil
  | _, _, .cons h l, .cons b c => .cons (Iv.cut h b) (IvL.cut l c)
end
theorem IvE.cut {κ : Type} {F F1 : Hp} {ps qs : List Addr} : ∀ {v w : List (κ × V)} {i : List (κ × Di)}, IvE F (ps ++ qs) v i → IvE F1 ps w i → IvE F ps v i
  | _, _, _, .nil, _ => .nil
  | _, _, _, .cons h l, .cons b c => .cons (h.cut b.bd) (IvE.cut l c)
theorem IvL.of {F : Hp} {ps : List Addr} : ∀ {vs : List V} {ds : List D}, DnL F vs ds → IvL F ps vs (ds.map .d)
  | _, _, .nil => .nil
  | _, _, .cons h l => .cons (.d h) (IvL.of l)
theorem IvL.to {F : Hp} {ps : List Addr} : ∀ {vs : List V} (ds : List D), IvL F ps vs (ds.map .d) → DnL F vs ds
  | _, [], .nil => .nil
  | _, _ :: r, .cons h l => .cons (by cases h; assumption) (IvL.to r l)
theorem IvL.len {F : Hp} {ps : List Addr} : ∀ {vs : List V} {ds : List Di}, IvL F ps vs ds → vs.length = ds.length
  | _, _, .nil => rfl
  | _, _, .cons _ l => congrArg (· + 1) (IvL.len l)
theorem IvL.app {F : Hp} {ps : List Addr} : ∀ {vs ws : List V} {ds es : List Di}, IvL F ps vs ds → IvL F ps ws es → IvL F ps (vs ++ ws) (ds ++ es)
  | _, _, _, _, .nil, s => s
  | _, _, _, _, .cons h l, s => .cons h (IvL.app l s)
theorem IvL.get {F : Hp} {ps : List Addr} : ∀ {vs : List V} {ds : List Di} (i : Nat) {d : Di}, IvL F ps vs ds → ds[i]? = some d → ∃ v, vs[i]? = some v ∧ Iv F ps v d
  | _, _, 0, _, .cons h _, e => by simp at e; subst e; exact ⟨_, rfl, h⟩
  | _, _, i + 1, d, .cons _ l, e => by
    obtain ⟨v, h1, h2⟩ := IvL.get i l (by simpa using e)
    exact ⟨v, by simpa using h1, h2⟩
theorem IvL.set {F : Hp} {ps : List Addr} {x : V} {d : Di} (h : Iv F ps x d) : ∀ {vs : List V} {ds : List Di} (n : Nat), IvL F ps vs ds → IvL F ps (vs.set n x) (ds.set n d)
  | _, _, _, .nil => .nil
  | _, _, 0, .cons _ l => .cons h l
  | _, _, n + 1, .cons q l => .cons q (IvL.set h n l)
/-- what stands at the place of an object of one's own -/
def OwH (F : Hp) (ps : List Addr) : HO → Ob → Prop
  | o, .l ds => ∃ xs, o = .lst xs ∧ DnL F xs ds
  | o, .g is => ∃ xs, o = .lst xs ∧ IvL F ps xs is
  | o, .x es => ∃ ks, o = .dK ks ∧ IvE F ps ks es
  | o, .i C fs => ∃ dx ks, o = .ins C dx ks ∧ IvE F ps ks fs
theorem OwH.mono {F F' : Hp} {ps ps' : List Addr} (e : Ex F F') (hp : ∀ (k : Nat) (p : Addr), ps[k]? = some p → ps'[k]? = some p) {o : HO} : ∀ {b : Ob}, OwH F ps o b → OwH F' ps' o b
  | .l _, ⟨xs, h, l⟩ => ⟨xs, h, l.mono e⟩
  | .g _, ⟨xs, h, l⟩ => ⟨xs, h, l.mono e hp⟩
  | .x _, ⟨xs, h, l⟩ => ⟨xs, h, l.mono e hp⟩
  | .i _ _, ⟨dx, xs, h, l⟩ => ⟨dx, xs, h, l.mono e hp⟩
theorem OwH.cut {F F1 : Hp} {ps qs : List Addr} {o o1 : HO} : ∀ {b : Ob}, OwH F (ps ++ qs) o b → OwH F1 ps o1 b → OwH F ps o b
  | .l _, h, _ => h
  | .g _, ⟨xs, h, l⟩, ⟨_, _, l1⟩ => ⟨xs, h, l.cut l1.bd⟩
  | .x _, ⟨xs, h, l⟩, ⟨_, _, l1⟩ => ⟨xs, h, l.cut l1⟩
  | .i _ _, ⟨dx, xs, h, l⟩, ⟨_, _, _, l1⟩ => ⟨dx, xs, h, l.cut l1⟩

/-! ### the state -/
/-- from (F, H) to (F', H'): F is what is known for good, H all that is tracked; h (if any) may change -/
structure Ext (ho : Option Addr) (F H F' H' : Hp) : Prop where
  ff : Ex F F'
  fh : Ex F' H'
  hh : ∀ a o, ho ≠ some a → H a = some o → H' a = some o
  dj : ∀ a, F a = none → H a ≠ none → F' a = none
theorem Ext.refl {ho : Option Addr} {F H : Hp} (h : Ex F H) : Ext ho F H F H := ⟨Ex.refl F, h, fun _ _ _ e => e, fun _ h _ => h⟩
theorem Ext.weak {ho : Option Addr} {F H F' H' : Hp} (e : Ext none F H F' H') : Ext ho F H F' H' := ⟨e.ff, e.fh, fun a o _ h => e.hh a o (by intro q; cases q) h, e.dj⟩

inductive Sl where
  | d (d : D) | m (k : Nat) | h | u

def SlOk (F : Hp) (ps : List Addr) (ho : Option Addr) (o : Option V) : Sl → Prop
  | .u => True
  | .d d => ∃ v, o = some v ∧ Dn F v d
  | .m k => ∃ p, o = some (.ref p) ∧ ps[k]? = some p
  | .h => ∃ h, ho = some h ∧ o = some (.ref h)

/-- the hand: a list of whole numbers that stays, whole numbers behind it -/
structure Hand (F H : Hp) (h : Addr) : Prop where
  fr : F h = none
  ex : ∃ (c : Addr) (cs is : List Int), H h = some (.lst (.ref c :: is.map V.int)) ∧ F c = some (.lst (cs.map V.int)) ∧ KF.hand cs is

structure At (ho : Option Addr) (F0 H0 : Hp) (F : Hp) (ps : List Addr) (sl : List Sl) (ms : List Ob) (ex : List (V × Di)) (σ : L2.St) (H : Hp) : Prop where
  ext : Ext ho F0 H0 F H
  nd : ps.Nodup
  len : ps.length = ms.length
  mu : ∀ (k : Nat) (p : Addr) (ob : Ob), ps[k]? = some p → ms[k]? = some ob → H0 p = none ∧ F p = none ∧ ho ≠ some p ∧ ∃ o, H p = some o ∧ OwH F ps o ob
  sln : σ.length = sl.length
  slo : ∀ (i : Nat) (s : Sl), sl[i]? = some s → ∃ o, σ[i]? = some o ∧ SlOk F ps ho o s
  pen : ∀ x ∈ ex, Iv F ps x.1 x.2
  hand : ∀ h, ho = some h → Hand F H h

section
variable {ho : Option Addr} {F0 H0 F H : Hp} {ps : List Addr} {sl : List Sl} {ms : List Ob} {ex : List (V × Di)} {σ : L2.St}
theorem At.fh (a : At ho F0 H0 F ps sl ms ex σ H) : Ex F H := a.ext.fh
theorem SlOk.mono {F F' : Hp} {ps ps' : List Addr} {o : Option V} {s : Sl} (e : Ex F F') (hp : ∀ (k : Nat) (p : Addr), ps[k]? = some p → ps'[k]? = some p) (h : SlOk F ps ho o s) : SlOk F' ps' ho o s := by
  cases s with
  | u => trivial
  | d d => obtain ⟨v, q, r⟩ := h; exact ⟨v, q, r.mono e⟩
  | m k => obtain ⟨p, q, r⟩ := h; exact ⟨p, q, hp k p r⟩
  | h => exact h
/-- the step: F and H grow (all that is tracked stays, but the hand) -/
theorem At.step {F' H' : Hp} (a : At ho F0 H0 F ps sl ms ex σ H) (e : Ext ho F H F' H') (hd : ∀ h, ho = some h → Hand F' H' h) : At ho F0 H0 F' ps sl ms ex σ H' where
  ext := ⟨a.ext.ff.trans e.ff, e.fh, fun b o hb q => e.hh b o hb (a.ext.hh b o hb q), fun b h0 h1 => e.dj b (a.ext.dj b h0 h1) (by
    by_cases hb : ho = some b
    · obtain ⟨c, cs, is, q, _⟩ := (a.hand b hb).ex
      rw [q]; intro z; cases z
    · cases q : H0 b with
      | none => exact absurd q h1
      | some o => rw [a.ext.hh b o hb q]; intro z; cases z)⟩
  nd := a.nd
  len := a.len
  mu := fun k p ds h1 h2 => by
    obtain ⟨m1, m2, m3, xs, m4, m5⟩ := a.mu k p ds h1 h2
    exact ⟨m1, e.dj p m2 (by rw [m4]; intro z; cases z), m3, xs, e.hh p _ m3 m4, m5.mono e.ff fun _ _ z => z⟩
  sln := a.sln
  slo := fun i s h => by
    obtain ⟨o, q, r⟩ := a.slo i s h
    exact ⟨o, q, r.mono e.ff fun _ _ z => z⟩
  pen := fun x hx => (a.pen x hx).mono e.ff fun _ _ z => z
  hand := hd
/-- .. where the hand stays, too -/
theorem At.step0 {F' H' : Hp} (a : At ho F0 H0 F ps sl ms ex σ H) (e : Ext none F H F' H') : At ho F0 H0 F' ps sl ms ex σ H' :=
  a.step e.weak fun h hh => by
    obtain ⟨f, c, cs, is, q, r, rest⟩ := a.hand h hh
    exact ⟨e.dj h f (by rw [q]; intro z; cases z), c, cs, is, e.hh h _ (by intro z; cases z) q, e.ff c _ r, rest⟩
/-- a new tuple, list, dict of data, known for good -/
theorem At.laid {p : Addr} {o : HO} (a : At ho F0 H0 F ps sl ms ex σ H) (hp : H p = none) : At ho F0 H0 (upd F p o) ps sl ms ex σ (upd H p o) :=
  a.step0 ⟨Ex.new (a.fh.none hp), fun b u q => by
    by_cases hb : b = p
    · subst hb; rw [upd_same] at q; rw [upd_same]; exact q
    · rw [upd_ne hb] at q; rw [upd_ne hb]; exact a.fh b u q, fun b u _ q => by rw [upd_ne (ne_of_none q hp)]; exact q, fun b h0 h1 => by
    have hb : b ≠ p := fun z => by subst z; exact h1 hp
    rw [upd_ne hb]; exact h0⟩
theorem At.pushI {v : V} {d : Di} (a : At ho F0 H0 F ps sl ms ex σ H) (h : Iv F ps v d) : At ho F0 H0 F ps sl ms ((v, d) :: ex) σ H :=
  ⟨a.ext, a.nd, a.len, a.mu, a.sln, a.slo, fun x hx => (List.mem_cons.mp hx).elim (fun e => by rw [e]; exact h) (a.pen x), a.hand⟩
theorem At.push {v : V} {d : D} (a : At ho F0 H0 F ps sl ms ex σ H) (h : Dn F v d) : At ho F0 H0 F ps sl ms ((v, .d d) :: ex) σ H := a.pushI (.d h)
theorem At.drop {ex' : List (V × Di)} (a : At ho F0 H0 F ps sl ms ex σ H) (h : ∀ x ∈ ex', x ∈ ex) : At ho F0 H0 F ps sl ms ex' σ H :=
  ⟨a.ext, a.nd, a.len, a.mu, a.sln, a.slo, fun x hx => a.pen x (h x hx), a.hand⟩
theorem At.pop {x : V × Di} (a : At ho F0 H0 F ps sl ms (x :: ex) σ H) : At ho F0 H0 F ps sl ms ex σ H := a.drop fun _ h => List.mem_cons_of_mem _ h
theorem At.topI {v : V} {d : Di} (a : At ho F0 H0 F ps sl ms ((v, d) :: ex) σ H) : Iv F ps v d := a.pen (v, d) List.mem_cons_self
theorem At.top {v : V} {d : D} (a : At ho F0 H0 F ps sl ms ((v, .d d) :: ex) σ H) : Dn F v d := by
  cases a.topI
  assumption
/-- a slot is stored -/
theorem At.store {v : V} {s : Sl} (a : At ho F0 H0 F ps sl ms ex σ H) (i : Nat) (h : SlOk F ps ho (some v) s) : At ho F0 H0 F ps (sl.set i s) ms ex (σ.set i (some v)) H :=
  ⟨a.ext, a.nd, a.len, a.mu, by rw [List.length_set, List.length_set]; exact a.sln, fun j t q => by
    by_cases hj : i = j
    · subst hj
      by_cases hi : i < sl.length
      · rw [List.getElem?_set_self hi] at q
        cases q
        exact ⟨some v, by rw [List.getElem?_set_self (by rw [a.sln]; exact hi)], h⟩
      · rw [List.getElem?_eq_none (by rw [List.length_set]; omega)] at q
        cases q
    · rw [List.getElem?_set_ne hj] at q
      obtain ⟨o, e, r⟩ := a.slo j t q
      exact ⟨o, by rw [List.getElem?_set_ne hj]; exact e, r⟩, a.pen, a.hand⟩
/-- something new, of which nothing is said -/
theorem At.junk {p : Addr} {o : HO} (a : At ho F0 H0 F ps sl ms ex σ H) (hp : H p = none) : At ho F0 H0 F ps sl ms ex σ (upd H p o) :=
  a.step0 ⟨Ex.refl F, a.fh.trans (Ex.new hp), fun b u _ q => by rw [upd_ne (ne_of_none q hp)]; exact q, fun _ h _ => h⟩
theorem app_left {ps qs : List Addr} : ∀ (k : Nat) (p : Addr), ps[k]? = some p → (ps ++ qs)[k]? = some p := fun k q z => by rw [List.getElem?_append_left (List.getElem?_eq_some_iff.mp z).1]; exact z
/-- a new object of one's own -/
theorem At.ownO {p : Addr} {o : HO} {ob : Ob} (a : At ho F0 H0 F ps sl ms ex σ H) (hp : H p = none) (h : OwH F (ps ++ [p]) o ob) : At ho F0 H0 F (ps ++ [p]) sl (ms ++ [ob]) ex σ (upd H p o) := by
  have b := a.junk (o := o) hp
  have hh : ho ≠ some p := fun z => by
    obtain ⟨c, cs, is, q, _⟩ := (a.hand p z).ex
    rw [hp] at q; cases q
  have h0 : H0 p = none := by
    cases q : H0 p with
    | none => rfl
    | some o => rw [a.ext.hh p o hh q] at hp; cases hp
  refine ⟨b.ext, ?_, by simp [a.len], fun k q es h1 h2 => ?_, b.sln, fun i s h => ?_, fun x hx => (b.pen x hx).mono (Ex.refl F) app_left, b.hand⟩
  · refine List.nodup_append.mpr ⟨a.nd, by simp, fun x hx y hy => ?_⟩
    have ey : y = p := by simpa using hy
    subst ey
    intro z
    subst z
    obtain ⟨k, hk⟩ := List.getElem?_of_mem hx
    have hl : k < ms.length := by rw [← a.len]; exact (List.getElem?_eq_some_iff.mp hk).1
    obtain ⟨_, _, _, xs', q, _⟩ := a.mu k x _ hk (List.getElem?_eq_getElem hl)
    rw [hp] at q; cases q
  · by_cases hk : k < ps.length
    · rw [List.getElem?_append_left hk] at h1
      rw [List.getElem?_append_left (by rw [← a.len]; exact hk)] at h2
      obtain ⟨n1, n2, n3, o', n4, n5⟩ := b.mu k q es h1 h2
      exact ⟨n1, n2, n3, o', n4, n5.mono (Ex.refl F) app_left⟩
    · rw [List.getElem?_append_right (by omega)] at h1
      rw [List.getElem?_append_right (by rw [← a.len]; omega)] at h2
      have e1 : k - ps.length = 0 := by
        cases z : k - ps.length with
        | zero => rfl
        | succ n => rw [z] at h1; simp at h1
      rw [e1] at h1
      rw [show k - ms.length = 0 by rw [← a.len]; exact e1] at h2
      simp at h1 h2
      subst h1 h2
      exact ⟨h0, a.fh.none hp, hh, o, upd_same, h⟩
  · obtain ⟨o, e1, r⟩ := b.slo i s h
    exact ⟨o, e1, r.mono (Ex.refl F) app_left⟩
/-- a new list of one's own -/
theorem At.own {p : Addr} {xs : List V} {ds : List D} (a : At ho F0 H0 F ps sl ms ex σ H) (hp : H p = none) (h : DnL F xs ds) : At ho F0 H0 F (ps ++ [p]) sl (ms ++ [.l ds]) ex σ (upd H p (.lst xs)) := a.ownO hp ⟨xs, rfl, h⟩
/-- an object of one's own is written -/
theorem At.putO {k : Nat} {p : Addr} {o : HO} {ob : Ob} (a : At ho F0 H0 F ps sl ms ex σ H) (hp : ps[k]? = some p) (h : OwH F ps o ob) : At ho F0 H0 F ps sl (ms.set k ob) ex σ (upd H p o) := by
  have hk : k < ps.length := (List.getElem?_eq_some_iff.mp hp).1
  have hk' : k < ms.length := by rw [← a.len]; exact hk
  obtain ⟨m1, m2, m3, ys, m4, m5⟩ := a.mu k p _ hp (List.getElem?_eq_getElem hk')
  have hF : ∀ b o, F b = some o → b ≠ p := fun b o q z => by subst z; rw [m2] at q; cases q
  refine ⟨⟨a.ext.ff, fun b o q => by rw [upd_ne (hF b o q)]; exact a.fh b o q, fun b o hb q => ?_, a.ext.dj⟩, a.nd, by rw [List.length_set]; exact a.len, fun j q es h1 h2 => ?_, a.sln, a.slo, a.pen, fun h hh => ?_⟩
  · have : b ≠ p := fun z => by subst z; rw [m1] at q; cases q
    rw [upd_ne this]; exact a.ext.hh b o hb q
  · by_cases hj : k = j
    · subst hj
      rw [hp] at h1; cases h1
      rw [List.getElem?_set_self hk'] at h2; cases h2
      exact ⟨m1, m2, m3, o, upd_same, h⟩
    · rw [List.getElem?_set_ne hj] at h2
      have hq : q ≠ p := fun z => by
        subst z
        obtain ⟨g1, e1⟩ := List.getElem?_eq_some_iff.mp hp
        obtain ⟨g2, e2⟩ := List.getElem?_eq_some_iff.mp h1
        exact hj ((List.getElem_inj a.nd).mp (e1.trans e2.symm))
      obtain ⟨n1, n2, n3, zs, n4, n5⟩ := a.mu j q es h1 h2
      exact ⟨n1, n2, n3, zs, by rw [upd_ne hq]; exact n4, n5⟩
  · obtain ⟨f, c, cs, is, q, r⟩ := a.hand h hh
    have : h ≠ p := fun z => by subst z; exact m3 hh
    exact ⟨f, c, cs, is, by rw [upd_ne this]; exact q, r⟩
/-- a list of one's own is written -/
theorem At.put {k : Nat} {p : Addr} {xs : List V} {ds : List D} (a : At ho F0 H0 F ps sl ms ex σ H) (hp : ps[k]? = some p) (h : DnL F xs ds) : At ho F0 H0 F ps sl (ms.set k (.l ds)) ex σ (upd H p (.lst xs)) := a.putO hp ⟨xs, rfl, h⟩
theorem At.muL {k : Nat} {p : Addr} {ds : List D} (a : At ho F0 H0 F ps sl ms ex σ H) (h1 : ps[k]? = some p) (h2 : ms[k]? = some (.l ds)) : H0 p = none ∧ F p = none ∧ ho ≠ some p ∧ ∃ xs, H p = some (.lst xs) ∧ DnL F xs ds := by
  obtain ⟨m1, m2, m3, o, m4, xs, rfl, m5⟩ := a.mu k p (.l ds) h1 h2
  exact ⟨m1, m2, m3, xs, m4, m5⟩
/-- .. what it is told as, told otherwise -/
theorem At.retold {k : Nat} {ob ob' : Ob} (a : At ho F0 H0 F ps sl ms ex σ H) (hm : ms[k]? = some ob) (h : ∀ o, OwH F ps o ob → OwH F ps o ob') : At ho F0 H0 F ps sl (ms.set k ob') ex σ H :=
  ⟨a.ext, a.nd, by rw [List.length_set]; exact a.len, fun j q es h1 h2 => by
    by_cases hj : k = j
    · subst hj
      rw [List.getElem?_set_self (List.getElem?_eq_some_iff.mp hm).1] at h2; cases h2
      obtain ⟨n1, n2, n3, o, n4, n5⟩ := a.mu k q ob h1 hm
      exact ⟨n1, n2, n3, o, n4, h o n5⟩
    · rw [List.getElem?_set_ne hj] at h2
      exact a.mu j q es h1 h2, a.sln, a.slo, a.pen, a.hand⟩
/-- the last object of one's own is known for good from now on -/
theorem At.freezeO {p : Addr} {ob : Ob} {d : D} {o : HO} {F1 : Hp} {H1 : Hp} {σ1 : L2.St} (a1 : At ho F0 H0 F1 ps sl ms ex σ1 H1) (a : At ho F0 H0 F (ps ++ [p]) sl (ms ++ [ob]) ex σ H) (ho' : H p = some o) (hd : ∀ F', Ex F F' → F' p = some o → Dn F' (.ref p) d) :
    ∃ F', Ex F F' ∧ At ho F0 H0 F' ps sl ms ((.ref p, .d d) :: ex) σ H := by
  obtain ⟨m1, m2, m3, _⟩ := a.mu ps.length p ob (by rw [List.getElem?_append_right (Nat.le_refl _)]; simp) (by rw [a1.len, List.getElem?_append_right (Nat.le_refl _)]; simp)
  have hF : ∀ b o, F b = some o → b ≠ p := fun b o q z => by subst z; rw [m2] at q; cases q
  have ef : Ex F (upd F p o) := Ex.new m2
  refine ⟨upd F p o, ef, ⟨a.ext.ff.trans ef, fun b o q => ?_, a.ext.hh, fun b h0 h1 => ?_⟩, a1.nd, a1.len, fun k q es h1 h2 => ?_, a.sln, fun i s h => ?_, fun x hx => ?_, fun h hh => ?_⟩
  · by_cases hb : b = p
    · subst hb; rw [upd_same] at q; cases q; exact ho'
    · rw [upd_ne hb] at q; exact a.fh b o q
  · have hb : b ≠ p := fun z => by subst z; exact h1 m1
    rw [upd_ne hb]; exact a.ext.dj b h0 h1
  · have hk := (List.getElem?_eq_some_iff.mp h1).1
    obtain ⟨n1, n2, n3, zs, n4, n5⟩ := a.mu k q es (by rw [List.getElem?_append_left hk]; exact h1) (by rw [List.getElem?_append_left (by rw [← a1.len]; exact hk)]; exact h2)
    obtain ⟨_, _, _, _, _, o5⟩ := a1.mu k q es h1 h2
    have hq : q ≠ p := fun z => by
      subst z
      have nd := a.nd
      rw [List.nodup_append] at nd
      exact nd.2.2 q (List.mem_of_getElem? h1) q (by simp) rfl
    exact ⟨n1, by rw [upd_ne hq]; exact n2, n3, zs, n4, (n5.cut o5).mono ef fun _ _ z => z⟩
  · obtain ⟨o, e, r⟩ := a.slo i s h
    obtain ⟨o1, e1, r1⟩ := a1.slo i s h
    refine ⟨o, e, ?_⟩
    cases s with
    | u => trivial
    | d d => obtain ⟨v, q, r⟩ := r; exact ⟨v, q, r.mono ef⟩
    | m k =>
      obtain ⟨q, r, t⟩ := r
      obtain ⟨q1, r1, t1⟩ := r1
      exact ⟨q, r, by rw [List.getElem?_append_left (List.getElem?_eq_some_iff.mp t1).1] at t; exact t⟩
    | h => exact r
  · rcases List.mem_cons.mp hx with rfl | hx
    · exact .d (hd _ ef upd_same)
    · exact ((a.pen x hx).cut (a1.pen x hx).bd).mono ef fun _ _ z => z
  · obtain ⟨f, c, cs, is, q, r, rest⟩ := a.hand h hh
    have : h ≠ p := fun z => by subst z; exact m3 hh
    exact ⟨by rw [upd_ne this]; exact f, c, cs, is, q, ef c _ r, rest⟩
theorem At.freeze {p : Addr} {ds : List D} {F1 : Hp} {H1 : Hp} {σ1 : L2.St} (a1 : At ho F0 H0 F1 ps sl ms ex σ1 H1) (a : At ho F0 H0 F (ps ++ [p]) sl (ms ++ [.l ds]) ex σ H) : ∃ F', At ho F0 H0 F' ps sl ms ((.ref p, .d (.lst ds)) :: ex) σ H := by
  obtain ⟨m1, m2, m3, _, m4, xs, rfl, m5⟩ := a.mu ps.length p (.l ds) (by rw [List.getElem?_append_right (Nat.le_refl _)]; simp) (by rw [a1.len, List.getElem?_append_right (Nat.le_refl _)]; simp)
  obtain ⟨F', _, h⟩ := At.freezeO a1 a m4 fun F' e h => .lst h (m5.mono e)
  exact ⟨F', h⟩
end
end E
set_option Elab.async false
set_option linter.all false
set_option maxRecDepth 100000
/-! Judgements over the data layer; expressions. -/
namespace E
open PySem L2
variable [KF]

/-- an expression: a datum of R, all else as it was -/
def Er (sl : List Sl) (ms : List Ob) (t : TE) (R : D → Prop) : Prop :=
  ∀ (ho : Option Addr) (F0 H0 F : Hp) (ps : List Addr) (ex : List (V × Di)) (σ : L2.St) (H : Hp), At ho F0 H0 F ps sl ms ex σ H →
    ∀ Q : VK, (∀ v d F' H', R d → At ho F0 H0 F' ps sl ms ((v, .d d) :: ex) σ H' → Q v H') → t σ H Q
abbrev Ed (sl : List Sl) (ms : List Ob) (t : TE) (d : D) : Prop := Er sl ms t (· = d)
/-- a new list of one's own -/
def El (sl : List Sl) (ms : List Ob) (t : TE) (R : List D → Prop) : Prop :=
  ∀ (ho : Option Addr) (F0 H0 F : Hp) (ps : List Addr) (ex : List (V × Di)) (σ : L2.St) (H : Hp), At ho F0 H0 F ps sl ms ex σ H →
    ∀ Q : VK, (∀ p ds F' H', R ds → At ho F0 H0 F' (ps ++ [p]) sl (ms ++ [.l ds]) ex σ H' → Q (.ref p) H') → t σ H Q
/-- a test -/
def Et (sl : List Sl) (ms : List Ob) (t : TT) (B : Bool → Prop) : Prop :=
  ∀ (ho : Option Addr) (F0 H0 F : Hp) (ps : List Addr) (ex : List (V × Di)) (σ : L2.St) (H : Hp), At ho F0 H0 F ps sl ms ex σ H →
    ∀ Q : Bool → Hp → Prop, (∀ b F' H', B b → At ho F0 H0 F' ps sl ms ex σ H' → Q b H') → t σ H Q
/-- arguments -/
def Ea (sl : List Sl) (ms : List Ob) (t : TA) (R : List D → Prop) : Prop :=
  ∀ (ho : Option Addr) (F0 H0 F : Hp) (ps : List Addr) (ex : List (V × Di)) (σ : L2.St) (H : Hp), At ho F0 H0 F ps sl ms ex σ H →
    ∀ Q : List V → Hp → Prop, (∀ vs ds F' H', R ds → At ho F0 H0 F' ps sl ms ex σ H' → DnL F' vs ds → Q vs H') → t σ H Q
abbrev Ead (sl : List Sl) (ms : List Ob) (t : TA) (ds : List D) : Prop := Ea sl ms t (· = ds)
/-- an operation on values -/
def R1 (r : V → Hp → VK → Prop) (x : D) (R : D → Prop) : Prop :=
  ∀ (F H : Hp) (v : V), Ex F H → Dn F v x → ∀ Q : VK, (∀ u d F' H', R d → Ext none F H F' H' → Dn F' u d → Q u H') → r v H Q
def R2 (r : L2.R2) (x y : D) (R : D → Prop) : Prop :=
  ∀ (F H : Hp) (v w : V), Ex F H → Dn F v x → Dn F w y → ∀ Q : VK, (∀ u d F' H', R d → Ext none F H F' H' → Dn F' u d → Q u H') → r v w H Q
def Rc (r : List V → Hp → VK → Prop) (xs : List D) (R : D → Prop) : Prop :=
  ∀ (F H : Hp) (vs : List V), Ex F H → DnL F vs xs → ∀ Q : VK, (∀ u d F' H', R d → Ext none F H F' H' → Dn F' u d → Q u H') → r vs H Q

section
variable {sl : List Sl} {ms : List Ob} {t u : TE} {R R' Ra Rb : D → Prop} {d e : D} {ta tb tc : TE}
theorem Er.mono (h : Er sl ms t R) (k : ∀ d, R d → R' d) : Er sl ms t R' := fun ho F0 H0 F ps ex σ H a Q q => h ho F0 H0 F ps ex σ H a Q fun v d F' H' r => q v d F' H' (k d r)
theorem El.mono {R R' : List D → Prop} (h : El sl ms t R) (k : ∀ d, R d → R' d) : El sl ms t R' := fun ho F0 H0 F ps ex σ H a Q q => h ho F0 H0 F ps ex σ H a Q fun v d F' H' r => q v d F' H' (k d r)
theorem Et.mono {t : TT} {B B' : Bool → Prop} (h : Et sl ms t B) (k : ∀ b, B b → B' b) : Et sl ms t B' := fun ho F0 H0 F ps ex σ H a Q q => h ho F0 H0 F ps ex σ H a Q fun b F' H' r => q b F' H' (k b r)
theorem El.er {R : List D → Prop} (h : El sl ms t R) : Er sl ms t fun d => ∃ ds, R ds ∧ d = .lst ds := fun ho F0 H0 F ps ex σ H a Q q => h ho F0 H0 F ps ex σ H a Q fun p ds F' H' r a' => by
  obtain ⟨F2, b⟩ := At.freeze a a'
  exact q _ _ F2 H' ⟨ds, r, rfl⟩ b
theorem El.ed {ds : List D} (h : El sl ms t (· = ds)) : Ed sl ms t (.lst ds) := h.er.mono fun d ⟨es, e1, e2⟩ => by rw [e2, e1]
theorem ed_var {i : Nat} (h : sl[i]? = some (.d d)) : Ed sl ms (tVar i) d := fun ho F0 H0 F ps ex σ H a Q q => by
  obtain ⟨o, e, v, rfl, r⟩ := a.slo i _ h
  exact ⟨v, e, q v d F H rfl (a.push r)⟩
theorem ed_int {i : Int} : Ed sl ms (tC (.int i)) (.int i) := fun ho F0 H0 F ps ex σ H a Q q => q _ _ F H rfl (a.push (.int i))
theorem ed_bl {i : Bool} : Ed sl ms (tC (.bl i)) (.bl i) := fun ho F0 H0 F ps ex σ H a Q q => q _ _ F H rfl (a.push (.bl i))
theorem ed_str {i : Str} : Ed sl ms (tC (.str i)) (.str i) := fun ho F0 H0 F ps ex σ H a Q q => q _ _ F H rfl (a.push (.str i))
theorem ed_non : Ed sl ms (tC .non) .non := fun ho F0 H0 F ps ex σ H a Q q => q _ _ F H rfl (a.push .non)
theorem er_un {r : V → Hp → VK → Prop} (h : Er sl ms ta Ra) (k : ∀ x, Ra x → R1 r x R) : Er sl ms (tUn r ta) R := fun ho F0 H0 F ps ex σ H a Q q =>
  h ho F0 H0 F ps ex σ H a _ fun v d F1 H1 rd a1 => k d rd F1 H1 v a1.fh a1.top Q fun u e F2 H2 re x du => q u e F2 H2 re ((a1.pop.step0 x).push du)
theorem er_op {r : L2.R2} (h : Er sl ms ta Ra) (h' : Er sl ms tb Rb) (k : ∀ x y, Ra x → Rb y → R2 r x y R) : Er sl ms (tOp r ta tb) R := fun ho F0 H0 F ps ex σ H a Q q =>
  h ho F0 H0 F ps ex σ H a _ fun v d F1 H1 rd a1 => h' ho F0 H0 F1 ps _ σ H1 a1 _ fun w e F2 H2 re a2 =>
    k d e rd re F2 H2 v w a2.fh a2.pop.top a2.top Q fun u g F3 H3 rg x du => q u g F3 H3 rg ((a2.pop.pop.step0 x).push du)
theorem ed_op {r : L2.R2} {x y : D} (h : Ed sl ms ta x) (h' : Ed sl ms tb y) (k : R2 r x y R) : Er sl ms (tOp r ta tb) R := er_op h h' fun _ _ e1 e2 => by subst e1 e2; exact k
theorem ed_un {r : V → Hp → VK → Prop} {x : D} (h : Ed sl ms ta x) (k : R1 r x R) : Er sl ms (tUn r ta) R := er_un h fun _ e1 => by subst e1; exact k
theorem ea_nil : Ead sl ms tNil [] := fun ho F0 H0 F ps ex σ H a Q q => q [] [] F H rfl a .nil
theorem ea_cons {tr : TA} {Rs : List D → Prop} (h : Er sl ms ta Ra) (h' : Ea sl ms tr Rs) : Ea sl ms (tCons ta tr) fun ds => ∃ d es, ds = d :: es ∧ Ra d ∧ Rs es := fun ho F0 H0 F ps ex σ H a Q q =>
  h ho F0 H0 F ps ex σ H a _ fun v d F1 H1 rd a1 => h' ho F0 H0 F1 ps _ σ H1 a1 _ fun vs es F2 H2 re a2 l => q (v :: vs) (d :: es) F2 H2 ⟨d, es, rfl, rd, re⟩ a2.pop (.cons a2.top l)
theorem Ea.mono {t : TA} {R R' : List D → Prop} (h : Ea sl ms t R) (k : ∀ d, R d → R' d) : Ea sl ms t R' := fun ho F0 H0 F ps ex σ H a Q q => h ho F0 H0 F ps ex σ H a Q fun v d F' H' r => q v d F' H' (k d r)
theorem ead_cons {tr : TA} {es : List D} (h : Ed sl ms ta d) (h' : Ead sl ms tr es) : Ead sl ms (tCons ta tr) (d :: es) := (ea_cons h h').mono fun ds ⟨x, ys, e1, e2, e3⟩ => by rw [e1, e2, e3]
theorem er_tup {tr : TA} {Rs : List D → Prop} (h : Ea sl ms tr Rs) (hl : ∀ ds, Rs ds → ds.length ≤ 100000) : Er sl ms (tTup tr) fun d => ∃ ds, d = .tup ds ∧ Rs ds := fun ho F0 H0 F ps ex σ H a Q q =>
  h ho F0 H0 F ps ex σ H a _ fun vs ds F1 H1 rd a1 l => ⟨by rw [l.len]; exact Nat.le_trans (hl ds rd) (by decide), fun p hp => q (.ref p) (.tup ds) (upd F1 p (.tup vs)) _ ⟨ds, rfl, rd⟩
    ((a1.laid hp).push (.tup upd_same (l.mono (Ex.new (a1.fh.none hp)))))⟩
theorem ed_tup {tr : TA} {ds : List D} (h : Ead sl ms tr ds) (hl : ds.length ≤ 100000) : Ed sl ms (tTup tr) (.tup ds) := (er_tup h fun _ e => by rw [e]; exact hl).mono fun d ⟨es, e1, e2⟩ => by rw [e1, e2]
theorem el_lst {tr : TA} {Rs : List D → Prop} (h : Ea sl ms tr Rs) (hl : ∀ ds, Rs ds → ds.length ≤ 100000) : El sl ms (tLst tr) Rs := fun ho F0 H0 F ps ex σ H a Q q =>
  h ho F0 H0 F ps ex σ H a _ fun vs ds F1 H1 rd a1 l => ⟨by rw [l.len]; exact Nat.le_trans (hl ds rd) (by decide), fun p hp => q p ds F1 _ rd (a1.own hp l)⟩
theorem er_cb {r : List V → Hp → VK → Prop} {tr : TA} {Rs : List D → Prop} (h : Ea sl ms tr Rs) (k : ∀ ds, Rs ds → Rc r ds R) : Er sl ms (tCB r tr) R := fun ho F0 H0 F ps ex σ H a Q q =>
  h ho F0 H0 F ps ex σ H a _ fun vs ds F1 H1 rd a1 l => k ds rd F1 H1 vs a1.fh l Q fun u e F2 H2 re x du => q u e F2 H2 re ((a1.step0 x).push du)
theorem ed_cb {r : List V → Hp → VK → Prop} {tr : TA} {ds : List D} (h : Ead sl ms tr ds) (k : Rc r ds R) : Er sl ms (tCB r tr) R := er_cb h fun _ e => by subst e; exact k

/-! ### tests -/
theorem et_B {B : Bool → Prop} (h : Er sl ms ta fun d => ∃ b, d = .bl b ∧ B b) : Et sl ms (tB ta) B := fun ho F0 H0 F ps ex σ H a Q q =>
  h ho F0 H0 F ps ex σ H a _ fun v d F1 H1 ⟨b, e, rb⟩ a1 => by
    subst e
    cases a1.top
    exact ⟨b, rfl, q b F1 H1 rb a1.pop⟩
theorem et_test {B : Bool → Prop} (h : Er sl ms ta fun d => ∃ b, d = .bl b ∧ B b) : Et sl ms (tTest ta) B := fun ho F0 H0 F ps ex σ H a Q q =>
  h ho F0 H0 F ps ex σ H a _ fun v d F1 H1 ⟨b, e, rb⟩ a1 => by
    subst e
    cases a1.top
    exact ⟨b, rfl, q b F1 H1 rb a1.pop⟩
theorem et_Bd {b : Bool} (h : Ed sl ms ta (.bl b)) : Et sl ms (tB ta) (· = b) := et_B (h.mono fun _ e => ⟨b, e, rfl⟩)
theorem et_testd {b : Bool} (h : Ed sl ms ta (.bl b)) : Et sl ms (tTest ta) (· = b) := et_test (h.mono fun _ e => ⟨b, e, rfl⟩)
theorem et_and {t u : TT} {B C : Bool → Prop} (h : Et sl ms t B) (h' : B true → Et sl ms u C) : Et sl ms (tAnd t u) fun b => (b = false ∧ B false) ∨ (B true ∧ C b) := fun ho F0 H0 F ps ex σ H a Q q =>
  h ho F0 H0 F ps ex σ H a _ fun b F1 H1 rb a1 => by
    cases b with
    | true => exact h' rb ho F0 H0 F1 ps ex σ H1 a1 Q fun c F2 H2 rc a2 => q c F2 H2 (.inr ⟨rb, rc⟩) a2
    | false => exact q false F1 H1 (.inl ⟨rfl, rb⟩) a1
theorem et_or {t u : TT} {B C : Bool → Prop} (h : Et sl ms t B) (h' : B false → Et sl ms u C) : Et sl ms (tOr t u) fun b => (b = true ∧ B true) ∨ (B false ∧ C b) := fun ho F0 H0 F ps ex σ H a Q q =>
  h ho F0 H0 F ps ex σ H a _ fun b F1 H1 rb a1 => by
    cases b with
    | false => exact h' rb ho F0 H0 F1 ps ex σ H1 a1 Q fun c F2 H2 rc a2 => q c F2 H2 (.inr ⟨rb, rc⟩) a2
    | true => exact q true F1 H1 (.inl ⟨rfl, rb⟩) a1
theorem et_not {t : TT} {B : Bool → Prop} (h : Et sl ms t B) : Et sl ms (tNot t) fun b => B (!b) := fun ho F0 H0 F ps ex σ H a Q q =>
  h ho F0 H0 F ps ex σ H a _ fun b F1 H1 rb a1 => q (!b) F1 H1 (by show B (!!b); rw [Bool.not_not]; exact rb) a1
theorem etd_and {t u : TT} {b c : Bool} (h : Et sl ms t (· = b)) (h' : b = true → Et sl ms u (· = c)) : Et sl ms (tAnd t u) (· = (b && c)) := (et_and h fun e => h' e.symm).mono fun x z => by
  rcases z with ⟨e1, e2⟩ | ⟨e1, e2⟩
  · rw [e1, ← e2]; rfl
  · rw [e2, ← e1]; rfl
theorem etd_or {t u : TT} {b c : Bool} (h : Et sl ms t (· = b)) (h' : b = false → Et sl ms u (· = c)) : Et sl ms (tOr t u) (· = (b || c)) := (et_or h fun e => h' e.symm).mono fun x z => by
  rcases z with ⟨e1, e2⟩ | ⟨e1, e2⟩
  · rw [e1, ← e2]; rfl
  · rw [e2, ← e1]; rfl
theorem etd_not {t : TT} {b : Bool} (h : Et sl ms t (· = b)) : Et sl ms (tNot t) (· = !b) := (et_not h).mono fun x z => by rw [← z, Bool.not_not]
theorem edv_and {b : Bool} (h : Ed sl ms ta (.bl b)) (h' : b = true → Er sl ms tb R) (hf : b = false → R (.bl false)) : Er sl ms (tAndV ta tb) R := fun ho F0 H0 F ps ex σ H a Q q =>
  h ho F0 H0 F ps ex σ H a _ fun v d F1 H1 e a1 => by
    subst e
    cases a1.top
    refine ⟨b, rfl, ?_⟩
    cases b with
    | true => exact h' rfl ho F0 H0 F1 ps ex σ H1 a1.pop Q q
    | false => exact q _ _ F1 H1 (hf rfl) a1
theorem edv_or {b : Bool} (h : Ed sl ms ta (.bl b)) (h' : b = false → Er sl ms tb R) (hf : b = true → R (.bl true)) : Er sl ms (tOrV ta tb) R := fun ho F0 H0 F ps ex σ H a Q q =>
  h ho F0 H0 F ps ex σ H a _ fun v d F1 H1 e a1 => by
    subst e
    cases a1.top
    refine ⟨b, rfl, ?_⟩
    cases b with
    | false => exact h' rfl ho F0 H0 F1 ps ex σ H1 a1.pop Q q
    | true => exact q _ _ F1 H1 (hf rfl) a1
theorem edv_not {b : Bool} (h : Ed sl ms ta (.bl b)) : Ed sl ms (tNotV ta) (.bl !b) := fun ho F0 H0 F ps ex σ H a Q q =>
  h ho F0 H0 F ps ex σ H a _ fun v d F1 H1 e a1 => by
    subst e
    cases a1.top
    exact ⟨b, rfl, q _ _ F1 H1 rfl (a1.pop.push (.bl _))⟩
theorem er_if {t : TT} {B : Bool → Prop} (h : Et sl ms t B) (h1 : B true → Er sl ms ta R) (h2 : B false → Er sl ms tb R) : Er sl ms (tIf t ta tb) R := fun ho F0 H0 F ps ex σ H a Q q =>
  h ho F0 H0 F ps ex σ H a _ fun b F1 H1 rb a1 => by
    cases b with
    | true => exact h1 rb ho F0 H0 F1 ps ex σ H1 a1 Q q
    | false => exact h2 rb ho F0 H0 F1 ps ex σ H1 a1 Q q
theorem el_if {t : TT} {B : Bool → Prop} {R : List D → Prop} (h : Et sl ms t B) (h1 : B true → El sl ms ta R) (h2 : B false → El sl ms tb R) : El sl ms (tIf t ta tb) R := fun ho F0 H0 F ps ex σ H a Q q =>
  h ho F0 H0 F ps ex σ H a _ fun b F1 H1 rb a1 => by
    cases b with
    | true => exact h1 rb ho F0 H0 F1 ps ex σ H1 a1 Q q
    | false => exact h2 rb ho F0 H0 F1 ps ex σ H1 a1 Q q

/-! ### numbers, equality -/
theorem r2_I0 {g : Int → Int → V} {i j : Int} {d : D} (hg : ∀ F, Dn F (g i j) d) : R2 (rI0 g) (.int i) (.int j) (· = d) := fun F H v w eh hv hw Q q => by
  cases hv; cases hw
  exact ⟨i, j, rfl, rfl, q _ _ F H rfl (Ext.refl eh) (hg F)⟩
theorem r2_I {C : Int → Int → Prop} {g : Int → Int → V} {i j : Int} {d : D} (hc : C i j) (hg : ∀ F, Dn F (g i j) d) : R2 (rI C g) (.int i) (.int j) (· = d) := fun F H v w eh hv hw Q q => by
  cases hv; cases hw
  exact ⟨i, j, rfl, rfl, hc, q _ _ F H rfl (Ext.refl eh) (hg F)⟩
theorem r2_add {i j : Int} : R2 (rI0 fun i j => .int (i + j)) (.int i) (.int j) (· = .int (i + j)) := r2_I0 fun _ => .int _
theorem r2_sub {i j : Int} : R2 (rI0 fun i j => .int (i - j)) (.int i) (.int j) (· = .int (i - j)) := r2_I0 fun _ => .int _
theorem r2_mul {i j : Int} (h : CMul i j) : R2 (rI CMul fun i j => .int (i * j)) (.int i) (.int j) (· = .int (i * j)) := r2_I h fun _ => .int _
theorem r2_mod {i j : Int} (h : 0 < j) : R2 (rI (fun _ j => 0 < j) fun i j => .int (i % j)) (.int i) (.int j) (· = .int (i % j)) := r2_I h fun _ => .int _
theorem r2_div {i j : Int} (h : CDiv i j) : R2 (rI CDiv fun i j => .int (i / j)) (.int i) (.int j) (· = .int (i / j)) := r2_I h fun _ => .int _
theorem r2_pow {i j : Int} (h : CPow i j) : R2 (rI CPow fun i j => .int (i ^ j.toNat)) (.int i) (.int j) (· = .int (i ^ j.toNat)) := r2_I h fun _ => .int _
theorem r2_B {p : Int → Int → Bool} {i j : Int} : R2 (rI0 fun i j => .bl (p i j)) (.int i) (.int j) (· = .bl (p i j)) := r2_I0 fun _ => .bl _
theorem r2_eqI {i j : Int} : R2 rEq (.int i) (.int j) (· = .bl (decide (i = j))) := fun F H v w eh hv hw Q q => by
  cases hv; cases hw
  refine ⟨rfl, ?_⟩
  have e : decide (V.int i = V.int j) = decide (i = j) := by
    by_cases h : i = j
    · subst h; rw [decide_eq_true rfl, decide_eq_true rfl]
    · rw [decide_eq_false h, decide_eq_false fun z => h (V.int.inj z)]
  rw [e]
  exact q _ _ F H rfl (Ext.refl eh) (.bl _)
theorem r2_neI {i j : Int} : R2 rNe (.int i) (.int j) (· = .bl (!decide (i = j))) := fun F H v w eh hv hw Q q => by
  cases hv; cases hw
  refine ⟨rfl, ?_⟩
  have e : decide (V.int i = V.int j) = decide (i = j) := by
    by_cases h : i = j
    · subst h; rw [decide_eq_true rfl, decide_eq_true rfl]
    · rw [decide_eq_false h, decide_eq_false fun z => h (V.int.inj z)]
  rw [e]
  exact q _ _ F H rfl (Ext.refl eh) (.bl _)
theorem r2_neS {i j : Str} : R2 rNe (.str i) (.str j) (· = .bl (!decide (i = j))) := fun F H v w eh hv hw Q q => by
  cases hv; cases hw
  refine ⟨rfl, ?_⟩
  have e : decide (V.str i = V.str j) = decide (i = j) := by
    by_cases h : i = j
    · subst h; rw [decide_eq_true rfl, decide_eq_true rfl]
    · rw [decide_eq_false h, decide_eq_false fun z => h (V.str.inj z)]
  rw [e]
  exact q _ _ F H rfl (Ext.refl eh) (.bl _)
theorem r2_eqS {i j : Str} : R2 rEq (.str i) (.str j) (· = .bl (decide (i = j))) := fun F H v w eh hv hw Q q => by
  cases hv; cases hw
  refine ⟨rfl, ?_⟩
  have e : decide (V.str i = V.str j) = decide (i = j) := by
    by_cases h : i = j
    · subst h; rw [decide_eq_true rfl, decide_eq_true rfl]
    · rw [decide_eq_false h, decide_eq_false fun z => h (V.str.inj z)]
  rw [e]
  exact q _ _ F H rfl (Ext.refl eh) (.bl _)

/-! ### sequences -/
variable {K : PySem.W.Frag}
theorem sq_l {F H : Hp} {a : Addr} {xs : List V} (e : Ex F H) (h : F a = some (.lst xs)) : SqL K H a xs := .inl (.inl (e _ _ h))
theorem sq_t {F H : Hp} {a : Addr} {xs : List V} (e : Ex F H) (h : F a = some (.tup xs)) : SqT K H a xs := .inl (.inl (e _ _ h))
theorem DnL.atI {F : Hp} {vs : List V} {ds : List D} {i : Int} {d : D} (h : DnL F vs ds) (e : L2.atI ds i = some d) : ∃ v, L2.atI vs i = some v ∧ Dn F v d := by
  unfold L2.atI at e ⊢
  rw [h.len]
  cases q : ixN ds.length i with
  | none => rw [q] at e; cases e
  | some j =>
    rw [q] at e
    exact DnL.get j h e
theorem r2_ixT {ds : List D} {i : Int} (h : L2.atI ds i = some d) : R2 (rIxT K) (.tup ds) (.int i) (· = d) := fun F H v w eh hv hw Q q => by
  cases hv with
  | tup ha hl =>
    cases hw
    obtain ⟨x, e1, e2⟩ := hl.atI h
    exact ⟨_, _, i, x, rfl, rfl, sq_t eh ha, e1, q x d F H rfl (Ext.refl eh) e2⟩
theorem r2_ixL {ds : List D} {i : Int} (h : L2.atI ds i = some d) : R2 (rIxL K) (.lst ds) (.int i) (· = d) := fun F H v w eh hv hw Q q => by
  cases hv with
  | lst ha hl =>
    cases hw
    obtain ⟨x, e1, e2⟩ := hl.atI h
    exact ⟨_, _, i, x, rfl, rfl, sq_l eh ha, e1, q x d F H rfl (Ext.refl eh) e2⟩
theorem Ext.new {F H : Hp} {p : Addr} {o : HO} (e : Ex F H) (hp : H p = none) : Ext none F H (upd F p o) (upd H p o) :=
  ⟨Ex.new (e.none hp), fun b u q => by
    by_cases hb : b = p
    · subst hb; rw [upd_same] at q; rw [upd_same]; exact q
    · rw [upd_ne hb] at q; rw [upd_ne hb]; exact e b u q, fun b u _ q => by rw [upd_ne (ne_of_none q hp)]; exact q, fun b h0 h1 => by
    have hb : b ≠ p := fun z => by subst z; exact h1 hp
    rw [upd_ne hb]; exact h0⟩
theorem r2_cat {ds es : List D} (hn : ds.length + es.length ≤ 100000) : R2 (rCatA K) (.tup ds) (.tup es) (· = .tup (ds ++ es)) := fun F H v w eh hv hw Q q => by
  cases hv with
  | tup ha hl =>
    cases hw with
    | tup hb hm =>
      refine ⟨_, _, _, _, rfl, rfl, sq_t eh ha, sq_t eh hb, by rw [hl.len, hm.len]; exact Nat.le_trans hn (by decide), fun e => ?_, fun e1 e2 => ?_, fun _ _ p hp => ?_⟩
      · subst e; cases hl
        exact q _ _ F H rfl (Ext.refl eh) (.tup hb hm)
      · subst e2; cases hm
        exact q _ _ F H rfl (Ext.refl eh) (by rw [List.append_nil]; exact .tup ha hl)
      · exact q _ _ _ _ rfl (Ext.new eh hp) (.tup upd_same ((hl.app hm).mono (Ex.new (eh.none hp))))
/-- a slice of a tuple -/
def cutD (ds : List D) (lo hi : Option Int) : List D := (ds.drop (HT.sIx ds.length 0 lo)).take (HT.sIx ds.length ds.length hi - HT.sIx ds.length 0 lo)
def Po (sl : List Sl) (ms : List Ob) (t : TO) (o : Option Int) : Prop :=
  ∀ (ho : Option Addr) (F0 H0 F : Hp) (ps : List Addr) (ex : List (V × Di)) (σ : L2.St) (H : Hp), At ho F0 H0 F ps sl ms ex σ H →
    ∀ Q : Option Int → Hp → Prop, (∀ F' H', At ho F0 H0 F' ps sl ms ex σ H' → Q o H') → t σ H Q
theorem po_n : Po sl ms tNoPart none := fun ho F0 H0 F ps ex σ H a Q q => q F H a
theorem po_s {i : Int} (h : Ed sl ms ta (.int i)) : Po sl ms (tPart ta) (some i) := fun ho F0 H0 F ps ex σ H a Q q =>
  h ho F0 H0 F ps ex σ H a _ fun v d F1 H1 e a1 => by
    subst e
    cases a1.top
    exact ⟨i, rfl, q F1 H1 a1.pop⟩
theorem ed_slT {ds : List D} {tl th : TO} {lo hi : Option Int} (h : Ed sl ms ta (.tup ds)) (h1 : Po sl ms tl lo) (h2 : Po sl ms th hi) : Ed sl ms (tSl (rSlA K) ta tl th) (.tup (cutD ds lo hi)) := fun ho F0 H0 F ps ex σ H a Q q =>
  h ho F0 H0 F ps ex σ H a _ fun v d F1 H1 e a1 => h1 ho F0 H0 F1 ps _ σ H1 a1 _ fun F2 H2 a2 => h2 ho F0 H0 F2 ps _ σ H2 a2 _ fun F3 H3 a3 => by
    subst e
    cases a3.top with
    | @tup p xs _ ha hl =>
      have hc : DnL F3 (cutV xs lo hi) (cutD ds lo hi) := by
        unfold cutV cutD
        rw [hl.len]
        exact (hl.drop _).take _
      refine ⟨p, xs, rfl, sq_t a3.fh ha, fun z => ?_, fun _ y hy => ?_⟩
      · refine q _ _ F3 H3 rfl (a3.pop.push ?_)
        have e1 : cutD ds lo hi = ds := by
          unfold cutD
          rw [← hl.len, z.1, z.2, hl.len]
          simp
        rw [e1]
        exact .tup ha hl
      · exact q _ _ _ _ rfl ((a3.pop.laid hy).push (.tup upd_same (hc.mono (Ex.new (a3.fh.none hy)))))
theorem rc_len {x : D} {n : Nat} (h : (∃ ds, x = .tup ds ∧ n = ds.length) ∨ ∃ ds, x = .lst ds ∧ n = ds.length) : Rc (fun xs H Q => ∃ p ys, xs = [.ref p] ∧ (SqL K H p ys ∨ SqT K H p ys) ∧ Q (.int ys.length) H) [x] (· = .int n) := fun F H vs eh hl Q q => by
  cases hl with
  | cons hx hr =>
    cases hr
    rcases h with ⟨ds, rfl, rfl⟩ | ⟨ds, rfl, rfl⟩
    · cases hx with
      | tup ha hl => exact ⟨_, _, rfl, .inr (sq_t eh ha), by rw [hl.len]; exact q _ _ F H rfl (Ext.refl eh) (.int _)⟩
    · cases hx with
      | lst ha hl => exact ⟨_, _, rfl, .inl (sq_l eh ha), by rw [hl.len]; exact q _ _ F H rfl (Ext.refl eh) (.int _)⟩
theorem rc_all {bs : List Bool} : Rc (rAll K) [.lst (bs.map D.bl)] (· = .bl (bs.all id)) := fun F H vs eh hl Q q => by
  cases hl with
  | cons hx hr =>
    cases hr
    cases hx with
    | lst ha hl =>
      rw [DnL.bls bs hl] at ha
      exact ⟨_, bs, rfl, sq_l eh ha, q _ _ F H rfl (Ext.refl eh) (.bl _)⟩
theorem rc_any {bs : List Bool} : Rc (rAny K) [.lst (bs.map D.bl)] (· = .bl (bs.any id)) := fun F H vs eh hl Q q => by
  cases hl with
  | cons hx hr =>
    cases hr
    cases hx with
    | lst ha hl =>
      rw [DnL.bls bs hl] at ha
      exact ⟨_, bs, rfl, sq_l eh ha, q _ _ F H rfl (Ext.refl eh) (.bl _)⟩
theorem rc_sum {ns : List Int} : Rc (rSum K) [.lst (ns.map D.int)] (· = .int ns.sum) := fun F H vs eh hl Q q => by
  cases hl with
  | cons hx hr =>
    cases hr
    cases hx with
    | lst ha hl =>
      rw [DnL.ints ns hl] at ha
      exact ⟨_, ns, rfl, sq_l eh ha, q _ _ F H rfl (Ext.refl eh) (.int _)⟩
theorem rc_max {ns : List Int} {m : Int} (h0 : 0 < ns.length) (h : ∀ k, k ∈ ns → (∀ y, y ∈ ns → y ≤ k) → k = m) : Rc (rMax K) [.lst (ns.map D.int)] (· = .int m) := fun F H vs eh hl Q q => by
  cases hl with
  | cons hx hr =>
    cases hr
    cases hx with
    | lst ha hl =>
      rw [DnL.ints ns hl] at ha
      exact ⟨_, ns, rfl, sq_l eh ha, h0, fun k hk hy => by rw [h k hk hy]; exact q _ _ F H rfl (Ext.refl eh) (.int _)⟩
theorem rc_min2 {i j : Int} : Rc (fun xs H Q => ∃ i j, xs = [.int i, .int j] ∧ Q (.int (if j < i then j else i)) H) [.int i, .int j] (· = .int (if j < i then j else i)) := fun F H vs eh hl Q q => by
  cases hl with
  | cons hx hr =>
    cases hr with
    | cons hy hr =>
      cases hr; cases hx; cases hy
      exact ⟨i, j, rfl, q _ _ F H rfl (Ext.refl eh) (.int _)⟩
theorem rc_max2 {i j : Int} : Rc (fun xs H Q => ∃ i j, xs = [.int i, .int j] ∧ Q (.int (if j > i then j else i)) H) [.int i, .int j] (· = .int (if j > i then j else i)) := fun F H vs eh hl Q q => by
  cases hl with
  | cons hx hr =>
    cases hr with
    | cons hy hr =>
      cases hr; cases hx; cases hy
      exact ⟨i, j, rfl, q _ _ F H rfl (Ext.refl eh) (.int _)⟩
theorem rc_abs {i : Int} : Rc (fun xs H Q => ∃ i, xs = [.int i] ∧ Q (.int (if i < 0 then -i else i)) H) [.int i] (· = .int (if i < 0 then -i else i)) := fun F H vs eh hl Q q => by
  cases hl with
  | cons hx hr =>
    cases hr; cases hx
    exact ⟨i, rfl, q _ _ F H rfl (Ext.refl eh) (.int _)⟩
theorem rc_intI {i : Int} : Rc (fun xs H Q => (∃ i, xs = [.int i] ∧ Q (.int i) H) ∨ ∃ k, xs = [.bl k] ∧ Q (.int (if k then 1 else 0)) H) [.int i] (· = .int i) := fun F H vs eh hl Q q => by
  cases hl with
  | cons hx hr =>
    cases hr; cases hx
    exact .inl ⟨i, rfl, q _ _ F H rfl (Ext.refl eh) (.int _)⟩
/-- x in a tuple of whole numbers -/
theorem inV_ints {k : Int} : ∀ ns : List Int, inV (.int k) (ns.map V.int) = decide (k ∈ ns)
  | [] => by simp [inV]
  | n :: r => by
    have ih := inV_ints (k := k) r
    unfold inV at ih ⊢
    rw [List.map_cons, List.any_cons, ih]
    show ((n == k) || decide (k ∈ r)) = decide (k ∈ n :: r)
    by_cases h : n = k
    · subst h; simp
    · have h' : ¬ k = n := fun z => h z.symm
      simp [h, h']
theorem flat_ints : ∀ ns : List Int, (ns.map V.int).all flatV = true
  | [] => rfl
  | _ :: r => by rw [List.map_cons, List.all_cons, flat_ints r]; rfl
theorem r2_inT {ns : List Int} {k : Int} : R2 (rIn K false) (.int k) (.tup (ns.map D.int)) (· = .bl (decide (k ∈ ns))) := fun F H v w eh hv hw Q q => by
  cases hv
  cases hw with
  | tup ha hl =>
    rw [DnL.ints ns hl] at ha
    refine ⟨_, _, rfl, .inr (sq_t eh ha), rfl, flat_ints ns, ?_⟩
    show Q (.bl (inV (.int k) (ns.map V.int))) H
    rw [inV_ints]
    exact q _ _ F H rfl (Ext.refl eh) (.bl _)

/-! ### isinstance -/
def tyD : D → String
  | .non => "NoneType" | .bl _ => "bool" | .int _ => "int" | .str _ => "str" | .tup _ => "tuple" | .lst _ => "list" | .dic => "dict" | .kon _ _ => "tuple"
theorem Dn.ty [k : KonK K] {F H : Hp} {v : V} : ∀ {x : D}, Ex F H → Dn F v x → TyX K H v (.type (tyD x))
  | _, _, .non => .base .non
  | _, _, .bl b => .base (.bl b)
  | _, _, .int i => .base (.int i)
  | _, _, .str s => .base (.str s)
  | _, e, .tup h _ => .base (.tup (e _ _ h))
  | _, e, .lst h _ => .base (.lst (e _ _ h))
  | _, e, .dic h => .base (.dK (e _ _ h))
  | _, e, .kon h => let ⟨_, _, _, h1, h2, _⟩ := k.ok _ _ h; .kTuple h1 h2
/-- isinstance(e, T), T a built-in type's name -/
theorem ed_isi [KonK K] {n : String} {b : Bool} {x : D} (h : Ed sl ms ta x) (hk : kitB (tyD x) n = some b) : Ed sl ms (tCB (rIsi K) (tCons ta (tCons (tC (.ty n)) tNil))) (.bl b) := fun ho F0 H0 F ps ex σ H a Q q =>
  h ho F0 H0 F ps ex σ H a _ fun v d F1 H1 e a1 => by
    subst e
    exact ⟨v, .ty n, _, .type n, b, rfl, .ty n, a1.top.ty a1.fh, kit_ty hk, q _ _ F1 H1 rfl (a1.pop.push (.bl b))⟩
end
end E
set_option Elab.async false
set_option linter.all false
set_option maxRecDepth 100000
/-! Statements, loops, comprehensions, defs over the data layer. -/
namespace E
open PySem L2
variable [KF]

structure Out where
  nx : List Sl → List Ob → Prop
  rt : D → Prop
  bk : List Sl → List Ob → Prop := fun _ _ => False
  ct : List Sl → List Ob → Prop := fun _ _ => False
  ro : Di → List Ob → Prop := fun _ _ => False
/-- what is given back: data, or what is one's own -/
def RtOk (rt : D → Prop) (ro : Di → List Ob → Prop) (ho : Option Addr) (F0 H0 : Hp) (ex : List (V × Di)) (v : V) (F' H' : Hp) : Prop :=
  (∃ d, rt d ∧ Ext ho F0 H0 F' H' ∧ (∀ h, ho = some h → Hand F' H' h) ∧ Dn F' v d) ∨ ∃ i ms' ps' sl' σ', ro i ms' ∧ At ho F0 H0 F' ps' sl' ms' ((v, i) :: ex) σ' H'
theorem RtOk.drop {rt : D → Prop} {ro : Di → List Ob → Prop} {ho : Option Addr} {F0 H0 : Hp} {pins ex : List (V × Di)} {v : V} {F' H' : Hp} (h : RtOk rt ro ho F0 H0 (pins ++ ex) v F' H') : RtOk rt ro ho F0 H0 ex v F' H' := by
  rcases h with h | ⟨i, ms', ps', sl', σ', h1, h2⟩
  · exact .inl h
  · exact .inr ⟨i, ms', ps', sl', σ', h1, h2.drop fun x hx => (List.mem_cons.mp hx).elim (fun e => by rw [e]; exact List.mem_cons_self) fun e => List.mem_cons_of_mem _ (List.mem_append_right _ e)⟩
theorem RtOk.no {ho : Option Addr} {F0 H0 : Hp} {ex : List (V × Di)} {v : V} {F' H' : Hp} (h : RtOk (fun _ => False) (fun _ _ => False) ho F0 H0 ex v F' H') : False := by
  rcases h with ⟨_, h, _⟩ | ⟨_, _, _, _, _, h, _⟩ <;> exact h
theorem RtOk.data {rt : D → Prop} {ho : Option Addr} {F0 H0 : Hp} {ex : List (V × Di)} {v : V} {F' H' : Hp} (h : RtOk rt (fun _ _ => False) ho F0 H0 ex v F' H') : ∃ d, rt d ∧ Ext ho F0 H0 F' H' ∧ (∀ h, ho = some h → Hand F' H' h) ∧ Dn F' v d := by
  rcases h with h | ⟨_, _, _, _, _, h, _⟩
  · exact h
  · exact False.elim h
theorem RtOk.mono {rt rt' : D → Prop} {ro ro' : Di → List Ob → Prop} {ho : Option Addr} {F0 H0 : Hp} {ex : List (V × Di)} {v : V} {F' H' : Hp} (h : RtOk rt ro ho F0 H0 ex v F' H') (k : ∀ d, rt d → rt' d) (k' : ∀ i m, ro i m → ro' i m) : RtOk rt' ro' ho F0 H0 ex v F' H' := by
  rcases h with ⟨d, h⟩ | ⟨i, ms', ps', sl', σ', h1, h2⟩
  · exact .inl ⟨d, k d h.1, h.2⟩
  · exact .inr ⟨i, ms', ps', sl', σ', k' _ _ h1, h2⟩

/-- a statement -/
def Sr (sl : List Sl) (ms : List Ob) (t : TS) (O : Out) : Prop :=
  ∀ (ho : Option Addr) (F0 H0 F : Hp) (ps : List Addr) (ex : List (V × Di)) (σ : L2.St) (H : Hp), At ho F0 H0 F ps sl ms ex σ H → ∀ Z : Ends,
    (∀ sl' ms' F' ps' σ' H', O.nx sl' ms' → At ho F0 H0 F' ps' sl' ms' ex σ' H' → Z.nx σ' H') →
    (∀ v F' H', RtOk O.rt O.ro ho F0 H0 ex v F' H' → Z.rt v H') →
    (∀ sl' ms' F' ps' σ' H', O.bk sl' ms' → At ho F0 H0 F' ps' sl' ms' ex σ' H' → Z.bk σ' H') →
    (∀ sl' ms' F' ps' σ' H', O.ct sl' ms' → At ho F0 H0 F' ps' sl' ms' ex σ' H' → Z.ct σ' H') → t Z σ H
section
variable {sl sl' : List Sl} {ms : List Ob} {O : Out} {t u : TS} {te ta : TE} {R : D → Prop} {d : D}
theorem sr_seq (h : Sr sl ms t { O with nx := fun sl' ms' => Sr sl' ms' u O }) : Sr sl ms (tSeq t u) O := fun ho F0 H0 F ps ex σ H a Z n r b c =>
  h ho F0 H0 F ps ex σ H a { Z with nx := u Z } (fun sl' ms' F' ps' σ' H' k a' => k ho F0 H0 F' ps' ex σ' H' a' Z n r b c) r b c
theorem sr_next (h : O.nx sl ms) : Sr sl ms tNext O := fun ho F0 H0 F ps ex σ H a Z n r b c => n sl ms F ps σ H h a
theorem sr_cont (h : O.ct sl ms) : Sr sl ms tCont O := fun ho F0 H0 F ps ex σ H a Z n r b c => c sl ms F ps σ H h a
theorem sr_break (h : O.bk sl ms) : Sr sl ms tBreak O := fun ho F0 H0 F ps ex σ H a Z n r b c => b sl ms F ps σ H h a
theorem sr_set {i : Nat} (h : Er sl ms te R) (k : ∀ d, R d → O.nx (sl.set i (.d d)) ms) : Sr sl ms (tAsg te (gName i)) O := fun ho F0 H0 F ps ex σ H a Z n r b c =>
  h ho F0 H0 F ps ex σ H a _ fun v d F' H' rd a' => n _ _ F' ps _ H' (k d rd) (a'.pop.store i ⟨v, rfl, a'.top⟩)
theorem sr_setL {i : Nat} {R : List D → Prop} (h : El sl ms te R) (k : ∀ ds, R ds → O.nx (sl.set i (.m ms.length)) (ms ++ [.l ds])) : Sr sl ms (tAsg te (gName i)) O := fun ho F0 H0 F ps ex σ H a Z n r b c =>
  h ho F0 H0 F ps ex σ H a _ fun p ds F' H' rd a' => n _ _ F' _ _ H' (k ds rd) (a'.store i ⟨p, rfl, by rw [← a.len, List.getElem?_append_right (Nat.le_refl _)]; simp⟩)
theorem sr_if {tc : TT} {B : Bool → Prop} (h : Et sl ms tc B) (h1 : B true → Sr sl ms t O) (h2 : B false → Sr sl ms u O) : Sr sl ms (tIfS tc t u) O := fun ho F0 H0 F ps ex σ H a Z n r b c =>
  h ho F0 H0 F ps ex σ H a _ fun x F' H' rb a' => by
    cases x with
    | true => exact h1 rb ho F0 H0 F' ps ex σ H' a' Z n r b c
    | false => exact h2 rb ho F0 H0 F' ps ex σ H' a' Z n r b c
theorem sr_ret (h : Er sl ms te R) (k : ∀ d, R d → O.rt d) : Sr sl ms (tRet te) O := fun ho F0 H0 F ps ex σ H a Z n r b c =>
  h ho F0 H0 F ps ex σ H a _ fun v d F' H' rd a' => r v F' H' (.inl ⟨d, k d rd, a'.ext, a'.hand, a'.top⟩)
theorem sr_retN (k : O.rt .non) : Sr sl ms tRetN O := fun ho F0 H0 F ps ex σ H a Z n r b c => r .non F H (.inl ⟨.non, k, a.ext, a.hand, .non⟩)
theorem sr_drop (h : Er sl ms te R) (k : O.nx sl ms) : Sr sl ms (tDrop te) O := fun ho F0 H0 F ps ex σ H a Z n r b c =>
  h ho F0 H0 F ps ex σ H a _ fun v d F' H' rd a' => n _ _ F' ps _ H' k a'.pop
theorem Sr.mono {O' : Out} (h : Sr sl ms t O) (k1 : ∀ s m, O.nx s m → O'.nx s m) (k2 : ∀ d, O.rt d → O'.rt d) (k3 : ∀ s m, O.bk s m → O'.bk s m) (k4 : ∀ s m, O.ct s m → O'.ct s m) (k5 : ∀ i m, O.ro i m → O'.ro i m := by first | exact fun _ _ z => z | exact fun _ _ z => False.elim z) : Sr sl ms t O' := fun ho F0 H0 F ps ex σ H a Z n r b c =>
  h ho F0 H0 F ps ex σ H a Z (fun s m F' ps' σ' H' e a' => n s m F' ps' σ' H' (k1 s m e) a') (fun v F' H' e => r v F' H' (e.mono k2 k5)) (fun s m F' ps' σ' H' e a' => b s m F' ps' σ' H' (k3 s m e) a') (fun s m F' ps' σ' H' e a' => c s m F' ps' σ' H' (k4 s m e) a')

/-! ### lists of one's own -/
theorem At.ml {ho : Option Addr} {F0 H0 F H : Hp} {ps : List Addr} {ex : List (V × Di)} {σ : L2.St} {i k : Nat} {ds : List D} (a : At ho F0 H0 F ps sl ms ex σ H) (hs : sl[i]? = some (.m k)) (hm : ms[k]? = some (.l ds)) :
    ∃ p xs, σ[i]? = some (some (.ref p)) ∧ ps[k]? = some p ∧ H p = some (.lst xs) ∧ DnL F xs ds := by
  obtain ⟨o, e, p, rfl, hp⟩ := a.slo i _ hs
  obtain ⟨_, _, _, xs, h1, h2⟩ := a.muL hp hm
  exact ⟨p, xs, e, hp, h1, h2⟩
variable {K : PySem.W.Frag}
/-- x.append(e) -/
theorem sr_app {i k : Nat} {ds : List D} (hs : sl[i]? = some (.m k)) (hm : ms[k]? = some (.l ds)) (h : Er sl ms te R) (hl : ds.length < 100000) (kk : ∀ d, R d → O.nx sl (ms.set k (.l (ds ++ [d])))) :
    Sr sl ms (tDrop (tBM K "list" rAppend (tVar i) (tCons te tNil))) O := fun ho F0 H0 F ps ex σ H a Z n r b c => by
  obtain ⟨p, xs, e, hp, h1, h2⟩ := a.ml hs hm
  refine ⟨_, e, .inl ⟨rfl, _, .inl (.inl h1)⟩, h ho F0 H0 F ps ex σ H a _ fun v d F' H' rd a' => ?_⟩
  obtain ⟨p', ys, e', hp', h1', h2'⟩ := a'.ml hs hm
  rw [hp] at hp'; cases hp'
  exact ⟨p, ys, v, rfl, rfl, h1', by rw [h2'.len]; exact Nat.lt_trans hl (by decide), n _ _ F' ps _ _ (kk d rd) (a'.pop.put hp (h2'.app (.cons a'.top .nil)))⟩
/-- len, an item, the sum of a list of one's own -/
theorem ed_lenM {i k : Nat} {ds : List D} (hs : sl[i]? = some (.m k)) (hm : ms[k]? = some (.l ds)) : Ed sl ms (tCB (fun xs H Q => ∃ p ys, xs = [.ref p] ∧ (SqL K H p ys ∨ SqT K H p ys) ∧ Q (.int ys.length) H) (tCons (tVar i) tNil)) (.int ds.length) := fun ho F0 H0 F ps ex σ H a Q q => by
  obtain ⟨p, xs, e, hp, h1, h2⟩ := a.ml hs hm
  exact ⟨_, e, p, xs, rfl, .inl (.inl (.inl h1)), by rw [h2.len]; exact q _ _ F H rfl (a.push (.int _))⟩
theorem ed_sumM {i k : Nat} {ns : List Int} (hs : sl[i]? = some (.m k)) (hm : ms[k]? = some (.l (ns.map D.int))) : Ed sl ms (tCB (rSum K) (tCons (tVar i) tNil)) (.int ns.sum) := fun ho F0 H0 F ps ex σ H a Q q => by
  obtain ⟨p, xs, e, hp, h1, h2⟩ := a.ml hs hm
  rw [DnL.ints ns h2] at h1
  exact ⟨_, e, p, ns, rfl, .inl (.inl h1), q _ _ F H rfl (a.push (.int _))⟩
theorem er_ixM {i k : Nat} {ds : List D} {tb : TE} {Rb : D → Prop} (hs : sl[i]? = some (.m k)) (hm : ms[k]? = some (.l ds)) (hb : Er sl ms tb Rb) (kk : ∀ x, Rb x → ∃ (n : Int) (d : D), x = .int n ∧ L2.atI ds n = some d ∧ R d) : Er sl ms (tOp (rIxL K) (tVar i) tb) R := fun ho F0 H0 F ps ex σ H a Q q => by
  obtain ⟨p, xs, e, hp, h1, h2⟩ := a.ml hs hm
  refine ⟨_, e, hb ho F0 H0 F ps ex σ H a _ fun v d F' H' rd a' => ?_⟩
  obtain ⟨p', ys, e', hp', h1', h2'⟩ := a'.ml hs hm
  rw [hp] at hp'; cases hp'
  obtain ⟨n, d', rfl, e1, r1⟩ := kk d rd
  cases a'.top
  obtain ⟨x, e2, e3⟩ := h2'.atI e1
  exact ⟨p, ys, n, x, rfl, rfl, .inl (.inl h1'), e2, q x d' F' H' r1 (a'.pop.push e3)⟩
/-- tuple(xs), xs of one's own; the list itself, from now on known for good -/
theorem ed_tupleM {i k : Nat} {ds : List D} (hs : sl[i]? = some (.m k)) (hm : ms[k]? = some (.l ds)) : Ed sl ms (tCB (fun xs H Q => ∃ p ys, xs = [.ref p] ∧ ((SqL K H p ys ∧ ∀ l, H l = none → Q (.ref l) (upd H l (.tup ys))) ∨ (SqT K H p ys ∧ Q (.ref p) H))) (tCons (tVar i) tNil)) (.tup ds) := fun ho F0 H0 F ps ex σ H a Q q => by
  obtain ⟨p, xs, e, hp, h1, h2⟩ := a.ml hs hm
  exact ⟨_, e, p, xs, rfl, .inl ⟨.inl (.inl h1), fun l hl => q _ _ _ _ rfl ((a.laid hl).push (.tup upd_same (h2.mono (Ex.new (a.fh.none hl)))))⟩⟩
theorem rc_tupleL {ds : List D} : Rc (fun xs H Q => ∃ p ys, xs = [.ref p] ∧ ((SqL K H p ys ∧ ∀ l, H l = none → Q (.ref l) (upd H l (.tup ys))) ∨ (SqT K H p ys ∧ Q (.ref p) H))) [.lst ds] (· = .tup ds) := fun F H vs eh hl Q q => by
  cases hl with
  | cons hx hr =>
    cases hr
    cases hx with
    | lst ha hl => exact ⟨_, _, rfl, .inl ⟨sq_l eh ha, fun l hn => q _ _ _ _ rfl (Ext.new eh hn) (.tup upd_same (hl.mono (Ex.new (eh.none hn))))⟩⟩
theorem rc_tupleT {ds : List D} : Rc (fun xs H Q => ∃ p ys, xs = [.ref p] ∧ ((SqL K H p ys ∧ ∀ l, H l = none → Q (.ref l) (upd H l (.tup ys))) ∨ (SqT K H p ys ∧ Q (.ref p) H))) [.tup ds] (· = .tup ds) := fun F H vs eh hl Q q => by
  cases hl with
  | cons hx hr =>
    cases hr
    cases hx with
    | tup ha hl => exact ⟨_, _, rfl, .inr ⟨sq_t eh ha, q _ _ F H rfl (Ext.refl eh) (.tup ha hl)⟩⟩
/-- list(xs): a new list -/
theorem el_list {x : D} {ds : List D} (h : Ed sl ms ta x) (hx : x = .tup ds ∨ x = .lst ds) : El sl ms (tCB (fun xs H Q => ∃ p ys, xs = [.ref p] ∧ (SqL K H p ys ∨ SqT K H p ys) ∧ ∀ l, H l = none → Q (.ref l) (upd H l (.lst ys))) (tCons ta tNil)) (· = ds) := fun ho F0 H0 F ps ex σ H a Q q =>
  h ho F0 H0 F ps ex σ H a _ fun v d F1 H1 e a1 => by
    subst e
    rcases hx with rfl | rfl
    · cases a1.top with
      | tup ha hl => exact ⟨_, _, rfl, .inr (sq_t a1.fh ha), fun l hn => q l ds F1 _ rfl (a1.pop.own hn hl)⟩
    · cases a1.top with
      | lst ha hl => exact ⟨_, _, rfl, .inl (sq_l a1.fh ha), fun l hn => q l ds F1 _ rfl (a1.pop.own hn hl)⟩
/-- a list of one's own is handed back -/
theorem sr_retM {i k : Nat} {ds : List D} (hs : sl[i]? = some (.m k)) (hm : ms[k]? = some (.l ds)) (kk : O.rt (.lst ds)) : Sr sl ms (tRet (tVar i)) O := fun ho F0 H0 F ps ex σ H a Z n r b c => by
  obtain ⟨p, xs, e, hp, h1, h2⟩ := a.ml hs hm
  obtain ⟨m1, m2, m3, _⟩ := a.muL hp hm
  have ef : Ex F (upd F p (.lst xs)) := Ex.new m2
  refine ⟨_, e, r _ (upd F p (.lst xs)) H (.inl ⟨_, kk, ⟨a.ext.ff.trans ef, fun b o q => ?_, a.ext.hh, fun b h0 hb1 => ?_⟩, fun h hh => ?_, .lst upd_same (h2.mono ef)⟩)⟩
  · by_cases hb : b = p
    · subst hb; rw [upd_same] at q; cases q; exact h1
    · rw [upd_ne hb] at q; exact a.fh b o q
  · have hb : b ≠ p := fun z => by subst z; exact hb1 m1
    rw [upd_ne hb]; exact a.ext.dj b h0 hb1
  · obtain ⟨f, c, cs, is, q, r, rest⟩ := a.hand h hh
    have : h ≠ p := fun z => by subst z; exact m3 hh
    exact ⟨by rw [upd_ne this]; exact f, c, cs, is, q, ef c _ r, rest⟩

end
end E
set_option Elab.async false
set_option linter.all false
set_option maxRecDepth 100000
/-! The weakest readings of the text; targets, what is walked. -/
namespace E
open PySem PySem.Spec PyProof.Rows L2
variable [KF]

section
variable (X : Cx)
def wE (e : Expr) : TE := fun σ H Q => ∀ pins s, Inv X pins σ H s → wpAny (model X.prog X.w) X.A (eval e X.env) (EP X pins σ Q) X.xe s
def wT (e : Expr) : TT := fun σ H Q => ∀ pins s, Inv X pins σ H s → wpAny (model X.prog X.w) X.A (isTrue e X.env (eval e X.env)) (TP X pins σ Q) X.xe s
def wA (es : List Expr) : TA := fun σ H Q => ∀ pos pins s, Inv X pins σ H s → wpAny (model X.prog X.w) X.A (spliced (backTo pos (starEach es X.env))) (AP X pins σ Q) X.xe s
def wS (st : Stmt) : TS := fun D σ H => ∀ pins s, Inv X pins σ H s → wpAny (model X.prog X.w) X.A (exec st X.env) (SP X pins D) X.xe s
def wSs (st : List Stmt) : TS := fun D σ H => ∀ pins s, Inv X pins σ H s → wpAny (model X.prog X.w) X.A (execs st X.env) (SP X pins D) X.xe s
def wG (tg : Expr) : TG := fun v σ H Q => ∀ pins s u, Inv X pins σ H s → RelV v u → wpAny (model X.prog X.w) X.A (assign tg X.env u) (fun _ s' => ∃ σ' H', Inv X pins σ' H' s' ∧ Q σ' H') X.xe s
def wGs (ts : List Expr) : TGs := fun vs σ H Q => ∀ pins s us, Inv X pins σ H s → Vals vs us → wpAny (model X.prog X.w) X.A (assignInOrder ((assignEach ts X.env).map (·.2)) us) (fun _ s' => ∃ σ' H', Inv X pins σ' H' s' ∧ Q σ' H') X.xe s
def wI (tg iter : Expr) : TI := fun σ H R => ∀ pins s, Inv X pins σ H s → wpAny (model X.prog X.w) X.A (eval iter X.env) (fun v s1 => wpAny (model X.prog X.w) X.A (pyIter v) (PIE X pins σ tg R) X.xe s1) X.xe s
def wO (e : Option Expr) : TO := fun σ H Q => ∀ pins s, Inv X pins σ H s → wpAny (model X.prog X.w) X.A (evalPart e X.env) (fun u s' => ∃ o H', Inv X pins σ H' s' ∧ IsPart u o ∧ Q o H') X.xe s
def wTs (ifs : List Expr) : TT := fun σ H Q => ∀ pins s, Inv X pins σ H s → wpAny (model X.prog X.w) X.A (forIn ifs true fun c r => if r = true then do let ok ← isTrue c X.env (eval c X.env); pure (ForInStep.yield ok) else pure (ForInStep.yield r)) (TP X pins σ Q) X.xe s
end
section
variable {X : Cx}
theorem pe_w {e : Expr} : PE X e (wE X e) := ⟨fun pins s _ _ _ I h => h pins s I⟩
theorem pt_w {e : Expr} : PT X e (wT X e) := ⟨fun pins s _ _ _ I h => h pins s I⟩
theorem pa_w {e : List Expr} : PA X e (wA X e) := ⟨fun pos pins s _ _ _ I h => h pos pins s I⟩
theorem ps_w {e : Stmt} : PS X e (wS X e) := ⟨fun pins s _ _ _ I h => h pins s I⟩
theorem pss_w {e : List Stmt} : PSs X e (wSs X e) := ⟨fun pins s _ _ _ I h => h pins s I⟩
theorem pg_w {e : Expr} : PG X e (wG X e) := ⟨fun pins s _ _ _ u _ I r h => h pins s u I r⟩
theorem pgs_w {e : List Expr} : PGs X e (wGs X e) := ⟨fun pins s _ _ _ us _ I r h => h pins s us I r⟩
theorem pi_w {tg e : Expr} : PI X tg e (wI X tg e) := ⟨fun pins s _ _ _ I h => h pins s I⟩
theorem po_w {e : Option Expr} : PO X e (wO X e) := ⟨fun pins s _ _ _ I h => h pins s I⟩
theorem pts_w {e : List Expr} : PTs X e (wTs X e) := ⟨fun pins s _ _ _ I h => h pins s I⟩
variable {sl sl' : List Sl} {ms : List Ob} {R : D → Prop} {O : Out}
theorem Er.of {e : Expr} {t : TE} (h : PE X e t) (q : Er sl ms t R) : Er sl ms (wE X e) R := fun ho F0 H0 F ps ex σ H a Q k pins s I => h.run pins s σ H Q I (q ho F0 H0 F ps ex σ H a Q k)
theorem El.of {e : Expr} {t : TE} {R : List D → Prop} (h : PE X e t) (q : El sl ms t R) : El sl ms (wE X e) R := fun ho F0 H0 F ps ex σ H a Q k pins s I => h.run pins s σ H Q I (q ho F0 H0 F ps ex σ H a Q k)
theorem Et.of {e : Expr} {t : TT} {B : Bool → Prop} (h : PT X e t) (q : Et sl ms t B) : Et sl ms (wT X e) B := fun ho F0 H0 F ps ex σ H a Q k pins s I => h.run pins s σ H Q I (q ho F0 H0 F ps ex σ H a Q k)
theorem Et.ofs {e : List Expr} {t : TT} {B : Bool → Prop} (h : PTs X e t) (q : Et sl ms t B) : Et sl ms (wTs X e) B := fun ho F0 H0 F ps ex σ H a Q k pins s I => h.run pins s σ H Q I (q ho F0 H0 F ps ex σ H a Q k)
theorem Ea.of {e : List Expr} {t : TA} {R : List D → Prop} (h : PA X e t) (q : Ea sl ms t R) : Ea sl ms (wA X e) R := fun ho F0 H0 F ps ex σ H a Q k pos pins s I => h.run pos pins s σ H Q I (q ho F0 H0 F ps ex σ H a Q k)
theorem Sr.of {e : Stmt} {t : TS} (h : PS X e t) (q : Sr sl ms t O) : Sr sl ms (wS X e) O := fun ho F0 H0 F ps ex σ H a Z n r b c pins s I => h.run pins s σ H Z I (q ho F0 H0 F ps ex σ H a Z n r b c)
theorem Sr.ofs {e : List Stmt} {t : TS} (h : PSs X e t) (q : Sr sl ms t O) : Sr sl ms (wSs X e) O := fun ho F0 H0 F ps ex σ H a Z n r b c pins s I => h.run pins s σ H Z I (q ho F0 H0 F ps ex σ H a Z n r b c)
end

/-! ### the forms with the wish behind -/
section
variable {sl sl' : List Sl} {ms : List Ob} {R : D → Prop} {O : Out} {ta tb tc : TE} {d : D}
theorem Er.done {t : TE} (h : Ed sl ms t d) (k : R d) : Er sl ms t R := h.mono fun _ e => by rw [e]; exact k
theorem er_op' {r : L2.R2} (h : Er sl ms ta fun x => Er sl ms tb fun y => R2 r x y R) : Er sl ms (tOp r ta tb) R := fun ho F0 H0 F ps ex σ H a Q q =>
  h ho F0 H0 F ps ex σ H a _ fun v d F1 H1 rd a1 => rd ho F0 H0 F1 ps _ σ H1 a1 _ fun w e F2 H2 re a2 =>
    re F2 H2 v w a2.fh a2.pop.top a2.top Q fun u g F3 H3 rg x du => q u g F3 H3 rg ((a2.pop.pop.step0 x).push du)
theorem er_un' {r : V → Hp → VK → Prop} (h : Er sl ms ta fun x => R1 r x R) : Er sl ms (tUn r ta) R := er_un h fun _ k => k
theorem R1.done {r : V → Hp → VK → Prop} {x : D} (h : R1 r x (· = d)) (k : R d) : R1 r x R := fun F H v e hv Q q => h F H v e hv Q fun u d' F' H' ed => q u d' F' H' (by rw [ed]; exact k)
theorem R2.done {r : L2.R2} {x y : D} (h : R2 r x y (· = d)) (k : R d) : R2 r x y R := fun F H v w e hv hw Q q => h F H v w e hv hw Q fun u d' F' H' ed => q u d' F' H' (by rw [ed]; exact k)
theorem Rc.done {r : List V → Hp → VK → Prop} {xs : List D} (h : Rc r xs (· = d)) (k : R d) : Rc r xs R := fun F H vs e hv Q q => h F H vs e hv Q fun u d' F' H' ed => q u d' F' H' (by rw [ed]; exact k)
theorem ea_cons' {tr : TA} {Rs : List D → Prop} (h : Er sl ms ta fun d => Ea sl ms tr fun ds => Rs (d :: ds)) : Ea sl ms (tCons ta tr) Rs := fun ho F0 H0 F ps ex σ H a Q q =>
  h ho F0 H0 F ps ex σ H a _ fun v d F1 H1 rd a1 => rd ho F0 H0 F1 ps _ σ H1 a1 _ fun vs es F2 H2 re a2 l => q (v :: vs) (d :: es) F2 H2 re a2.pop (.cons a2.top l)
theorem ea_nil' {Rs : List D → Prop} (h : Rs []) : Ea sl ms tNil Rs := ea_nil.mono fun _ e => by rw [e]; exact h
theorem er_tup' {tr : TA} (h : Ea sl ms tr fun ds => ds.length ≤ 100000 ∧ R (.tup ds)) : Er sl ms (tTup tr) R := (er_tup h fun _ e => e.1).mono fun d ⟨ds, e, _, r⟩ => by rw [e]; exact r
theorem el_lst' {tr : TA} {Rl : List D → Prop} (h : Ea sl ms tr fun ds => ds.length ≤ 100000 ∧ Rl ds) : El sl ms (tLst tr) Rl := (el_lst h fun _ e => e.1).mono fun _ e => e.2
theorem El.er' (h : El sl ms ta fun ds => R (.lst ds)) : Er sl ms ta R := h.er.mono fun d ⟨ds, r, e⟩ => by rw [e]; exact r
theorem er_cb' {r : List V → Hp → VK → Prop} {tr : TA} (h : Ea sl ms tr fun ds => Rc r ds R) : Er sl ms (tCB r tr) R := er_cb h fun _ k => k
theorem et_B' {B : Bool → Prop} (h : Er sl ms ta fun d => ∃ b, d = .bl b ∧ B b) : Et sl ms (tB ta) B := et_B h
theorem er_if' {t : TT} (h : Et sl ms t fun b => (b = true → Er sl ms ta R) ∧ (b = false → Er sl ms tb R)) : Er sl ms (tIf t ta tb) R := er_if h (fun k => k.1 rfl) (fun k => k.2 rfl)
theorem el_if' {t : TT} {R : List D → Prop} (h : Et sl ms t fun b => (b = true → El sl ms ta R) ∧ (b = false → El sl ms tb R)) : El sl ms (tIf t ta tb) R := el_if h (fun k => k.1 rfl) (fun k => k.2 rfl)
theorem er_andV (h : Er sl ms ta fun d => ∃ b, d = .bl b ∧ (b = true → Er sl ms tb R) ∧ (b = false → R (.bl false))) : Er sl ms (tAndV ta tb) R := fun ho F0 H0 F ps ex σ H a Q q =>
  h ho F0 H0 F ps ex σ H a _ fun v d F1 H1 ⟨b, e, k1, k2⟩ a1 => by
    subst e
    cases a1.top
    refine ⟨b, rfl, ?_⟩
    cases b with
    | true => exact k1 rfl ho F0 H0 F1 ps ex σ H1 a1.pop Q q
    | false => exact q _ _ F1 H1 (k2 rfl) a1
theorem er_orV (h : Er sl ms ta fun d => ∃ b, d = .bl b ∧ (b = false → Er sl ms tb R) ∧ (b = true → R (.bl true))) : Er sl ms (tOrV ta tb) R := fun ho F0 H0 F ps ex σ H a Q q =>
  h ho F0 H0 F ps ex σ H a _ fun v d F1 H1 ⟨b, e, k1, k2⟩ a1 => by
    subst e
    cases a1.top
    refine ⟨b, rfl, ?_⟩
    cases b with
    | false => exact k1 rfl ho F0 H0 F1 ps ex σ H1 a1.pop Q q
    | true => exact q _ _ F1 H1 (k2 rfl) a1
theorem er_notV (h : Er sl ms ta fun d => ∃ b, d = .bl b ∧ R (.bl !b)) : Er sl ms (tNotV ta) R := fun ho F0 H0 F ps ex σ H a Q q =>
  h ho F0 H0 F ps ex σ H a _ fun v d F1 H1 ⟨b, e, k⟩ a1 => by
    subst e
    cases a1.top
    exact ⟨b, rfl, q _ _ F1 H1 k (a1.pop.push (.bl _))⟩
theorem et_and' {t u : TT} {C : Bool → Prop} (h : Et sl ms t fun b => (b = true → Et sl ms u C) ∧ (b = false → C false)) : Et sl ms (tAnd t u) C := fun ho F0 H0 F ps ex σ H a Q q =>
  h ho F0 H0 F ps ex σ H a _ fun b F1 H1 rb a1 => by
    cases b with
    | true => exact rb.1 rfl ho F0 H0 F1 ps ex σ H1 a1 Q q
    | false => exact q false F1 H1 (rb.2 rfl) a1
theorem et_or' {t u : TT} {C : Bool → Prop} (h : Et sl ms t fun b => (b = false → Et sl ms u C) ∧ (b = true → C true)) : Et sl ms (tOr t u) C := fun ho F0 H0 F ps ex σ H a Q q =>
  h ho F0 H0 F ps ex σ H a _ fun b F1 H1 rb a1 => by
    cases b with
    | false => exact rb.1 rfl ho F0 H0 F1 ps ex σ H1 a1 Q q
    | true => exact q true F1 H1 (rb.2 rfl) a1
theorem et_not' {t : TT} {B : Bool → Prop} (h : Et sl ms t fun b => B (!b)) : Et sl ms (tNot t) B := fun ho F0 H0 F ps ex σ H a Q q =>
  h ho F0 H0 F ps ex σ H a _ fun b F1 H1 rb a1 => q (!b) F1 H1 rb a1
/-- a op b op' c, the first two tested -/
theorem er_chain {r r' : L2.R2} (h : Er sl ms ta fun x => Er sl ms tb fun y => ∃ b, R2 r x y (· = .bl b) ∧ (b = true → Er sl ms tc fun z => R2 r' y z R) ∧ (b = false → R (.bl false))) : Er sl ms (tChain r r' ta tb tc) R := fun ho F0 H0 F ps ex σ H a Q q =>
  h ho F0 H0 F ps ex σ H a _ fun v d F1 H1 rd a1 => rd ho F0 H0 F1 ps _ σ H1 a1 _ fun w e F2 H2 ⟨b, re, k1, k2⟩ a2 =>
    re F2 H2 v w a2.fh a2.pop.top a2.top _ fun u g F3 H3 rg x du => by
      subst rg
      cases du
      refine ⟨b, rfl, ?_⟩
      have a3 := a2.step0 x
      cases b with
      | true =>
        rw [if_pos rfl]
        exact k1 rfl ho F0 H0 F3 ps _ σ H3 a3 _ fun z f F4 H4 rf a4 => rf F4 H4 w z a4.fh a4.pop.top a4.top Q fun u' g' F5 H5 rg' x' du' => q u' g' F5 H5 rg' ((a4.pop.pop.pop.step0 x').push du')
      | false =>
        rw [if_neg Bool.false_ne_true]
        exact q _ _ F3 H3 (k2 rfl) (a3.pop.pop.push (.bl false))
/-- a statement -/
theorem sr_set' {i : Nat} (h : Er sl ms ta fun d => O.nx (sl.set i (.d d)) ms) : Sr sl ms (tAsg ta (gName i)) O := sr_set h fun _ k => k
theorem sr_setL' {i : Nat} (h : El sl ms ta fun ds => O.nx (sl.set i (.m ms.length)) (ms ++ [.l ds])) : Sr sl ms (tAsg ta (gName i)) O := sr_setL h fun _ k => k
theorem sr_ret' (h : Er sl ms ta O.rt) : Sr sl ms (tRet ta) O := sr_ret h fun _ k => k
theorem sr_drop' (h : Er sl ms ta fun _ => O.nx sl ms) : Sr sl ms (tDrop ta) O := fun ho F0 H0 F ps ex σ H a Z n r b c =>
  h ho F0 H0 F ps ex σ H a _ fun v d F' H' rd a' => n _ _ F' ps _ H' rd a'.pop
theorem sr_if' {t u : TS} {tc : TT} (h : Et sl ms tc fun b => (b = true → Sr sl ms t O) ∧ (b = false → Sr sl ms u O)) : Sr sl ms (tIfS tc t u) O := sr_if h (fun k => k.1 rfl) (fun k => k.2 rfl)
theorem sr_app' {K : PySem.W.Frag} {i k : Nat} {ds : List D} (hs : sl[i]? = some (.m k)) (hm : ms[k]? = some (.l ds)) (hl : ds.length < 100000) (h : Er sl ms ta fun d => O.nx sl (ms.set k (.l (ds ++ [d])))) :
    Sr sl ms (tDrop (tBM K "list" rAppend (tVar i) (tCons ta tNil))) O := sr_app hs hm h hl fun _ k => k
end

/-! ### slots forgotten -/
section
variable {ho : Option Addr} {F0 H0 F H : Hp} {ps : List Addr} {sl sl' : List Sl} {ms : List Ob} {ex : List (V × Di)} {σ σ' : L2.St}
/-- sl' knows less -/
def Less (sl' sl : List Sl) : Prop := sl'.length = sl.length ∧ ∀ (i : Nat) (s : Sl), sl'[i]? = some s → s = .u ∨ sl[i]? = some s
theorem At.less (a : At ho F0 H0 F ps sl ms ex σ H) (h : Less sl' sl) : At ho F0 H0 F ps sl' ms ex σ H :=
  ⟨a.ext, a.nd, a.len, a.mu, a.sln.trans h.1.symm, fun i s e => by
    rcases h.2 i s e with rfl | q
    · have hi := (List.getElem?_eq_some_iff.mp e).1
      exact ⟨σ[i]'(by rw [a.sln, ← h.1]; exact hi), List.getElem?_eq_getElem _, trivial⟩
    · exact a.slo i s q, a.pen, a.hand⟩
theorem At.other {vs : List Nat} (a : At ho F0 H0 F ps sl ms ex σ H) (hl : σ'.length = σ.length) (hu : ∀ j ∈ vs, ∀ s, sl[j]? = some s → s = .u) (h : ∀ j, j ∉ vs → σ'[j]? = σ[j]?) : At ho F0 H0 F ps sl ms ex σ' H :=
  ⟨a.ext, a.nd, a.len, a.mu, hl.trans a.sln, fun i s e => by
    by_cases hi : i ∈ vs
    · have := hu i hi s e
      subst this
      have hi := (List.getElem?_eq_some_iff.mp e).1
      exact ⟨σ'[i]'(by rw [hl, a.sln]; exact hi), List.getElem?_eq_getElem _, trivial⟩
    · rw [h i hi]; exact a.slo i s e, a.pen, a.hand⟩
theorem Sr.less {t : TS} {O : Out} (h : Sr sl' ms t O) (l : Less sl' sl) : Sr sl ms t O := fun ho F0 H0 F ps ex σ H a => h ho F0 H0 F ps ex σ H (a.less l)
end

/-! ### targets -/
structure Egi (sl : List Sl) (g : TG) (d : Di) (tv : List Nat) (sl' : List Sl) : Prop where
  len : sl'.length = sl.length
  st : ∀ j, j ∉ tv → sl'[j]? = sl[j]?
  run : ∀ (ms : List Ob) (ho : Option Addr) (F0 H0 F : Hp) (ps : List Addr) (ex : List (V × Di)) (σ : L2.St) (H : Hp) (v : V), At ho F0 H0 F ps sl ms ex σ H → Iv F ps v d →
    ∀ Q : L2.St → Hp → Prop, (∀ F' σ' H', Ex F F' → At ho F0 H0 F' ps sl' ms ex σ' H' → (∀ j, j ∉ tv → σ'[j]? = σ[j]?) → Q σ' H') → g v σ H Q
structure Egis (sl : List Sl) (g : TGs) (ds : List Di) (tv : List Nat) (sl' : List Sl) : Prop where
  len : sl'.length = sl.length
  st : ∀ j, j ∉ tv → sl'[j]? = sl[j]?
  run : ∀ (ms : List Ob) (ho : Option Addr) (F0 H0 F : Hp) (ps : List Addr) (ex : List (V × Di)) (σ : L2.St) (H : Hp) (vs : List V), At ho F0 H0 F ps sl ms ex σ H → IvL F ps vs ds →
    ∀ Q : L2.St → Hp → Prop, (∀ F' σ' H', Ex F F' → At ho F0 H0 F' ps sl' ms ex σ' H' → (∀ j, j ∉ tv → σ'[j]? = σ[j]?) → Q σ' H') → g vs σ H Q
abbrev Eg (sl : List Sl) (g : TG) (d : D) (tv : List Nat) (sl' : List Sl) : Prop := Egi sl g (.d d) tv sl'
abbrev Egs (sl : List Sl) (g : TGs) (ds : List D) (tv : List Nat) (sl' : List Sl) : Prop := Egis sl g (ds.map .d) tv sl'
section
variable {sl sl' : List Sl} {g : TG} {d : D} {K : PySem.W.Frag} {X : Cx}
theorem eg_name {i : Nat} : Eg sl (gName i) d [i] (sl.set i (.d d)) := ⟨List.length_set, fun j hj => by rw [List.getElem?_set_ne (fun z => hj (by simp [z]))], fun ms ho F0 H0 F ps ex σ H v a h Q q =>
  q F _ H (Ex.refl F) (a.store i ⟨v, rfl, by cases h; assumption⟩) fun j hj => by rw [List.getElem?_set_ne (fun z => hj (by simp [z]))]⟩
theorem eg_nameO {i k : Nat} : Egi sl (gName i) (.o k) [i] (sl.set i (.m k)) := ⟨List.length_set, fun j hj => by rw [List.getElem?_set_ne (fun z => hj (by simp [z]))], fun ms ho F0 H0 F ps ex σ H v a h Q q =>
  q F _ H (Ex.refl F) (a.store i (by cases h with | o h => exact ⟨_, rfl, h⟩)) fun j hj => by rw [List.getElem?_set_ne (fun z => hj (by simp [z]))]⟩
theorem egs_nilI : Egis sl gNil [] [] sl := ⟨rfl, fun _ _ => rfl, fun ms ho F0 H0 F ps ex σ H vs a h Q q => by
  cases h
  exact ⟨rfl, q F σ H (Ex.refl F) a fun _ _ => rfl⟩⟩
theorem egs_nil : Egs sl gNil [] [] sl := egs_nilI
theorem egs_consI {gs : TGs} {d : Di} {ds : List Di} {tv tw : List Nat} {sl1 sl2 : List Sl} (h : Egi sl g d tv sl1) (h' : Egis sl1 gs ds tw sl2) : Egis sl (gCons g gs) (d :: ds) (tv ++ tw) sl2 :=
  ⟨h'.len.trans h.len, fun j hj => by rw [h'.st j fun z => hj (List.mem_append_right _ z), h.st j fun z => hj (List.mem_append_left _ z)], fun ms ho F0 H0 F ps ex σ H vs a l Q q => by
  cases l with
  | cons hx hr =>
    exact ⟨_, _, rfl, h.run ms ho F0 H0 F ps ex σ H _ a hx _ fun F1 σ1 H1 e1 a1 k1 => h'.run ms ho F0 H0 F1 ps ex σ1 H1 _ a1 (hr.mono e1 fun _ _ z => z) _ fun F2 σ2 H2 e2 a2 k2 =>
      q F2 σ2 H2 (e1.trans e2) a2 fun j hj => by
        rw [k2 j fun z => hj (List.mem_append_right _ z), k1 j fun z => hj (List.mem_append_left _ z)]⟩⟩
theorem egs_cons {gs : TGs} {ds : List D} {tv tw : List Nat} {sl1 sl2 : List Sl} (h : Eg sl g d tv sl1) (h' : Egs sl1 gs ds tw sl2) : Egs sl (gCons g gs) (d :: ds) (tv ++ tw) sl2 := egs_consI h h'
theorem eg_tupI {gs : TGs} {ds : List Di} {n : Nat} {tv : List Nat} {sl1 : List Sl} (hn : ds.length = n) (h : Egis sl gs ds tv sl1) : Egi sl (gTup K n gs) (.t ds) tv sl1 := ⟨h.len, h.st, fun ms ho F0 H0 F ps ex σ H v a hv Q q => by
  cases hv with
  | t ha hl => exact ⟨_, _, rfl, sq_t a.fh ha, by rw [hl.len]; exact hn, h.run ms ho F0 H0 F ps ex σ H _ a hl Q q⟩⟩
theorem eg_tup {gs : TGs} {ds : List D} {n : Nat} {tv : List Nat} {sl1 : List Sl} (hn : ds.length = n) (h : Egs sl gs ds tv sl1) : Eg sl (gTup K n gs) (.tup ds) tv sl1 := ⟨h.len, h.st, fun ms ho F0 H0 F ps ex σ H v a hv Q q => by
  cases hv with
  | d hv =>
    cases hv with
    | tup ha hl => exact ⟨_, _, rfl, sq_t a.fh ha, by rw [hl.len]; exact hn, h.run ms ho F0 H0 F ps ex σ H _ a (IvL.of hl) Q q⟩⟩
theorem Egi.of {d : Di} {e : Expr} {g : TG} {tv : List Nat} (h : PG X e g) (q : Egi sl g d tv sl') : Egi sl (wG X e) d tv sl' := ⟨q.len, q.st, fun ms ho F0 H0 F ps ex σ H v a dv Q k pins s u I r => h.run pins s σ H v u Q I r (q.run ms ho F0 H0 F ps ex σ H v a dv Q k)⟩
theorem Egis.of {e : List Expr} {g : TGs} {ds : List Di} {tv : List Nat} (h : PGs X e g) (q : Egis sl g ds tv sl') : Egis sl (wGs X e) ds tv sl' := ⟨q.len, q.st, fun ms ho F0 H0 F ps ex σ H v a dv Q k pins s u I r => h.run pins s σ H v u Q I r (q.run ms ho F0 H0 F ps ex σ H v a dv Q k)⟩
theorem Eg.of {e : Expr} {g : TG} {tv : List Nat} (h : PG X e g) (q : Eg sl g d tv sl') : Eg sl (wG X e) d tv sl' := Egi.of h q
theorem Egs.of {e : List Expr} {g : TGs} {ds : List D} {tv : List Nat} (h : PGs X e g) (q : Egs sl g ds tv sl') : Egs sl (wGs X e) ds tv sl' := Egis.of h q
end

/-! ### what is walked -/
/-- fx: the object of one's own that is walked -/
def Walk (fx : Option (Nat × Ob)) (J : It) (pins : List (V × Di)) (items : List Di) : Prop := ∀ ps F1 H1, Ex F1 H1 → (∀ x ∈ pins, Iv F1 ps x.1 x.2) →
  (∀ k ob, fx = some (k, ob) → ∃ p o, ps[k]? = some p ∧ H1 p = some o ∧ OwH F1 ps o ob) →
  (∀ i d, items[i]? = some d → J.go i H1 ∧ ∀ x H2, J.yld i H1 x H2 → ∃ F2, Ext none F1 H1 F2 H2 ∧ Iv F2 ps x d) ∧ J.stop items.length H1
def EiI (sl : List Sl) (ms : List Ob) (wi : TI) (fx : Option (Nat × Ob)) (K : List Di → Prop) : Prop :=
  (∀ k ds, fx = some (k, ds) → ms[k]? = some ds) ∧ ∀ (ho : Option Addr) (F0 H0 F : Hp) (ps : List Addr) (ex : List (V × Di)) (σ : L2.St) (H : Hp), At ho F0 H0 F ps sl ms ex σ H →
    ∀ R : It → Hp → Prop, (∀ J F' H' pins items, K items → At ho F0 H0 F' ps sl ms (pins ++ ex) σ H' → Walk fx J pins items → R J H') → wi σ H R
abbrev Ei (sl : List Sl) (ms : List Ob) (wi : TI) (fx : Option (Nat × Ob)) (K : List D → Prop) : Prop := EiI sl ms wi fx fun is => ∃ ds : List D, is = ds.map .d ∧ K ds
theorem EiI.mono {sl : List Sl} {ms : List Ob} {wi : TI} {fx : Option (Nat × Ob)} {K K' : List Di → Prop} (h : EiI sl ms wi fx K) (k : ∀ ds, K ds → K' ds) : EiI sl ms wi fx K' := ⟨h.1, fun ho F0 H0 F ps ex σ H a R q => h.2 ho F0 H0 F ps ex σ H a R fun J F' H' pins items z => q J F' H' pins items (k items z)⟩
theorem Ei.mono {sl : List Sl} {ms : List Ob} {wi : TI} {fx : Option (Nat × Ob)} {K K' : List D → Prop} (h : Ei sl ms wi fx K) (k : ∀ ds, K ds → K' ds) : Ei sl ms wi fx K' := EiI.mono h fun _ ⟨ds, e, z⟩ => ⟨ds, e, k ds z⟩
/-- the items of data -/
theorem walk_d {ds : List D} {i : Nat} {d : Di} (h : (ds.map Di.d)[i]? = some d) : ∃ x, ds[i]? = some x ∧ d = .d x := by
  rw [List.getElem?_map] at h
  cases e : ds[i]? with
  | none => rw [e] at h; cases h
  | some x => rw [e] at h; cases h; exact ⟨x, rfl, rfl⟩
section
variable {sl sl' : List Sl} {ms : List Ob} {ta tb : TE} {tr : TA} {K : List D → Prop} {Kf : PySem.W.Frag} {X : Cx}
theorem EiI.of {K : List Di → Prop} {tg e : Expr} {w : TI} {fx : Option (Nat × Ob)} (h : PI X tg e w) (q : EiI sl ms w fx K) : EiI sl ms (wI X tg e) fx K := ⟨q.1, fun ho F0 H0 F ps ex σ H a R k pins s I => h.run pins s σ H R I (q.2 ho F0 H0 F ps ex σ H a R k)⟩
theorem Ei.of {tg e : Expr} {w : TI} {fx : Option (Nat × Ob)} (h : PI X tg e w) (q : Ei sl ms w fx K) : Ei sl ms (wI X tg e) fx K := EiI.of h q
theorem nofx {ms : List Ob} : ∀ k ds, (none : Option (Nat × Ob)) = some (k, ds) → ms[k]? = some ds := fun _ _ h => by cases h
theorem ei_tup (h : Er sl ms ta fun x => ∃ ds, x = .tup ds ∧ K ds) : Ei sl ms (iTup Kf ta) none K := ⟨nofx, fun ho F0 H0 F ps ex σ H a Rr q =>
  h ho F0 H0 F ps ex σ H a _ fun v d F1 H1 ⟨ds, e, k⟩ a1 => by
    subst e
    obtain ⟨p, xs, rfl, ha, hl⟩ : ∃ p xs, v = .ref p ∧ F1 p = some (.tup xs) ∧ DnL F1 xs ds := by cases a1.top with | tup ha hl => exact ⟨_, _, rfl, ha, hl⟩
    refine ⟨p, rfl, ⟨xs, sq_t a1.fh ha⟩, q _ F1 H1 [(.ref p, .d (.tup ds))] _ ⟨ds, rfl, k⟩ a1 fun ps' F2 H2 e2 hp _ => ?_⟩
    cases hp _ (List.mem_singleton.mpr rfl) with
    | d hp =>
      cases hp with
      | @tup _ ys _ ha hl =>
        refine ⟨fun i d hd => ?_, ys, sq_t e2 ha, by rw [hl.len, List.length_map]; exact Nat.le_refl _⟩
        obtain ⟨d, hw, rfl⟩ := walk_d hd; have hd := hw
        obtain ⟨x, hx, hxd⟩ := hl.get i hd
        refine ⟨⟨ys, x, sq_t e2 ha, hx⟩, fun y H3 hy => ?_⟩
        obtain ⟨rfl, hy⟩ := hy
        have z := hy ys (sq_t e2 ha)
        rw [hx] at z; cases z
        exact ⟨F2, Ext.refl e2, .d hxd⟩⟩
theorem ei_lst (h : Er sl ms ta fun x => ∃ ds, x = .lst ds ∧ K ds) : Ei sl ms (iList Kf ta) none K := ⟨nofx, fun ho F0 H0 F ps ex σ H a Rr q =>
  h ho F0 H0 F ps ex σ H a _ fun v d F1 H1 ⟨ds, e, k⟩ a1 => by
    subst e
    obtain ⟨p, xs, rfl, ha, hl⟩ : ∃ p xs, v = .ref p ∧ F1 p = some (.lst xs) ∧ DnL F1 xs ds := by cases a1.top with | lst ha hl => exact ⟨_, _, rfl, ha, hl⟩
    refine ⟨p, rfl, ⟨xs, sq_l a1.fh ha⟩, q _ F1 H1 [(.ref p, .d (.lst ds))] _ ⟨ds, rfl, k⟩ a1 fun ps' F2 H2 e2 hp _ => ?_⟩
    cases hp _ (List.mem_singleton.mpr rfl) with
    | d hp =>
      cases hp with
      | @lst _ ys _ ha hl =>
        refine ⟨fun i d hd => ?_, ys, sq_l e2 ha, by rw [hl.len, List.length_map]; exact Nat.le_refl _⟩
        obtain ⟨d, hw, rfl⟩ := walk_d hd; have hd := hw
        obtain ⟨x, hx, hxd⟩ := hl.get i hd
        refine ⟨⟨ys, x, sq_l e2 ha, hx⟩, fun y H3 hy => ?_⟩
        obtain ⟨rfl, hy⟩ := hy
        have z := hy ys (sq_l e2 ha)
        rw [hx] at z; cases z
        exact ⟨F2, Ext.refl e2, .d hxd⟩⟩
/-- 0, 1, .. as data -/
def numbers (n : Nat) : List D := (List.range n).map fun i => .int (i : Nat)
theorem numbers_len {n : Nat} : (numbers n).length = n := by simp [numbers]
theorem numbers_get {n i : Nat} {d : D} (h : (numbers n)[i]? = some d) : i < n ∧ d = .int (i : Nat) := by
  unfold numbers at h
  rw [List.getElem?_map] at h
  by_cases hi : i < n
  · rw [List.getElem?_range hi] at h
    exact ⟨hi, by cases h; rfl⟩
  · rw [List.getElem?_eq_none (by simpa using Nat.le_of_not_lt hi)] at h
    cases h
theorem ei_range (h : Er sl ms ta fun x => ∃ n : Nat, x = .int n ∧ n < 2 ^ 62 ∧ K (numbers n)) : Ei sl ms (iRng1 (tCons ta tNil)) none K := ⟨nofx, fun ho F0 H0 F ps ex σ H a Rr q =>
  h ho F0 H0 F ps ex σ H a _ fun v d F1 H1 ⟨n, e, hn, k⟩ a1 => by
    subst e
    cases a1.top
    refine ⟨n, rfl, by omega, by omega, q _ F1 H1 [] _ ⟨_, rfl, k⟩ a1.pop fun ps' F2 H2 e2 _ _ => ⟨fun i d hd => ?_, ?_⟩⟩
    · obtain ⟨d, hw, rfl⟩ := walk_d hd; have hd := hw
      obtain ⟨hi, rfl⟩ := numbers_get hd
      refine ⟨by show i < (n : Int).toNat; omega, fun x H3 hy => ?_⟩
      obtain ⟨rfl, rfl⟩ := hy
      exact ⟨F2, Ext.refl e2, .d (by rw [Int.zero_add]; exact .int _)⟩
    · show (n : Int).toNat ≤ ((numbers n).map Di.d).length
      rw [List.length_map, numbers_len]
      omega⟩
/-- the pairs of enumerate -/
def enumFrom : Nat → List D → List D
  | _, [] => []
  | n, d :: ds => .tup [.int (n : Nat), d] :: enumFrom (n + 1) ds
abbrev enumD (ds : List D) : List D := enumFrom 0 ds
theorem enumFrom_len : ∀ {n : Nat} {ds : List D}, (enumFrom n ds).length = ds.length
  | _, [] => rfl
  | n, _ :: ds => congrArg (· + 1) (enumFrom_len (ds := ds))
theorem enumFrom_get : ∀ {n : Nat} {ds : List D} {i : Nat} {d : D}, (enumFrom n ds)[i]? = some d → ∃ x, ds[i]? = some x ∧ d = .tup [.int ((n + i : Nat) : Int), x]
  | _, [], _, _, h => by simp [enumFrom] at h
  | n, x :: ds, 0, d, h => by simp [enumFrom] at h; exact ⟨x, rfl, by rw [← h]; rfl⟩
  | n, x :: ds, i + 1, d, h => by
    obtain ⟨y, h1, h2⟩ := enumFrom_get (n := n + 1) (ds := ds) (i := i) (by simpa [enumFrom] using h)
    exact ⟨y, by simpa using h1, by rw [h2, show n + 1 + i = n + (i + 1) by omega]⟩
theorem enumD_get {ds : List D} {i : Nat} {d : D} (h : (enumD ds)[i]? = some d) : ∃ x, ds[i]? = some x ∧ d = .tup [.int (i : Nat), x] := by
  obtain ⟨x, h1, h2⟩ := enumFrom_get h
  exact ⟨x, h1, by rw [h2, Nat.zero_add]⟩
theorem ei_enumL (h : Er sl ms ta fun x => ∃ ds, x = .lst ds ∧ K (enumD ds)) : Ei sl ms (iEnum Kf (tCons ta tNil)) none K := ⟨nofx, fun ho F0 H0 F ps ex σ H a Rr q =>
  h ho F0 H0 F ps ex σ H a _ fun v d F1 H1 ⟨ds, e, k⟩ a1 => by
    subst e
    obtain ⟨p, xs, rfl, ha, hl⟩ : ∃ p xs, v = .ref p ∧ F1 p = some (.lst xs) ∧ DnL F1 xs ds := by cases a1.top with | lst ha hl => exact ⟨_, _, rfl, ha, hl⟩
    refine ⟨p, xs, rfl, sq_l a1.fh ha, q _ F1 H1 [(.ref p, .d (.lst ds))] _ ⟨_, rfl, k⟩ a1 fun ps' F2 H2 e2 hp _ => ?_⟩
    cases hp _ (List.mem_singleton.mpr rfl) with
    | d hp =>
      cases hp with
      | @lst _ ys _ ha hl =>
        refine ⟨fun i d hd => ?_, ys, sq_l e2 ha, by rw [hl.len, List.length_map, enumFrom_len]; exact Nat.le_refl _⟩
        obtain ⟨d, hw, rfl⟩ := walk_d hd; have hd := hw
        obtain ⟨z, hz, rfl⟩ := enumD_get hd
        obtain ⟨x, hx, hxd⟩ := hl.get i hz
        refine ⟨⟨ys, x, sq_l e2 ha, hx⟩, fun y H3 hy => ?_⟩
        obtain ⟨T, x', rfl, hT, rfl, hy⟩ := hy
        have w := hy ys (sq_l e2 ha)
        rw [hx] at w; cases w
        have ef := Ex.new (o := HO.tup [.int (i : Nat), x]) (e2.none hT)
        exact ⟨_, Ext.new e2 hT, .d (.tup upd_same (.cons (.int _) (.cons (hxd.mono ef) .nil)))⟩⟩
/-- the pairs of enumerate over what is one's own -/
def enumI : Nat → List Di → List Di
  | _, [] => []
  | n, d :: ds => .t [.d (.int (n : Nat)), d] :: enumI (n + 1) ds
theorem enumI_len : ∀ {n : Nat} {ds : List Di}, (enumI n ds).length = ds.length
  | _, [] => rfl
  | n, _ :: ds => congrArg (· + 1) (enumI_len (ds := ds))
theorem enumI_get : ∀ {n : Nat} {ds : List Di} {i : Nat} {d : Di}, (enumI n ds)[i]? = some d → ∃ x, ds[i]? = some x ∧ d = .t [.d (.int ((n + i : Nat) : Int)), x]
  | _, [], _, _, h => by simp [enumI] at h
  | n, x :: ds, 0, d, h => by simp [enumI] at h; exact ⟨x, rfl, by rw [← h]; rfl⟩
  | n, x :: ds, i + 1, d, h => by
    obtain ⟨y, h1, h2⟩ := enumI_get (n := n + 1) (ds := ds) (i := i) (by simpa [enumI] using h)
    exact ⟨y, by simpa using h1, by rw [h2, show n + 1 + i = n + (i + 1) by omega]⟩
theorem ei_enumM {i k : Nat} {ds : List D} (hs : sl[i]? = some (.m k)) (hm : ms[k]? = some (.l ds)) (hk : K (enumD ds)) : Ei sl ms (iEnum Kf (tCons (tVar i) tNil)) (some (k, .l ds)) K := ⟨fun k' ds' e => by cases e; exact hm, fun ho F0 H0 F ps ex σ H a Rr q => by
  obtain ⟨p, xs, e, hp, h1, h2⟩ := a.ml hs hm
  refine ⟨_, e, p, xs, rfl, .inl (.inl h1), q _ F H [(.ref p, .o k)] _ ⟨_, rfl, hk⟩ (a.pushI (.o hp)) fun ps' F2 H2 e2 hpn hx => ?_⟩
  obtain ⟨p', o, hp', hH, ys, rfl, hl⟩ := hx k _ rfl
  cases hpn _ (List.mem_singleton.mpr rfl) with
  | o hpn =>
    rw [hp'] at hpn; cases hpn
    refine ⟨fun i d hd => ?_, ys, .inl (.inl hH), by rw [hl.len, List.length_map, enumFrom_len]; exact Nat.le_refl _⟩
    obtain ⟨d, hw, rfl⟩ := walk_d hd; have hd := hw
    obtain ⟨z, hz, rfl⟩ := enumD_get hd
    obtain ⟨x, hx, hxd⟩ := hl.get i hz
    refine ⟨⟨ys, x, .inl (.inl hH), hx⟩, fun y H3 hy => ?_⟩
    obtain ⟨T, x', rfl, hT, rfl, hy⟩ := hy
    have w := hy ys (.inl (.inl hH))
    rw [hx] at w; cases w
    have ef := Ex.new (o := HO.tup [.int (i : Nat), x]) (e2.none hT)
    exact ⟨_, Ext.new e2 hT, .d (.tup upd_same (.cons (.int _) (.cons (hxd.mono ef) .nil)))⟩⟩
theorem At.mg {ho : Option Addr} {F0 H0 F H : Hp} {ps : List Addr} {ex : List (V × Di)} {σ : L2.St} {i k : Nat} {ob : Ob} (a : At ho F0 H0 F ps sl ms ex σ H) (hs : sl[i]? = some (.m k)) (hm : ms[k]? = some ob) :
    ∃ p o, σ[i]? = some (some (.ref p)) ∧ ps[k]? = some p ∧ H p = some o ∧ OwH F ps o ob := by
  obtain ⟨o, e, p, rfl, hp⟩ := a.slo i _ hs
  obtain ⟨_, _, _, o, h1, h2⟩ := a.mu k p ob hp hm
  exact ⟨p, o, e, hp, h1, h2⟩
/-- the pairs of zip -/
def zipD (ds es : List D) : List D := (ds.zip es).map fun p => .tup [p.1, p.2]
theorem zipD_get {ds es : List D} {i : Nat} {d : D} (h : (zipD ds es)[i]? = some d) : ∃ x y, ds[i]? = some x ∧ es[i]? = some y ∧ d = .tup [x, y] := by
  unfold zipD at h
  rw [List.getElem?_map] at h
  cases e : (ds.zip es)[i]? with
  | none => rw [e] at h; cases h
  | some p =>
    rw [e] at h
    cases h
    rw [List.getElem?_zip_eq_some] at e
    exact ⟨p.1, p.2, e.1, e.2, rfl⟩
theorem ei_zipT (h : Er sl ms ta fun x => Er sl ms tb fun y => ∃ ds es, x = .tup ds ∧ y = .tup es ∧ K (zipD ds es)) : Ei sl ms (RZ.iZipA Kf (tCons ta (tCons tb tNil))) none K := ⟨nofx, fun ho F0 H0 F ps ex σ H a Rr q =>
  h ho F0 H0 F ps ex σ H a _ fun v d F1 H1 h' a1 => h' ho F0 H0 F1 ps _ σ H1 a1 _ fun w d' F2 H2 ⟨ds, es, e, e', k⟩ a2 => by
    subst e e'
    obtain ⟨p, xs, rfl, ha, hl⟩ : ∃ p xs, v = .ref p ∧ F2 p = some (.tup xs) ∧ DnL F2 xs ds := by cases a2.pop.top with | tup ha hl => exact ⟨_, _, rfl, ha, hl⟩
    obtain ⟨p', xs', rfl, ha', hl'⟩ : ∃ p xs, w = .ref p ∧ F2 p = some (.tup xs) ∧ DnL F2 xs es := by cases a2.top with | tup ha hl => exact ⟨_, _, rfl, ha, hl⟩
    refine ⟨p, p', xs, xs', rfl, .inr ⟨sq_t a2.fh ha, sq_t a2.fh ha', q _ F2 H2 [(.ref p', .d (.tup es)), (.ref p, .d (.tup ds))] _ ⟨_, rfl, k⟩ a2 fun ps' F3 H3 e3 hp _ => ?_⟩⟩
    have hq := hp (.ref p, .d (.tup ds)) (by simp)
    cases hp (.ref p', .d (.tup es)) (by simp) with
    | d hp =>
      cases hp with
      | @tup _ zs _ hb hm =>
        cases hq with
        | d hq =>
          cases hq with
          | @tup _ ys _ ha hl =>
            refine ⟨fun i d hd => ?_, ys, zs, sq_t e3 ha, sq_t e3 hb, ?_⟩
            · obtain ⟨d, hw, rfl⟩ := walk_d hd; have hd := hw
              obtain ⟨x, y, hx, hy, rfl⟩ := zipD_get hd
              obtain ⟨x, hx, hxd⟩ := hl.get i hx
              obtain ⟨y, hy, hyd⟩ := hm.get i hy
              refine ⟨⟨ys, zs, x, y, sq_t e3 ha, sq_t e3 hb, hx, hy⟩, fun u H4 hu => ?_⟩
              obtain ⟨T, x', y', rfl, hT, rfl, h1, h2⟩ := hu
              have w := h1 ys (sq_t e3 ha)
              rw [hx] at w; cases w
              have w := h2 zs (sq_t e3 hb)
              rw [hy] at w; cases w
              have ef := Ex.new (o := HO.tup [x, y]) (e3.none hT)
              exact ⟨_, Ext.new e3 hT, .d (.tup upd_same (.cons (hxd.mono ef) (.cons (hyd.mono ef) .nil)))⟩
            · rw [hl.len, hm.len, List.length_map]
              show ds.length ≤ (zipD ds es).length ∨ es.length ≤ (zipD ds es).length
              unfold zipD
              rw [List.length_map, List.length_zip]
              omega⟩
end
end E
set_option Elab.async false
set_option linter.all false
set_option maxRecDepth 100000
/-! Defs that may ask for the repr of nested data: nothing is shown already when they are called. -/
namespace E
open PySem PySem.Spec PyProof.Rows L2
variable [KF]

structure RoomG (k : Nat) (A : Around) : Prop where
  rm : Room k A
  gu : A.guards = some []
theorem RoomG.mono {j k : Nat} {A : Around} (r : RoomG k A) (h : j ≤ k) : RoomG j A := ⟨r.rm.mono h, r.gu⟩
theorem RoomG.deeper {k : Nat} {A : Around} (r : RoomG (k + 1) A) (env : Env) : RoomG k (A.deeper env) := ⟨r.rm.deeper env, r.gu⟩
/-- as FnOk -/
structure FnG (P : Program) (w : World) (K : PySem.W.Frag) (mg : Str → Option Value) (base : Heap) (k : Nat) (f : Addr) (fd : FuncData) (ps : List Str) (sp : Sp) : Prop where
  len : ∀ vs H Q E, sp vs H Q E → vs.length = ps.length
  run : ∀ (A : Around) (outer : List Env) (s : Shared) (H : Hp) (args : Args) (us : List Value) (vs : List V) (Q : VK) (E : XK), RoomG k A → Env0 P w K mg base A outer s H → BindsTo s fd args (ps.zip us) → Vals vs us → sp vs H Q E →
    codeAny (model P w) A (.call (.ref f) args) (CR CX0 outer P w H s Q E) s
section
variable {P : Program} {w : World} {K : PySem.W.Frag} {mg : Str → Option Value} {base : Heap}
theorem FnG.mono {j k : Nat} {f : Addr} {fd : FuncData} {ps : List Str} {sp : Sp} (F : FnG P w K mg base j f fd ps sp) (h : j ≤ k) : FnG P w K mg base k f fd ps sp := ⟨F.len, fun A outer s H args us vs Q E hr => F.run A outer s H args us vs Q E (hr.mono h)⟩
/-- a def by its body -/
theorem fun_G {x : Str} {st : Stmt} {f : Addr} {fd : FuncData} {N ps : List Str} {k : Nat} {sp : Sp} (F : Fun K x x st f fd) (S : FnScope N ps (defScope st)) (len : ∀ vs H Q E, sp vs H Q E → vs.length = ps.length)
    (hbody : ∀ (cdv : Value) (A : Around) (outer : List Env) (s : Shared) (H : Hp) (vs : List V) (Q : VK) (E : XK), RoomG k (A.deeper (envOfC x (defScope st) s.heap.objs.size f cdv)) → sp vs H Q E →
      ∃ t, PSs (cxOf CX0 P w K mg base N x (defScope st) f cdv A outer s H E).nox (defBody st) t ∧ t { nx := fun _ H' => Q .non H', rt := Q } (L2.start N vs) H) : FnG P w K mg base (k + 1) f fd ps sp := by
  obtain ⟨oc, od, kV, doc, pm, an, cdv, ct, osl, rfl, lk, hcd⟩ := F.ex
  refine ⟨len, fun A outer s H args us vs Q E hr e0 hb r hsp => ?_⟩
  have hl := len _ _ _ _ hsp
  have KX : K.In s.heap := e0.mod.kin.keeps fun b o e => (e0.bs b o e).1
  have lim : s.heap.NoLimit := e0.mod.nolimit.keeps fun b o e => (e0.bs b o e).1
  have hkind : ∀ y ∈ ps.zip us, (defScope st).names.lookup y.1 = some .local ∨ ((defScope st).names.lookup y.1 = some .cell ∧ ((cellsFrom (s.heap.objs.size + 1) (defScope st).names []).lookup y.1).isSome = true) := fun ⟨n, v⟩ hy => by
    rcases S.par n (List.of_mem_zip hy).1 with q | q
    · exact .inl q
    · exact .inr ⟨q, PySem.W.cellsFrom_some _ _ _ (.inl q)⟩
  refine codeAny_call_function hr.rm.depth (KX _ _ lk) rfl S.co S.gen rfl (PySem.W.codeRec_of KX hcd) (hb _ _ _ _ ?_)
  refine wpAny_newFunctionEnv_cells S.kind hkind fun env he s1 x => ?_
  subst he
  refine ⟨lim.keeps x.toInCall.keep, codeAny_func ?_⟩
  obtain ⟨t, ht, hq⟩ := hbody cdv A outer s H vs Q E (hr.deeper _) hsp
  have I : Inv (cxOf CX0 P w K mg base N _ (defScope st) f cdv A outer s H E) [] (L2.start N vs) H s1 := inv_start S hr.rm.hd e0 hl r x
  refine wpAny_mono (ht.nox.run [] s1 (L2.start N vs) H _ I hq) (fun fl s' hs => ?_) fun e s' hs => hs
  cases fl with
  | ret u =>
    obtain ⟨v, σ', H', J, rv, q⟩ := hs
    exact ⟨v, H', J.os, J.bare, J.base, J.hok, rv, q⟩
  | next =>
    obtain ⟨σ', H', J, q⟩ := hs
    exact ⟨V.non, H', J.os, J.bare, J.base, J.hok, rfl, q⟩
  | brk =>
    obtain ⟨_, _, _, q⟩ := hs
    exact False.elim q
  | cont =>
    obtain ⟨_, _, _, q⟩ := hs
    exact False.elim q
end
section
variable {X : Cx} {x : Str} {p pos : Pos} {e : Expr} {es : List Expr} {t : TA} {k : Nat} {f : Addr} {fd : FuncData} {ps : List Str} {sp : Sp}
theorem pe_callG (F : FnG X.prog X.w X.K X.mg X.base k f fd ps sp) (hr : RoomG k X.A) (hg : Gl X x) (hm : X.mg x = some (.ref f)) (hk : PySem.W.keepIn X.K (.ref f) = true) (hb : Binds X.K fd ps [])
    (ha : PA X (e :: es) t) (hdb : (x == ("__debug__" : Str)) = false := by decide) (he : starEach (e :: es) X.env = (false, eval e X.env) :: starEach es X.env := by rfl) (hpl : (backTo pos (starEach es X.env)).any (·.1) = false := by rfl) :
    PE X (.Call (.Name x p) (e :: es) [] pos) (tCall sp [] E0 t) := by
  refine ⟨fun pins s σ H Q I h => ?_⟩
  refine wpAny_Call_Name_kw (ld_glob I hg hm ?_ hdb)
  refine PySem.W.callWith_K (h₀ := X.base) I.ok.mod.kin hk (thn (ha.run pos pins s σ H _ I h) fun us s1 ⟨vs, H1, I1, r, q⟩ => ⟨I1.kIn, ?_⟩) he hpl
  have q : sp (vs ++ []) H1 Q E0 := q
  rw [List.append_nil] at q
  have hl : us.length = ps.length := by rw [← r.length]; exact F.len _ _ _ _ q
  have hbt := hb s1 us I1.kIn (by rw [List.append_nil]; exact hl)
  rw [List.append_nil] at hbt
  refine wpAny_call (codeAny_mono (F.run X.A X.stack s1 H1 ⟨us, []⟩ us vs Q E0 hr I1.env0 hbt r q) fun r s' hq => ?_)
  cases r with
  | error e => exact False.elim hq
  | ok fl =>
    cases fl with
    | ret u => exact I1.after hq
    | next => exact False.elim hq
    | brk => exact False.elim hq
    | cont => exact False.elim hq
end
/-- the end: from the law's promise to the walk -/
theorem law_G {P : Program} {w : World} {K : PySem.W.Frag} {mg mb : Str → Option Value} {k : Nat} {fa a : Addr} {fd : FuncData} {x : Str} {sp : Sp} {s₁ : Shared} {vs : List Value} {ns : List Int}
    (KX : K.In s₁.heap) (hns : s₁.heap.Ns mainGlobals mg) (hb : s₁.heap.Ns builtinsNs mb) (hbb : ∀ x : Str, x ≠ "__name__" → mb x = bootBuiltins x) (hlim : s₁.heap.NoLimit) (hg : s₁.gens = #[])
    (ha : s₁.heap.get? a = some { cls := .type "list", data := .seq vs.toArray }) (hi : IntsAre vs ns) (hl : ns.length ≤ sizeLine) (hr : RoomG k callerA)
    (F : ∀ base : Heap, K.In base → base.Ns mainGlobals mg → FnG P w K mg base k fa fd [x] sp) (hbind : ∀ (s : Shared) (u : Value), BindsTo s fd ⟨[u], []⟩ [(x, u)])
    (hsp : ∀ H : Hp, Only H → SqL K H a (ns.map V.int) → sp [.ref a] H (fun v _ => v = .bl true) fun _ _ _ => False) :
    codeAny (model P w) callerA (.call (.ref fa) ⟨[.ref a], []⟩) (fun r s' => r = .ok (.ret (.bool true)) ∧ OldK s₁.heap s'.heap ∧ s'.os = s₁.os ∧ AllBare s'.gens) s₁ := by
  have rv := vals_ints hi
  have main : ∀ H : Hp, Only H → SqL K H a (ns.map V.int) → HOk P w H s₁.heap → (∀ b, H b ≠ none → b = a) → (H a ≠ none → K.lookup a = none) →
      codeAny (model P w) callerA (.call (.ref fa) ⟨[.ref a], []⟩) (fun r s' => r = .ok (.ret (.bool true)) ∧ OldK s₁.heap s'.heap ∧ s'.os = s₁.os ∧ AllBare s'.gens) s₁ := by
    intro H hO hS hok hA hK
    have nodict : ∀ {b : Addr} {o : Obj} {es : Array DictEntry} {ep : Nat}, s₁.heap.get? b = some o → o.data = .dict es ep → H b = none := fun {b o es ep} e d => by
      cases q : H b with
      | none => rfl
      | some u =>
        have e' : b = a := hA b (by rw [q]; simp)
        subst e'
        rw [ha] at e; cases e
        cases (show Data.seq vs.toArray _ = Data.dict es ep from d)
    have space : ∀ {b : Addr} {m : Str → Option Value}, s₁.heap.Ns b m → (hidT s₁.heap H).Ns b m := fun {b m} ⟨o, es, ep, e, d, r⟩ => ⟨o, es, ep, hidT_get e (nodict e d), d, r⟩
    have kin : K.In (hidT s₁.heap H) := fun b o e => hidT_get (KX b o e) (by
      cases q : H b with
      | none => rfl
      | some u =>
        have e' : b = a := hA b (by rw [q]; simp)
        subst e'
        rw [hK (by rw [q]; simp)] at e; cases e)
    have e0 : Env0 P w K mg (hidT s₁.heap H) callerA [] s₁ H := ⟨rfl, ⟨kin, space hns, ⟨mb, space hb, hbb⟩, let ⟨mc, h1, h2⟩ := hlim; ⟨mc, space h1, h2⟩⟩, fun b o e => of_hidT e, Nat.le_of_eq (hidT_size _ _), trivial, fun b hb => absurd (show b ∈ ([] : List Addr) from hb) (by simp), hok, .of_eq hg⟩
    refine codeAny_mono ((F _ kin (space hns)).run callerA [] s₁ H ⟨[.ref a], []⟩ [.ref a] [.ref a] _ _ hr e0 (hbind s₁ (.ref a)) (.cons rfl .nil) (hsp H hO hS)) fun r s' h => ?_
    cases r with
    | error e => exact False.elim h
    | ok fl =>
      cases fl with
      | next => exact False.elim h
      | brk => exact False.elim h
      | cont => exact False.elim h
      | ret u =>
        obtain ⟨v, H', os, bare, un, hok', r', q⟩ := h
        have q' : v = .bl true := q
        subst q'
        obtain rfl : u = Value.bool true := r'
        refine ⟨rfl, OldK.of_keep fun b o e => ?_, os, bare⟩
        cases q : H b with
        | none => exact un.keep b o e q (by intro z; exact absurd (show b ∈ ([] : List Addr) from z) (by simp)) (by simp)
        | some u =>
          rcases hO b with z | ⟨ob, xs, z⟩
          · rw [q] at z; cases z
          · obtain ⟨e1, _⟩ := hok b _ z
            obtain ⟨e2, _⟩ := hok' b _ (un.frzs b ob _ z)
            rw [e] at e1; cases e1
            exact e2
  cases hk : K.lookup a with
  | some o =>
    have e := KX a o hk
    rw [ha] at e
    cases e
    exact main (fun _ => none) (fun _ => .inl rfl) (.inr ⟨_, vs.toArray, _, hk, rfl, rfl, rfl, by rw [List.size_toArray, hi.length]; exact hl, by simpa using rv⟩) (fun b u z => by cases (show (none : Option HO) = some u from z)) (fun b z => absurd rfl z) fun z => absurd rfl z
  | none =>
    refine main (fun b => if b = a then some (.frz { cls := .type "list", data := .seq vs.toArray } (.lst (ns.map V.int))) else none) (fun b => ?_) (.inl (.inr ⟨{ cls := .type "list", data := .seq vs.toArray }, if_pos rfl⟩)) (fun b u z => ?_) (fun b z => ?_) fun _ => hk
    · by_cases hb : b = a
      · exact .inr ⟨_, _, if_pos hb⟩
      · exact .inl (if_neg hb)
    · by_cases hb : b = a
      · have z' := (if_pos hb).symm.trans z
        cases z'
        subst hb
        exact ⟨ha, by rw [List.length_map]; exact hl, vs, _, rv, ha⟩
      · cases (if_neg hb).symm.trans z
    · by_cases hb : b = a
      · exact hb
      · exact absurd (if_neg hb) z
theorem walk_G {l : PySem.W.OpenLaw} {n k : Nat} {q : Program} {loose : List Str} {XP : (Str → Option Value) → Heap → Prop} {YP : World → Heap → Prop} {d : DefRec} {K : Params → PySem.W.Frag} {sp : PySem.W.Frag → Sp} {x : Str}
    (hn : l.most = some n) (hn2 : n ≤ sizeLine) (hdf : d.params.defaults = []) (hr : RoomG k callerA) (hY : ∀ (w : World) (h : Heap), YP w h → (K w.params).In h)
    (F : ∀ (w : World) (mg : Str → Option Value) (fa : Addr) (h : Heap), (K w.params).In h → h.Ns mainGlobals mg → mg d.name = some (.ref fa) →
      ∃ fd : FuncData, (∀ (s : Shared) (u : Value), BindsTo s fd ⟨[u], []⟩ [(x, u)]) ∧ ∀ base : Heap, (K w.params).In base → base.Ns mainGlobals mg → FnG l.prog w (K w.params) mg base k fa fd [x] (sp (K w.params)))
    (hsp : ∀ (K : PySem.W.Frag) (H : Hp) (a : Addr) (ns : List Int), ns.length ≤ n → Only H → SqL K H a (ns.map V.int) → sp K [.ref a] H (fun v _ => v = .bl true) fun _ _ _ => False) :
    PySem.W.WalkO q loose XP YP l.row.toRowW d [] (fun f vs => PySem.call f vs) := by
  refine Att.attach_call hn hdf fun w s₀ s₁ mg mb fa o pm cd doc a vs ns G Y ho hd hcd hmg hobj hints hlen hg => ?_
  obtain ⟨fd, hb, hF⟩ := F w mg fa _ (hY w _ Y) G.T.g hmg
  exact law_G (hY w _ Y) G.T.g G.T.b G.T.builtins G.T.nolimit hg hobj hints (Nat.le_trans hlen hn2) hr hF hb fun H hO hS => hsp _ H a ns hlen hO hS
end E
set_option Elab.async false
set_option linter.all false
set_option maxRecDepth 100000
/-! Loops, comprehensions, calls, defs. -/
namespace E
open PySem PySem.Spec PyProof.Rows L2
variable [KF]

section
variable {sl sl' : List Sl} {ms : List Ob} {O : Out}
theorem sr_forI {wi : TI} {g : TG} {tb : TS} {fx : Option (Nat × Ob)} (h : EiI sl ms wi fx fun items => ∃ Pv : Nat → List Sl → List Ob → Prop, Pv 0 sl ms ∧
    (∀ i sl1 ms1, Pv i sl1 ms1 → ∀ k ob, fx = some (k, ob) → ms1[k]? = some ob) ∧
    (∀ i d sl1 ms1, items[i]? = some d → Pv i sl1 ms1 → ∃ tv sl2, Egi sl1 g d tv sl2 ∧ Sr sl2 ms1 tb { O with nx := Pv (i + 1), bk := O.nx, ct := Pv (i + 1) }) ∧
    ∀ sl1 ms1, Pv items.length sl1 ms1 → O.nx sl1 ms1) : Sr sl ms (tFor wi g tb) O := fun ho F0 H0 F ps ex σ H a Z n r b c =>
  h.2 ho F0 H0 F ps ex σ H a _ fun J F1 H1 pins items ⟨Pv, p0, pf, step, fin⟩ a1 wk => by
    refine ⟨fun i m σ H => m = items.length - i ∧ i ≤ items.length ∧ ∃ sl1 ms1 F2 ps2, Pv i sl1 ms1 ∧ At ho F0 H0 F2 ps2 sl1 ms1 (pins ++ ex) σ H, ⟨_, rfl, Nat.zero_le _, _, _, _, _, p0, a1⟩, ?_⟩
    rintro i m σ2 H2 ⟨rfl, hi, sl1, ms1, F2, ps2, pv, a2⟩
    obtain ⟨w1, w2⟩ := wk ps2 F2 H2 a2.fh (fun x hx => a2.pen x (List.mem_append_left _ hx)) (fun k ob e => by
      have hm := pf i sl1 ms1 pv k ob e
      have hk : k < ps2.length := by rw [a2.len]; exact (List.getElem?_eq_some_iff.mp hm).1
      obtain ⟨_, _, _, o, h4, h5⟩ := a2.mu k _ ob (List.getElem?_eq_getElem hk) hm
      exact ⟨_, o, List.getElem?_eq_getElem hk, h4, h5⟩)
    by_cases hlt : i < items.length
    · obtain ⟨g1, g2⟩ := w1 i _ (List.getElem?_eq_getElem hlt)
      refine .inr ⟨g1, fun σ H => ∃ sl1 ms1 F2 ps2, Pv (i + 1) sl1 ms1 ∧ At ho F0 H0 F2 ps2 sl1 ms1 (pins ++ ex) σ H, fun σ' H' p' => ⟨items.length - (i + 1), by omega, rfl, hlt, p'⟩, fun x H3 y => ?_⟩
      obtain ⟨F3, e3, d3⟩ := g2 x H3 y
      obtain ⟨tv, sl2, eg, sr⟩ := step i _ sl1 ms1 (List.getElem?_eq_getElem hlt) pv
      refine eg.run ms1 ho F0 H0 F3 ps2 (pins ++ ex) σ2 H3 x (a2.step0 e3) d3 _ fun F4 σ4 H4 e4 a4 _ => ?_
      exact sr ho F0 H0 F4 ps2 (pins ++ ex) σ4 H4 a4 _ (fun s l F' ps' σ' H' p a' => ⟨s, l, F', ps', p, a'⟩) (fun v F' H' k => r v F' H' k.drop)
        (fun s l F' ps' σ' H' p a' => n s l F' ps' σ' H' p (a'.drop fun _ hx => List.mem_append_right _ hx)) (fun s l F' ps' σ' H' p a' => ⟨s, l, F', ps', p, a'⟩)
    · have e : i = items.length := by omega
      subst e
      exact .inl ⟨w2, n _ _ _ _ _ _ (fin _ _ pv) (a2.drop fun _ hx => List.mem_append_right _ hx)⟩
theorem sr_for' {wi : TI} {g : TG} {tb : TS} (h : Ei sl ms wi none fun items => ∃ Pv : Nat → List Sl → List Ob → Prop, Pv 0 sl ms ∧
    (∀ i d sl1 ms1, items[i]? = some d → Pv i sl1 ms1 → ∃ tv sl2, Eg sl1 g d tv sl2 ∧ Sr sl2 ms1 tb { nx := Pv (i + 1), rt := O.rt, ro := O.ro, bk := O.nx, ct := Pv (i + 1) }) ∧
    ∀ sl1 ms1, Pv items.length sl1 ms1 → O.nx sl1 ms1) : Sr sl ms (tFor wi g tb) O := sr_forI (EiI.mono h fun is ⟨ds, e, Pv, p0, step, fin⟩ => by
    subst e
    refine ⟨Pv, p0, fun _ _ _ _ _ _ z => (by cases z), fun i d sl1 ms1 hd pv => ?_, fun sl1 ms1 pv => fin sl1 ms1 (by rw [List.length_map] at pv; exact pv)⟩
    obtain ⟨x, hx, rfl⟩ := walk_d hd
    exact step i x sl1 ms1 hx pv)
theorem sr_while' {c : TT} {tb : TS} (Pv : Nat → List Sl → List Ob → Prop) (h0 : ∃ m, Pv m sl ms)
    (hs : ∀ m sl1 ms1, Pv m sl1 ms1 → Et sl1 ms1 c fun b => (b = true → Sr sl1 ms1 tb { nx := fun s l => ∃ m', m' < m ∧ Pv m' s l, rt := O.rt, ro := O.ro, bk := O.nx, ct := fun s l => ∃ m', m' < m ∧ Pv m' s l }) ∧ (b = false → O.nx sl1 ms1)) :
    Sr sl ms (tWhile c tb) O := fun ho F0 H0 F ps ex σ H a Z n r b ct => by
  refine ⟨fun m σ H => ∃ sl1 ms1 F2 ps2, Pv m sl1 ms1 ∧ At ho F0 H0 F2 ps2 sl1 ms1 ex σ H, (let ⟨m, p⟩ := h0; ⟨m, _, _, _, _, p, a⟩), ?_⟩
  rintro m σ2 H2 ⟨sl1, ms1, F2, ps2, pv, a2⟩
  refine hs m sl1 ms1 pv ho F0 H0 F2 ps2 ex σ2 H2 a2 _ fun b F3 H3 ⟨k1, k2⟩ a3 => ?_
  cases b with
  | true =>
    rw [if_pos rfl]
    refine ⟨fun σ H => ∃ m', m' < m ∧ ∃ sl1 ms1 F2 ps2, Pv m' sl1 ms1 ∧ At ho F0 H0 F2 ps2 sl1 ms1 ex σ H, fun σ' H' z => z, ?_⟩
    exact k1 rfl ho F0 H0 F3 ps2 ex σ2 H3 a3 _ (fun s l F' ps' σ' H' ⟨m', hm, p⟩ a' => ⟨m', hm, s, l, F', ps', p, a'⟩) r
      (fun s l F' ps' σ' H' p a' => n s l F' ps' σ' H' p a') (fun s l F' ps' σ' H' ⟨m', hm, p⟩ a' => ⟨m', hm, s, l, F', ps', p, a'⟩)
  | false =>
    rw [if_neg Bool.false_ne_true]
    exact n _ _ _ _ _ _ (k2 rfl) a3
/-- a comprehension; Pv: what has come by turn i -/
theorem wipe_same {σ σ' : L2.St} {vs : List Nat} (hl : σ'.length = σ.length) (h : ∀ j, j ∉ vs → σ'[j]? = (wipe σ vs)[j]?) : wipe σ' vs = wipe σ vs := by
  have key : ∀ (vs : List Nat) (τ : L2.St) (j : Nat), j ∈ vs → j < τ.length → (wipe τ vs)[j]? = some none := by
    intro vs
    induction vs with
    | nil => intro τ j h; cases h
    | cons v r ih =>
      intro τ j hj hl
      show ((wipe τ r).set v none)[j]? = _
      by_cases e : v = j
      · subst e; rw [List.getElem?_set_self (by rw [wipe_length]; exact hl)]
      · rw [List.getElem?_set_ne e]
        rcases List.mem_cons.mp hj with z | z
        · exact absurd z.symm e
        · exact ih τ j z hl
  refine List.ext_getElem? fun j => ?_
  by_cases hj : j ∈ vs
  · by_cases hb : j < σ.length
    · rw [key vs σ' j hj (by rw [hl]; exact hb), key vs σ j hj hb]
    · rw [List.getElem?_eq_none (by rw [wipe_length]; omega), List.getElem?_eq_none (by rw [wipe_length]; omega)]
  · rw [wipe_out hj, h j hj]
theorem el_lcI {wi : TI} {g : TG} {tt : TT} {te : TE} {vs : List Nat} {fx : Option (Nat × Ob)} {R : List D → Prop} (hv : ∀ j ∈ vs, ∀ s, sl[j]? = some s → s = .u)
    (h : EiI sl ms wi fx fun items => items.length < 100000 ∧ ∃ Pv : Nat → List D → Prop, Pv 0 [] ∧
      (∀ i d acc, items[i]? = some d → Pv i acc → ∃ tv sl2, Egi sl g d tv sl2 ∧ (∀ j ∈ tv, j ∈ vs) ∧ Et sl2 (ms ++ [.l acc]) tt fun b => (b = true → Er sl2 (ms ++ [.l acc]) te fun y => Pv (i + 1) (acc ++ [y])) ∧ (b = false → Pv (i + 1) acc)) ∧
      ∀ acc, Pv items.length acc → R acc) : El sl ms (tLc wi g tt te vs) R := fun ho F0 H0 F ps ex σ H a Q q =>
  h.2 ho F0 H0 F ps ex σ H a _ fun J F1 H1 pins items ⟨hn, Pv, p0, step, fin⟩ a1 wk => by
    intro Dd hD
    have aw : ∀ {F ps ms ex σ H}, At ho F0 H0 F ps sl ms ex σ H → At ho F0 H0 F ps sl ms ex (wipe σ vs) H := fun {F ps ms ex σ H} a => a.other (vs := vs) (wipe_length _ _) hv fun j hj => wipe_out hj
    have b1 : At ho F0 H0 F1 (ps ++ [Dd]) sl (ms ++ [.l []]) (pins ++ ex) (wipe σ vs) (upd H1 Dd (.lst [])) := aw (a1.own hD .nil)
    refine ⟨fun i m H => m = items.length - i ∧ i ≤ items.length ∧ ∃ acc F2, acc.length ≤ i ∧ Pv i acc ∧ At ho F0 H0 F2 (ps ++ [Dd]) sl (ms ++ [.l acc]) (pins ++ ex) (wipe σ vs) H, ⟨_, rfl, Nat.zero_le _, [], _, Nat.zero_le _, p0, b1⟩, ?_⟩
    rintro i m H2 ⟨rfl, hi, acc, F2, hacc, pv, a2⟩
    obtain ⟨w1, w2⟩ := wk _ F2 H2 a2.fh (fun x hx => a2.pen x (List.mem_append_left _ hx)) (fun k ds e => by
      have hk := h.1 k ds e
      have hkl : k < ms.length := (List.getElem?_eq_some_iff.mp hk).1
      have hkp : k < ps.length := by rw [a.len]; exact hkl
      have e1 : (ps ++ [Dd])[k]? = some ps[k] := by rw [List.getElem?_append_left hkp]; exact List.getElem?_eq_getElem hkp
      obtain ⟨_, _, _, xs, m1, m2⟩ := a2.mu k _ ds e1 (by rw [List.getElem?_append_left hkl]; exact hk)
      exact ⟨_, xs, e1, m1, m2⟩)
    by_cases hlt : i < items.length
    · obtain ⟨g1, g2⟩ := w1 i _ (List.getElem?_eq_getElem hlt)
      refine .inr ⟨g1, fun H => ∃ acc F2, acc.length ≤ i + 1 ∧ Pv (i + 1) acc ∧ At ho F0 H0 F2 (ps ++ [Dd]) sl (ms ++ [.l acc]) (pins ++ ex) (wipe σ vs) H, fun H' p' => ⟨items.length - (i + 1), by omega, rfl, hlt, p'⟩, fun x H3 y => ?_⟩
      obtain ⟨F3, e3, d3⟩ := g2 x H3 y
      obtain ⟨tv, sl2, eg, htv, ett⟩ := step i _ acc (List.getElem?_eq_getElem hlt) pv
      refine eg.run (ms ++ [.l acc]) ho F0 H0 F3 (ps ++ [Dd]) (pins ++ ex) (wipe σ vs) H3 x (a2.step0 e3) d3 _ fun F4 σ4 H4 e4 a4 k4 => ?_
      have hl4 : σ4.length = (wipe σ vs).length := by rw [a4.sln, eg.len, a2.sln]
      have back : ∀ {F ms ex H}, At ho F0 H0 F (ps ++ [Dd]) sl2 ms ex σ4 H → At ho F0 H0 F (ps ++ [Dd]) sl ms ex (wipe σ vs) H := fun {F ms ex H} a' =>
        At.other (vs := vs) (a'.less (sl' := sl) ⟨eg.len.symm, fun j s e => by
          by_cases hj : j ∈ vs
          · exact .inl (hv j hj s e)
          · exact .inr (by rw [eg.st j fun z => hj (htv j z)]; exact e)⟩) hl4.symm hv fun j hj => (k4 j fun z => hj (htv j z)).symm
      refine ⟨wipe_same (by rw [hl4, wipe_length]) fun j hj => k4 j fun z => hj (htv j z), ?_⟩
      refine ett ho F0 H0 F4 (ps ++ [Dd]) (pins ++ ex) σ4 H4 a4 _ fun b F5 H5 ⟨k1, k2⟩ a5 => ?_
      cases b with
      | false =>
        rw [if_neg Bool.false_ne_true]
        exact ⟨acc, F5, by omega, k2 rfl, back a5⟩
      | true =>
        rw [if_pos rfl]
        refine k1 rfl ho F0 H0 F5 (ps ++ [Dd]) (pins ++ ex) σ4 H5 a5 _ fun v d F6 H6 pd a6 => ?_
        have hpk : (ps ++ [Dd])[ps.length]? = some Dd := by rw [List.getElem?_append_right (Nat.le_refl _)]; simp
        have hmk : (ms ++ [Ob.l acc])[ps.length]? = some (.l acc) := by rw [a.len, List.getElem?_append_right (Nat.le_refl _)]; simp
        obtain ⟨_, _, _, xs, m1, m2⟩ := a6.muL hpk hmk
        refine ⟨xs, m1, by rw [m2.len]; exact Nat.lt_of_le_of_lt hacc (Nat.lt_of_lt_of_le (Nat.lt_trans hlt hn) (by decide)), acc ++ [d], F6, by rw [List.length_append, List.length_singleton]; omega, pd, ?_⟩
        have a7 := a6.pop.put hpk (m2.app (.cons a6.top .nil))
        rw [show (ms ++ [Ob.l acc]).set ps.length (.l (acc ++ [d])) = ms ++ [.l (acc ++ [d])] by rw [a.len, List.set_append_right _ _ (Nat.le_refl _)]; simp] at a7
        exact back a7
    · have e : i = items.length := by omega
      subst e
      refine .inl ⟨w2, q Dd acc F2 H2 (fin _ pv) ?_⟩
      exact At.other (vs := vs) (a2.drop fun _ hx => List.mem_append_right _ hx) (wipe_length _ _).symm hv fun j hj => (wipe_out hj).symm
theorem el_lc' {wi : TI} {g : TG} {tt : TT} {te : TE} {vs : List Nat} {fx : Option (Nat × Ob)} {R : List D → Prop} (hv : ∀ j ∈ vs, ∀ s, sl[j]? = some s → s = .u)
    (h : Ei sl ms wi fx fun items => items.length < 100000 ∧ ∃ Pv : Nat → List D → Prop, Pv 0 [] ∧
      (∀ i d acc, items[i]? = some d → Pv i acc → ∃ tv sl2, Eg sl g d tv sl2 ∧ (∀ j ∈ tv, j ∈ vs) ∧ Et sl2 (ms ++ [.l acc]) tt fun b => (b = true → Er sl2 (ms ++ [.l acc]) te fun y => Pv (i + 1) (acc ++ [y])) ∧ (b = false → Pv (i + 1) acc)) ∧
      ∀ acc, Pv items.length acc → R acc) : El sl ms (tLc wi g tt te vs) R := el_lcI hv (EiI.mono h fun is ⟨ds, e, hl, Pv, p0, step, fin⟩ => by
    subst e
    refine ⟨by rw [List.length_map]; exact hl, Pv, p0, fun i d acc hd pv => ?_, fun acc pv => fin acc (by rw [List.length_map] at pv; exact pv)⟩
    obtain ⟨x, hx, rfl⟩ := walk_d hd
    exact step i x acc hx pv)

/-! ### promises, calls -/
def spD (n : Nat) (Pre : List D → Prop) (Post : List D → D → Prop) : Sp := fun vs H Q _ => ∃ F ds, Ex F H ∧ DnL F vs ds ∧ ds.length = n ∧ Pre ds ∧
  ∀ u d F' H', Post ds d → Ext none F H F' H' → Dn F' u d → Q u H'
/-- .. the hand ahead -/
def spH (n : Nat) (Pre : List D → Prop) (Post : List D → D → Prop) : Sp := fun vs H Q _ => ∃ h ws F ds, vs = .ref h :: ws ∧ Ex F H ∧ Hand F H h ∧ DnL F ws ds ∧ ds.length = n ∧ Pre ds ∧
  ∀ u d F' H', Post ds d → Ext (some h) F H F' H' → Hand F' H' h → Dn F' u d → Q u H'
theorem er_call {n : Nat} {Pre : List D → Prop} {Post : List D → D → Prop} {E : XK} {t : TA} {R : D → Prop} (h : Ea sl ms t fun ds => ds.length = n ∧ Pre ds ∧ ∀ d, Post ds d → R d) : Er sl ms (tCall (spD n Pre Post) [] E t) R := fun ho F0 H0 F ps ex σ H a Q q =>
  h ho F0 H0 F ps ex σ H a _ fun vs ds F1 H1 ⟨hn, hp, hr⟩ a1 l => ⟨F1, ds, a1.fh, by rw [List.append_nil]; exact l, hn, hp, fun u d F' H' p x du => q u d F' H' (hr d p) ((a1.step0 x).push du)⟩
theorem er_callH {n i : Nat} {Pre : List D → Prop} {Post : List D → D → Prop} {E : XK} {t : TA} {R : D → Prop} (hs : sl[i]? = some .h) (h : Ea sl ms t fun ds => ds.length = n ∧ Pre ds ∧ ∀ d, Post ds d → R d) : Er sl ms (tCall (spH n Pre Post) [] E (tCons (tVar i) t)) R := fun ho F0 H0 F ps ex σ H a Q q => by
  obtain ⟨o, e, hd, hh, rfl⟩ := a.slo i _ hs
  refine ⟨_, e, h ho F0 H0 F ps ex σ H a _ fun vs ds F1 H1 ⟨hn, hp, hr⟩ a1 l => ?_⟩
  refine ⟨hd, vs, F1, ds, by rw [List.append_nil], a1.fh, a1.hand hd hh, l, hn, hp, fun u d F' H' p x hd' du => q u d F' H' (hr d p) ((a1.step (hh ▸ x) fun h' e' => ?_).push du)⟩
  rw [hh] at e'; cases e'
  exact hd'
end

/-! ### defs -/
section
variable {P : Program} {w : World} {K : PySem.W.Frag} {mg : Str → Option Value} {base : Heap}
abbrev cx (P : Program) (w : World) (K : PySem.W.Frag) (mg : Str → Option Value) (base : Heap) (N : List Str) (x : Str) (st : Stmt) (f : Addr) (cdv : Value) (A : Around) (outer : List Env) (s : Shared) (H : Hp) (E : XK) : Cx := (cxOf CX0 P w K mg base N x (defScope st) f cdv A outer s H E).nox
theorem at_start {F H : Hp} {ho : Option Addr} {vs : List V} {sl : List Sl} {m : Nat} (e : Ex F H) (hl : vs.length = sl.length) (hs : ∀ (i : Nat) (v : V) (s : Sl), vs[i]? = some v → sl[i]? = some s → SlOk F [] ho (some v) s) (hh : ∀ h, ho = some h → Hand F H h) :
    At ho F H F [] (sl ++ List.replicate m .u) [] [] (vs.map some ++ List.replicate m none) H :=
  ⟨Ext.refl e, List.nodup_nil, rfl, fun k p ds h => by simp at h, by simp [hl], fun i s h => by
    by_cases hi : i < sl.length
    · have hi' : i < vs.length := by rw [hl]; exact hi
      rw [List.getElem?_append_left hi] at h
      refine ⟨some vs[i], by rw [List.getElem?_append_left (by rw [List.length_map]; exact hi'), List.getElem?_map, List.getElem?_eq_getElem hi']; rfl, hs i _ s (List.getElem?_eq_getElem hi') h⟩
    · rw [List.getElem?_append_right (by omega)] at h
      have hm : i - sl.length < m := by
        have := (List.getElem?_eq_some_iff.mp h).1
        rwa [List.length_replicate] at this
      rw [List.getElem?_replicate, if_pos hm] at h
      cases h
      exact ⟨none, by rw [List.getElem?_append_right (by rw [List.length_map]; omega), List.getElem?_replicate, if_pos (by rw [List.length_map, hl]; exact hm)], trivial⟩, fun x hx => by simp at hx, hh⟩
theorem ok_D {x : Str} {st : Stmt} {f : Addr} {fd : FuncData} {N ps : List Str} {k n m : Nat} {Pre : List D → Prop} {Post : List D → D → Prop} (F : Fun K x x st f fd) (S : FnScope N ps (defScope st)) (hn : ps.length = n) (hm : N.length = n + m)
    (hb : ∀ (cdv : Value) (A : Around) (outer : List Env) (s : Shared) (H : Hp) (E : XK) (ds : List D), RoomG k (A.deeper (envOfC x (defScope st) s.heap.objs.size f cdv)) → ds.length = n → Pre ds →
      Sr (ds.map .d ++ List.replicate m .u) [] (wSs (cx P w K mg base N x st f cdv A outer s H E) (defBody st)) { nx := fun _ _ => Post ds .non, rt := Post ds }) :
    FnG P w K mg base (k + 1) f fd ps (spD n Pre Post) := by
  refine fun_G F S (fun vs H Q E h => ?_) (fun cdv A outer s H vs Q E hr h => ?_)
  · obtain ⟨F, ds, _, l, e, _⟩ := h
    rw [l.len, e, hn]
  · obtain ⟨F0, ds, e, l, hl, hp, q⟩ := h
    refine ⟨_, pss_w, ?_⟩
    have a0 : At none F0 H F0 [] (ds.map .d ++ List.replicate m .u) [] [] (L2.start N vs) H := by
      have := at_start (m := m) (vs := vs) (sl := ds.map .d) (ho := none) e (by rw [List.length_map]; exact l.len) (fun i v s h1 h2 => by
        rw [List.getElem?_map] at h2
        cases h3 : ds[i]? with
        | none => rw [h3] at h2; cases h2
        | some d =>
          rw [h3] at h2; cases h2
          obtain ⟨v', h4, h5⟩ := l.get i h3
          rw [h1] at h4; cases h4
          exact ⟨v, rfl, h5⟩) (fun h hh => by cases hh)
      rw [show L2.start N vs = vs.map some ++ List.replicate m none by unfold L2.start; rw [l.len, hl, hm]; congr 2; omega]
      exact this
    exact hb cdv A outer s H E ds hr hl hp none F0 H F0 [] [] (L2.start N vs) H a0 _ (fun _ _ F' _ _ H' p a' => q _ _ F' H' p a'.ext .non) (fun v F' H' k => let ⟨d, p, x, _, dv⟩ := k.data; q v d F' H' p x dv) (fun _ _ _ _ _ _ z => z.elim) (fun _ _ _ _ _ _ z => z.elim)
theorem ok_H {x : Str} {st : Stmt} {f : Addr} {fd : FuncData} {N ps : List Str} {k n m : Nat} {Pre : List D → Prop} {Post : List D → D → Prop} (F : Fun K x x st f fd) (S : FnScope N ps (defScope st)) (hn : ps.length = n + 1) (hm : N.length = n + 1 + m)
    (hb : ∀ (cdv : Value) (A : Around) (outer : List Env) (s : Shared) (H : Hp) (E : XK) (ds : List D), RoomG k (A.deeper (envOfC x (defScope st) s.heap.objs.size f cdv)) → ds.length = n → Pre ds →
      Sr (.h :: ds.map .d ++ List.replicate m .u) [] (wSs (cx P w K mg base N x st f cdv A outer s H E) (defBody st)) { nx := fun _ _ => Post ds .non, rt := Post ds }) :
    FnG P w K mg base (k + 1) f fd ps (spH n Pre Post) := by
  refine fun_G F S (fun vs H Q E h => ?_) (fun cdv A outer s H vs Q E hr h => ?_)
  · obtain ⟨h, ws, F, ds, rfl, _, _, l, e, _⟩ := h
    rw [List.length_cons, l.len, e, hn]
  · obtain ⟨h, ws, F0, ds, rfl, e, hd, l, hl, hp, q⟩ := h
    refine ⟨_, pss_w, ?_⟩
    have a0 : At (some h) F0 H F0 [] (.h :: ds.map .d ++ List.replicate m .u) [] [] (L2.start N (.ref h :: ws)) H := by
      have := at_start (m := m) (vs := .ref h :: ws) (sl := .h :: ds.map .d) (ho := some h) e (by rw [List.length_cons, List.length_cons, List.length_map, l.len]) (fun i v s h1 h2 => by
        cases i with
        | zero => simp at h1 h2; subst h1 h2; exact ⟨h, rfl, rfl⟩
        | succ i =>
          rw [List.getElem?_cons_succ] at h1 h2
          rw [List.getElem?_map] at h2
          cases h3 : ds[i]? with
          | none => rw [h3] at h2; cases h2
          | some d =>
            rw [h3] at h2; cases h2
            obtain ⟨v', h4, h5⟩ := l.get i h3
            rw [h1] at h4; cases h4
            exact ⟨v, rfl, h5⟩) (fun h' hh => by cases hh; exact hd)
      rw [show L2.start N (.ref h :: ws) = (V.ref h :: ws).map some ++ List.replicate m none by unfold L2.start; rw [List.length_cons, l.len, hl, hm]; congr 2; omega]
      exact this
    exact hb cdv A outer s H E ds hr hl hp (some h) F0 H F0 [] [] (L2.start N (.ref h :: ws)) H a0 _ (fun _ _ F' _ _ H' p a' => q _ _ F' H' p a'.ext (a'.hand h rfl) .non) (fun v F' H' k => let ⟨d, p, x, hd', dv⟩ := k.data; q v d F' H' p x (hd' h rfl) dv) (fun _ _ _ _ _ _ z => z.elim) (fun _ _ _ _ _ _ z => z.elim)
/-- a def that may be called by its name -/
structure Cl (P : Program) (w : World) (K : PySem.W.Frag) (mg : Str → Option Value) (base : Heap) (k : Nat) (x : Str) (sp : Sp) : Prop where
  ex : ∃ (f : Addr) (fd : FuncData) (ps : List Str), FnG P w K mg base k f fd ps sp ∧ mg x = some (.ref f) ∧ PySem.W.keepIn K (.ref f) = true ∧ Binds K fd ps []
/-- .. as it stands in the text -/
structure Df (K : PySem.W.Frag) (mg : Str → Option Value) (x : Str) (st : Stmt) (ps : List Str) (f : Addr) (fd : FuncData) : Prop where
  fn : Fun K x x st f fd
  mgf : mg x = some (.ref f)
  bd : Binds K fd ps []
theorem Df.cl {x : Str} {st : Stmt} {ps : List Str} {f : Addr} {fd : FuncData} {k : Nat} {sp : Sp} (d : Df K mg x st ps f fd) (h : FnG P w K mg base k f fd ps sp) : Cl P w K mg base k x sp := ⟨f, fd, ps, h, d.mgf, d.fn.kp, d.bd⟩
end
end E
set_option Elab.async false
set_option linter.all false
set_option maxRecDepth 100000
/-! The rules by the text: expressions. -/
namespace E
open PySem PySem.Spec PyProof.Rows L2
variable [KF]

section
variable {X : Cx} {sl : List Sl} {ms : List Ob} {R : D → Prop} {B : Bool → Prop} {pos p p2 : Pos} {a b c e : Expr} {es rest : List Expr} {x : Str} {d : D}
/-! ### leaves -/
theorem j_var (i : Nat) (hN : X.N[i]? = some x) (h : sl[i]? = some (.d d)) (k : R d) (hv : Vis X.env.scope x := by first | exact Or.inl rfl | exact Or.inr (Or.inl rfl) | exact Or.inr (Or.inr rfl)) (hd : (x == ("__debug__" : Str)) = false := by decide)
    (hcd : (x == ("__classdict__" : Str)) = false := by decide) : Er sl ms (wE X (.Name x pos)) R := Er.of (pv i hN hv hd hcd) (Er.done (ed_var h) k)
theorem j_int {i j} (k : R (.int i)) : Er sl ms (wE X (.Constant (.int i) j pos)) R := Er.of pe_int (Er.done ed_int k)
theorem j_bl {i j} (k : R (.bl i)) : Er sl ms (wE X (.Constant (.bool i) j pos)) R := Er.of pe_bl (Er.done ed_bl k)
theorem j_str {i j} (k : R (.str i)) : Er sl ms (wE X (.Constant (.str i) j pos)) R := Er.of pe_str (Er.done ed_str k)
theorem j_non {j} (k : R .non) : Er sl ms (wE X (.Constant .none j pos)) R := Er.of pe_non (Er.done ed_non k)
theorem j_gint {i : Int} (hm : ∃ u, X.mg x = some u ∧ RelV (.int i) u) (k : R (.int i)) (hg : Gl X x := by rfl) (hd : (x == ("__debug__" : Str)) = false := by decide) : Er sl ms (wE X (.Name x pos)) R :=
  Er.of (let ⟨_, h, r⟩ := hm; pe_glob hg h r hd) (Er.done ed_int k)
/-! ### numbers, comparisons -/
theorem j_add (h : Er sl ms (wE X a) fun x => Er sl ms (wE X b) fun y => ∃ i j, x = .int i ∧ y = .int j ∧ R (.int (i + j))) : Er sl ms (wE X (.BinOp a .Add b pos)) R :=
  Er.of (pe_op op_add pe_w pe_w) (er_op' (h.mono fun _ h => h.mono fun _ ⟨_, _, e1, e2, k⟩ => by rw [e1, e2]; exact R2.done r2_add k))
theorem j_sub (h : Er sl ms (wE X a) fun x => Er sl ms (wE X b) fun y => ∃ i j, x = .int i ∧ y = .int j ∧ R (.int (i - j))) : Er sl ms (wE X (.BinOp a .Sub b pos)) R :=
  Er.of (pe_op op_sub pe_w pe_w) (er_op' (h.mono fun _ h => h.mono fun _ ⟨_, _, e1, e2, k⟩ => by rw [e1, e2]; exact R2.done r2_sub k))
theorem j_mul (h : Er sl ms (wE X a) fun x => Er sl ms (wE X b) fun y => ∃ i j, x = .int i ∧ y = .int j ∧ CMul i j ∧ R (.int (i * j))) : Er sl ms (wE X (.BinOp a .Mult b pos)) R :=
  Er.of (pe_op op_mul pe_w pe_w) (er_op' (h.mono fun _ h => h.mono fun _ ⟨_, _, e1, e2, hc, k⟩ => by rw [e1, e2]; exact R2.done (r2_mul hc) k))
theorem j_mod (h : Er sl ms (wE X a) fun x => Er sl ms (wE X b) fun y => ∃ i j, x = .int i ∧ y = .int j ∧ 0 < j ∧ R (.int (i % j))) : Er sl ms (wE X (.BinOp a .Mod b pos)) R :=
  Er.of (pe_op op_mod pe_w pe_w) (er_op' (h.mono fun _ h => h.mono fun _ ⟨_, _, e1, e2, hc, k⟩ => by rw [e1, e2]; exact R2.done (r2_mod hc) k))
theorem j_div (h : Er sl ms (wE X a) fun x => Er sl ms (wE X b) fun y => ∃ i j, x = .int i ∧ y = .int j ∧ CDiv i j ∧ R (.int (i / j))) : Er sl ms (wE X (.BinOp a .FloorDiv b pos)) R :=
  Er.of (pe_op op_fdiv pe_w pe_w) (er_op' (h.mono fun _ h => h.mono fun _ ⟨_, _, e1, e2, hc, k⟩ => by rw [e1, e2]; exact R2.done (r2_div hc) k))
theorem j_pow (h : Er sl ms (wE X a) fun x => Er sl ms (wE X b) fun y => ∃ i j, x = .int i ∧ y = .int j ∧ CPow i j ∧ R (.int (i ^ j.toNat))) : Er sl ms (wE X (.BinOp a .Pow b pos)) R :=
  Er.of (pe_op op_pow pe_w pe_w) (er_op' (h.mono fun _ h => h.mono fun _ ⟨_, _, e1, e2, hc, k⟩ => by rw [e1, e2]; exact R2.done (r2_pow hc) k))
theorem j_neg (h : Er sl ms (wE X a) fun x => ∃ i, x = .int i ∧ R (.int (-i))) : Er sl ms (wE X (.UnaryOp .USub a pos)) R :=
  Er.of (pe_un un_neg pe_w) (er_un' (h.mono fun _ ⟨i, e, k⟩ => by
    subst e
    intro F H v eh hv Q q
    cases hv
    exact ⟨i, rfl, q _ _ F H k (Ext.refl eh) (.int _)⟩))
theorem j_cat (h : Er sl ms (wE X a) fun x => Er sl ms (wE X b) fun y => ∃ i j, x = .tup i ∧ y = .tup j ∧ i.length + j.length ≤ 100000 ∧ R (.tup (i ++ j))) : Er sl ms (wE X (.BinOp a .Add b pos)) R :=
  Er.of (pe_op op_catA pe_w pe_w) (er_op' (h.mono fun _ h => h.mono fun _ ⟨_, _, e1, e2, hc, k⟩ => by rw [e1, e2]; exact R2.done (r2_cat hc) k))
/-- the comparisons' readings -/
inductive Cm (X : Cx) : CmpOp → D → D → Bool → Prop
  | lt (i j : Int) : Cm X .Lt (.int i) (.int j) (decide (i < j))
  | le (i j : Int) : Cm X .LtE (.int i) (.int j) (decide (i ≤ j))
  | gt (i j : Int) : Cm X .Gt (.int i) (.int j) (decide (j < i))
  | ge (i j : Int) : Cm X .GtE (.int i) (.int j) (decide (j ≤ i))
  | eq (i j : Int) : Cm X .Eq (.int i) (.int j) (decide (i = j))
  | ne (i j : Int) : Cm X .NotEq (.int i) (.int j) (!decide (i = j))
  | eqS (i j : Str) : Cm X .Eq (.str i) (.str j) (decide (i = j))
  | neS (i j : Str) : Cm X .NotEq (.str i) (.str j) (!decide (i = j))
  | isnot (i j : Bool) : Cm X .IsNot (.bl i) (.bl j) (!decide (i = j))
  | isb (i j : Bool) : Cm X .Is (.bl i) (.bl j) (decide (i = j))
  | inT (i : Int) (js : List Int) : Cm X .In (.int i) (.tup (js.map D.int)) (decide (i ∈ js))
def cmR (K : PySem.W.Frag) : CmpOp → L2.R2
  | .Lt => rI0 fun i j => .bl (decide (i < j))
  | .LtE => rI0 fun i j => .bl (decide (i ≤ j))
  | .Gt => rI0 fun i j => .bl (decide (j < i))
  | .GtE => rI0 fun i j => .bl (decide (j ≤ i))
  | .Eq => rEq
  | .NotEq => rNe
  | .IsNot => rNotB
  | .Is => rIsB
  | .In => rIn K false
  | .NotIn => fun _ _ _ _ => False
theorem cmR_ok : ∀ op, OpR X (compareOp op) (cmR X.K op)
  | .Lt => op_lt | .LtE => op_le | .Gt => op_gt | .GtE => op_ge | .Eq => op_eq | .NotEq => op_ne | .IsNot => op_notBl | .Is => op_isBl | .In => op_in_seq | .NotIn => fun _ _ _ _ _ _ _ _ _ _ _ _ h => h.elim
theorem Cm.r2 {op : CmpOp} {x y : D} {b : Bool} (h : Cm X op x y b) : R2 (cmR X.K op) x y (· = .bl b) := by
  cases h with
  | lt => exact r2_B
  | le => exact r2_B
  | gt => exact r2_B
  | ge => exact r2_B
  | eq => exact r2_eqI
  | ne => exact r2_neI
  | eqS => exact r2_eqS
  | neS => exact r2_neS
  | isnot i j =>
    intro F H v w eh hv hw Q q
    cases hv; cases hw
    exact ⟨i, j, rfl, rfl, q _ _ F H rfl (Ext.refl eh) (.bl _)⟩
  | isb i j =>
    intro F H v w eh hv hw Q q
    cases hv; cases hw
    exact ⟨i, j, rfl, rfl, q _ _ F H rfl (Ext.refl eh) (.bl _)⟩
  | inT => exact r2_inT
theorem j_cmp {op : CmpOp} (h : Er sl ms (wE X a) fun x => Er sl ms (wE X b) fun y => ∃ t, Cm X op x y t ∧ R (.bl t)) (hm : behindInMarks op b = false := by first | exact nobehind _ (by decide) (by decide) | rfl) : Er sl ms (wE X (.Compare a [op] [b] pos)) R :=
  Er.of (pe_cmpR (cmR_ok op) pe_w pe_w hm) (er_op' (h.mono fun _ h => h.mono fun _ ⟨_, e, k⟩ => R2.done e.r2 k))
theorem jt_cmp {op : CmpOp} (h : Er sl ms (wE X a) fun x => Er sl ms (wE X b) fun y => ∃ t, Cm X op x y t ∧ B t) (hm : behindInMarks op b = false := by first | exact nobehind _ (by decide) (by decide) | rfl) : Et sl ms (wT X (.Compare a [op] [b] pos)) B :=
  Et.of (pt_cmpR (cmR_ok op) pe_w pe_w hm) (et_test (er_op' (h.mono fun _ h => h.mono fun _ ⟨t, e, k⟩ => R2.done e.r2 ⟨t, rfl, k⟩)))
theorem j_chain {op op' : CmpOp} (h : Er sl ms (wE X a) fun x => Er sl ms (wE X b) fun y => ∃ t, Cm X op x y t ∧ (t = true → Er sl ms (wE X c) fun z => ∃ t', Cm X op' y z t' ∧ R (.bl t')) ∧ (t = false → R (.bl false))) (hm : lastMarks [op, op'] [b, c] = false := by with_unfolding_all rfl) : Er sl ms (wE X (.Compare a [op, op'] [b, c] pos)) R :=
  Er.of (pe_chain (cmR_ok op) (cmR_ok op') pe_w pe_w pe_w hm) (er_chain (h.mono fun _ h => h.mono fun _ ⟨t, e, k1, k2⟩ => ⟨t, e.r2, fun et => (k1 et).mono fun _ ⟨_, e', k⟩ => R2.done e'.r2 k, k2⟩))
theorem jt_chain {op op' : CmpOp} (h : Er sl ms (wE X a) fun x => Er sl ms (wE X b) fun y => ∃ t, Cm X op x y t ∧ (t = true → Er sl ms (wE X c) fun z => ∃ t', Cm X op' y z t' ∧ B t') ∧ (t = false → B false)) (hm : lastMarks [op, op'] [b, c] = false := by with_unfolding_all rfl) : Et sl ms (wT X (.Compare a [op, op'] [b, c] pos)) B :=
  Et.of (pt_chain (cmR_ok op) (cmR_ok op') pe_w pe_w pe_w hm) (et_test (er_chain (h.mono fun _ h => h.mono fun _ ⟨t, e, k1, k2⟩ => ⟨t, e.r2, fun et => (k1 et).mono fun _ ⟨t', e', k⟩ => R2.done e'.r2 ⟨t', rfl, k⟩, fun et => ⟨false, rfl, k2 et⟩⟩)))
/-! ### and, or, not, if -/
theorem j_and (h : Er sl ms (wE X a) fun d => ∃ t, d = .bl t ∧ (t = true → Er sl ms (wE X (.BoolOp .And (b :: rest) pos)) R) ∧ (t = false → R (.bl false))) : Er sl ms (wE X (.BoolOp .And (a :: b :: rest) pos)) R := Er.of (pe_and pe_w pe_w) (er_andV h)
theorem j_or (h : Er sl ms (wE X a) fun d => ∃ t, d = .bl t ∧ (t = false → Er sl ms (wE X (.BoolOp .Or (b :: rest) pos)) R) ∧ (t = true → R (.bl true))) : Er sl ms (wE X (.BoolOp .Or (a :: b :: rest) pos)) R := Er.of (pe_or pe_w pe_w) (er_orV h)
theorem j_one {op} (h : Er sl ms (wE X a) R) : Er sl ms (wE X (.BoolOp op [a] pos)) R := Er.of (pe_one pe_w) h
theorem j_not (h : Er sl ms (wE X a) fun d => ∃ t, d = .bl t ∧ R (.bl !t)) : Er sl ms (wE X (.UnaryOp .Not a pos)) R := Er.of (pe_not pe_w) (er_notV h)
/-- a test whatever its whole is -/
def wW (X : Cx) (e : Expr) : TT := fun σ H Q => ∀ whole pins s, Inv X pins σ H s → wpAny (model X.prog X.w) X.A (isTrue e X.env whole) (TP X pins σ Q) X.xe s
theorem pw_w : PW X e (wW X e) := ⟨fun wh pins s _ _ _ I h => h wh pins s I⟩
theorem Et.ofw {t : TT} (h : PW X e t) (q : Et sl ms t B) : Et sl ms (wW X e) B := fun ho F0 H0 F ps ex σ H a Q k wh pins s I => h.run wh pins s σ H Q I (q ho F0 H0 F ps ex σ H a Q k)
theorem jt_w (h : Et sl ms (wW X e) B) : Et sl ms (wT X e) B := Et.of pw_w.pt h
theorem jw_and (h : Et sl ms (wT X a) fun t => (t = true → Et sl ms (wW X (.BoolOp .And (b :: rest) pos)) B) ∧ (t = false → B false)) : Et sl ms (wW X (.BoolOp .And (a :: b :: rest) pos)) B := Et.ofw (pw_and pt_w pw_w) (et_and' h)
theorem jw_or (h : Et sl ms (wT X a) fun t => (t = false → Et sl ms (wW X (.BoolOp .Or (b :: rest) pos)) B) ∧ (t = true → B true)) : Et sl ms (wW X (.BoolOp .Or (a :: b :: rest) pos)) B := Et.ofw (pw_or pt_w pw_w) (et_or' h)
theorem jw_and1 (h : Et sl ms (wT X a) B) : Et sl ms (wW X (.BoolOp .And [a] pos)) B := Et.ofw (pw_and1 pt_w) h
theorem jw_or1 (h : Et sl ms (wT X a) B) : Et sl ms (wW X (.BoolOp .Or [a] pos)) B := Et.ofw (pw_or1 pt_w) h
theorem jt_not (h : Et sl ms (wT X a) fun t => B !t) : Et sl ms (wT X (.UnaryOp .Not a pos)) B := Et.of (pt_not pt_w) (et_not' h)
theorem jt_val (h : Er sl ms (wE X e) fun d => ∃ t, d = .bl t ∧ B t) (he : ∀ whole, isTrue e X.env whole = (do let v ← whole; standAt e.pos; holding [v] (truthy v)) := by intro _; rfl) : Et sl ms (wT X e) B := Et.of (pt_val pe_w he) (et_B' h)
theorem j_if (h : Et sl ms (wT X c) fun t => (t = true → Er sl ms (wE X a) R) ∧ (t = false → Er sl ms (wE X b) R)) : Er sl ms (wE X (.IfExp c a b pos)) R := Er.of (pe_ifExp pt_w pe_w pe_w) (er_if' h)
theorem jl_if {R : List D → Prop} (h : Et sl ms (wT X c) fun t => (t = true → El sl ms (wE X a) R) ∧ (t = false → El sl ms (wE X b) R)) : El sl ms (wE X (.IfExp c a b pos)) R := El.of (pe_ifExp pt_w pe_w pe_w) (el_if' h)
/-! ### arguments, displays -/
theorem j_nil {Rs : List D → Prop} (k : Rs []) : Ea sl ms (wA X []) Rs := Ea.of pa_nil (ea_nil' k)
theorem j_cons {Rs : List D → Prop} (h : Er sl ms (wE X e) fun d => Ea sl ms (wA X es) fun ds => Rs (d :: ds)) (hs : starEach (e :: es) X.env = (false, eval e X.env) :: starEach es X.env := by rfl) : Ea sl ms (wA X (e :: es)) Rs := Ea.of (pa_cons pe_w pa_w hs) (ea_cons' h)
theorem j_tup {x1} (h : Ea sl ms (wA X es) fun ds => ds.length ≤ 100000 ∧ R (.tup ds)) : Er sl ms (wE X (.Tuple es x1 pos)) R := Er.of (pe_tup pa_w) (er_tup' h)
theorem jl_lst {R : List D → Prop} (h : Ea sl ms (wA X es) fun ds => ds.length ≤ 100000 ∧ R ds) : El sl ms (wE X (.List es pos)) R := El.of (pe_lst pa_w) (el_lst' h)
theorem j_lst (h : Ea sl ms (wA X es) fun ds => ds.length ≤ 100000 ∧ R (.lst ds)) : Er sl ms (wE X (.List es pos)) R := (jl_lst (R := fun ds => R (.lst ds)) h).er'
theorem j_dic (k : R .dic) : Er sl ms (wE X (.Dict [] [] pos)) R := Er.of pe_dnewK fun ho F0 H0 F ps ex σ H a Q q p hp => q _ _ _ _ k ((a.laid hp).push (.dic upd_same))
/-! ### items, slices -/
theorem j_ixT (h : Er sl ms (wE X a) fun x => Er sl ms (wE X b) fun y => ∃ ds i d, x = .tup ds ∧ y = .int i ∧ L2.atI ds i = some d ∧ R d) (hs : PlainIx b := by intro _ _; rfl) : Er sl ms (wE X (.Subscript a b pos)) R :=
  Er.of (pe_ix ix_tup pe_w pe_w hs) (er_op' (h.mono fun _ h => h.mono fun _ ⟨_, _, _, e1, e2, e3, k⟩ => by rw [e1, e2]; exact R2.done (r2_ixT e3) k))
theorem j_ixL (h : Er sl ms (wE X a) fun x => Er sl ms (wE X b) fun y => ∃ ds i d, x = .lst ds ∧ y = .int i ∧ L2.atI ds i = some d ∧ R d) (hs : PlainIx b := by intro _ _; rfl) : Er sl ms (wE X (.Subscript a b pos)) R :=
  Er.of (pe_ix ix_list pe_w pe_w hs) (er_op' (h.mono fun _ h => h.mono fun _ ⟨_, _, _, e1, e2, e3, k⟩ => by rw [e1, e2]; exact R2.done (r2_ixL e3) k))
theorem j_ixM (i : Nat) {k : Nat} {ds : List D} (hN : X.N[i]? = some x) (hs : sl[i]? = some (.m k)) (hm : ms[k]? = some (.l ds)) (h : Er sl ms (wE X b) fun y => ∃ (n : Int) (d : D), y = .int n ∧ L2.atI ds n = some d ∧ R d) (hp : PlainIx b := by intro _ _; rfl)
    (hv : Vis X.env.scope x := by first | exact Or.inl rfl | exact Or.inr (Or.inl rfl) | exact Or.inr (Or.inr rfl)) (hd : (x == ("__debug__" : Str)) = false := by decide) (hcd : (x == ("__classdict__" : Str)) = false := by decide) :
    Er sl ms (wE X (.Subscript (.Name x p) b pos)) R := Er.of (pe_ix ix_list (pv i hN hv hd hcd) pe_w hp) (er_ixM hs hm h fun _ k => k)
def Op (sl : List Sl) (ms : List Ob) (t : TO) (K : Option Int → Prop) : Prop :=
  ∀ (ho : Option Addr) (F0 H0 F : Hp) (ps : List Addr) (ex : List (V × Di)) (σ : L2.St) (H : Hp), At ho F0 H0 F ps sl ms ex σ H →
    ∀ Q : Option Int → Hp → Prop, (∀ o F' H', K o → At ho F0 H0 F' ps sl ms ex σ H' → Q o H') → t σ H Q
theorem jo_n {K : Option Int → Prop} (k : K none) : Op sl ms (wO X none) K := fun ho F0 H0 F ps ex σ H a Q q pins s I => po_none.run pins s σ H Q I (q none F H k a)
theorem jo_s {K : Option Int → Prop} (h : Er sl ms (wE X e) fun d => ∃ i, d = .int i ∧ K (some i)) : Op sl ms (wO X (some e)) K := fun ho F0 H0 F ps ex σ H a Q q pins s I => (po_some pe_w).run pins s σ H Q I (h ho F0 H0 F ps ex σ H a _ fun v d F1 H1 ⟨i, e, k⟩ a1 => by
  subst e
  cases a1.top
  exact ⟨i, rfl, q _ F1 H1 k a1.pop⟩)
theorem j_slT {lo hi : Option Expr} (h : Er sl ms (wE X a) fun x => Op sl ms (wO X lo) fun l => Op sl ms (wO X hi) fun u => ∃ ds, x = .tup ds ∧ R (.tup (cutD ds l u))) : Er sl ms (wE X (.Subscript a (.Slice lo hi none p2) pos)) R :=
  Er.of (pe_slice sl_tupA pe_w po_w po_w) fun ho F0 H0 F ps ex σ H a Q q => h ho F0 H0 F ps ex σ H a _ fun v d F1 H1 h1 a1 => h1 ho F0 H0 F1 ps _ σ H1 a1 _ fun l F2 H2 h2 a2 => h2 ho F0 H0 F2 ps _ σ H2 a2 _ fun u F3 H3 ⟨ds, e, k⟩ a3 => by
    subst e
    obtain ⟨p, xs, rfl, ha, hl⟩ : ∃ p xs, v = .ref p ∧ F3 p = some (.tup xs) ∧ DnL F3 xs ds := by cases a3.top with | tup ha hl => exact ⟨_, _, rfl, ha, hl⟩
    have hc : DnL F3 (cutV xs l u) (cutD ds l u) := by
      unfold cutV cutD
      rw [hl.len]
      exact (hl.drop _).take _
    refine ⟨p, xs, rfl, sq_t a3.fh ha, fun z => ?_, fun _ y hy => ?_⟩
    · refine q _ _ F3 H3 k (a3.pop.push ?_)
      have e1 : cutD ds l u = ds := by
        unfold cutD
        rw [← hl.len, z.1, z.2, hl.len]
        simp
      rw [e1]
      exact .tup ha hl
    · exact q _ _ _ _ k ((a3.pop.laid hy).push (.tup upd_same (hc.mono (Ex.new (a3.fh.none hy)))))
theorem j_slL {lo hi : Option Expr} (h : Er sl ms (wE X a) fun x => Op sl ms (wO X lo) fun l => Op sl ms (wO X hi) fun u => ∃ ds, x = .lst ds ∧ R (.lst (cutD ds l u))) : Er sl ms (wE X (.Subscript a (.Slice lo hi none p2) pos)) R :=
  Er.of (pe_slice sl_list pe_w po_w po_w) fun ho F0 H0 F ps ex σ H a Q q => h ho F0 H0 F ps ex σ H a _ fun v d F1 H1 h1 a1 => h1 ho F0 H0 F1 ps _ σ H1 a1 _ fun l F2 H2 h2 a2 => h2 ho F0 H0 F2 ps _ σ H2 a2 _ fun u F3 H3 ⟨ds, e, k⟩ a3 => by
    subst e
    obtain ⟨p, xs, rfl, ha, hl⟩ : ∃ p xs, v = .ref p ∧ F3 p = some (.lst xs) ∧ DnL F3 xs ds := by cases a3.top with | lst ha hl => exact ⟨_, _, rfl, ha, hl⟩
    have hc : DnL F3 (cutV xs l u) (cutD ds l u) := by
      unfold cutV cutD
      rw [hl.len]
      exact (hl.drop _).take _
    exact ⟨p, xs, rfl, sq_l a3.fh ha, fun y hy => q _ _ _ _ k ((a3.pop.laid hy).push (.lst upd_same (hc.mono (Ex.new (a3.fh.none hy)))))⟩
/-! ### built-in functions -/
theorem j_len (hm : X.mg "len" = none) (h : Er sl ms (wE X e) fun x => ∃ n : Nat, ((∃ ds, x = .tup ds ∧ n = ds.length) ∨ ∃ ds, x = .lst ds ∧ n = ds.length) ∧ R (.int n)) (hg : Gl X "len" := by rfl) (he : starEach [e] X.env = (false, eval e X.env) :: starEach [] X.env := by rfl) :
    Er sl ms (wE X (.Call (.Name "len" p) [e] [] pos)) R := Er.of (pe_callB call_len_seq hg hm PySem.boot_len (pa_cons pe_w pa_nil he) (he := he)) (er_cb' (ea_cons' (h.mono fun _ ⟨_, e, k⟩ => ea_nil' (Rc.done (rc_len e) k))))
theorem j_lenM (i : Nat) {k : Nat} {ds : List D} (hN : X.N[i]? = some x) (hs : sl[i]? = some (.m k)) (hk : ms[k]? = some (.l ds)) (hm : X.mg "len" = none) (k : R (.int ds.length)) (hg : Gl X "len" := by rfl) (he : starEach [.Name x p2] X.env = (false, eval (.Name x p2) X.env) :: starEach [] X.env := by rfl)
    (hv : Vis X.env.scope x := by first | exact Or.inl rfl | exact Or.inr (Or.inl rfl) | exact Or.inr (Or.inr rfl)) (hd : (x == ("__debug__" : Str)) = false := by decide) (hcd : (x == ("__classdict__" : Str)) = false := by decide) :
    Er sl ms (wE X (.Call (.Name "len" p) [.Name x p2] [] pos)) R := Er.of (pe_callB call_len_seq hg hm PySem.boot_len (pa_cons (pv i hN hv hd hcd) pa_nil he) (he := he)) (Er.done (ed_lenM hs hk) k)
theorem j_sumM (i : Nat) {k : Nat} {ns : List Int} (hc : X.calm = true) (hN : X.N[i]? = some x) (hs : sl[i]? = some (.m k)) (hk : ms[k]? = some (.l (ns.map D.int))) (hm : X.mg "sum" = none) (k : R (.int ns.sum)) (hg : Gl X "sum" := by rfl) (he : starEach [.Name x p2] X.env = (false, eval (.Name x p2) X.env) :: starEach [] X.env := by rfl)
    (hv : Vis X.env.scope x := by first | exact Or.inl rfl | exact Or.inr (Or.inl rfl) | exact Or.inr (Or.inr rfl)) (hd : (x == ("__debug__" : Str)) = false := by decide) (hcd : (x == ("__classdict__" : Str)) = false := by decide) :
    Er sl ms (wE X (.Call (.Name "sum" p) [.Name x p2] [] pos)) R := Er.of (pe_callB (cr_sum hc) hg hm (by decide +kernel) (pa_cons (pv i hN hv hd hcd) pa_nil he) (he := he)) (Er.done (ed_sumM hs hk) k)
theorem j_tupleM (i : Nat) {k : Nat} {ds : List D} (hN : X.N[i]? = some x) (hs : sl[i]? = some (.m k)) (hk : ms[k]? = some (.l ds)) (hm : X.mg "tuple" = none) (k : R (.tup ds)) (hg : Gl X "tuple" := by rfl) (he : starEach [.Name x p2] X.env = (false, eval (.Name x p2) X.env) :: starEach [] X.env := by rfl)
    (hv : Vis X.env.scope x := by first | exact Or.inl rfl | exact Or.inr (Or.inl rfl) | exact Or.inr (Or.inr rfl)) (hd : (x == ("__debug__" : Str)) = false := by decide) (hcd : (x == ("__classdict__" : Str)) = false := by decide) :
    Er sl ms (wE X (.Call (.Name "tuple" p) [.Name x p2] [] pos)) R := Er.of (pe_callTy call_tuple_of hg hm boot_tuple (pa_cons (pv i hN hv hd hcd) pa_nil he) (he := he)) (Er.done (ed_tupleM hs hk) k)
theorem j_tupleL (hm : X.mg "tuple" = none) (h : Er sl ms (wE X e) fun x => ∃ ds, x = .lst ds ∧ R (.tup ds)) (hg : Gl X "tuple" := by rfl) (he : starEach [e] X.env = (false, eval e X.env) :: starEach [] X.env := by rfl) :
    Er sl ms (wE X (.Call (.Name "tuple" p) [e] [] pos)) R := Er.of (pe_callTy call_tuple_of hg hm boot_tuple (pa_cons pe_w pa_nil he) (he := he)) (er_cb' (ea_cons' (h.mono fun _ ⟨_, e, k⟩ => ea_nil' (by rw [e]; exact Rc.done rc_tupleL k))))
theorem jl_list {R : List D → Prop} (hm : X.mg "list" = none) (h : Er sl ms (wE X e) fun x => ∃ ds, (x = .tup ds ∨ x = .lst ds) ∧ R ds) (hg : Gl X "list" := by rfl) (he : starEach [e] X.env = (false, eval e X.env) :: starEach [] X.env := by rfl) :
    El sl ms (wE X (.Call (.Name "list" p) [e] [] pos)) R := El.of (pe_callTy call_list_of hg hm boot_list (pa_cons pe_w pa_nil he) (he := he)) fun ho F0 H0 F ps ex σ H a Q q => h ho F0 H0 F ps ex σ H a _ fun v d F1 H1 ⟨ds, e, k⟩ a1 => by
  rcases e with rfl | rfl
  · cases a1.top with
    | tup ha hl => exact ⟨_, _, rfl, .inr (sq_t a1.fh ha), fun l hn => q l ds F1 _ k (a1.pop.own hn hl)⟩
  · cases a1.top with
    | lst ha hl => exact ⟨_, _, rfl, .inl (sq_l a1.fh ha), fun l hn => q l ds F1 _ k (a1.pop.own hn hl)⟩
theorem j_list (hm : X.mg "list" = none) (h : Er sl ms (wE X e) fun x => ∃ ds, (x = .tup ds ∨ x = .lst ds) ∧ R (.lst ds)) (hg : Gl X "list" := by rfl) (he : starEach [e] X.env = (false, eval e X.env) :: starEach [] X.env := by rfl) :
    Er sl ms (wE X (.Call (.Name "list" p) [e] [] pos)) R := (jl_list (R := fun ds => R (.lst ds)) hm h hg he).er'
theorem j_isi [KonK X.K] {n : String} (hm : X.mg "isinstance" = none) (hn : X.mg (Str.ofString n) = none) (hb : bootBuiltins (Str.ofString n) = some (.type n)) (h : Er sl ms (wE X e) fun x => ∃ t, kitB (tyD x) n = some t ∧ R (.bl t)) (hg : Gl X "isinstance" := by rfl) (hg2 : Gl X (Str.ofString n) := by rfl)
    (hnn : Str.ofString n ≠ "__name__" := by decide +kernel) (hdd : (Str.ofString n == ("__debug__" : Str)) = false := by decide +kernel)
    (he : starEach [e, .Name (Str.ofString n) p2] X.env = (false, eval e X.env) :: starEach [.Name (Str.ofString n) p2] X.env := by rfl) (he2 : starEach [.Name (Str.ofString n) p2] X.env = (false, eval (.Name (Str.ofString n) p2) X.env) :: starEach [] X.env := by rfl)
    (hpl : (backTo pos (starEach [.Name (Str.ofString n) p2] X.env)).any (·.1) = false := by rfl) :
    Er sl ms (wE X (.Call (.Name "isinstance" p) [e, .Name (Str.ofString n) p2] [] pos)) R :=
  Er.of (pe_callB call_isi hg hm (by decide +kernel) (pa_cons pe_w (pa_cons (pe_bltn (v := .ty n) hg2 hn hb rfl hnn hdd) pa_nil he2) he) (he := he) (hpl := hpl)) fun ho F0 H0 F ps ex σ H a Q q => h ho F0 H0 F ps ex σ H a _ fun v d F1 H1 ⟨t, e, k⟩ a1 =>
    ⟨v, .ty n, _, .type n, t, rfl, .ty n, a1.top.ty a1.fh, kit_ty e, q _ _ F1 H1 k (a1.pop.push (.bl t))⟩
theorem j_all (hc : X.calm = true) (hm : X.mg "all" = none) (h : Er sl ms (wE X e) fun x => ∃ bs, x = .lst (List.map D.bl bs) ∧ R (.bl (bs.all id))) (hg : Gl X "all" := by rfl) (he : starEach [e] X.env = (false, eval e X.env) :: starEach [] X.env := by rfl) :
    Er sl ms (wE X (.Call (.Name "all" p) [e] [] pos)) R := Er.of (pe_callB (cr_all hc) hg hm (by decide +kernel) (pa_cons pe_w pa_nil he) (he := he)) (er_cb' (ea_cons' (h.mono fun _ ⟨_, e, k⟩ => ea_nil' (by rw [e]; exact Rc.done rc_all k))))
theorem j_any (hc : X.calm = true) (hm : X.mg "any" = none) (h : Er sl ms (wE X e) fun x => ∃ bs, x = .lst (List.map D.bl bs) ∧ R (.bl (bs.any id))) (hg : Gl X "any" := by rfl) (he : starEach [e] X.env = (false, eval e X.env) :: starEach [] X.env := by rfl) :
    Er sl ms (wE X (.Call (.Name "any" p) [e] [] pos)) R := Er.of (pe_callB (cr_any hc) hg hm (by decide +kernel) (pa_cons pe_w pa_nil he) (he := he)) (er_cb' (ea_cons' (h.mono fun _ ⟨_, e, k⟩ => ea_nil' (by rw [e]; exact Rc.done rc_any k))))
theorem j_sum (hc : X.calm = true) (hm : X.mg "sum" = none) (h : Er sl ms (wE X e) fun x => ∃ ns, x = .lst (List.map D.int ns) ∧ R (.int ns.sum)) (hg : Gl X "sum" := by rfl) (he : starEach [e] X.env = (false, eval e X.env) :: starEach [] X.env := by rfl) :
    Er sl ms (wE X (.Call (.Name "sum" p) [e] [] pos)) R := Er.of (pe_callB (cr_sum hc) hg hm (by decide +kernel) (pa_cons pe_w pa_nil he) (he := he)) (er_cb' (ea_cons' (h.mono fun _ ⟨_, e, k⟩ => ea_nil' (by rw [e]; exact Rc.done rc_sum k))))
theorem j_max (hc : X.calm = true) (hm : X.mg "max" = none) (h : Er sl ms (wE X e) fun x => ∃ ns m, x = .lst (List.map D.int ns) ∧ 0 < ns.length ∧ (∀ k, k ∈ ns → (∀ y, y ∈ ns → y ≤ k) → k = m) ∧ R (.int m)) (hg : Gl X "max" := by rfl) (he : starEach [e] X.env = (false, eval e X.env) :: starEach [] X.env := by rfl) :
    Er sl ms (wE X (.Call (.Name "max" p) [e] [] pos)) R := Er.of (pe_callB (cr_max hc) hg hm (by decide +kernel) (pa_cons pe_w pa_nil he) (he := he)) (er_cb' (ea_cons' (h.mono fun _ ⟨_, _, e, h0, h1, k⟩ => ea_nil' (by rw [e]; exact Rc.done (rc_max h0 h1) k))))
theorem j_min2 (hc : X.calm = true) (hm : X.mg "min" = none) (h : Er sl ms (wE X a) fun x => Er sl ms (wE X b) fun y => ∃ i j, x = .int i ∧ y = .int j ∧ R (.int (if j < i then j else i))) (hg : Gl X "min" := by rfl) (he : starEach [a, b] X.env = (false, eval a X.env) :: starEach [b] X.env := by rfl)
    (he2 : starEach [b] X.env = (false, eval b X.env) :: starEach [] X.env := by rfl) (hpl : (backTo pos (starEach [b] X.env)).any (·.1) = false := by rfl) :
    Er sl ms (wE X (.Call (.Name "min" p) [a, b] [] pos)) R := Er.of (pe_callB (call_min2 hc) hg hm (by decide +kernel) (pa_cons pe_w (pa_cons pe_w pa_nil he2) he) (he := he) (hpl := hpl)) (er_cb' (ea_cons' (h.mono fun _ h => ea_cons' (h.mono fun _ ⟨_, _, e, e', k⟩ => ea_nil' (by rw [e, e']; exact Rc.done rc_min2 k)))))
theorem j_max2 (hc : X.calm = true) (hm : X.mg "max" = none) (h : Er sl ms (wE X a) fun x => Er sl ms (wE X b) fun y => ∃ i j, x = .int i ∧ y = .int j ∧ R (.int (if j > i then j else i))) (hg : Gl X "max" := by rfl) (he : starEach [a, b] X.env = (false, eval a X.env) :: starEach [b] X.env := by rfl)
    (he2 : starEach [b] X.env = (false, eval b X.env) :: starEach [] X.env := by rfl) (hpl : (backTo pos (starEach [b] X.env)).any (·.1) = false := by rfl) :
    Er sl ms (wE X (.Call (.Name "max" p) [a, b] [] pos)) R := Er.of (pe_callB (call_max2 hc) hg hm (by decide +kernel) (pa_cons pe_w (pa_cons pe_w pa_nil he2) he) (he := he) (hpl := hpl)) (er_cb' (ea_cons' (h.mono fun _ h => ea_cons' (h.mono fun _ ⟨_, _, e, e', k⟩ => ea_nil' (by rw [e, e']; exact Rc.done rc_max2 k)))))
theorem j_sorted (hm : X.mg "sorted" = none) (h : Er sl ms (wE X e) fun x => ∃ ns, x = .lst (List.map D.int ns) ∧ ∀ ns' : List Int, ns'.Perm ns → ns'.Pairwise (· ≤ ·) → R (.lst (ns'.map D.int))) (hg : Gl X "sorted" := by rfl) (he : starEach [e] X.env = (false, eval e X.env) :: starEach [] X.env := by rfl) :
    Er sl ms (wE X (.Call (.Name "sorted" p) [e] [] pos)) R := Er.of (pe_callB cr_sortedI hg hm (by decide +kernel) (pa_cons pe_w pa_nil he) (he := he)) fun ho F0 H0 F ps ex σ H a Q q => h ho F0 H0 F ps ex σ H a _ fun v d F1 H1 ⟨ns, e, k⟩ a1 => by
  subst e
  obtain ⟨p, xs, rfl, ha, hl⟩ : ∃ p xs, v = .ref p ∧ F1 p = some (.lst xs) ∧ DnL F1 xs (ns.map D.int) := by cases a1.top with | lst ha hl => exact ⟨_, _, rfl, ha, hl⟩
  rw [DnL.ints ns hl] at ha
  exact ⟨p, ns, rfl, sq_l a1.fh ha, fun ns' y h1 h2 hy => q _ _ _ _ (k ns' h1 h2) ((a1.pop.laid hy).push (.lst upd_same (DnL.of_ints ns')))⟩
/-! ### calls -/
theorem j_call {k j n : Nat} {Pre : List D → Prop} {Post : List D → D → Prop} (c : Cl X.prog X.w X.K X.mg X.base k x (spD n Pre Post)) (hr : RoomG j X.A) (hk : k ≤ j) (h : Ea sl ms (wA X (e :: es)) fun ds => ds.length = n ∧ Pre ds ∧ ∀ d, Post ds d → R d) (hg : Gl X x := by rfl)
    (hdb : (x == ("__debug__" : Str)) = false := by decide) (he : starEach (e :: es) X.env = (false, eval e X.env) :: starEach es X.env := by rfl) (hpl : (backTo pos (starEach es X.env)).any (·.1) = false := by rfl) :
    Er sl ms (wE X (.Call (.Name x p) (e :: es) [] pos)) R := by
  obtain ⟨f, fd, ps, F, hm, kp, b⟩ := c.ex
  exact Er.of (pe_callG F (hr.mono hk) hg hm kp b pa_w hdb he hpl) (er_call h)
theorem j_callH (i : Nat) {k j n : Nat} {xh : Str} {Pre : List D → Prop} {Post : List D → D → Prop} (c : Cl X.prog X.w X.K X.mg X.base k x (spH n Pre Post)) (hr : RoomG j X.A) (hk : k ≤ j) (hN : X.N[i]? = some xh) (hs : sl[i]? = some .h) (h : Ea sl ms (wA X es) fun ds => ds.length = n ∧ Pre ds ∧ ∀ d, Post ds d → R d) (hg : Gl X x := by rfl)
    (hdb : (x == ("__debug__" : Str)) = false := by decide) (he : starEach (.Name xh p2 :: es) X.env = (false, eval (.Name xh p2) X.env) :: starEach es X.env := by rfl) (hpl : (backTo pos (starEach es X.env)).any (·.1) = false := by rfl)
    (hv : Vis X.env.scope xh := by first | exact Or.inl rfl | exact Or.inr (Or.inl rfl) | exact Or.inr (Or.inr rfl)) (hd : (xh == ("__debug__" : Str)) = false := by decide) (hcd : (xh == ("__classdict__" : Str)) = false := by decide) :
    Er sl ms (wE X (.Call (.Name x p) (.Name xh p2 :: es) [] pos)) R := by
  obtain ⟨f, fd, ps, F, hm, kp, b⟩ := c.ex
  exact Er.of (pe_callG F (hr.mono hk) hg hm kp b (pa_cons (pv i hN hv hd hcd) pa_w he) hdb he hpl) (er_callH hs h)
end
end E
set_option Elab.async false
set_option linter.all false
set_option maxRecDepth 100000
/-! The rules by the text: comprehensions, statements. -/
namespace E
open PySem PySem.Spec PyProof.Rows L2
variable [KF]

section
variable {X : Cx} {sl sl' : List Sl} {ms : List Ob} {R : D → Prop} {B : Bool → Prop} {pos p p2 p3 : Pos} {a b c e : Expr} {es rest : List Expr} {x y : Str} {d : D} {O : Out}
/-! ### comprehensions -/
/-- in each state of the block -/
def Blk (X : Cx) (scope : Scope) (φ : Cx → Prop) : Prop := ∀ (s : Shared) (H : Hp) (C : Addr) (cl : List (Str × Addr)) (fp : List Addr), φ (X.blk s H scope (compEnvC scope cl C X.env) fp)
theorem jl_lc {elt tg iter : Expr} {ifs : List Expr} {scope : Scope} (own : List (Str × Nat)) {fx : Option (Nat × Ob)} {R : List D → Prop} (hc : X.calm = true) (hN : X.N.Nodup) (ok : BlkOk X.N X.env.scope scope own)
    (hv : ∀ j ∈ own.map (·.2), ∀ s, sl[j]? = some s → s = .u)
    (h : Ei sl ms (wI X tg iter) fx fun items => items.length < 100000 ∧ ∃ Pv : Nat → List D → Prop, Pv 0 [] ∧
      (∀ i d acc, items[i]? = some d → Pv i acc → ∃ tv sl2, Blk X scope (fun Y => Eg sl (wG Y tg) d tv sl2) ∧ (∀ j ∈ tv, j ∈ own.map (·.2)) ∧
        Blk X scope fun Y => Et sl2 (ms ++ [.l acc]) (wTs Y ifs) fun b => (b = true → Blk X scope fun Z => Er sl2 (ms ++ [.l acc]) (wE Z elt) fun y => Pv (i + 1) (acc ++ [y])) ∧ (b = false → Pv (i + 1) acc)) ∧
      ∀ acc, Pv items.length acc → R acc)
    (hs : ∀ x, foldedSetIterable iter X.env x = pure x := by intro _; rfl) : El sl ms (wE X (.ListComp elt [⟨tg, iter, ifs, 0⟩] scope pos)) R := by
  have key : El sl ms (tLc (wI X tg iter) (fun v σ H Q => ∀ (s : Shared) (H' : Hp) (C : Addr) (cl : List (Str × Addr)) (fp : List Addr), wG (X.blk s H' scope (compEnvC scope cl C X.env) fp) tg v σ H Q)
      (fun σ H Q => ∀ (s : Shared) (H' : Hp) (C : Addr) (cl : List (Str × Addr)) (fp : List Addr), wTs (X.blk s H' scope (compEnvC scope cl C X.env) fp) ifs σ H Q)
      (fun σ H Q => ∀ (s : Shared) (H' : Hp) (C : Addr) (cl : List (Str × Addr)) (fp : List Addr), wE (X.blk s H' scope (compEnvC scope cl C X.env) fp) elt σ H Q) (own.map (·.2))) R := by
    refine el_lc' hv (Ei.mono h fun items ⟨hl, Pv, p0, step, fin⟩ => ⟨hl, Pv, p0, fun i d acc hd pv => ?_, fin⟩)
    obtain ⟨tv, sl2, g1, g2, g3⟩ := step i d acc hd pv
    have g0 := g1 X.s_0 X.H_0 0 [] []
    refine ⟨tv, sl2, ⟨g0.len, g0.st, fun ms ho F0 H0 F ps ex σ H v a dv Q k s H' C cl fp => (g1 s H' C cl fp).run ms ho F0 H0 F ps ex σ H v a dv Q k⟩, g2, ?_⟩
    intro ho F0 H0 F ps ex σ H a Q k s H' C cl fp
    refine g3 s H' C cl fp ho F0 H0 F ps ex σ H a Q fun b F' H'' ⟨k1, k2⟩ a' => k b F' H'' ⟨fun e => ?_, k2⟩ a'
    intro ho F0 H0 F ps ex σ H a Q k s H' C cl fp
    exact k1 e s H' C cl fp ho F0 H0 F ps ex σ H a Q k
  exact El.of (pe_lc hc hN pi_w ok (fun s H' C cl fp => ⟨fun pins s1 σ H v u Q I r h => h s H' C cl fp pins s1 u I r⟩) (fun s H' C cl fp => ⟨fun pins s1 σ H Q I h => h s H' C cl fp pins s1 I⟩) (fun s H' C cl fp => ⟨fun pins s1 σ H Q I h => h s H' C cl fp pins s1 I⟩) hs) key
/-- what comes is known: the items that pass p, by f -/
theorem jl_lcF {elt tg iter : Expr} {ifs : List Expr} {scope : Scope} (own : List (Str × Nat)) {fx : Option (Nat × Ob)} {R : List D → Prop} (hc : X.calm = true) (hN : X.N.Nodup) (ok : BlkOk X.N X.env.scope scope own)
    (hv : ∀ j ∈ own.map (·.2), ∀ s, sl[j]? = some s → s = .u)
    (h : Ei sl ms (wI X tg iter) fx fun items => items.length < 100000 ∧ ∃ (p : D → Bool) (f : D → D),
      (∀ d acc, d ∈ items → ∃ tv sl2, Blk X scope (fun Y => Eg sl (wG Y tg) d tv sl2) ∧ (∀ j ∈ tv, j ∈ own.map (·.2)) ∧
        Blk X scope fun Y => Et sl2 (ms ++ [.l acc]) (wTs Y ifs) fun b => b = p d ∧ (b = true → Blk X scope fun Z => Er sl2 (ms ++ [.l acc]) (wE Z elt) fun y => y = f d)) ∧
      R ((items.filter p).map f))
    (hs : ∀ x, foldedSetIterable iter X.env x = pure x := by intro _; rfl) : El sl ms (wE X (.ListComp elt [⟨tg, iter, ifs, 0⟩] scope pos)) R := by
  refine jl_lc own (fx := fx) hc hN ok hv (Ei.mono h fun items ⟨hl, pp, f, step, fin⟩ => ⟨hl, fun i acc => acc = ((items.take i).filter pp).map f, by simp, fun i d acc hd pv => ?_, fun acc e => by rw [e, List.take_length]; exact fin⟩) hs
  obtain ⟨tv, sl2, g1, g2, g3⟩ := step d acc (List.mem_of_getElem? hd)
  have hn : (items.take (i + 1)).filter pp = (items.take i).filter pp ++ [d].filter pp := by rw [List.take_add_one, hd, List.filter_append]; rfl
  refine ⟨tv, sl2, g1, g2, fun s H C cl fp => (g3 s H C cl fp).mono fun b ⟨e, k⟩ => ⟨fun eb s H C cl fp => (k eb s H C cl fp).mono fun y ey => ?_, fun eb => ?_⟩⟩
  · show acc ++ [y] = List.map f (List.filter pp (List.take (i + 1) items))
    have pv : acc = List.map f (List.filter pp (List.take i items)) := pv
    rw [hn, pv, ey, List.map_append, show [d].filter pp = [d] by rw [List.filter_cons, if_pos (by rw [← e]; exact eb)]; rfl]; rfl
  · show acc = List.map f (List.filter pp (List.take (i + 1) items))
    have pv : acc = List.map f (List.filter pp (List.take i items)) := pv
    rw [hn, pv, show [d].filter pp = [] by rw [List.filter_cons, if_neg (by rw [← e, eb]; exact Bool.false_ne_true)]; rfl, List.append_nil]
theorem jts_nil {B : Bool → Prop} (k : B true) : Et sl ms (wTs X []) B := Et.ofs pts_nil fun ho F0 H0 F ps ex σ H a Q q => q true F H k a
theorem jts_one {B : Bool → Prop} (h : Et sl ms (wT X c) B) : Et sl ms (wTs X [c]) B := Et.ofs (pts_one pt_w) h
/-! ### what is walked -/
theorem ji_tup {tg : Expr} {K : List D → Prop} (h : Er sl ms (wE X e) fun x => ∃ ds, x = .tup ds ∧ K ds) : Ei sl ms (wI X tg e) none K := Ei.of (pi_tup pe_w) (ei_tup h)
theorem ji_lst {tg : Expr} {K : List D → Prop} (h : Er sl ms (wE X e) fun x => ∃ ds, x = .lst ds ∧ K ds) : Ei sl ms (wI X tg e) none K := Ei.of (pi_list pe_w) (ei_lst h)
theorem ji_range {tg : Expr} {K : List D → Prop} (hm : X.mg "range" = none) (h : Er sl ms (wE X e) fun x => ∃ n : Nat, x = .int n ∧ n < 2 ^ 62 ∧ K (numbers n)) (hg : Gl X "range" := by rfl) (hs : starEach [e] X.env = [(false, eval e X.env)] := by rfl) (hs2 : starEach [e] X.env = (false, eval e X.env) :: starEach [] X.env := by rfl) :
    Ei sl ms (wI X tg (.Call (.Name "range" p) [e] [] pos)) none K := Ei.of (pi_range1 hg hm (pa_cons pe_w pa_nil hs2) hs) (ei_range h)
theorem ji_enumL {elts kk tpos} {K : List D → Prop} (hm : X.mg "enumerate" = none) (h : Er sl ms (wE X e) fun x => ∃ ds, x = .lst ds ∧ K (enumD ds)) (hg : Gl X "enumerate" := by rfl) (hs : starEach [e] X.env = [(false, eval e X.env)] := by rfl) (hs2 : starEach [e] X.env = (false, eval e X.env) :: starEach [] X.env := by rfl) :
    Ei sl ms (wI X (.Tuple elts kk tpos) (.Call (.Name "enumerate" p) [e] [] pos)) none K := Ei.of (pi_enum hg hm (pa_cons pe_w pa_nil hs2) hs) (ei_enumL h)
theorem ji_enumM {elts kk tpos} {K : List D → Prop} (i : Nat) {k : Nat} {ds : List D} (hN : X.N[i]? = some x) (hsl : sl[i]? = some (.m k)) (hk : ms[k]? = some (.l ds)) (hm : X.mg "enumerate" = none) (h : K (enumD ds)) (hg : Gl X "enumerate" := by rfl) (hs : starEach [.Name x p2] X.env = [(false, eval (.Name x p2) X.env)] := by rfl) (hs2 : starEach [.Name x p2] X.env = (false, eval (.Name x p2) X.env) :: starEach [] X.env := by rfl)
    (hv : Vis X.env.scope x := by first | exact Or.inl rfl | exact Or.inr (Or.inl rfl) | exact Or.inr (Or.inr rfl)) (hd : (x == ("__debug__" : Str)) = false := by decide) (hcd : (x == ("__classdict__" : Str)) = false := by decide) :
    Ei sl ms (wI X (.Tuple elts kk tpos) (.Call (.Name "enumerate" p) [.Name x p2] [] pos)) (some (k, .l ds)) K := Ei.of (pi_enum hg hm (pa_cons (pv i hN hv hd hcd) pa_nil hs2) hs) (ei_enumM hsl hk h)
theorem ji_zipT {elts kk tpos} {K : List D → Prop} (hm : X.mg "zip" = none) (h : Er sl ms (wE X a) fun x => Er sl ms (wE X b) fun y => ∃ ds es, x = .tup ds ∧ y = .tup es ∧ K (zipD ds es)) (hg : Gl X "zip" := by rfl) (hs : starEach [a, b] X.env = (false, eval a X.env) :: starEach [b] X.env := by rfl)
    (hs2 : starEach [b] X.env = (false, eval b X.env) :: starEach [] X.env := by rfl) (hpl : (backTo pos (starEach [b] X.env)).any (·.1) = false := by rfl) :
    Ei sl ms (wI X (.Tuple elts kk tpos) (.Call (.Name "zip" p) [a, b] [] pos)) none K := Ei.of (RZ.pi_zipA hg hm (pa_cons pe_w (pa_cons pe_w pa_nil hs2) hs) hs hpl) (ei_zipT h)
/-! ### targets -/
theorem jg_name (i : Nat) (hN : X.N.Nodup) (hi : X.N[i]? = some x) (hx : Loc X.env.scope x := by first | exact Or.inl rfl | exact Or.inr rfl) (hf : X.fn x = true ∨ X.env.scope.names.lookup x = some .local := by first | exact .inl rfl | exact .inr rfl) : Eg sl (wG X (.Name x pos)) d [i] (sl.set i (.d d)) :=
  Eg.of (pg_name hN hi hx hf) eg_name
theorem jg_tup {es : List Expr} {k : Nat} {ds : List D} {tv : List Nat} (hc : X.calm = true) (h : Egs sl (wGs X es) ds tv sl') (hn : (assignEach es X.env).length = ds.length := by rfl) (hst : (assignEach es X.env).findIdx? (·.1) = none := by rfl) : Eg sl (wG X (.Tuple es k pos)) (.tup ds) tv sl' :=
  Eg.of (pg_tup hc pgs_w hn hst) (eg_tup rfl h)
theorem jgs_nil : Egs sl (wGs X []) [] [] sl := Egs.of pgs_nil egs_nil
theorem jgs_cons {es : List Expr} {ds : List D} {tv tw : List Nat} {sl1 : List Sl} (h : Eg sl (wG X e) d tv sl1) (h' : Egs sl1 (wGs X es) ds tw sl') (hs : (assignEach (e :: es) X.env).map (·.2) = assign e X.env :: (assignEach es X.env).map (·.2) := by rfl) : Egs sl (wGs X (e :: es)) (d :: ds) (tv ++ tw) sl' :=
  Egs.of (pgs_cons pg_w pgs_w hs) (egs_cons h h')
/-! ### statements -/
theorem jss_nil (k : O.nx sl ms) : Sr sl ms (wSs X []) O := Sr.ofs pss_nil (sr_next k)
theorem jss_cons {st : Stmt} {rest : List Stmt} (h : Sr sl ms (wS X st) { O with nx := fun s m => Sr s m (wSs X rest) O }) : Sr sl ms (wSs X (st :: rest)) O := Sr.ofs (pss_cons ps_w pss_w) (sr_seq h)
theorem jss_one {st : Stmt} (h : Sr sl ms (wS X st) O) : Sr sl ms (wSs X [st]) O := Sr.ofs (pss_one ps_w) h
theorem js_set (i : Nat) (hN : X.N.Nodup) (hi : X.N[i]? = some x) (h : Er sl ms (wE X e) fun d => O.nx (sl.set i (.d d)) ms) (hx : Loc X.env.scope x := by first | exact Or.inl rfl | exact Or.inr rfl) (hs : swapsWith e (some (.Name x p)) pos.line X.env = pure false := by rfl)
    (hf : X.fn x = true ∨ X.env.scope.names.lookup x = some .local := by first | exact .inl rfl | exact .inr rfl) : Sr sl ms (wS X (.Assign [.Name x p] e pos)) O := Sr.of (ps_set hN hi hx pe_w hs hf) (sr_set' h)
theorem js_setL (i : Nat) (hN : X.N.Nodup) (hi : X.N[i]? = some x) (h : El sl ms (wE X e) fun ds => O.nx (sl.set i (.m ms.length)) (ms ++ [.l ds])) (hx : Loc X.env.scope x := by first | exact Or.inl rfl | exact Or.inr rfl) (hs : swapsWith e (some (.Name x p)) pos.line X.env = pure false := by rfl)
    (hf : X.fn x = true ∨ X.env.scope.names.lookup x = some .local := by first | exact .inl rfl | exact .inr rfl) : Sr sl ms (wS X (.Assign [.Name x p] e pos)) O := Sr.of (ps_set hN hi hx pe_w hs hf) (sr_setL' h)
theorem js_ret (h : Er sl ms (wE X e) O.rt) : Sr sl ms (wS X (.Return (some e) pos)) O := Sr.of (ps_ret pe_w) (sr_ret' h)
theorem js_retM (i : Nat) {k : Nat} {ds : List D} (hN : X.N[i]? = some x) (hs : sl[i]? = some (.m k)) (hm : ms[k]? = some (.l ds)) (kk : O.rt (.lst ds)) (hv : Vis X.env.scope x := by first | exact Or.inl rfl | exact Or.inr (Or.inl rfl) | exact Or.inr (Or.inr rfl)) (hd : (x == ("__debug__" : Str)) = false := by decide) (hcd : (x == ("__classdict__" : Str)) = false := by decide) :
    Sr sl ms (wS X (.Return (some (.Name x p)) pos)) O := Sr.of (ps_ret (pv i hN hv hd hcd)) (sr_retM hs hm kk)
theorem js_retN (k : O.rt .non) : Sr sl ms (wS X (.Return none pos)) O := Sr.of ps_retN (sr_retN k)
theorem js_expr (h : Er sl ms (wE X e) fun _ => O.nx sl ms) (hs : swapsWith e none pos.line X.env = pure false := by rfl) : Sr sl ms (wS X (.Expr e pos)) O := Sr.of (ps_expr pe_w hs) (sr_drop' h)
theorem js_if {t u : List Stmt} (h : Et sl ms (wT X c) fun b => (b = true → Sr sl ms (wSs X t) O) ∧ (b = false → Sr sl ms (wSs X u) O)) : Sr sl ms (wS X (.If c t u pos)) O := Sr.of (ps_if pt_w pss_w pss_w) (sr_if' h)
theorem js_for {tg iter : Expr} {body : List Stmt} (hp : PassesOwn (model X.prog X.w) X.A X.env X.xe) (hc : X.calm = true) (h : Ei sl ms (wI X tg iter) none fun items => ∃ Pv : Nat → List Sl → List Ob → Prop, Pv 0 sl ms ∧
    (∀ i d sl1 ms1, items[i]? = some d → Pv i sl1 ms1 → ∃ tv sl2, Eg sl1 (wG X tg) d tv sl2 ∧ Sr sl2 ms1 (wSs X body) { nx := Pv (i + 1), rt := O.rt, ro := O.ro, bk := O.nx, ct := Pv (i + 1) }) ∧
    ∀ sl1 ms1, Pv items.length sl1 ms1 → O.nx sl1 ms1) (hs : ∀ x, foldedSetIterable iter X.env x = pure x := by intro _; rfl) : Sr sl ms (wS X (.For tg iter body [] pos)) O := Sr.of (ps_for hp hc pi_w pg_w pss_w hs) (sr_for' h)
theorem js_while {body : List Stmt} (hp : PassesOwn (model X.prog X.w) X.A X.env X.xe) (Pv : Nat → List Sl → List Ob → Prop) (h0 : ∃ m, Pv m sl ms)
    (hs : ∀ m sl1 ms1, Pv m sl1 ms1 → Et sl1 ms1 (wT X c) fun b => (b = true → Sr sl1 ms1 (wSs X body) { nx := fun s l => ∃ m', m' < m ∧ Pv m' s l, rt := O.rt, ro := O.ro, bk := O.nx, ct := fun s l => ∃ m', m' < m ∧ Pv m' s l }) ∧ (b = false → O.nx sl1 ms1)) :
    Sr sl ms (wS X (.While c body [] pos)) O := Sr.of (ps_while hp pt_w pss_w) (sr_while' Pv h0 hs)
theorem js_app (i : Nat) {k : Nat} {ds : List D} {ap : Pos} (hN : X.N[i]? = some x) (hs : sl[i]? = some (.m k)) (hm : ms[k]? = some (.l ds)) (hl : ds.length < 100000) (h : Er sl ms (wE X e) fun d => O.nx sl (ms.set k (.l (ds ++ [d]))))
    (hv : Vis X.env.scope x := by first | exact Or.inl rfl | exact Or.inr (Or.inl rfl) | exact Or.inr (Or.inr rfl)) (hd : (x == ("__debug__" : Str)) = false := by decide) (hcd : (x == ("__classdict__" : Str)) = false := by decide)
    (hbase : attributeBase (.Name x p) "append" X.env (eval (.Name x p) X.env) = eval (.Name x p) X.env := by rfl)
    (hfew : ((backTo p2 (starEach [e] X.env)).all (fun x => !x.1) && (backToKw p2 (keywordEach [] X.env)).all (fun x => x.1.isSome) && decide (([e] : List Expr).length + ([] : List Keyword).length + (if ([] : List Keyword).isEmpty then 0 else 1) < 30)) = true := by rfl)
    (hline : (ap.endLine == p2.line) = true := by rfl) (hse : starEach [e] X.env = (false, eval e X.env) :: starEach [] X.env := by rfl) (hplain : (backTo p2 (starEach [] X.env)).any (·.1) = false := by rfl)
    (hsw : swapsWith (.Call (.Attribute (.Name x p) "append" ap) [e] [] p2) none pos.line X.env = pure false := by rfl) :
    Sr sl ms (wS X (.Expr (.Call (.Attribute (.Name x p) "append" ap) [e] [] p2) pos)) O :=
  Sr.of (ps_expr (pe_bm PySem.F.plainAttrs_list PySem.F.slot_list_append PySem.F.type_list_append mt_append (pv i hN hv hd hcd) (pa_cons pe_w pa_nil hse) hbase hfew hline hse hplain) hsw) (sr_app' hs hm hl h)
/-- nothing comes here -/
theorem js_never {st : Stmt} (h : False) : Sr sl ms (wS X st) O := h.elim
/-- x[b] = e, x a list of one's own -/
theorem js_setM (i : Nat) {k : Nat} {tp : Pos} (hN : X.N[i]? = some x) (hs : sl[i]? = some (.m k)) (h : Er sl ms (wE X e) fun d => Er sl ms (wE X b) fun y => ∃ (ds : List D) (n : Int) (j : Nat), ms[k]? = some (.l ds) ∧ y = .int n ∧ ixN ds.length n = some j ∧ O.nx sl (ms.set k (.l (ds.set j d))))
    (hv : Vis X.env.scope x := by first | exact Or.inl rfl | exact Or.inr (Or.inl rfl) | exact Or.inr (Or.inr rfl)) (hd : (x == ("__debug__" : Str)) = false := by decide) (hcd : (x == ("__classdict__" : Str)) = false := by decide)
    (ha : ∀ v, assign (.Subscript (.Name x p) b tp) X.env v = (do
      let ov ← holding [v] (eval (.Name x p) X.env)
      let iv ← holding [v, ov] (eval b X.env)
      standAt tp
      holding [v, ov, iv] (setItem ov iv v)
      release [v, ov, iv] []) := by intro _; rfl)
    (hsw : swapsWithSole [.Subscript (.Name x p) b tp] e pos.line X.env = pure false := by rfl) (hw : swappedStores [.Subscript (.Name x p) b tp] e X.env = pure none := by rfl)
    (h1 : (assignEach [.Subscript (.Name x p) b tp] X.env).map (·.2) = [assign (.Subscript (.Name x p) b tp) X.env] := by rfl) :
    Sr sl ms (wS X (.Assign [.Subscript (.Name x p) b tp] e pos)) O :=
  Sr.of (ps_asg pe_w (pg_sub (pv i hN hv hd hcd) pe_w set_list ha) hsw hw h1) fun ho F0 H0 F ps ex σ H a Z nx rt bk ct => h ho F0 H0 F ps ex σ H a _ fun v d F1 H1 h1 a1 => by
    obtain ⟨o, eo, q, rfl, hq⟩ := a1.slo i _ hs
    refine ⟨_, eo, h1 ho F0 H0 F1 ps _ σ H1 a1 _ fun w y F2 H2 ⟨ds, n, j, hm, ey, hj, k1⟩ a2 => ?_⟩
    subst ey
    cases a2.top
    obtain ⟨_, _, _, xs, h2, h3⟩ := a2.muL hq hm
    exact ⟨q, xs, n, j, rfl, rfl, h2, by rw [h3.len]; exact hj, nx _ _ F2 ps σ _ k1 (a2.pop.pop.put hq (h3.set a2.pop.top j))⟩
theorem get_listN : PGet X (fun x y H Q => ∃ p xs i v, x = .ref p ∧ y = .int i ∧ SqL X.K H p xs ∧ 0 ≤ i ∧ L2.atI xs i = some v ∧ Q v H) := by
  intro pins s σ H o i ov iv Q I ro ri h
  obtain ⟨p, xs, k, z, rfl, rfl, hq, h0, he, q⟩ := h
  cases ro
  obtain ⟨t, rfl⟩ := ri
  obtain ⟨its, r, pl, hz⟩ := I.list hq
  obtain ⟨j, h1, h2, h3, h4, h5⟩ := atI_get he
  obtain ⟨w, ew, rw'⟩ := r.get h2
  have hl := r.length
  have hj : k.toNat = j := by
    rw [seqIndex_of h0 h5] at h1
    exact Option.some.inj h1
  have hn := line63
  exact wpAny_getItem_list pl.isList h0 (by omega) (by rw [hj]; simpa using ew) ⟨z, H, I, rw', q⟩
/-- x[b] -= e, x a list of one's own -/
theorem js_augM (i : Nat) {k : Nat} {tp : Pos} (hN : X.N[i]? = some x) (hs : sl[i]? = some (.m k)) (h : Er sl ms (wE X b) fun y => ∃ (ds : List D) (n : Int) (j : Nat) (u : Int), ms[k]? = some (.l ds) ∧ y = .int n ∧ 0 ≤ n ∧ ixN ds.length n = some j ∧ ds[j]? = some (.int u) ∧ Er sl ms (wE X e) fun z => ∃ t : Int, z = .int t ∧ O.nx sl (ms.set k (.l (ds.set j (.int (u - t))))))
    (hv : Vis X.env.scope x := by first | exact Or.inl rfl | exact Or.inr (Or.inl rfl) | exact Or.inr (Or.inr rfl)) (hd : (x == ("__debug__" : Str)) = false := by decide) (hcd : (x == ("__classdict__" : Str)) = false := by decide)
    (ha : ∀ ov iv new, augStore b ov iv new = (do holding [new, ov, iv] (setItem ov iv new); release [new, ov, iv] []; pure .next) := by intros; rfl) :
    Sr sl ms (wS X (.AugAssign (.Subscript (.Name x p) b tp) .Sub e pos)) O :=
  Sr.of (ps_augS (pv i hN hv hd hcd) pe_w get_listN pe_w ip_sub set_list ha) fun ho F0 H0 F ps ex σ H a Z nx rt bk ct => by
    obtain ⟨o, eo, q, rfl, hq⟩ := a.slo i _ hs
    refine ⟨_, eo, h ho F0 H0 F ps ex σ H a _ fun w y F2 H2 ⟨ds, n, j, u, hm, ey, h0, hj, hu, k1⟩ a2 => ?_⟩
    subst ey
    cases a2.top
    obtain ⟨_, _, _, xs, h2, h3⟩ := a2.muL hq hm
    have hat : L2.atI ds n = some (.int u) := by unfold L2.atI; rw [hj]; exact hu
    obtain ⟨zv, hz, dz⟩ := h3.atI hat
    cases dz
    refine ⟨q, xs, n, _, rfl, rfl, .inl (.inl h2), h0, hz, k1 ho F0 H0 F2 ps _ σ H2 a2 _ fun v d F3 H3 ⟨t, et, k2⟩ a3 => ?_⟩
    subst et
    cases a3.top
    obtain ⟨_, _, _, ys, h4, h5⟩ := a3.muL hq hm
    exact ⟨u, t, rfl, rfl, q, ys, n, j, rfl, rfl, h4, by rw [h5.len]; exact hj, nx _ _ F3 ps σ _ k2 (a3.pop.pop.put hq (h5.set (.int (u - t)) j))⟩
/-- x, y = a, b: two plain local names -/
theorem js_par {kt k2 pt2 px py pt} (i j : Nat) (hc : X.calm = true) (hN : X.N.Nodup) (hi : X.N[i]? = some x) (hj : X.N[j]? = some y) (hij : i ≠ j) (h : Er sl ms (wE X a) fun d => Er sl ms (wE X b) fun d' => O.nx ((sl.set i (.d d)).set j (.d d')) ms)
    (hx : X.env.scope.names.lookup x = some .local := by rfl) (hy : X.env.scope.names.lookup y = some .local := by rfl) (hw : swappedStores [.Tuple [.Name x px, .Name y py] kt pt] (.Tuple [a, b] k2 pt2) X.env = pure (some [x, y]) := by rfl)
    (hs : swapsWithSole [.Tuple [.Name x px, .Name y py] kt pt] (.Tuple [a, b] k2 pt2) pos.line X.env = pure false := by rfl) (he : starEach [a, b] X.env = (false, eval a X.env) :: starEach [b] X.env := by rfl) (he2 : starEach [b] X.env = (false, eval b X.env) :: starEach [] X.env := by rfl) :
    Sr sl ms (wS X (.Assign [.Tuple [.Name x px, .Name y py] kt pt] (.Tuple [a, b] k2 pt2) pos)) O :=
  Sr.of (ps_par hc hN hi hj hij hx hy (pa_cons pe_w (pa_cons pe_w pa_nil he2) he) hw hs) fun ho F0 H0 F ps ex σ H at0 Z nx rt bk ct => h ho F0 H0 F ps ex σ H at0 _ fun v d F1 H1 h1 a1 => h1 ho F0 H0 F1 ps _ σ H1 a1 _ fun w d' F2 H2 k a2 =>
    ⟨v, w, rfl, nx _ _ F2 ps _ H2 k ((a2.pop.pop.store (s := .d d) i ⟨v, rfl, a2.pop.top⟩).store (s := .d d') j ⟨w, rfl, a2.top⟩)⟩
theorem js_parMM {kt k2 pt2 px py pt} (i j : Nat) (hc : X.calm = true) (hN : X.N.Nodup) (hi : X.N[i]? = some x) (hj : X.N[j]? = some y) (hij : i ≠ j) (h : El sl ms (wE X a) fun d => El sl (ms ++ [.l d]) (wE X b) fun d' => O.nx ((sl.set i (.m ms.length)).set j (.m (ms.length + 1))) (ms ++ [.l d] ++ [.l d']))
    (hx : X.env.scope.names.lookup x = some .local := by rfl) (hy : X.env.scope.names.lookup y = some .local := by rfl) (hw : swappedStores [.Tuple [.Name x px, .Name y py] kt pt] (.Tuple [a, b] k2 pt2) X.env = pure (some [x, y]) := by rfl)
    (hs : swapsWithSole [.Tuple [.Name x px, .Name y py] kt pt] (.Tuple [a, b] k2 pt2) pos.line X.env = pure false := by rfl) (he : starEach [a, b] X.env = (false, eval a X.env) :: starEach [b] X.env := by rfl) (he2 : starEach [b] X.env = (false, eval b X.env) :: starEach [] X.env := by rfl) :
    Sr sl ms (wS X (.Assign [.Tuple [.Name x px, .Name y py] kt pt] (.Tuple [a, b] k2 pt2) pos)) O :=
  Sr.of (ps_par hc hN hi hj hij hx hy (pa_cons pe_w (pa_cons pe_w pa_nil he2) he) hw hs) fun ho F0 H0 F ps ex σ H at0 Z nx rt bk ct => h ho F0 H0 F ps ex σ H at0 _ fun p1 d F1 H1 h1 a1 => h1 ho F0 H0 F1 (ps ++ [p1]) _ σ H1 a1 _ fun p2 d' F2 H2 k a2 => by
    have e0 := at0.len
    have e1 : (ps ++ [p1] ++ [p2])[ms.length]? = some p1 := by rw [← e0, List.getElem?_append_left (by simp), List.getElem?_append_right (Nat.le_refl _)]; simp
    have e2 : (ps ++ [p1] ++ [p2])[ms.length + 1]? = some p2 := by rw [← e0, List.getElem?_append_right (by simp)]; simp
    exact ⟨.ref p1, .ref p2, rfl, nx _ _ F2 _ _ H2 k ((a2.store (s := .m ms.length) i ⟨p1, rfl, e1⟩).store (s := .m (ms.length + 1)) j ⟨p2, rfl, e2⟩)⟩
/-- .. through a tuple: names that a block knows -/
theorem js_tupMM {kt k2 pt2 px py pt} (i j : Nat) (hc : X.calm = true) (hN : X.N.Nodup) (hi : X.N[i]? = some x) (hj : X.N[j]? = some y) (hij : i ≠ j) (h : El sl ms (wE X a) fun d => El sl (ms ++ [.l d]) (wE X b) fun d' => O.nx ((sl.set i (.m ms.length)).set j (.m (ms.length + 1))) (ms ++ [.l d] ++ [.l d']))
    (hx : Loc X.env.scope x := by first | exact Or.inl rfl | exact Or.inr rfl) (hy : Loc X.env.scope y := by first | exact Or.inl rfl | exact Or.inr rfl) (hfx : X.fn x = true ∨ X.env.scope.names.lookup x = some .local := by first | exact .inl rfl | exact .inr rfl) (hfy : X.fn y = true ∨ X.env.scope.names.lookup y = some .local := by first | exact .inl rfl | exact .inr rfl)
    (hw : swappedStores [.Tuple [.Name x px, .Name y py] kt pt] (.Tuple [a, b] k2 pt2) X.env = pure none := by rfl)
    (hs : swapsWithSole [.Tuple [.Name x px, .Name y py] kt pt] (.Tuple [a, b] k2 pt2) pos.line X.env = pure false := by rfl) (he : starEach [a, b] X.env = (false, eval a X.env) :: starEach [b] X.env := by rfl) (he2 : starEach [b] X.env = (false, eval b X.env) :: starEach [] X.env := by rfl)
    (hg1 : (assignEach [.Name x px, .Name y py] X.env).map (·.2) = assign (.Name x px) X.env :: (assignEach [.Name y py] X.env).map (·.2) := by rfl) (hg2 : (assignEach [.Name y py] X.env).map (·.2) = assign (.Name y py) X.env :: (assignEach [] X.env).map (·.2) := by rfl)
    (hn : (assignEach [.Name x px, .Name y py] X.env).length = 2 := by rfl) (hst : (assignEach [.Name x px, .Name y py] X.env).findIdx? (·.1) = none := by rfl)
    (h1 : (assignEach [.Tuple [.Name x px, .Name y py] kt pt] X.env).map (·.2) = [assign (.Tuple [.Name x px, .Name y py] kt pt) X.env] := by rfl) :
    Sr sl ms (wS X (.Assign [.Tuple [.Name x px, .Name y py] kt pt] (.Tuple [a, b] k2 pt2) pos)) O :=
  Sr.of (ps_asg (pe_tup (pa_cons pe_w (pa_cons pe_w pa_nil he2) he)) (pg_tup (n := 2) hc (pgs_cons (pg_name hN hi hx hfx) (pgs_cons (pg_name hN hj hy hfy) pgs_nil hg2) hg1) hn hst) hs hw h1) fun ho F0 H0 F ps ex σ H at0 Z nx rt bk ct => h ho F0 H0 F ps ex σ H at0 _ fun p1 d F1 H1 h1 a1 => h1 ho F0 H0 F1 (ps ++ [p1]) _ σ H1 a1 _ fun p2 d' F2 H2 k a2 => by
    have e0 := at0.len
    have e1 : (ps ++ [p1] ++ [p2])[ms.length]? = some p1 := by rw [← e0, List.getElem?_append_left (by simp), List.getElem?_append_right (Nat.le_refl _)]; simp
    have e2 : (ps ++ [p1] ++ [p2])[ms.length + 1]? = some p2 := by rw [← e0, List.getElem?_append_right (by simp)]; simp
    refine ⟨(by show 2 ≤ sizeLine; decide), fun T hT => ⟨T, [.ref p1, .ref p2], rfl, .inl (.inl upd_same), rfl, _, _, rfl, _, _, rfl, rfl, nx _ _ F2 (ps ++ [p1] ++ [p2]) _ _ k ?_⟩⟩
    have a3 := a2.step0 (F' := F2) (H' := upd H2 T (.tup [.ref p1, .ref p2])) ⟨Ex.refl F2, fun b o q => by rw [upd_ne (ne_of_none (a2.fh b o q) hT)]; exact a2.fh b o q, fun b o _ q => by rw [upd_ne (ne_of_none q hT)]; exact q, fun _ h _ => h⟩
    exact (a3.store (s := .m ms.length) i ⟨p1, rfl, e1⟩).store (s := .m (ms.length + 1)) j ⟨p2, rfl, e2⟩
theorem js_tupMD {kt k2 pt2 px py pt} (i j : Nat) (hc : X.calm = true) (hN : X.N.Nodup) (hi : X.N[i]? = some x) (hj : X.N[j]? = some y) (hij : i ≠ j) (h : El sl ms (wE X a) fun d => Er sl (ms ++ [.l d]) (wE X b) fun d' => O.nx ((sl.set i (.m ms.length)).set j (.d d')) (ms ++ [.l d]))
    (hx : Loc X.env.scope x := by first | exact Or.inl rfl | exact Or.inr rfl) (hy : Loc X.env.scope y := by first | exact Or.inl rfl | exact Or.inr rfl) (hfx : X.fn x = true ∨ X.env.scope.names.lookup x = some .local := by first | exact .inl rfl | exact .inr rfl) (hfy : X.fn y = true ∨ X.env.scope.names.lookup y = some .local := by first | exact .inl rfl | exact .inr rfl)
    (hw : swappedStores [.Tuple [.Name x px, .Name y py] kt pt] (.Tuple [a, b] k2 pt2) X.env = pure none := by rfl)
    (hs : swapsWithSole [.Tuple [.Name x px, .Name y py] kt pt] (.Tuple [a, b] k2 pt2) pos.line X.env = pure false := by rfl) (he : starEach [a, b] X.env = (false, eval a X.env) :: starEach [b] X.env := by rfl) (he2 : starEach [b] X.env = (false, eval b X.env) :: starEach [] X.env := by rfl)
    (hg1 : (assignEach [.Name x px, .Name y py] X.env).map (·.2) = assign (.Name x px) X.env :: (assignEach [.Name y py] X.env).map (·.2) := by rfl) (hg2 : (assignEach [.Name y py] X.env).map (·.2) = assign (.Name y py) X.env :: (assignEach [] X.env).map (·.2) := by rfl)
    (hn : (assignEach [.Name x px, .Name y py] X.env).length = 2 := by rfl) (hst : (assignEach [.Name x px, .Name y py] X.env).findIdx? (·.1) = none := by rfl)
    (h1 : (assignEach [.Tuple [.Name x px, .Name y py] kt pt] X.env).map (·.2) = [assign (.Tuple [.Name x px, .Name y py] kt pt) X.env] := by rfl) :
    Sr sl ms (wS X (.Assign [.Tuple [.Name x px, .Name y py] kt pt] (.Tuple [a, b] k2 pt2) pos)) O :=
  Sr.of (ps_asg (pe_tup (pa_cons pe_w (pa_cons pe_w pa_nil he2) he)) (pg_tup (n := 2) hc (pgs_cons (pg_name hN hi hx hfx) (pgs_cons (pg_name hN hj hy hfy) pgs_nil hg2) hg1) hn hst) hs hw h1) fun ho F0 H0 F ps ex σ H at0 Z nx rt bk ct => h ho F0 H0 F ps ex σ H at0 _ fun p1 d F1 H1 h1 a1 => h1 ho F0 H0 F1 (ps ++ [p1]) _ σ H1 a1 _ fun w d' F2 H2 k a2 => by
    have e0 := at0.len
    have e1 : (ps ++ [p1])[ms.length]? = some p1 := by rw [← e0, List.getElem?_append_right (Nat.le_refl _)]; simp
    refine ⟨(by show 2 ≤ sizeLine; decide), fun T hT => ⟨T, [.ref p1, w], rfl, .inl (.inl upd_same), rfl, _, _, rfl, _, _, rfl, rfl, nx _ _ F2 (ps ++ [p1]) _ _ k ?_⟩⟩
    have a3 := a2.step0 (F' := F2) (H' := upd H2 T (.tup [.ref p1, w])) ⟨Ex.refl F2, fun b o q => by rw [upd_ne (ne_of_none (a2.fh b o q) hT)]; exact a2.fh b o q, fun b o _ q => by rw [upd_ne (ne_of_none q hT)]; exact q, fun _ h _ => h⟩
    exact (a3.pop.store (s := .m ms.length) i ⟨p1, rfl, e1⟩).store (s := .d d') j ⟨w, rfl, a3.top⟩
/-- x.append(y.pop(b)) -/
theorem js_appPop (i j : Nat) {k l : Nat} {ds fs : List D} {ap ap2 q1 q2 : Pos} (hN : X.N[i]? = some x) (hM : X.N[j]? = some y) (hs : sl[i]? = some (.m k)) (ht : sl[j]? = some (.m l)) (hkl : k ≠ l) (hm : ms[k]? = some (.l fs)) (hn : ms[l]? = some (.l ds)) (hl : fs.length < 100000)
    (h : Er sl ms (wE X b) fun z => ∃ (n : Nat) (d : D), z = .int n ∧ n < 2 ^ 62 ∧ ds[n]? = some d ∧ O.nx sl ((ms.set l (.l (ds.eraseIdx n))).set k (.l (fs ++ [d]))))
    (hv : Vis X.env.scope x := by first | exact Or.inl rfl | exact Or.inr (Or.inl rfl) | exact Or.inr (Or.inr rfl)) (hd : (x == ("__debug__" : Str)) = false := by decide) (hcd : (x == ("__classdict__" : Str)) = false := by decide)
    (hv2 : Vis X.env.scope y := by first | exact Or.inl rfl | exact Or.inr (Or.inl rfl) | exact Or.inr (Or.inr rfl)) (hd2 : (y == ("__debug__" : Str)) = false := by decide) (hcd2 : (y == ("__classdict__" : Str)) = false := by decide)
    (hbase : attributeBase (.Name x p) "append" X.env (eval (.Name x p) X.env) = eval (.Name x p) X.env := by rfl)
    (hbase2 : attributeBase (.Name y q1) "pop" X.env (eval (.Name y q1) X.env) = eval (.Name y q1) X.env := by rfl)
    (hfew : ((backTo p2 (starEach [.Call (.Attribute (.Name y q1) "pop" ap2) [b] [] q2] X.env)).all (fun x => !x.1) && (backToKw p2 (keywordEach [] X.env)).all (fun x => x.1.isSome) && decide (([.Call (.Attribute (.Name y q1) "pop" ap2) [b] [] q2] : List Expr).length + ([] : List Keyword).length + (if ([] : List Keyword).isEmpty then 0 else 1) < 30)) = true := by rfl)
    (hfew2 : ((backTo q2 (starEach [b] X.env)).all (fun x => !x.1) && (backToKw q2 (keywordEach [] X.env)).all (fun x => x.1.isSome) && decide (([b] : List Expr).length + ([] : List Keyword).length + (if ([] : List Keyword).isEmpty then 0 else 1) < 30)) = true := by rfl)
    (hline : (ap.endLine == p2.line) = true := by rfl) (hline2 : (ap2.endLine == q2.line) = true := by rfl) (hse : starEach [.Call (.Attribute (.Name y q1) "pop" ap2) [b] [] q2] X.env = (false, eval (.Call (.Attribute (.Name y q1) "pop" ap2) [b] [] q2) X.env) :: starEach [] X.env := by rfl)
    (hse2 : starEach [b] X.env = (false, eval b X.env) :: starEach [] X.env := by rfl) (hplain : (backTo p2 (starEach [] X.env)).any (·.1) = false := by rfl) (hplain2 : (backTo q2 (starEach [] X.env)).any (·.1) = false := by rfl)
    (hsw : swapsWith (.Call (.Attribute (.Name x p) "append" ap) [.Call (.Attribute (.Name y q1) "pop" ap2) [b] [] q2] [] p2) none pos.line X.env = pure false := by rfl) :
    Sr sl ms (wS X (.Expr (.Call (.Attribute (.Name x p) "append" ap) [.Call (.Attribute (.Name y q1) "pop" ap2) [b] [] q2] [] p2) pos)) O :=
  Sr.of (ps_expr (pe_bm PySem.F.plainAttrs_list PySem.F.slot_list_append PySem.F.type_list_append mt_append (pv i hN hv hd hcd)
    (pa_cons (pe_bm PySem.F.plainAttrs_list PySem.F.slot_list_pop PySem.F.type_list_pop mt_popAt (pv j hM hv2 hd2 hcd2) (pa_cons pe_w pa_nil hse2) hbase2 hfew2 hline2 hse2 hplain2) pa_nil hse) hbase hfew hline hse hplain) hsw) fun ho F0 H0 F ps ex σ H a Z nx rt bk ct => by
  obtain ⟨o, eo, q, rfl, hq⟩ := a.slo i _ hs
  obtain ⟨o2, eo2, r, rfl, hr⟩ := a.slo j _ ht
  obtain ⟨_, _, _, xs0, hx0, _⟩ := a.muL hq hm
  obtain ⟨_, _, _, ys0, hy0, _⟩ := a.muL hr hn
  refine ⟨_, eo, .inl ⟨rfl, _, .inl (.inl hx0)⟩, _, eo2, .inl ⟨rfl, _, .inl (.inl hy0)⟩, h ho F0 H0 F ps ex σ H a _ fun v d F1 H1 ⟨n, dd, ez, hn62, hdn, kk⟩ a1 => ?_⟩
  subst ez
  cases a1.top
  obtain ⟨_, _, _, ys, hy, hyd⟩ := a1.muL hr hn
  obtain ⟨u, hu, hud⟩ := hyd.get n hdn
  have hlt : n < ys.length := (List.getElem?_eq_some_iff.mp hu).1
  have a2 := (a1.push hud).put hr (hyd.erase n)
  have hqk : (ms.set l (.l (ds.eraseIdx n)))[k]? = some (.l fs) := by rw [List.getElem?_set_ne (Ne.symm hkl)]; exact hm
  obtain ⟨_, _, _, xs, hx, hxd⟩ := a2.muL hq hqk
  refine ⟨r, ys, n, n, u, rfl, rfl, hy, by omega, by omega, seqIndex_of (by omega) (by omega) |>.trans (by simp), hu, ?_⟩
  refine ⟨q, xs, u, rfl, rfl, hx, by rw [hxd.len]; exact Nat.lt_trans hl (by decide), nx _ _ F1 ps σ _ kk ((a2.put hq (hxd.app (.cons a2.top .nil))).pop.pop)⟩
end
end E
set_option Elab.async false
set_option linter.all false
set_option maxRecDepth 100000
/-! enumerate(tuple) -/
namespace LT
open PySem PySem.Spec PyProof.Rows L2
open AutoSeq1 (wpAny_loadPart')

theorem meets_enumerate_newT (l : Addr) (items : Array Value) (n : Nat) (dct : Option Addr) (sl : Array (Option Value)) :
    Meets (Builtin.«enumerate.__new__» ⟨[.type "enumerate", .ref l], []⟩) (fun _ R s => s.heap.get? l = some { cls := .type "tuple", dict := dct, data := .seq items n, slots := sl } ∧
      R (.ok (.ret (.ref (s.heap.push { cls := .type "tuple_iterator", data := .fields #[.ref l, .int 0 0] }).objs.size)))
        { s with heap := (s.heap.push { cls := .type "tuple_iterator", data := .fields #[.ref l, .int 0 0] }).push { cls := .type "enumerate", data := .fields #[.none, .bool false, .ref s.heap.objs.size, rawInt 0, .none, .none] } }) :=
  .of_wp fun prog w A R s h => by
    obtain ⟨hp, g, d, tk, os⟩ := s; obtain ⟨hl, h⟩ := h
    have hsub := sub_enumerate
    have hL : Heap.IsTuple (Shared.heap ⟨hp, g, d, tk, os⟩) l items := ⟨_, hl, rfl, n, rfl⟩
    wp_walk using wpAny_loadPart' hl
    refine wpAny_stack_any fun st => wpAny_pure ?_
    split
    · rename_i c _ _ _ _ _
      cases (c == Value.type "enumerate")
      · wp_walk using wpAny_loadPart' hl, wpAny_pyIter_tuple hL
        exact ⟨_, rfl, h⟩
      · wp_walk using wpAny_loadPart' hl, wpAny_pyIter_tuple hL
        exact ⟨_, rfl, h⟩
    · wp_walk using wpAny_loadPart' hl, wpAny_pyIter_tuple hL
      exact ⟨_, rfl, h⟩

section
variable {prog : Program} {w : World} {A : Around} {E : Value → Shared → Prop} {s : Shared}
theorem call_enumerate_tuple {l : Addr} {items : Array Value} {Q : Value → Shared → Prop} (hL : s.heap.IsTuple l items)
    (h : ∀ h', IsEnum h' (s.heap.objs.size + 1) s.heap.objs.size 0 .none → h'.IsTupleIter s.heap.objs.size l 0 → h'.objs.size = s.heap.objs.size + 2 →
      (∀ b o, s.heap.get? b = some o → h'.get? b = some o) → Q (.ref (s.heap.objs.size + 1)) { s with heap := h' }) :
    wpAny (model prog w) A (call (.type "enumerate") [.ref l]) Q E s := by
  obtain ⟨⟨c, dct, dt, sl⟩, hl, hc, n, hd⟩ := hL
  replace hc : c = .type "tuple" := hc
  replace hd : dt = .seq items n := hd
  subst hc hd
  refine callType_new F.called_enumerate (by decide) (F.typeCall_enumerate_1 _) (F.newCall_enumerate_1 _) (fun obj => F.args_object_init_2 obj _) F.entry_enumerate_new
    (meets_enumerate_newT l items n dct sl) ⟨hl, ?_⟩
  have hz : (s.heap.push { cls := .type "tuple_iterator", data := .fields #[.ref l, .int 0 0] }).objs.size = s.heap.objs.size + 1 := Heap.size_push ..
  show _ ∧ _
  rw [hz]
  have he : IsEnum ((s.heap.push { cls := .type "tuple_iterator", data := .fields #[.ref l, .int 0 0] }).push
      { cls := .type "enumerate", data := .fields #[.none, .bool false, .ref s.heap.objs.size, rawInt 0, .none, .none] }) (s.heap.objs.size + 1) s.heap.objs.size 0 .none := by
    have := Heap.get?_push_size (s.heap.push { cls := .type "tuple_iterator", data := .fields #[.ref l, .int 0 0] })
      (o := { cls := .type "enumerate", data := .fields #[.none, .bool false, .ref s.heap.objs.size, rawInt 0, .none, .none] }) rfl
    rw [hz] at this; exact this
  refine ⟨⟨_, he, rfl⟩, h _ he ⟨_, Heap.get?_push_of_some _ (Heap.get?_push_size _ rfl), rfl, rfl⟩ (by rw [Heap.size_push, hz]) fun b o x => Heap.get?_push_of_some _ (Heap.get?_push_of_some _ x)⟩
end

/-- the tuple at a, each item in a new pair -/
def IteT (K : PySem.W.Frag) (a : Addr) : It :=
  ⟨fun i H => ∃ (xs : List V) (x : V), SqT K H a xs ∧ xs[i]? = some x, fun i H v H' => ∃ T x, v = .ref T ∧ H T = none ∧ H' = upd H T (.tup [.int (i : Nat), x]) ∧ ∀ xs, SqT K H a xs → xs[i]? = some x, fun i H => ∃ xs : List V, SqT K H a xs ∧ xs.length = i⟩
theorem turn_enumT {P : Program} {w : World} {K : PySem.W.Frag} {elts : List Expr} {kk : Nat} {tpos : Pos} (a e it : Addr) (hea : e ≠ a) (hia : a ≠ it) :
    Turn P w K (.Tuple elts kk tpos) (IteT K a) [e, it] e (fun i h => (∃ old, IsEnum h e it ((i : Nat) : Int) old) ∧ h.IsTupleIter it a i ∧ e ≠ it) where
  mem := by simp
  obj := fun i h st b hb => by
    obtain ⟨⟨old, he⟩, ⟨o, ho, hc, hd⟩, _⟩ := st
    have e' : b = e ∨ b = it := by simpa using hb
    rcases e' with z | z
    · rw [z]; exact ⟨_, he, fun v q => nomatch q⟩
    · rw [z]; exact ⟨o, ho, fun v q => by rw [hd] at q; cases q⟩
  keep := fun i h h' st k => let ⟨⟨old, he⟩, hi, hne⟩ := st; ⟨⟨old, k e (by simp) _ he⟩, hi.at fun o q => k it (by simp) o q, hne⟩
  item := by
    intro X hP hw hK hc i pins s σ H E I hf st hg
    subst hP hw hK
    obtain ⟨⟨old, he⟩, hit, hne⟩ := st
    obtain ⟨xs, x, hq, hx⟩ := hg
    obtain ⟨its, rv, p, hz⟩ := I.tuple hq
    obtain ⟨u, hu, ru⟩ := rv.get hx
    have hel : e < s.heap.objs.size := Heap.lt_size he
    have hil : it < s.heap.objs.size := by obtain ⟨_, q, _⟩ := hit; exact Heap.lt_size q
    have hlt : i < its.toArray.size := by rw [List.size_toArray]; exact (List.getElem?_eq_some_iff.mp hu).1
    refine wpAny_pyNext_enum_itemD (Draws.tuple (A := X.A.in1) (I.ok.hd hc) it a hia its.toArray) he ⟨hit, p⟩ hlt hne (by simp [hne, hea]) fun x' h' tk px ho hit' hT hsz hk => ?_
    have ex : x' = u := by
      have z : its[i]? = some x' := by simpa using px
      rw [hu] at z; exact (Option.some.inj z).symm
    subst ex
    refine ⟨_, rfl, wpAny_letOwnedTupleGo_enum (s := { s with heap := h', toks := tk + 1 }) ho fun h'' he' sb => ?_⟩
    have hT2 : h''.get? s.heap.objs.size = some { cls := .type "tuple", data := .seq #[.int i tk, x'] } := (sb.2 _ (Nat.ne_of_gt hel)).trans hT
    have new : ObjOk X.prog X.w (upd H s.heap.objs.size (.tup [.int (i : Nat), x])) h'' s.heap.objs.size (.tup [.int (i : Nat), x]) :=
      ⟨by show 2 ≤ sizeLine; decide, [.int i tk, x'], .cons ⟨_, rfl⟩ (.cons ru .nil), ⟨_, hT2, rfl, _, rfl⟩⟩
    have I1 : Inv X pins σ (upd H s.heap.objs.size (.tup [.int (i : Nat), x])) { s with heap := h'', toks := tk + 1 } :=
      I.turnedNew (ch := [e, it]) (fun b ob hb q => (sb.2 b (fun z => hb (by simp [z]))).trans (hk b ob (fun z => hb (by simp [z])) (fun z => hb (by simp [z])) q)) hf (Nat.le_refl _) new
    refine ⟨.ref s.heap.objs.size, _, I1, rfl, ⟨_, x, rfl, I.hok.fresh (Nat.le_refl _), rfl, fun ys hy => by rw [I.tuple_inj hy hq]; exact hx⟩, ⟨⟨x', ?_⟩, hit'.1.at fun o q => (sb.2 it (Ne.symm hne)).trans q, hne⟩, fun b hb => ?_⟩
    · have e1 : ((i + 1 : Nat) : Int) = (i : Int) + 1 := by omega
      rw [e1]; exact he'
    · have hb' : b < s.heap.objs.size := by
        have e' : b = e ∨ b = it := by simpa using hb
        rcases e' with z | z
        · rw [z]; exact hel
        · rw [z]; exact hil
      rw [upd_ne (Nat.ne_of_lt hb')]
      exact (hf b hb).1
  done := by
    intro X hP hw hK hc i pins s σ H E I hf st hg
    subst hP hw hK
    obtain ⟨⟨old, he⟩, hit, hne⟩ := st
    obtain ⟨xs, hq, hx⟩ := hg
    obtain ⟨its, rv, p, hz⟩ := I.tuple hq
    obtain ⟨f0, f1, f2, f3, f4, f5⟩ := hf it (by simp)
    have hl := rv.length
    have hi : i = its.toArray.size := by rw [List.size_toArray]; omega
    subst hi
    exact wpAny_pyNext_enum_endD (Draws.tuple (A := X.A.in1) (I.ok.hd hc) it a hia its.toArray) he ⟨hit, p⟩ fun h' eb => ⟨rfl, I.turned (t' := s.toks) (fun b o hb q => eb b o hb q) f0 f1 f3 f4 f5⟩
  self := fun A i s Q E st h => let ⟨⟨_, he⟩, _⟩ := st; wpAny_pyIter_enum he h
def iEnumT (K : PySem.W.Frag) (ta : TA) : TI := fun σ H R => ta σ H fun vs H1 => ∃ a xs, vs = [.ref a] ∧ SqT K H1 a xs ∧ R (IteT K a) H1
theorem pi_enumT {X : Cx} {e : Expr} {ta : TA} {p pos tpos : Pos} {elts : List Expr} {kk : Nat} (hg : Gl X "enumerate") (hm : X.mg "enumerate" = none) (ha : PA X [e] ta) (hs : starEach [e] X.env = [(false, eval e X.env)] := by rfl) :
    PI X (.Tuple elts kk tpos) (.Call (.Name "enumerate" p) [e] [] pos) (iEnumT X.K ta) := by
  refine ⟨fun pins s σ H R I h => ?_⟩
  refine Call_ (ld_blt I hg hm (show bootBuiltins "enumerate" = some (.type "enumerate") by decide +kernel) (PyProof.Rows.callWith_type1 (thn (ha.run pos pins s σ H _ I h) fun us s1 ⟨vs, H1, I1, r1, q1⟩ => ?_) hs rfl))
  obtain ⟨a, xs, ex, hq, q⟩ := q1
  subst ex
  cases r1 with
  | cons r rr =>
    cases rr
    cases r
    obtain ⟨its, rv, p', hz⟩ := I1.tuple hq
    have hal : a < s1.heap.objs.size := by obtain ⟨o, ho, _⟩ := id p'; exact Heap.lt_size ho
    refine call_enumerate_tuple (show s1.heap.IsTuple a its.toArray from p') fun h' he hit hsz hk => wpAny_pyIter_enum he ?_
    have I2 : Inv X pins σ H1 { s1 with heap := h' } := I1.kept (t' := s1.toks) hk
    refine ⟨s1.heap.objs.size + 1, [s1.heap.objs.size + 1, s1.heap.objs.size], _, _, H1, rfl, I2, turn_enumT a (s1.heap.objs.size + 1) s1.heap.objs.size (Nat.ne_of_gt (Nat.lt_succ_of_lt hal)) (Nat.ne_of_lt hal), ⟨⟨.none, he⟩, hit, Nat.succ_ne_self _⟩, fun b hb => ?_, q⟩
    have e' : b = s1.heap.objs.size + 1 ∨ b = s1.heap.objs.size := by simpa using hb
    have hle : s1.heap.objs.size ≤ b := by
      rcases e' with z | z
      · rw [z]; exact Nat.le_add_right _ _
      · rw [z]; exact Nat.le_refl _
    exact I1.fpOk hle (I1.hok.fresh hle)
end LT
namespace E
open PySem PySem.Spec PyProof.Rows L2
variable [KF]
section
variable {X : Cx} {sl : List Sl} {ms : List Ob} {pos p : Pos} {e : Expr} {ta : TE}
theorem ei_enumT {Kf : PySem.W.Frag} {K : List D → Prop} (h : Er sl ms ta fun x => ∃ ds, x = .tup ds ∧ K (enumD ds)) : Ei sl ms (LT.iEnumT Kf (tCons ta tNil)) none K := ⟨nofx, fun ho F0 H0 F ps ex σ H a Rr q =>
  h ho F0 H0 F ps ex σ H a _ fun v d F1 H1 ⟨ds, e, k⟩ a1 => by
    subst e
    obtain ⟨p, xs, rfl, ha, hl⟩ : ∃ p xs, v = .ref p ∧ F1 p = some (.tup xs) ∧ DnL F1 xs ds := by cases a1.top with | tup ha hl => exact ⟨_, _, rfl, ha, hl⟩
    refine ⟨p, xs, rfl, sq_t a1.fh ha, q _ F1 H1 [(.ref p, .d (.tup ds))] _ ⟨_, rfl, k⟩ a1 fun ps' F2 H2 e2 hp _ => ?_⟩
    cases hp _ (List.mem_singleton.mpr rfl) with
    | d hp =>
      cases hp with
      | @tup _ ys _ ha hl =>
        refine ⟨fun i d hd => ?_, ys, sq_t e2 ha, by rw [hl.len, List.length_map, enumFrom_len]⟩
        obtain ⟨d, hw, rfl⟩ := walk_d hd; have hd := hw
        obtain ⟨z, hz, rfl⟩ := enumD_get hd
        obtain ⟨x, hx, hxd⟩ := hl.get i hz
        refine ⟨⟨ys, x, sq_t e2 ha, hx⟩, fun y H3 hy => ?_⟩
        obtain ⟨T, x', rfl, hT, rfl, hy⟩ := hy
        have w := hy ys (sq_t e2 ha)
        rw [hx] at w; cases w
        have ef := Ex.new (o := HO.tup [.int (i : Nat), x]) (e2.none hT)
        exact ⟨_, Ext.new e2 hT, .d (.tup upd_same (.cons (.int _) (.cons (hxd.mono ef) .nil)))⟩⟩
theorem ji_enumT {elts kk tpos} {K : List D → Prop} (hm : X.mg "enumerate" = none) (h : Er sl ms (wE X e) fun x => ∃ ds, x = .tup ds ∧ K (enumD ds)) (hg : Gl X "enumerate" := by rfl) (hs : starEach [e] X.env = [(false, eval e X.env)] := by rfl) (hs2 : starEach [e] X.env = (false, eval e X.env) :: starEach [] X.env := by rfl) :
    Ei sl ms (wI X (.Tuple elts kk tpos) (.Call (.Name "enumerate" p) [e] [] pos)) none K := Ei.of (LT.pi_enumT hg hm (pa_cons pe_w pa_nil hs2) hs) (ei_enumT h)
end
end E
set_option Elab.async false
set_option linter.all false
set_option maxRecDepth 100000
/-! data as PyData: repr, min, equality; sets of ints; tuples from behind -/
namespace E
open PySem PySem.Spec PyProof.Rows L2
variable [KF]

mutual
def toP : D → PyData
  | .non => .none
  | .bl b => .bool b
  | .int i => .int i
  | .str s => .str s
  | .tup l => .tuple (toPs l)
  | .lst l => .list (toPs l)
  | .dic => .dict []
  | .kon _ l => .tuple (l.map .str)
def toPs : List D → List PyData
  | [] => []
  | d :: l => toP d :: toPs l
end
theorem toPs_map : ∀ l : List D, toPs l = l.map toP
  | [] => rfl
  | d :: l => by rw [toPs, toPs_map l]; rfl

section
variable {X : Cx} {pins : List (Addr × Obj)} {σ : L2.St} {H F : Hp} {s : Shared}
theorem dic_at (I : Inv X pins σ H s) {a : Addr} (h : H a = some (.dK [])) : (a == sysModules) = false ∧ ∃ o es n, s.heap.get? a = some o ∧ o.cls = .type "dict" ∧ o.data = .dict es n ∧ es.toList = [] := by
  obtain ⟨_, hd, vs, rel, o, es, ep, h1, h2, h3, _, h5, _⟩ := dk_of I.hok h
  refine ⟨hd, o, es, ep, h1, h2.1, h3, ?_⟩
  have hv : vs = [] := by cases rel; rfl
  subst hv
  generalize es.toList = l at h5
  cases h5
  rfl
theorem strs_reads : ∀ {l : List Str} {us : List Value}, Vals (l.map V.str) us → ∃ as, ReadsAll s.heap us (l.map PyData.str) as
  | [], _, .nil => ⟨_, ReadsAll.nil⟩
  | x :: l, _, .cons r t => by
    obtain ⟨tk, rfl⟩ := r
    obtain ⟨as, q⟩ := strs_reads t
    exact ⟨_, ReadsAll.cons (Reads.str x tk) q⟩
mutual
theorem Dn.reads [k : KonK X.K] (I : Inv X pins σ H s) (e : Ex F H) : ∀ {v : V} {d : D} {u : Value}, Dn F v d → RelV v u → ∃ as, Reads s.heap u (toP d) as
  | _, _, _, .non, r => by
    cases r
    exact ⟨_, Reads.none⟩
  | _, _, _, .bl b, r => by
    cases r
    exact ⟨_, Reads.bool b⟩
  | _, _, _, .int i, r => by
    obtain ⟨t, rfl⟩ := r
    exact ⟨_, Reads.int i t⟩
  | _, _, _, .str x, r => by
    obtain ⟨t, rfl⟩ := r
    exact ⟨_, Reads.str x t⟩
  | _, _, _, .tup h l, r => by
    cases r
    obtain ⟨its, rv, ⟨o, ho, hc, n, hd⟩, _⟩ := I.tuple (sq_t e h)
    obtain ⟨as, hr⟩ := DnL.readsAll I e l rv
    exact ⟨_, by rw [toP]; exact Reads.tuple ho hc hd hr⟩
  | _, _, _, .lst h l, r => by
    cases r
    obtain ⟨its, rv, ⟨o, n, ho, hc, _, hd⟩, _⟩ := I.list (sq_l e h)
    obtain ⟨as, hr⟩ := DnL.readsAll I e l rv
    exact ⟨_, by rw [toP]; exact Reads.list ho hc hd hr⟩
  | _, _, _, .dic h, r => by
    cases r
    obtain ⟨_, o, es, n, h1, h2, h3, h4⟩ := dic_at I (e _ _ h)
    exact ⟨_, by rw [toP]; exact Reads.dict (kvs := []) h1 h2 h3 (by rw [h4]; exact .nil) (by rw [h4]; exact .nil)⟩
  | _, _, _, .kon h, r => by
    cases r
    obtain ⟨its, rv, ⟨o, ho, hc, n, hd⟩, _⟩ := I.tuple (kon_sq (H := H) h)
    obtain ⟨as, hr⟩ := strs_reads rv
    exact ⟨_, by rw [toP]; exact Reads.tuple ho hc hd hr⟩
theorem DnL.readsAll [k : KonK X.K] (I : Inv X pins σ H s) (e : Ex F H) : ∀ {vs : List V} {ds : List D} {us : List Value}, DnL F vs ds → Vals vs us → ∃ as, ReadsAll s.heap us (toPs ds) as
  | _, _, _, .nil, r => by
    cases r
    exact ⟨_, by rw [toPs]; exact ReadsAll.nil⟩
  | _, _, _, .cons h l, r => by
    cases r with
    | cons r1 r2 =>
      obtain ⟨as, q1⟩ := Dn.reads I e h r1
      obtain ⟨bs, q2⟩ := DnL.readsAll I e l r2
      exact ⟨_, by rw [toPs]; exact ReadsAll.cons q1 q2⟩
end
theorem strs_repr {prog : Program} {w : World} : ∀ {l : List Str} {us : List Value}, Vals (l.map V.str) us → (∀ t ∈ PyData.shownAll (l.map PyData.str), t.length ≤ sizeLine) →
    ∃ bs, ReadAtMost s.heap (PyData.depthAll (l.map PyData.str)) bs ∧ ReprAllK prog w bs s.heap (PyData.depthAll (l.map PyData.str)) us (PyData.shownAll (l.map PyData.str))
  | [], _, .nil, _ => ⟨[], (fun _ h => nomatch h), by simp only [List.map_nil, PyData.shownAll]; exact .nil⟩
  | x :: l, _, .cons r t, hz => by
    obtain ⟨tk, rfl⟩ := r
    have hx : (PyData.str x).shown.length ≤ sizeLine := hz _ (by simp [PyData.shownAll])
    obtain ⟨b2, h2, k2⟩ := strs_repr (prog := prog) (w := w) t (fun t ht => hz t (by simp [PyData.shownAll, ht]))
    refine ⟨b2, ?_, ?_⟩
    · exact h2.mono (by simp only [List.map_cons, PyData.depthAll]; omega)
    · simp only [List.map_cons, PyData.shownAll, PyData.depthAll]
      exact .cons (by simp only [PyData.shown]; exact .of_is (ReprIs.str x tk (by simpa only [PyData.shown] using hx)) _ _ _) (k2.more_le (fun b hb => hb) (by omega))
theorem dictText_nil : dictText [] = ("{}" : Str) := by decide +kernel
mutual
theorem Dn.repr [k : KonK X.K] (I : Inv X pins σ H s) (e : Ex F H) {prog : Program} {w : World} : ∀ {v : V} {d : D} {u : Value}, Dn F v d → RelV v u → (toP d).showable = true → (toP d).shown.length ≤ sizeLine → ∃ bs, ReadAtMost s.heap (toP d).depth bs ∧ ReprK prog w bs s.heap (toP d).depth u (toP d).shown
  | _, _, _, .non, r, _, _ => by
    cases r
    exact ⟨[], (fun _ h => nomatch h), by simp only [toP, PyData.shown]; exact .of_is ReprIs.none _ _ _⟩
  | _, _, _, .bl b, r, _, _ => by
    cases r
    exact ⟨[], (fun _ h => nomatch h), by simp only [toP, PyData.shown]; exact .of_is (ReprIs.bool b) _ _ _⟩
  | _, _, _, .int i, r, hs, _ => by
    obtain ⟨t, rfl⟩ := r
    exact ⟨[], (fun _ h => nomatch h), by simp only [toP, PyData.shown]; exact .of_is (ReprIs.int t (by simpa [toP, PyData.showable] using hs)) _ _ _⟩
  | _, _, _, .str x, r, _, hz => by
    obtain ⟨t, rfl⟩ := r
    exact ⟨[], (fun _ h => nomatch h), by simp only [toP, PyData.shown]; exact .of_is (ReprIs.str x t (by simpa only [toP, PyData.shown] using hz)) _ _ _⟩
  | _, _, _, .tup (a := a) (ds := ds) h l, r, hs, hz => by
    cases r
    obtain ⟨its, rv, ⟨o, ho, hc, n, hd⟩, _⟩ := I.tuple (sq_t e h)
    have hz' : (tupleText (PyData.shownAll (toPs ds))).length ≤ sizeLine := by simpa only [toP, PyData.shown] using hz
    obtain ⟨bs, hb, hk⟩ := DnL.reprAll I e (prog := prog) (w := w) l rv (by simpa [toP, PyData.showable] using hs) (fun t ht => Nat.le_trans (tupleText_mem_le ht) hz')
    obtain ⟨as, hr⟩ := DnL.readsAll I e l rv
    have r : Reads s.heap (.ref a) (.tuple (toPs ds)) _ := .tuple ho hc hd hr
    have hna : a ∉ bs := not_mem_of_deeper r (by simp only [PyData.depth]; omega) hb
    refine ⟨a :: bs, ?_, ?_⟩
    · rw [toP]; exact ReadAtMost.cons r (by simp only [PyData.depth]; omega) hb
    · simp only [toP, PyData.depth, PyData.shown]
      exact ReprK.tuple ho hc hd hna hk
  | _, _, _, .lst (a := a) (ds := ds) h l, r, hs, hz => by
    cases r
    obtain ⟨its, rv, ⟨o, n, ho, hc, _, hd⟩, _⟩ := I.list (sq_l e h)
    have hz' : (listText (PyData.shownAll (toPs ds))).length ≤ sizeLine := by simpa only [toP, PyData.shown] using hz
    obtain ⟨bs, hb, hk⟩ := DnL.reprAll I e (prog := prog) (w := w) l rv (by simpa [toP, PyData.showable] using hs) (fun t ht => Nat.le_trans (listText_mem_le ht) hz')
    obtain ⟨as, hr⟩ := DnL.readsAll I e l rv
    have r : Reads s.heap (.ref a) (.list (toPs ds)) _ := .list ho hc hd hr
    have hna : a ∉ bs := not_mem_of_deeper r (by simp only [PyData.depth]; omega) hb
    refine ⟨a :: bs, ?_, ?_⟩
    · rw [toP]; exact ReadAtMost.cons r (by simp only [PyData.depth]; omega) hb
    · simp only [toP, PyData.depth, PyData.shown]
      cases its with
      | nil =>
        cases rv
        cases l
        simp only [toPs, PyData.shownAll, listText_nil]
        exact ReprK.listEmpty ho hc hd
      | cons x its => exact ReprK.list ho hc hd hna (by simpa using hk.length_eq) (fun i y e => hk.item i y (by simpa using e))
  | _, _, _, .dic (a := a) h, r, _, _ => by
    cases r
    obtain ⟨hsy, o, es, n, h1, h2, h3, h4⟩ := dic_at I (e _ _ h)
    have r : Reads s.heap (.ref a) (.dict []) _ := Reads.dict (kvs := []) h1 h2 h3 (by rw [h4]; exact .nil) (by rw [h4]; exact .nil)
    refine ⟨[a], ?_, ?_⟩
    · rw [toP]; exact ReadAtMost.cons r (Nat.zero_le _) (fun _ h => nomatch h)
    · simp only [toP, PyData.depth, PyData.shown, PyData.shownKv, PyData.depthKv]
      exact ReprK.dict (as := []) h1 h2 h3 hsy (by simp) (by rw [h4]; exact .nil)
  | _, _, _, .kon (a := a) (l := l) h, r, hs, hz => by
    cases r
    obtain ⟨its, rv, ⟨o, ho, hc, n, hd⟩, _⟩ := I.tuple (kon_sq (H := H) h)
    have hz' : (tupleText (PyData.shownAll (l.map PyData.str))).length ≤ sizeLine := by simpa only [toP, PyData.shown] using hz
    obtain ⟨bs, hb, hk⟩ := strs_repr (prog := prog) (w := w) rv (fun t ht => Nat.le_trans (tupleText_mem_le ht) hz')
    obtain ⟨as, hr⟩ := strs_reads rv
    have r : Reads s.heap (.ref a) (.tuple (l.map PyData.str)) _ := .tuple ho hc hd hr
    have hna : a ∉ bs := not_mem_of_deeper r (by simp only [PyData.depth]; omega) hb
    refine ⟨a :: bs, ?_, ?_⟩
    · rw [toP]; exact ReadAtMost.cons r (by simp only [PyData.depth]; omega) hb
    · simp only [toP, PyData.depth, PyData.shown]
      exact ReprK.tuple ho hc hd hna hk
theorem DnL.reprAll [k : KonK X.K] (I : Inv X pins σ H s) (e : Ex F H) {prog : Program} {w : World} : ∀ {vs : List V} {ds : List D} {us : List Value}, DnL F vs ds → Vals vs us → PyData.showableAll (toPs ds) = true → (∀ t ∈ PyData.shownAll (toPs ds), t.length ≤ sizeLine) →
    ∃ bs, ReadAtMost s.heap (PyData.depthAll (toPs ds)) bs ∧ ReprAllK prog w bs s.heap (PyData.depthAll (toPs ds)) us (PyData.shownAll (toPs ds))
  | _, _, _, .nil, r, _, _ => by
    cases r
    exact ⟨[], (fun _ h => nomatch h), by simp only [toPs, PyData.shownAll]; exact .nil⟩
  | _, _, _, .cons (d := d) (ds := ds) h l, r, hs, hz => by
    cases r with
    | cons r1 r2 =>
      have hs' : (toP d).showable = true ∧ PyData.showableAll (toPs ds) = true := by simpa [toPs, PyData.showableAll] using hs
      obtain ⟨b1, h1, k1⟩ := Dn.repr I e (prog := prog) (w := w) h r1 hs'.1 (hz _ (by simp [toPs, PyData.shownAll]))
      obtain ⟨b2, h2, k2⟩ := DnL.reprAll I e (prog := prog) (w := w) l r2 hs'.2 (fun t ht => hz t (by simp [toPs, PyData.shownAll, ht]))
      refine ⟨b1 ++ b2, ?_, ?_⟩
      · exact (h1.mono (by simp only [toPs, PyData.depthAll]; omega)).append (h2.mono (by simp only [toPs, PyData.depthAll]; omega))
      · simp only [toPs, PyData.shownAll, PyData.depthAll]
        exact .cons ((k1.more fun b hb => List.mem_append_left _ hb).level_le (by omega)) (k2.more_le (fun b hb => List.mem_append_right _ hb) (by omega))
end
end
/-- what may be shown -/
structure Shw (d : D) : Prop where
  sh : (toP d).showable = true
  sz : (toP d).shown.length ≤ sizeLine
  dp : (toP d).depth ≤ 60
def rRepr : List V → Hp → VK → Prop := fun xs H Q => ∃ F v d, xs = [v] ∧ Ex F H ∧ Dn F v d ∧ Shw d ∧ Q (.str (toP d).shown) H
section
variable {X : Cx}
theorem cr_repr [k : KonK X.K] (hg : X.A.guards = some []) (hu : X.A.units + 64 < cLine) : CallR X (.builtin "repr") rRepr := by
  intro pins s σ H xs us Q I r h
  obtain ⟨F, v, d, rfl, e, dn, sw, q⟩ := h
  obtain ⟨u, rfl, rv⟩ := r.one
  have fin : ∀ h' t tk, (∀ b o, s.heap.get? b = some o → h'.get? b = some o) → EP X pins σ Q (.str (toP d).shown t) { s with heap := h', toks := tk } := fun h' t tk k => ⟨.str _, H, I.kept k, ⟨t, rfl⟩, q⟩
  have fin0 : ∀ t tk, EP X pins σ Q (.str (toP d).shown t) { s with toks := tk } := fun t tk => fin s.heap t tk fun _ _ e => e
  have hd := sw.dp
  have hrd := dn.reads I e rv
  cases dn with
  | non => cases rv; exact PySem.P.repr_of_none (by simpa only [toP, PyData.shown] using fin0 _ _)
  | bl b => cases rv; exact PySem.P.repr_of_bool (by simpa only [toP, PyData.shown] using fin0 _ _)
  | int i => obtain ⟨t, rfl⟩ := rv; exact PySem.P.repr_of_int (by simpa [toP, PyData.showable] using sw.sh) (by simpa only [toP, PyData.shown] using fin0 _ _)
  | str x => obtain ⟨t, rfl⟩ := rv; exact PySem.P.repr_of_str (by simpa only [toP, PyData.shown] using fin0 _ _) (by simpa only [toP, PyData.shown] using sw.sz)
  | @tup a xs ds h l =>
    cases rv
    obtain ⟨its, rv, ⟨o, ho, hc, n, hdd⟩, _⟩ := I.tuple (sq_t e h)
    have hz' : (tupleText (PyData.shownAll (toPs ds))).length ≤ sizeLine := by simpa only [toP, PyData.shown] using sw.sz
    obtain ⟨bs, hb, hk⟩ := DnL.reprAll I e (prog := X.prog) (w := X.w) l rv (by simpa [toP, PyData.showable] using sw.sh) (fun t ht => Nat.le_trans (tupleText_mem_le ht) hz')
    obtain ⟨as, hr⟩ := DnL.readsAll I e l rv
    have r : Reads s.heap (.ref a) (.tuple (toPs ds)) _ := .tuple ho hc hdd hr
    have hna : a ∉ bs := not_mem_of_deeper r (by simp only [PyData.depth]; omega) hb
    have hd' : PyData.depthAll (toPs ds) + 1 ≤ 60 := by simpa only [toP, PyData.depth] using hd
    refine call_repr_slot (by omega) (show s.TypeIs (.ref a) "tuple" from ⟨o, ho, hc⟩) PySem.F.slot_tuple_repr ?_
    refine call_tuple_reprK ho hc hdd hna hk hg (fun b _ => Clear.nil b) (by show X.A.units + 1 + _ < cLine; omega) (fun _ _ e => e) (fun h' t tk k => ⟨_, _, rfl, ?_⟩) hz'
    simpa only [toP, PyData.shown] using fin h' t tk k
  | @kon a l h =>
    cases rv
    obtain ⟨its, rv, ⟨o, ho, hc, n, hdd⟩, _⟩ := I.tuple (kon_sq (H := H) h)
    have hz' : (tupleText (PyData.shownAll (l.map PyData.str))).length ≤ sizeLine := by simpa only [toP, PyData.shown] using sw.sz
    obtain ⟨bs, hb, hk⟩ := strs_repr (prog := X.prog) (w := X.w) rv (fun t ht => Nat.le_trans (tupleText_mem_le ht) hz')
    obtain ⟨as, hr⟩ := strs_reads rv
    have r : Reads s.heap (.ref a) (.tuple (l.map PyData.str)) _ := .tuple ho hc hdd hr
    have hna : a ∉ bs := not_mem_of_deeper r (by simp only [PyData.depth]; omega) hb
    have hd' : PyData.depthAll (l.map PyData.str) + 1 ≤ 60 := by simpa only [toP, PyData.depth] using hd
    refine call_repr_slot (by omega) (show s.TypeIs (.ref a) "tuple" from ⟨o, ho, hc⟩) PySem.F.slot_tuple_repr ?_
    refine call_tuple_reprK ho hc hdd hna hk hg (fun b _ => Clear.nil b) (by show X.A.units + 1 + _ < cLine; omega) (fun _ _ e => e) (fun h' t tk k => ⟨_, _, rfl, ?_⟩) hz'
    simpa only [toP, PyData.shown] using fin h' t tk k
  | @lst a xs ds h l =>
    cases rv
    obtain ⟨its, rv, ⟨o, n, ho, hc, _, hdd⟩, _⟩ := I.list (sq_l e h)
    have hz' : (listText (PyData.shownAll (toPs ds))).length ≤ sizeLine := by simpa only [toP, PyData.shown] using sw.sz
    obtain ⟨bs, hb, hk⟩ := DnL.reprAll I e (prog := X.prog) (w := X.w) l rv (by simpa [toP, PyData.showable] using sw.sh) (fun t ht => Nat.le_trans (listText_mem_le ht) hz')
    obtain ⟨as, hr⟩ := DnL.readsAll I e l rv
    have r : Reads s.heap (.ref a) (.list (toPs ds)) _ := .list ho hc hdd hr
    have hna : a ∉ bs := not_mem_of_deeper r (by simp only [PyData.depth]; omega) hb
    have hd' : PyData.depthAll (toPs ds) + 1 ≤ 60 := by simpa only [toP, PyData.depth] using hd
    refine call_repr_slot (by omega) (show s.TypeIs (.ref a) "list" from ⟨o, ho, hc⟩) PySem.F.slot_list_repr.toG ?_
    cases its with
    | nil =>
      cases rv
      cases l
      simp only [toP, toPs, PyData.shown, PyData.shownAll, listText_nil] at fin
      exact call_list_repr_empty ⟨o, ho, hc⟩ ho hdd ⟨_, _, rfl, fin s.heap _ _ fun _ _ e => e⟩
    | cons x its =>
      refine call_list_reprK ho hc hdd hna (by simpa using hk.length_eq) (fun i y e => hk.item i y (by simpa using e)) hg (fun b _ => Clear.nil b) (by show X.A.units + 1 + _ < cLine; omega) (fun _ _ e => e) (fun h' t tk k => ⟨_, _, rfl, ?_⟩) hz'
      simpa only [toP, PyData.shown] using fin h' t tk k
  | @dic a h =>
    cases rv
    obtain ⟨hsy, o, es, n, h1, h2, h3, h4⟩ := dic_at I (e _ _ h)
    refine call_repr_slot (by omega) (show s.TypeIs (.ref a) "dict" from ⟨o, h1, h2⟩) PySem.F.slot_dict_repr ?_
    refine call_dict_reprK (as := []) (d := 0) (ps := []) h1 h2 h3 hsy (by simp) (by rw [h4]; exact .nil) hg (fun b _ => Clear.nil b) (by show X.A.units + 1 + _ < cLine; omega) (fun _ _ e => e) (fun h' t tk k => ⟨_, _, rfl, ?_⟩) (by rw [dictText_nil]; decide +kernel)
    simpa only [toP, PyData.shown, PyData.shownKv] using fin h' t tk k
end
end E
namespace E
open PySem PySem.Spec PyProof.Rows L2
variable [KF]
section
variable {prog : Program} {w : World} {A : Around} {E : Value → Shared → Prop} {s : Shared}
theorem rev_pick (xs : Array Value) : ((List.range xs.size).filterMap fun (m : Nat) => xs[(((xs.size : Int) - 1) + (m : Int) * (-1)).toNat]?).toArray = xs.toList.reverse.toArray := by
  have e : ∀ m ∈ List.range xs.size, xs[(((xs.size : Int) - 1) + (m : Int) * (-1)).toNat]? = xs[xs.size - 1 - m]? := fun m hm => by
    have := List.mem_range.mp hm
    rw [show (((xs.size : Int) - 1) + (m : Int) * (-1)).toNat = xs.size - 1 - m by omega]
  have congr : ∀ {l : List Nat} {f g : Nat → Option Value}, (∀ m ∈ l, f m = g m) → l.filterMap f = l.filterMap g := by
    intro l f g h
    induction l with
    | nil => rfl
    | cons a l ih => rw [List.filterMap_cons, List.filterMap_cons, h a List.mem_cons_self, ih fun m hm => h m (List.mem_cons_of_mem _ hm)]
  have h2 : (List.range xs.size).filterMap (fun (m : Nat) => xs[(((xs.size : Int) - 1) + (m : Int) * (-1)).toNat]?) = ((List.range xs.size).map fun k => xs.size - 1 - k).filterMap (xs[·]?) := by
    rw [List.filterMap_map]
    exact congr e
  rw [h2, PySem.W.krv_range, List.filterMap_reverse, PySem.W.krv_all]
theorem getItem_tuple_rev {t sl : Addr} {items : Array Value} {vs : Value} {Q : Value → Shared → Prop} (ht : IsTup s.heap t items) (hs : s.heap.IsSliceOf sl .none .none vs) (ps : IsPart vs (some (-1))) (hne : 1 ≤ items.size)
    (h : Q (.ref s.heap.objs.size) { s with heap := s.heap.push { cls := .type "tuple", data := .seq items.toList.reverse.toArray } })
    (hsz : items.size ≤ sizeLine) : wpAny (model prog w) A (getItem (.ref t) (.ref sl)) Q E s := by
  have htake : sizeOk (.seq items.toList.reverse.toArray) := by
    show items.toList.reverse.toArray.size ≤ sizeLine
    rw [List.size_toArray, List.length_reverse, Array.length_toList]
    omega
  obtain ⟨os, hos, hcs, hds⟩ := id hs
  have hTs : s.TypeIs (.ref sl) "slice" := ⟨os, hos, hcs⟩
  unfold getItem
  try with_reducible refine wpAny_holding ?_
  first | refine wpAny_bind (wpAny_pure ?_) | skip
  refine wpAny_bind (wpAny_sequenceKey ht.typeIs (by decide) ?_)
  refine wpAny_bind (wpAny_callSpecial?_slot (name := Str.ofString "__getitem__") ht.typeIs PyProof.Rows.slot_tuple_getitem
    (wpAny_call_entry PyProof.Rows.slot_tuple_getitem ht.typeIs entry_tuple_getitem ?_ (args_tuple_getitem _ _)))
  show wpAny _ _ (Builtin.Tuple.tupleItemsOf (.ref t) >>= _) _ _ s
  refine wpAny_bind (tupleItemsOf_ ht ?_)
  refine wpAny_bind (wpAny_typeOf hTs ?_)
  rw [if_pos (by decide)]
  have happ : ∀ {Q : Int × Int × Nat → Shared → Prop} {A : Around} {E : Value → Shared → Prop}, Q ((items.size : Int) - 1, -1, items.size) s → wpAny (model prog w) A (Builtin.Slice.sliceApplied (.ref sl) (pure (items.size : Int))) Q E s := fun {Q A E} h => by
    unfold Builtin.Slice.sliceApplied Builtin.Slice.sliceFields
    refine wpAny_bind (wpAny_bind (wpAny_field hos hds (x := .none) rfl (wpAny_bind (wpAny_field hos hds (x := .none) rfl (wpAny_bind (wpAny_field hos hds (x := vs) rfl (wpAny_pure ?_)))))))
    refine wpAny_bind (HT.slicePart_ ps ?_)
    show wpAny _ _ (if ((-1 : Int) == 0) = true then _ else _) _ _ s
    rw [if_neg (by decide)]
    refine wpAny_bind (HT.slicePart_ .none (wpAny_bind (HT.slicePart_ .none (wpAny_bind (wpAny_pure ?_)))))
    show wpAny _ _ (match Builtin.Slice.sliceAdjust none none (-1) (items.size : Int) with | (lo, hi) => pure (lo, (-1 : Int), Builtin.Slice.slicePlaces lo hi (-1))) _ _ s
    rw [show Builtin.Slice.sliceAdjust none none (-1) (items.size : Int) = ((items.size : Int) - 1, -1) by rfl]
    show wpAny _ _ (pure ((items.size : Int) - 1, (-1 : Int), Builtin.Slice.slicePlaces ((items.size : Int) - 1) (-1) (-1))) _ _ s
    rw [show Builtin.Slice.slicePlaces ((items.size : Int) - 1) (-1) (-1) = items.size by
      unfold Builtin.Slice.slicePlaces
      simp
      omega]
    exact wpAny_pure h
  refine wpAny_bind (happ ?_)
  have hno : ¬ ((((items.size : Int) - 1) == 0 && (-1 : Int) == 1 && items.size == items.size) = true) := by
    intro q
    rw [Bool.and_eq_true, Bool.and_eq_true] at q
    exact absurd q.1.2 (by decide)
  show wpAny _ _ (if (((items.size : Int) - 1) == 0 && (-1 : Int) == 1 && items.size == items.size) = true then _ else _) _ _ s
  rw [if_neg hno, rev_pick]
  first
    | exact wpAny_bind (m := Builtin.Tuple.tupleExact _) (wpAny_newObj_type (wpAny_pure ⟨_, rfl, wpAny_pure h⟩) htake)
    | exact wpAny_bind (m := Builtin.Tuple.tupleExact _) (wpAny_newObj_type (wpAny_bind (wpAny_pure (wpAny_pure ⟨_, rfl, wpAny_pure h⟩))) htake)
    | exact wpAny_bind (wpAny_bind (m := Builtin.Tuple.tupleExact _) (wpAny_newObj_type (wpAny_pure (wpAny_pure ⟨_, rfl, wpAny_pure h⟩)) htake))
    | exact wpAny_bind (wpAny_bind (m := Builtin.Tuple.tupleExact _) (wpAny_newObj_type (wpAny_pure ⟨_, rfl, wpAny_pure h⟩) htake))
end
def tRevT (K : PySem.W.Frag) (te : TE) : TE := fun σ H Q => te σ H fun x H1 => ∃ a xs, x = .ref a ∧ SqT K H1 a xs ∧ 1 ≤ xs.length ∧ ∀ p, H1 p = none → Q (.ref p) (upd H1 p (.tup xs.reverse))
theorem pe_revT {X : Cx} {e : Expr} {te : TE} {k : Nat} {p1 p2 p3 pos : Pos} (he : PE X e te) : PE X (.Subscript e (.Slice none none (some (.UnaryOp .USub (.Constant (.int 1) k p1) p2)) p3) pos) (tRevT X.K te) := by
  refine ⟨fun pins s σ H Q I h => ?_⟩
  refine Subscript_ (thn (he.run pins s σ H _ I h) fun v s1 ⟨x, H1, I1, r1, q1⟩ => ?_)
  obtain ⟨a, xs, ex, hx, hne, q⟩ := q1
  subst ex
  cases r1
  have hst : PO X (some (.UnaryOp .USub (.Constant (.int 1) k p1) p2)) (tPart (tUn (rU fun i => .int (-i)) (tC (.int 1)))) := po_some (pe_un un_neg pe_int)
  refine wpAny_Slice (thn (po_none.run pins s1 σ H1 (fun o H2 => o = none ∧ H2 = H1) I1 ⟨rfl, rfl⟩) fun vl s2 ⟨l, H2, I2, pl, el, e2⟩ => ?_)
  subst el e2
  refine thn (po_none.run pins s2 σ H2 (fun o H3 => o = none ∧ H3 = H2) I2 ⟨rfl, rfl⟩) fun vu s3 ⟨u, H3, I3, pu, eu, e3⟩ => ?_
  subst eu e3
  refine thn (hst.run pins s3 σ H3 (fun o H4 => o = some (-1) ∧ H4 = H3) I3 ⟨1, rfl, -1, rfl, rfl, rfl⟩) fun vs s4 ⟨o, H4, I4, ps, eo, e4⟩ => ?_
  subst eo e4
  have I5 : Inv X pins σ H4 { s4 with heap := s4.heap.push { cls := .type "slice", data := .fields #[vl, vu, vs] } } := I4.kept (t' := s4.toks) fun b ob q => Heap.get?_push_of_some _ q
  obtain ⟨its, r, ht, hz⟩ := I5.tuple hx
  have hlen := r.length
  cases pl
  cases pu
  show wpAny (model X.prog X.w) X.A (subscriptTail e (.Slice none none (some (.UnaryOp .USub (.Constant (.int 1) k p1) p2)) p3) (.ref a) (.ref s4.heap.objs.size)) (EP X pins σ Q) X.xe _
  refine tail_any (ops := [.ref a, .ref s4.heap.objs.size]) ht.typeIs (PyProof.Rows.slot_tuple_getitem.lookup) ?_ (by with_unfolding_all rfl)
  refine getItem_tuple_rev ht (Heap.IsSliceOf.new _ .none .none vs) ps (by rw [List.size_toArray]; omega) ?_ (by rw [List.size_toArray]; omega)
  refine ⟨.ref _, _, I5.laid (t' := s4.toks) (o := .tup xs.reverse) (fun b ob q => Heap.get?_push_of_some _ q) (Nat.le_refl _) ?_, rfl, q _ (I5.hok.fresh (Nat.le_refl _))⟩
  exact ⟨by rw [List.length_reverse]; exact hz, _, r.reverse, IsTup.new _ _⟩
end E
set_option Elab.async false
set_option linter.all false
set_option maxRecDepth 100000
/-! repr, min, ==, sorted(set(..)), t[::-1], by the text -/
namespace E
open PySem PySem.Spec PyProof.Rows L2
variable [KF]

section
variable {X : Cx} [KonK X.K] {sl : List Sl} {ms : List Ob} {R : D → Prop} {B : Bool → Prop} {pos p p2 p3 : Pos} {a b c e : Expr} {es rest : List Expr} {x y : Str} {d : D} {O : Out}
theorem j_repr (hr : RoomG 0 X.A) (hm : X.mg "repr" = none) (h : Er sl ms (wE X e) fun x => Shw x ∧ R (.str (toP x).shown)) (hg : Gl X "repr" := by rfl) (he : starEach [e] X.env = (false, eval e X.env) :: starEach [] X.env := by rfl) :
    Er sl ms (wE X (.Call (.Name "repr" p) [e] [] pos)) R := Er.of (pe_callB (cr_repr hr.gu (by have := hr.rm.un; omega)) hg hm (by decide +kernel) (pa_cons pe_w pa_nil he) (he := he)) fun ho F0 H0 F ps ex σ H a Q q => h ho F0 H0 F ps ex σ H a _ fun v d F1 H1 ⟨sw, k⟩ a1 =>
  ⟨F1, v, d, rfl, a1.fh, a1.top, sw, q _ _ F1 H1 k (a1.pop.push (.str _))⟩
theorem j_revT {k : Nat} {p1 p2 p3 pos : Pos} (h : Er sl ms (wE X e) fun x => ∃ ds, x = .tup ds ∧ 1 ≤ ds.length ∧ R (.tup ds.reverse)) : Er sl ms (wE X (.Subscript e (.Slice none none (some (.UnaryOp .USub (.Constant (.int 1) k p1) p2)) p3) pos)) R :=
  Er.of (pe_revT pe_w) fun ho F0 H0 F ps ex σ H a Q q => h ho F0 H0 F ps ex σ H a _ fun v d F1 H1 ⟨ds, e, hn, k⟩ a1 => by
    subst e
    obtain ⟨p, xs, rfl, ha, hl⟩ : ∃ p xs, v = .ref p ∧ F1 p = some (.tup xs) ∧ DnL F1 xs ds := by cases a1.top with | tup ha hl => exact ⟨_, _, rfl, ha, hl⟩
    exact ⟨p, xs, rfl, sq_t a1.fh ha, by rw [hl.len]; exact hn, fun y hy => q _ _ _ _ k ((a1.pop.laid hy).push (.tup upd_same (hl.rev.mono (Ex.new (a1.fh.none hy)))))⟩
/-! ### min -/
def rMinD : List V → Hp → VK → Prop := fun xs H Q => ∃ F v d0 ds, xs = [v] ∧ Ex F H ∧ Dn F v (.lst (d0 :: ds)) ∧ PySem.W.AlikeAll (toPs (d0 :: ds)) ∧ PyData.depthAll (toPs (d0 :: ds)) ≤ 60 ∧
  ∀ (i : Nat) (u : V) (d : D), (d0 :: ds)[i]? = some d → Dn F u d → toP d = PySem.W.minD (toP d0) (toPs ds) → Q u H
theorem cr_minD (hc : X.calm = true) (hu : X.A.units + 64 < cLine) : CallR X (.builtin "min") rMinD := by
  intro pins s σ H xs us Q I r h
  obtain ⟨F, v, d0, ds, rfl, e, dn, al, dp, q⟩ := h
  obtain ⟨u, rfl, rv⟩ := r.one
  cases dn with
  | @lst a xs _ h l =>
    cases rv
    obtain ⟨its, rv, pl, hz⟩ := I.list (sq_l e h)
    obtain ⟨as, hr⟩ := DnL.readsAll I e l rv
    refine PySem.W.min_list_data (I.ok.hd hc) pl.isList hr al (by rw [toPs] at dp; omega) fun i w h' tk bs hi rd k => ?_
    have hi' : its[i]? = some w := by simpa using hi
    have hlt : i < xs.length := by rw [rv.length]; exact (List.getElem?_eq_some_iff.mp hi').1
    obtain ⟨d, hd, hdn⟩ := l.getV i (List.getElem?_eq_getElem hlt)
    obtain ⟨w', hw, rw'⟩ := rv.get (List.getElem?_eq_getElem hlt)
    rw [hi'] at hw; cases hw
    obtain ⟨as', rd'⟩ := hdn.reads I e rw'
    obtain ⟨e1, _⟩ := PyProof.Rows.reads_det (fun b o eo _ => k b o eo) rd' rd
    exact ⟨_, H, I.kept k, rw', q i _ d hd hdn e1.symm⟩
theorem j_minD (hr : RoomG 0 X.A) (hc : X.calm = true) (hm : X.mg "min" = none) (h : Er sl ms (wE X e) fun x => ∃ d0 ds, x = .lst (d0 :: ds) ∧ PySem.W.AlikeAll (toPs (d0 :: ds)) ∧ PyData.depthAll (toPs (d0 :: ds)) ≤ 60 ∧ ∀ (i : Nat) (d : D), (d0 :: ds)[i]? = some d → toP d = PySem.W.minD (toP d0) (toPs ds) → R d)
    (hg : Gl X "min" := by rfl) (he : starEach [e] X.env = (false, eval e X.env) :: starEach [] X.env := by rfl) :
    Er sl ms (wE X (.Call (.Name "min" p) [e] [] pos)) R := Er.of (pe_callB (cr_minD hc (by have := hr.rm.un; omega)) hg hm (by decide +kernel) (pa_cons pe_w pa_nil he) (he := he)) fun ho F0 H0 F ps ex σ H a Q q => h ho F0 H0 F ps ex σ H a _ fun v d F1 H1 ⟨d0, ds, e, al, dp, k⟩ a1 => by
  subst e
  exact ⟨F1, v, d0, ds, rfl, a1.fh, a1.top, al, dp, fun i u d hi hd e => q u d F1 H1 (k i d hi e) (a1.pop.push hd)⟩
/-- pairs of whole numbers -/
def pairD (q : Int × Int) : D := .tup [.int q.1, .int q.2]
def pairLe (q r : Int × Int) : Prop := q.1 < r.1 ∨ (q.1 = r.1 ∧ q.2 ≤ r.2)
theorem pair_lt (q r : Int × Int) : PySem.W.dataLt (toP (pairD q)) (toP (pairD r)) = decide (q.1 < r.1 ∨ (q.1 = r.1 ∧ q.2 < r.2)) := by
  simp only [pairD, toP, toPs, PySem.W.dataLt, PySem.W.keyToks, PySem.W.keyToksAll, List.cons_append, List.nil_append, PyProof.Rows.lexLt, PyProof.Rows.itemOrd, PyProof.Rows.itemLt]
  by_cases h1 : q.1 < r.1
  · simp [h1]
  · by_cases h2 : r.1 < q.1
    · have : ¬ q.1 = r.1 := by omega
      simp [h1, h2, this]
    · have : q.1 = r.1 := by omega
      by_cases h3 : q.2 < r.2
      · simp [this, h3]
      · by_cases h4 : r.2 < q.2
        · simp [this, h3, h4]
        · have h5 : q.2 = r.2 := by omega
          simp [this, h5]
theorem pairs_alike (qs : List (Int × Int)) : PySem.W.AlikeAll (toPs (qs.map pairD)) := by
  rw [toPs_map, List.map_map]
  refine ⟨fun x hx y hy => ?_, fun x hx => ?_⟩
  · obtain ⟨q, _, rfl⟩ := List.mem_map.mp hx
    obtain ⟨r, _, rfl⟩ := List.mem_map.mp hy
    simp [pairD, toP, toPs, PySem.W.alike, PySem.W.alikeAll]
  · obtain ⟨q, _, rfl⟩ := List.mem_map.mp hx
    simp [pairD, toP]
theorem pairs_depth : ∀ qs : List (Int × Int), PyData.depthAll (toPs (qs.map pairD)) ≤ 1
  | [] => by simp [toPs, PyData.depthAll]
  | q :: qs => by
    have := pairs_depth qs
    simp only [List.map_cons, toPs, PyData.depthAll, pairD, toP, PyData.depth] at this ⊢
    omega
theorem pair_inj {q r : Int × Int} (h : toP (pairD q) = toP (pairD r)) : q = r := by
  simp only [pairD, toP, toPs] at h
  injection h with h
  injection h with h1 h2
  injection h2 with h2 _
  injection h1 with h1
  injection h2 with h2
  exact Prod.ext h1 h2
theorem minD_pairs : ∀ (qs : List (Int × Int)) (q : Int × Int), ∃ m, m ∈ q :: qs ∧ PySem.W.minD (toP (pairD q)) (toPs (qs.map pairD)) = toP (pairD m) ∧ ∀ r ∈ q :: qs, pairLe m r
  | [], q => ⟨q, List.mem_cons_self, rfl, fun r hr => by
    have : r = q := by simpa using hr
    subst this
    exact .inr ⟨rfl, Int.le_refl _⟩⟩
  | r :: qs, q => by
    have step : ∀ z, PySem.W.minD (toP (pairD q)) (toPs ((r :: qs).map pairD)) = z ↔ PySem.W.minD (if PySem.W.dataLt (toP (pairD r)) (toP (pairD q)) then toP (pairD r) else toP (pairD q)) (toPs (qs.map pairD)) = z := fun z => by
      simp [toPs, PySem.W.minD]
    rw [pair_lt] at step
    by_cases h : r.1 < q.1 ∨ (r.1 = q.1 ∧ r.2 < q.2)
    · obtain ⟨m, hm, e, hl⟩ := minD_pairs qs r
      refine ⟨m, List.mem_cons_of_mem _ hm, (step _).mpr (by rw [decide_eq_true h, if_pos rfl]; exact e), fun z hz => ?_⟩
      rcases List.mem_cons.mp hz with rfl | hz
      · have := hl r List.mem_cons_self
        unfold pairLe at this ⊢
        omega
      · exact hl z hz
    · obtain ⟨m, hm, e, hl⟩ := minD_pairs qs q
      refine ⟨m, ?_, (step _).mpr (by rw [decide_eq_false h, if_neg Bool.false_ne_true]; exact e), fun z hz => ?_⟩
      · rcases List.mem_cons.mp hm with rfl | hm
        · exact List.mem_cons_self
        · exact List.mem_cons_of_mem _ (List.mem_cons_of_mem _ hm)
      · rcases List.mem_cons.mp hz with rfl | hz
        · exact hl _ List.mem_cons_self
        · rcases List.mem_cons.mp hz with rfl | hz
          · have := hl q List.mem_cons_self
            unfold pairLe at this ⊢
            omega
          · exact hl z (List.mem_cons_of_mem _ hz)
theorem j_minPairs (hr : RoomG 0 X.A) (hc : X.calm = true) (hm : X.mg "min" = none) (h : Er sl ms (wE X e) fun x => ∃ qs : List (Int × Int), x = .lst (qs.map pairD) ∧ qs ≠ [] ∧ ∀ m ∈ qs, (∀ r ∈ qs, pairLe m r) → R (pairD m))
    (hg : Gl X "min" := by rfl) (he : starEach [e] X.env = (false, eval e X.env) :: starEach [] X.env := by rfl) : Er sl ms (wE X (.Call (.Name "min" p) [e] [] pos)) R := by
  refine j_minD hr hc hm (h.mono fun x ⟨qs, e, hne, k⟩ => ?_) hg he
  cases qs with
  | nil => exact absurd rfl hne
  | cons q qs =>
    refine ⟨pairD q, qs.map pairD, e, pairs_alike (q :: qs), Nat.le_trans (pairs_depth (q :: qs)) (by decide), fun i d hi hd => ?_⟩
    obtain ⟨m, hm, em, hl⟩ := minD_pairs qs q
    have hi' : ((q :: qs).map pairD)[i]? = some d := hi
    rw [List.getElem?_map] at hi'
    cases hq : (q :: qs)[i]? with
    | none => rw [hq] at hi'; cases hi'
    | some z =>
      rw [hq] at hi'; cases hi'
      rw [em] at hd
      rw [pair_inj hd]
      exact k m hm hl
/-! ### data alike or not -/
def rNeA : L2.R2 := fun x y H Q => ∃ F d e, Ex F H ∧ Dn F x d ∧ Dn F y e ∧ SeqAt.shaped (toP d) = true ∧ SeqAt.shaped (toP e) = true ∧ Q (.bl (!PyData.eqv (toP d) (toP e))) H
theorem op_neA (hu : X.A.units + 64 < cLine) : OpR X (compareOp .NotEq) rNeA := by
  intro pins s σ H x y v u Q I rx ry h
  obtain ⟨F, d, e, ef, hd, he, sd, se, q⟩ := h
  obtain ⟨as, r1⟩ := hd.reads I ef rx
  obtain ⟨bs, r2⟩ := he.reads I ef ry
  exact SeqAt.compareNe_shaped r1 r2 sd se hu ⟨.bl _, H, I, rfl, q⟩
theorem jt_neA (hr : RoomG 0 X.A) (h : Er sl ms (wE X a) fun x => Er sl ms (wE X b) fun y => SeqAt.shaped (toP x) = true ∧ SeqAt.shaped (toP y) = true ∧ B (!PyData.eqv (toP x) (toP y))) : Et sl ms (wT X (.Compare a [.NotEq] [b] pos)) B :=
  Et.of (pt_cmpR (op_neA (by have := hr.rm.un; omega)) pe_w pe_w (nomark _)) (et_test (er_op' (h.mono fun x h => h.mono fun y ⟨s1, s2, k⟩ => fun F H v w eh hv hw Q q =>
    ⟨F, x, y, eh, hv, hw, s1, s2, q _ _ F H ⟨_, rfl, k⟩ (Ext.refl eh) (.bl _)⟩)))
theorem eqv_ints : ∀ ns js : List Int, PyData.eqvAll (toPs (ns.map D.int)) (toPs (js.map D.int)) = decide (ns = js)
  | [], [] => by simp [toPs, PyData.eqvAll]
  | [], _ :: _ => by simp [toPs, PyData.eqvAll]
  | _ :: _, [] => by simp [toPs, PyData.eqvAll]
  | n :: ns, j :: js => by
    rw [List.map_cons, List.map_cons, toPs, toPs, PyData.eqvAll, eqv_ints ns js, toP, toP, PyData.eqv]
    by_cases h : n = j
    · subst h; simp
    · simp [h]
theorem lay_ints : ∀ ns : List Int, PyData.canLayAll0 (toPs (ns.map D.int)) = true ∧ PyData.depthAll (toPs (ns.map D.int)) = 0
  | [] => by simp [toPs, PyData.canLayAll0, PyData.depthAll]
  | n :: ns => by
    have ⟨h1, h2⟩ := lay_ints ns
    simp [toPs, toP, PyData.canLayAll0, PyData.canLay0, PyData.depthAll, PyData.depth, h1, h2]
theorem shaped_ints (ns : List Int) : SeqAt.shaped (toP (.lst (ns.map D.int))) = true := by
  have ⟨h1, h2⟩ := lay_ints ns
  simp [SeqAt.shaped, toP, PyData.canLay0, PyData.depth, h1, h2]
/-- lists of whole numbers -/
theorem jt_neIL (hr : RoomG 0 X.A) (h : Er sl ms (wE X a) fun x => Er sl ms (wE X b) fun y => ∃ ns js : List Int, x = .lst (ns.map D.int) ∧ y = .lst (js.map D.int) ∧ B (!decide (ns = js))) : Et sl ms (wT X (.Compare a [.NotEq] [b] pos)) B :=
  jt_neA hr (h.mono fun x h => h.mono fun y ⟨ns, js, e1, e2, k⟩ => by
    subst e1 e2
    refine ⟨shaped_ints _, shaped_ints _, ?_⟩
    rw [toP, toP, PyData.eqv, eqv_ints]
    exact k)
/-! ### sorted(set(t)) -/
def rSetT (K : PySem.W.Frag) (w : World) : List V → Hp → VK → Prop := fun xs H Q => ∃ (a : Addr) (ns : List Int), xs = [.ref a] ∧ SqT K H a (ns.map V.int) ∧ ns.length < 60 ∧ ∀ p c, H p = none → c ≤ ns.length → Q (.ref p) (upd H p (SetO w p (fun j => decide (j ∈ ns)) c))
theorem cr_setT (hc : X.calm = true) : CallR X (.type "set") (rSetT X.K X.w) := by
  intro pins s σ H xs us Q I r h
  obtain ⟨a, ns, rfl, hs, hl, q⟩ := h
  obtain ⟨u, rfl, rv⟩ := r.one
  cases rv
  obtain ⟨its, rv, pl, hz⟩ := I.tuple hs
  refine call_set_tupI ns (I.ok.hd hc) (show s.heap.IsTuple a its.toArray from pl) (by simpa using rv.ints) (Nat.lt_trans (Nat.succ_lt_succ hl) (by decide +kernel)) fun h' tk c R hcn k => ?_
  exact ⟨.ref _, upd H s.heap.objs.size (SetO X.w s.heap.objs.size (fun j => decide (j ∈ ns)) c), I.laid (t' := tk) k (Nat.le_refl _) (setO_new R), rfl, q _ c (I.hok.fresh (Nat.le_refl _)) hcn⟩
theorem j_sortedSet (hc : X.calm = true) (hm : X.mg "sorted" = none) (hm2 : X.mg "set" = none) (h : Er sl ms (wE X e) fun x => ∃ ns : List Int, x = .tup (ns.map D.int) ∧ ns.length < 60 ∧ ∀ js : List Int, js.Pairwise (· < ·) → (∀ k, k ∈ js ↔ k ∈ ns) → R (.lst (js.map D.int)))
    (hg : Gl X "sorted" := by rfl) (hg2 : Gl X "set" := by rfl) (he : starEach [e] X.env = (false, eval e X.env) :: starEach [] X.env := by rfl)
    (he2 : starEach [.Call (.Name "set" p2) [e] [] p3] X.env = (false, eval (.Call (.Name "set" p2) [e] [] p3) X.env) :: starEach [] X.env := by rfl) :
    Er sl ms (wE X (.Call (.Name "sorted" p) [.Call (.Name "set" p2) [e] [] p3] [] pos)) R :=
  Er.of (pe_callB (cr_sortedSet hc) hg hm (by decide +kernel) (pa_cons (pe_callTy (cr_setT hc) hg2 hm2 boot_set (pa_cons pe_w pa_nil he) (he := he)) pa_nil he2) (he := he2)) fun ho F0 H0 F ps ex σ H a Q q => h ho F0 H0 F ps ex σ H a _ fun v d F1 H1 ⟨ns, e, hl, k⟩ a1 => by
    subst e
    obtain ⟨t, xs, rfl, ha, hd⟩ : ∃ p xs, v = .ref p ∧ F1 p = some (.tup xs) ∧ DnL F1 xs (ns.map D.int) := by cases a1.top with | tup ha hl => exact ⟨_, _, rfl, ha, hl⟩
    rw [DnL.ints ns hd] at ha
    refine ⟨t, ns, rfl, sq_t a1.fh ha, hl, fun z c hz hcn => ⟨z, _, c, rfl, upd_same, by omega, fun js y h1 h2 _ hy => ?_⟩⟩
    have a2 := a1.pop.step0 (F' := F1) (H' := upd H1 z (SetO X.w z (fun j => decide (j ∈ ns)) c)) ⟨Ex.refl F1, fun b o q => by rw [upd_ne (ne_of_none (a1.fh b o q) hz)]; exact a1.fh b o q, fun b o _ q => by rw [upd_ne (ne_of_none q hz)]; exact q, fun _ h _ => h⟩
    exact q _ _ _ _ (k js h1 fun j => by rw [h2 j, decide_eq_true_iff]) ((a2.laid hy).push (.lst upd_same (DnL.of_ints js)))
end
end E
set_option Elab.async false
set_option linter.all false
set_option maxRecDepth 100000
/-! The built-in types of data. -/
namespace E
open PySem PySem.Spec PyProof.Rows L2
variable [KF]
def iI : D → Bool
  | .int _ | .bl _ => true
  | _ => false
def iB : D → Bool
  | .bl _ => true
  | _ => false
/-- a tuple's items -/
def tupO : D → Option (List D)
  | .tup l => some l
  | .kon _ l => some (l.map .str)
  | _ => none
def iT : D → Bool
  | .tup _ => true
  | .kon _ _ => true
  | _ => false
theorem kInt (x : D) : kitB (tyD x) "int" = some (iI x) := by cases x <;> (simp only [tyD, iI]; decide +kernel)
theorem kBool (x : D) : kitB (tyD x) "bool" = some (iB x) := by cases x <;> (simp only [tyD, iB]; decide +kernel)
theorem kTup (x : D) : kitB (tyD x) "tuple" = some (iT x) := by cases x <;> (simp only [tyD, iT]; decide +kernel)
section
variable {X : Cx} [KonK X.K] {sl : List Sl} {ms : List Ob} {R : D → Prop} {pos p p2 : Pos} {e : Expr}
theorem j_isInt (hm : X.mg "isinstance" = none) (hn : X.mg "int" = none) (h : Er sl ms (wE X e) fun x => R (.bl (iI x))) (hg : Gl X "isinstance" := by rfl) (hg2 : Gl X "int" := by rfl)
    (he : starEach [e, .Name "int" p2] X.env = (false, eval e X.env) :: starEach [.Name "int" p2] X.env := by rfl) (he2 : starEach [.Name "int" p2] X.env = (false, eval (.Name "int" p2) X.env) :: starEach [] X.env := by rfl)
    (hpl : (backTo pos (starEach [.Name "int" p2] X.env)).any (·.1) = false := by rfl) : Er sl ms (wE X (.Call (.Name "isinstance" p) [e, .Name "int" p2] [] pos)) R :=
  j_isi hm hn (by decide +kernel) (h.mono fun x k => ⟨_, kInt x, k⟩) hg hg2 (by decide +kernel) (by decide +kernel) he he2 hpl
theorem j_isBool (hm : X.mg "isinstance" = none) (hn : X.mg "bool" = none) (h : Er sl ms (wE X e) fun x => R (.bl (iB x))) (hg : Gl X "isinstance" := by rfl) (hg2 : Gl X "bool" := by rfl)
    (he : starEach [e, .Name "bool" p2] X.env = (false, eval e X.env) :: starEach [.Name "bool" p2] X.env := by rfl) (he2 : starEach [.Name "bool" p2] X.env = (false, eval (.Name "bool" p2) X.env) :: starEach [] X.env := by rfl)
    (hpl : (backTo pos (starEach [.Name "bool" p2] X.env)).any (·.1) = false := by rfl) : Er sl ms (wE X (.Call (.Name "isinstance" p) [e, .Name "bool" p2] [] pos)) R :=
  j_isi hm hn (by decide +kernel) (h.mono fun x k => ⟨_, kBool x, k⟩) hg hg2 (by decide +kernel) (by decide +kernel) he he2 hpl
theorem j_isTup (hm : X.mg "isinstance" = none) (hn : X.mg "tuple" = none) (h : Er sl ms (wE X e) fun x => R (.bl (iT x))) (hg : Gl X "isinstance" := by rfl) (hg2 : Gl X "tuple" := by rfl)
    (he : starEach [e, .Name "tuple" p2] X.env = (false, eval e X.env) :: starEach [.Name "tuple" p2] X.env := by rfl) (he2 : starEach [.Name "tuple" p2] X.env = (false, eval (.Name "tuple" p2) X.env) :: starEach [] X.env := by rfl)
    (hpl : (backTo pos (starEach [.Name "tuple" p2] X.env)).any (·.1) = false := by rfl) : Er sl ms (wE X (.Call (.Name "isinstance" p) [e, .Name "tuple" p2] [] pos)) R :=
  j_isi hm hn (by decide +kernel) (h.mono fun x k => ⟨_, kTup x, k⟩) hg hg2 (by decide +kernel) (by decide +kernel) he he2 hpl
end
end E
set_option Elab.async false
set_option linter.all false
set_option maxRecDepth 100000
namespace E
open PySem PySem.Spec PyProof.Rows L2
variable [KF]
section
variable {X : Cx} {sl sl' : List Sl} {ms : List Ob} {R : D → Prop} {B : Bool → Prop} {pos p p2 p3 : Pos} {a b c e : Expr} {es rest : List Expr} {x y : Str} {d : D} {O : Out}
/-- name = [..]: a plain local name -/
theorem js_lc {elt tg iter : Expr} {ifs : List Expr} {scope : Scope} (i : Nat) (own : List (Str × Nat)) {fx : Option (Nat × Ob)} (hc : X.calm = true) (hN : X.N.Nodup) (hi : X.N[i]? = some x) (ok : BlkOk X.N X.env.scope scope own)
    (hv : ∀ j ∈ own.map (·.2), ∀ s, sl[j]? = some s → s = .u)
    (h : Ei sl ms (wI X tg iter) fx fun items => items.length < 100000 ∧ ∃ Pv : Nat → List D → Prop, Pv 0 [] ∧
      (∀ i d acc, items[i]? = some d → Pv i acc → ∃ tv sl2, Blk X scope (fun Y => Eg sl (wG Y tg) d tv sl2) ∧ (∀ j ∈ tv, j ∈ own.map (·.2)) ∧
        Blk X scope fun Y => Et sl2 (ms ++ [.l acc]) (wTs Y ifs) fun b => (b = true → Blk X scope fun Z => Er sl2 (ms ++ [.l acc]) (wE Z elt) fun y => Pv (i + 1) (acc ++ [y])) ∧ (b = false → Pv (i + 1) acc)) ∧
      ∀ acc, Pv items.length acc → O.nx (sl.set i (.d (.lst acc))) ms)
    (hl : X.env.scope.names.lookup x = some .local := by rfl) (hsw : swapsWith (.ListComp elt [⟨tg, iter, ifs, 0⟩] scope p2) (some (.Name x p)) pos.line X.env = pure true := by rfl)
    (hs : ∀ x, foldedSetIterable iter X.env x = pure x := by intro _; rfl) : Sr sl ms (wS X (.Assign [.Name x p] (.ListComp elt [⟨tg, iter, ifs, 0⟩] scope p2) pos)) O := by
  have key : El sl ms (tLc (wI X tg iter) (fun v σ H Q => ∀ (s : Shared) (H' : Hp) (C : Addr) (cl : List (Str × Addr)) (fp : List Addr), wG (X.blk s H' scope (compEnvC scope cl C X.env) fp) tg v σ H Q)
      (fun σ H Q => ∀ (s : Shared) (H' : Hp) (C : Addr) (cl : List (Str × Addr)) (fp : List Addr), wTs (X.blk s H' scope (compEnvC scope cl C X.env) fp) ifs σ H Q)
      (fun σ H Q => ∀ (s : Shared) (H' : Hp) (C : Addr) (cl : List (Str × Addr)) (fp : List Addr), wE (X.blk s H' scope (compEnvC scope cl C X.env) fp) elt σ H Q) (own.map (·.2))) fun acc => O.nx (sl.set i (.d (.lst acc))) ms := by
    refine el_lc' hv (Ei.mono h fun items ⟨hl, Pv, p0, step, fin⟩ => ⟨hl, Pv, p0, fun i d acc hd pv => ?_, fin⟩)
    obtain ⟨tv, sl2, g1, g2, g3⟩ := step i d acc hd pv
    have g0 := g1 X.s_0 X.H_0 0 [] []
    refine ⟨tv, sl2, ⟨g0.len, g0.st, fun ms ho F0 H0 F ps ex σ H v a dv Q k s H' C cl fp => (g1 s H' C cl fp).run ms ho F0 H0 F ps ex σ H v a dv Q k⟩, g2, ?_⟩
    intro ho F0 H0 F ps ex σ H a Q k s H' C cl fp
    refine g3 s H' C cl fp ho F0 H0 F ps ex σ H a Q fun b F' H'' ⟨k1, k2⟩ a' => k b F' H'' ⟨fun e => ?_, k2⟩ a'
    intro ho F0 H0 F ps ex σ H a Q k s H' C cl fp
    exact k1 e s H' C cl fp ho F0 H0 F ps ex σ H a Q k
  exact Sr.of (ps_setLc hc hN hi hl hsw pi_w ok (fun s H' C cl fp => ⟨fun pins s1 σ H v u Q I r h => h s H' C cl fp pins s1 u I r⟩) (fun s H' C cl fp => ⟨fun pins s1 σ H Q I h => h s H' C cl fp pins s1 I⟩) (fun s H' C cl fp => ⟨fun pins s1 σ H Q I h => h s H' C cl fp pins s1 I⟩) hs) (sr_set' (El.er' key))
theorem js_lcF {elt tg iter : Expr} {ifs : List Expr} {scope : Scope} (i : Nat) (own : List (Str × Nat)) {fx : Option (Nat × Ob)} (hc : X.calm = true) (hN : X.N.Nodup) (hi : X.N[i]? = some x) (ok : BlkOk X.N X.env.scope scope own)
    (hv : ∀ j ∈ own.map (·.2), ∀ s, sl[j]? = some s → s = .u)
    (h : Ei sl ms (wI X tg iter) fx fun items => items.length < 100000 ∧ ∃ (p : D → Bool) (f : D → D),
      (∀ d acc, d ∈ items → ∃ tv sl2, Blk X scope (fun Y => Eg sl (wG Y tg) d tv sl2) ∧ (∀ j ∈ tv, j ∈ own.map (·.2)) ∧
        Blk X scope fun Y => Et sl2 (ms ++ [.l acc]) (wTs Y ifs) fun b => b = p d ∧ (b = true → Blk X scope fun Z => Er sl2 (ms ++ [.l acc]) (wE Z elt) fun y => y = f d)) ∧
      O.nx (sl.set i (.d (.lst ((items.filter p).map f)))) ms)
    (hl : X.env.scope.names.lookup x = some .local := by rfl) (hsw : swapsWith (.ListComp elt [⟨tg, iter, ifs, 0⟩] scope p2) (some (.Name x p)) pos.line X.env = pure true := by rfl)
    (hs : ∀ x, foldedSetIterable iter X.env x = pure x := by intro _; rfl) : Sr sl ms (wS X (.Assign [.Name x p] (.ListComp elt [⟨tg, iter, ifs, 0⟩] scope p2) pos)) O := by
  refine js_lc i own (fx := fx) hc hN hi ok hv (Ei.mono h fun items ⟨hl, pp, f, step, fin⟩ => ⟨hl, fun i acc => acc = ((items.take i).filter pp).map f, by simp, fun i d acc hd pv => ?_, fun acc e => by rw [e, List.take_length]; exact fin⟩) hl hsw hs
  obtain ⟨tv, sl2, g1, g2, g3⟩ := step d acc (List.mem_of_getElem? hd)
  have hn : (items.take (i + 1)).filter pp = (items.take i).filter pp ++ [d].filter pp := by rw [List.take_add_one, hd, List.filter_append]; rfl
  have pv : acc = List.map f (List.filter pp (List.take i items)) := pv
  refine ⟨tv, sl2, g1, g2, fun s H C cl fp => (g3 s H C cl fp).mono fun b ⟨e, k⟩ => ⟨fun eb s H C cl fp => (k eb s H C cl fp).mono fun y ey => ?_, fun eb => ?_⟩⟩
  · show acc ++ [y] = List.map f (List.filter pp (List.take (i + 1) items))
    rw [hn, pv, ey, List.map_append, show [d].filter pp = [d] by rw [List.filter_cons, if_pos (by rw [← e]; exact eb)]; rfl]; rfl
  · show acc = List.map f (List.filter pp (List.take (i + 1) items))
    rw [hn, pv, show [d].filter pp = [] by rw [List.filter_cons, if_neg (by rw [← e, eb]; exact Bool.false_ne_true)]; rfl, List.append_nil]
/-- name += e, whole numbers -/
theorem js_augI (i : Nat) {n : Int} (hN : X.N.Nodup) (hi : X.N[i]? = some x) (hs : sl[i]? = some (.d (.int n))) (h : Er sl ms (wE X e) fun z => ∃ t : Int, z = .int t ∧ O.nx (sl.set i (.d (.int (n + t)))) ms) (hx : Loc X.env.scope x := by first | exact Or.inl rfl | exact Or.inr rfl)
    (hf : X.fn x = true ∨ X.env.scope.names.lookup x = some .local := by first | exact .inl rfl | exact .inr rfl) : Sr sl ms (wS X (.AugAssign (.Name x p) .Add e pos)) O :=
  Sr.of (ps_aug hN hi hx pe_w ip_add hf) fun ho F0 H0 F ps ex σ H a Z nx rt bk ct => by
    obtain ⟨o, eo, v, rfl, hv⟩ := a.slo i _ hs
    cases hv
    exact ⟨_, eo, h ho F0 H0 F ps ex σ H a _ fun w z F1 H1 ⟨t, ez, k⟩ a1 => by
      subst ez
      cases a1.top
      exact ⟨n, t, rfl, rfl, nx _ _ F1 ps _ H1 k (a1.pop.store (s := .d (.int (n + t))) i ⟨_, rfl, .int _⟩)⟩⟩
end
end E
set_option Elab.async false
set_option linter.all false
set_option maxRecDepth 100000
/-! More rules by the text: min, `is None`, targets, lists joined, tuples repeated, tuples of ranges. -/
namespace E
open PySem PySem.Spec PyProof.Rows L2
variable [KF]
section
variable {X : Cx} {sl sl' : List Sl} {ms : List Ob} {R : D → Prop} {B : Bool → Prop} {pos p p2 p3 : Pos} {a b c e : Expr} {es rest : List Expr} {x y : Str} {d : D} {O : Out}
theorem rc_min {K : PySem.W.Frag} {ns : List Int} {m : Int} (h0 : 0 < ns.length) (h : ∀ k, k ∈ ns → (∀ y, y ∈ ns → k ≤ y) → k = m) : Rc (rMin K) [.lst (ns.map D.int)] (· = .int m) := fun F H vs eh hl Q q => by
  cases hl with
  | cons hx hr =>
    cases hr
    cases hx with
    | lst ha hl =>
      rw [DnL.ints ns hl] at ha
      exact ⟨_, ns, rfl, sq_l eh ha, h0, fun k hk hy => by rw [h k hk hy]; exact q _ _ F H rfl (Ext.refl eh) (.int _)⟩
theorem j_min (hc : X.calm = true) (hm : X.mg "min" = none) (h : Er sl ms (wE X e) fun x => ∃ ns m, x = .lst (List.map D.int ns) ∧ 0 < ns.length ∧ (∀ k, k ∈ ns → (∀ y, y ∈ ns → k ≤ y) → k = m) ∧ R (.int m)) (hg : Gl X "min" := by rfl) (he : starEach [e] X.env = (false, eval e X.env) :: starEach [] X.env := by rfl) :
    Er sl ms (wE X (.Call (.Name "min" p) [e] [] pos)) R := Er.of (pe_callB (cr_min hc) hg hm (by decide +kernel) (pa_cons pe_w pa_nil he) (he := he)) (er_cb' (ea_cons' (h.mono fun _ ⟨_, _, e, h0, h1, k⟩ => ea_nil' (by rw [e]; exact Rc.done (rc_min h0 h1) k))))
/-! ### is None -/
def isN : D → Bool
  | .non => true
  | _ => false
theorem Dn.isN {F : Hp} {v : V} : ∀ {x : D}, Dn F v x → decide (v = V.non) = E.isN x
  | _, .non => rfl
  | _, .bl _ => rfl
  | _, .int _ => rfl
  | _, .str _ => rfl
  | _, .tup _ _ => rfl
  | _, .lst _ _ => rfl
  | _, .dic _ => rfl
  | _, .kon _ => rfl
theorem j_isN {k} (h : Er sl ms (wE X a) fun x => R (.bl (E.isN x))) : Er sl ms (wE X (.Compare a [.Is] [.Constant .none k p2] pos)) R :=
  Er.of (pe_cmpR op_isN pe_w pe_non (nomark _)) fun ho F0 H0 F ps ex σ H at0 Q q => h ho F0 H0 F ps ex σ H at0 _ fun v d F1 H1 r a1 => ⟨rfl, by rw [a1.top.isN]; exact q _ _ F1 H1 r (a1.pop.push (.bl _))⟩
theorem j_notN {k} (h : Er sl ms (wE X a) fun x => R (.bl (!E.isN x))) : Er sl ms (wE X (.Compare a [.IsNot] [.Constant .none k p2] pos)) R :=
  Er.of (pe_cmpR op_notN pe_w pe_non (nomark _)) fun ho F0 H0 F ps ex σ H at0 Q q => h ho F0 H0 F ps ex σ H at0 _ fun v d F1 H1 r a1 => ⟨rfl, by rw [a1.top.isN]; exact q _ _ F1 H1 r (a1.pop.push (.bl _))⟩
theorem jt_isN {k} (h : Er sl ms (wE X a) fun x => B (E.isN x)) : Et sl ms (wT X (.Compare a [.Is] [.Constant .none k p2] pos)) B :=
  Et.of (pt_cmpR op_isN pe_w pe_non (nomark _)) (et_test fun ho F0 H0 F ps ex σ H at0 Q q => h ho F0 H0 F ps ex σ H at0 _ fun v d F1 H1 r a1 => ⟨rfl, by rw [a1.top.isN]; exact q _ _ F1 H1 ⟨_, rfl, r⟩ (a1.pop.push (.bl _))⟩)
theorem jt_notN {k} (h : Er sl ms (wE X a) fun x => B (!E.isN x)) : Et sl ms (wT X (.Compare a [.IsNot] [.Constant .none k p2] pos)) B :=
  Et.of (pt_cmpR op_notN pe_w pe_non (nomark _)) (et_test fun ho F0 H0 F ps ex σ H at0 Q q => h ho F0 H0 F ps ex σ H at0 _ fun v d F1 H1 r a1 => ⟨rfl, by rw [a1.top.isN]; exact q _ _ F1 H1 ⟨_, rfl, r⟩ (a1.pop.push (.bl _))⟩)
/-! ### a, b = e -/
theorem js_tg {tg : Expr} (h : Er sl ms (wE X e) fun d => ∃ tv sl', Eg sl (wG X tg) d tv sl' ∧ O.nx sl' ms) (hs : swapsWithSole [tg] e pos.line X.env = pure false := by rfl) (hw : swappedStores [tg] e X.env = pure none := by rfl)
    (h1 : (assignEach [tg] X.env).map (·.2) = [assign tg X.env] := by rfl) : Sr sl ms (wS X (.Assign [tg] e pos)) O :=
  Sr.of (ps_asg pe_w pg_w hs hw h1) fun ho F0 H0 F ps ex σ H at0 Z nx rt bk ct => h ho F0 H0 F ps ex σ H at0 _ fun v d F1 H1 ⟨tv, sl', eg, k⟩ a1 =>
    eg.run ms ho F0 H0 F1 ps ex σ H1 v a1.pop a1.topI _ fun F2 σ2 H2 _ a2 _ => nx _ _ F2 ps σ2 H2 k a2
/-! ### lists joined -/
theorem r2_catL {ds es : List D} (hn : ds.length + es.length ≤ 100000) : R2 rCat (.lst ds) (.lst es) (· = .lst (ds ++ es)) := fun F H v w eh hv hw Q q => by
  cases hv with
  | lst ha hl =>
    cases hw with
    | lst hb hm =>
      exact ⟨_, _, _, _, rfl, rfl, eh _ _ ha, eh _ _ hb, by rw [hl.len, hm.len]; exact Nat.le_trans hn (by decide), fun p hp => q _ _ _ _ rfl (Ext.new eh hp) (.lst upd_same ((hl.app hm).mono (Ex.new (eh.none hp))))⟩
theorem j_catL (h : Er sl ms (wE X a) fun x => Er sl ms (wE X b) fun y => ∃ i j, x = .lst i ∧ y = .lst j ∧ i.length + j.length ≤ 100000 ∧ R (.lst (i ++ j))) : Er sl ms (wE X (.BinOp a .Add b pos)) R :=
  Er.of (pe_op op_cat pe_w pe_w) (er_op' (h.mono fun _ h => h.mono fun _ ⟨_, _, e1, e2, hc, k⟩ => by rw [e1, e2]; exact R2.done (r2_catL hc) k))
/-- a list of one's own + a list: a new list of one's own -/
theorem jl_catM (i : Nat) {k : Nat} {ds : List D} {R : List D → Prop} (hN : X.N[i]? = some x) (hs : sl[i]? = some (.m k)) (hm : ms[k]? = some (.l ds)) (h : Er sl ms (wE X b) fun y => ∃ es, y = .lst es ∧ ds.length + es.length ≤ 100000 ∧ R (ds ++ es))
    (hv : Vis X.env.scope x := by first | exact Or.inl rfl | exact Or.inr (Or.inl rfl) | exact Or.inr (Or.inr rfl)) (hd : (x == ("__debug__" : Str)) = false := by decide) (hcd : (x == ("__classdict__" : Str)) = false := by decide) :
    El sl ms (wE X (.BinOp (.Name x p) .Add b pos)) R := El.of (pe_op op_cat (pv i hN hv hd hcd) pe_w) fun ho F0 H0 F ps ex σ H at0 Q q => by
  obtain ⟨p, xs, e, hp, h1, h2⟩ := at0.ml hs hm
  refine ⟨_, e, h ho F0 H0 F ps ex σ H at0 _ fun v d F' H' ⟨es, ed, hl, r⟩ a' => ?_⟩
  obtain ⟨p', ys, e', hp', h1', h2'⟩ := a'.ml hs hm
  rw [hp] at hp'; cases hp'
  subst ed
  obtain ⟨pb, zs, rfl, hb, hlb⟩ : ∃ p xs, v = .ref p ∧ F' p = some (.lst xs) ∧ DnL F' xs es := by cases a'.top with | lst ha hl => exact ⟨_, _, rfl, ha, hl⟩
  exact ⟨p, pb, ys, zs, rfl, rfl, h1', a'.fh _ _ hb, by rw [h2'.len, hlb.len]; exact Nat.le_trans hl (by decide), fun y hy => q y (ds ++ es) F' _ r (a'.pop.own hy (h2'.app hlb))⟩
theorem j_catM (i : Nat) {k : Nat} {ds : List D} (hN : X.N[i]? = some x) (hs : sl[i]? = some (.m k)) (hm : ms[k]? = some (.l ds)) (h : Er sl ms (wE X b) fun y => ∃ es, y = .lst es ∧ ds.length + es.length ≤ 100000 ∧ R (.lst (ds ++ es)))
    (hv : Vis X.env.scope x := by first | exact Or.inl rfl | exact Or.inr (Or.inl rfl) | exact Or.inr (Or.inr rfl)) (hd : (x == ("__debug__" : Str)) = false := by decide) (hcd : (x == ("__classdict__" : Str)) = false := by decide) :
    Er sl ms (wE X (.BinOp (.Name x p) .Add b pos)) R := (jl_catM (R := fun ds => R (.lst ds)) i hN hs hm h hv hd hcd).er'
/-! ### a tuple times a number -/
theorem tuple_mul1 (l : Addr) (items : Array Value) (n : Nat) (dd : Option Addr) (sl : Array (Option Value)) (u : Tok) :
    Meets (Builtin.«tuple.__mul__» ⟨[.ref l, .int 1 u], []⟩) (fun _ R s => s.heap.get? l = some { cls := .type "tuple", dict := dd, data := .seq items n, slots := sl } ∧ R (.ok (.ret (Value.ref l))) s) :=
  .of_wp fun prog w A R s h => by
    obtain ⟨hp, g, d, tk, os⟩ := s
    obtain ⟨hl, h⟩ := h
    have f1 := AutoSeq1.idx_int
    wp_walk using wpAny_loadPart' hl
    exact ⟨_, rfl, h⟩
def rRepN (K : PySem.W.Frag) : L2.R2 := fun x y H Q => ∃ (l : Addr) (n : Nat) (xs : List V), x = .ref l ∧ y = .int (n : Int) ∧ SqT K H l xs ∧ xs ≠ [] ∧ 1 ≤ n ∧ n ≤ 1000 ∧ xs.length ≤ 1000 ∧ (n = 1 → Q (.ref l) H) ∧ (2 ≤ n → ∀ p, H p = none → Q (.ref p) (upd H p (.tup (List.replicate n xs).flatten)))
theorem op_repN : OpR X (binaryOp .Mult) (rRepN X.K) := by
  intro pins s σ H x y v u Q I rx ry h
  obtain ⟨l, n, xs, rfl, rfl, hT, hne, h1, h2, hz, q1, q2⟩ := h
  by_cases hn : n = 1
  · subst hn
    cases rx
    obtain ⟨t, rfl⟩ := ry
    obtain ⟨its, r, ⟨⟨cls, dd, data, sl⟩, ho, hc, m, hd⟩, hs⟩ := I.tuple hT
    simp only at hc hd
    subst hc hd
    exact wpAny_binaryOp_repeat_ref (T := "tuple") (U := "int") (by decide) ⟨_, ho, rfl⟩ (fun s' => typeIs_int s' _ t) noFill_tuple_mul F.fills_int_mul F.slot_int_rmul repeat_tuple F.slot_int_index.lookup
      (call_meets F.slot_int_rmul (typeIs_int s _ t) F.entry_int_rmul (F.args_int_rmul_2 _ _) (int_rmul_tuple _ t l its.toArray m dd sl)
        ⟨ho, rfl, ⟨_, ho, rfl⟩, call_meets F.slot_tuple_mul ⟨_, ho, rfl⟩ F.entry_tuple_mul (F.args_tuple_mul_2 _ _) (tuple_mul1 l its.toArray m dd sl t) ⟨ho, ⟨.ref l, H, I, rfl, q1 rfl⟩⟩⟩)
  · exact op_repT pins s σ H _ _ v u Q I rx ry ⟨l, n, xs, rfl, rfl, hT, hne, by omega, by omega, hz, by rw [Int.toNat_natCast]; exact q2 (by omega)⟩
theorem DnL.rep {F : Hp} {vs : List V} {ds : List D} (h : DnL F vs ds) : ∀ n : Nat, DnL F (List.replicate n vs).flatten (List.replicate n ds).flatten
  | 0 => .nil
  | n + 1 => by
    rw [List.replicate_succ, List.replicate_succ, List.flatten_cons, List.flatten_cons]
    exact h.app (DnL.rep h n)
theorem r2_rep {K : PySem.W.Frag} {ds : List D} {n : Nat} (hne : ds ≠ []) (h1 : 1 ≤ n) (h2 : n ≤ 1000) (hz : ds.length ≤ 1000) : R2 (rRepN K) (.tup ds) (.int n) (· = .tup (List.replicate n ds).flatten) := fun F H v w eh hv hw Q q => by
  cases hv with
  | @tup a xs _ ha hl =>
    cases hw
    refine ⟨a, n, xs, rfl, rfl, sq_t eh ha, fun e => hne ?_, h1, h2, by rw [hl.len]; exact hz, fun e => ?_, fun _ p hp => ?_⟩
    · subst e; cases hl; rfl
    · subst e
      refine q _ _ F H rfl (Ext.refl eh) ?_
      rw [List.replicate_one, List.flatten_cons, List.flatten_nil, List.append_nil]
      exact .tup ha hl
    · exact q _ _ _ _ rfl (Ext.new eh hp) (.tup upd_same ((hl.rep n).mono (Ex.new (eh.none hp))))
theorem j_rep (h : Er sl ms (wE X a) fun x => Er sl ms (wE X b) fun y => ∃ (ds : List D) (n : Nat), x = .tup ds ∧ y = .int n ∧ ds ≠ [] ∧ 1 ≤ n ∧ n ≤ 1000 ∧ ds.length ≤ 1000 ∧ R (.tup (List.replicate n ds).flatten)) : Er sl ms (wE X (.BinOp a .Mult b pos)) R :=
  Er.of (pe_op op_repN pe_w pe_w) (er_op' (h.mono fun _ h => h.mono fun _ ⟨_, _, e1, e2, h0, h1, h2, h3, k⟩ => by rw [e1, e2]; exact R2.done (r2_rep h0 h1 h2 h3) k))
/-! ### tuple(range(n)) -/
theorem dn_numbers {F : Hp} {n : Nat} : DnL F (rgV 0 (n : Int)) (numbers n) := by
  unfold rgV numbers
  rw [show ((n : Int) - 0).toNat = n by omega]
  have : ∀ l : List Nat, DnL F (l.map fun i => V.int (0 + (i : Nat))) (l.map fun i => D.int (i : Nat)) := fun l => by
    induction l with
    | nil => exact .nil
    | cons i l ih =>
      refine .cons ?_ ih
      show Dn F (V.int (0 + ((i : Nat) : Int))) (D.int ((i : Nat) : Int))
      rw [Int.zero_add]
      exact .int _
  exact this _
theorem j_tupRange (hc : X.calm = true) (hm : X.mg "tuple" = none) (hm2 : X.mg "range" = none) (h : Er sl ms (wE X e) fun x => ∃ n : Nat, x = .int n ∧ n ≤ 100000 ∧ R (.tup (numbers n))) (hg : Gl X "tuple" := by rfl) (hg2 : Gl X "range" := by rfl)
    (na : starEach [e] X.env = (false, eval e X.env) :: starEach [] X.env := by rfl) (na2 : starEach [.Call (.Name "range" p2) [e] [] p3] X.env = (false, eval (.Call (.Name "range" p2) [e] [] p3) X.env) :: starEach [] X.env := by rfl) :
    Er sl ms (wE X (.Call (.Name "tuple" p) [.Call (.Name "range" p2) [e] [] p3] [] pos)) R :=
  Er.of (pe_tupRg hc hg hm (prg_1 hg2 hm2 pe_w na) na2) fun ho F0 H0 F ps ex σ H at0 Q q => h ho F0 H0 F ps ex σ H at0 _ fun v d F1 H1 ⟨n, e, hn, k⟩ a1 => by
    subst e
    cases a1.top
    exact ⟨n, rfl, RgOk.of_le (by omega) (by omega) (by omega) (by omega), fun l hl => q _ _ _ _ k ((a1.pop.laid hl).push (.tup upd_same dn_numbers))⟩
end
end E
set_option Elab.async false
set_option linter.all false
set_option maxRecDepth 100000
/-! Defs that may raise: their promise, their calls, raise, try .. except as. -/
namespace E
open PySem PySem.Spec PyProof.Rows L2
variable [KF]

/-- as FnG, of a def that may raise -/
structure FnX (P : Program) (w : World) (K : PySem.W.Frag) (mg : Str → Option Value) (base : Heap) (k : Nat) (f : Addr) (fd : FuncData) (ps : List Str) (sp : Sp) : Prop where
  len : ∀ vs H Q E, sp vs H Q E → vs.length = ps.length
  runs : ∀ (A : Around) (outer : List Env) (s : Shared) (H : Hp) (args : Args) (us : List Value) (vs : List V) (Q : VK) (E : XK), RoomG k A → Env0 P w K mg base A outer s H → BindsTo s fd args (ps.zip us) → Vals vs us → sp vs H Q E →
    codeAny (model P w) A (.call (.ref f) args) (CR (L2.CX P w) outer P w H s Q E) s
/-- what it promises: a value at Post, a class at Bad -/
def spX (n : Nat) (Pre : List D → Prop) (Post : List D → D → Prop) (Bad : List D → Value → Prop) : Sp := fun vs H Q E => ∃ F ds, Ex F H ∧ DnL F vs ds ∧ ds.length = n ∧ Pre ds ∧
  (∀ u d F' H', Post ds d → (∀ c, ¬ Bad ds c) → Ext none F H F' H' → Dn F' u d → Q u H') ∧ ∀ c F' H', Bad ds c → Ext none F H F' H' → E c none H'
abbrev cxX (P : Program) (w : World) (K : PySem.W.Frag) (mg : Str → Option Value) (base : Heap) (N : List Str) (x : Str) (st : Stmt) (f : Addr) (cdv : Value) (A : Around) (outer : List Env) (s : Shared) (H : Hp) (E : XK) : Cx := cxOf (L2.CX P w) P w K mg base N x (defScope st) f cdv A outer s H E
section
variable {P : Program} {w : World} {K : PySem.W.Frag} {mg : Str → Option Value} {base : Heap}
theorem FnX.mono {j k : Nat} {f : Addr} {fd : FuncData} {ps : List Str} {sp : Sp} (F : FnX P w K mg base j f fd ps sp) (h : j ≤ k) : FnX P w K mg base k f fd ps sp :=
  ⟨F.len, fun A outer s H args us vs Q E hr => F.runs A outer s H args us vs Q E (hr.mono h)⟩
theorem fun_X {x : Str} {st : Stmt} {f : Addr} {fd : FuncData} {N ps : List Str} {k : Nat} {sp : Sp} (F : Fun K x x st f fd) (S : FnScope N ps (defScope st)) (len : ∀ vs H Q E, sp vs H Q E → vs.length = ps.length)
    (hbody : ∀ (cdv : Value) (A : Around) (outer : List Env) (s : Shared) (H : Hp) (vs : List V) (Q : VK) (E : XK), RoomG k (A.deeper (envOfC x (defScope st) s.heap.objs.size f cdv)) → sp vs H Q E →
      ∃ t, PSs (cxX P w K mg base N x st f cdv A outer s H E) (defBody st) t ∧ t { nx := fun _ H' => Q .non H', rt := Q } (L2.start N vs) H) : FnX P w K mg base (k + 1) f fd ps sp := by
  obtain ⟨oc, od, kV, doc, pm, an, cdv, ct, osl, rfl, lk, hcd⟩ := F.ex
  refine ⟨len, fun A outer s H args us vs Q E hr e0 hb r hsp => ?_⟩
  have hl := len _ _ _ _ hsp
  have KX : K.In s.heap := e0.mod.kin.keeps fun b o e => (e0.bs b o e).1
  have lim : s.heap.NoLimit := e0.mod.nolimit.keeps fun b o e => (e0.bs b o e).1
  have hkind : ∀ y ∈ ps.zip us, (defScope st).names.lookup y.1 = some .local ∨ ((defScope st).names.lookup y.1 = some .cell ∧ ((cellsFrom (s.heap.objs.size + 1) (defScope st).names []).lookup y.1).isSome = true) := fun ⟨n, v⟩ hy => by
    rcases S.par n (List.of_mem_zip hy).1 with q | q
    · exact .inl q
    · exact .inr ⟨q, PySem.W.cellsFrom_some _ _ _ (.inl q)⟩
  refine codeAny_call_function hr.rm.depth (KX _ _ lk) rfl S.co S.gen rfl (PySem.W.codeRec_of KX hcd) (hb _ _ _ _ ?_)
  refine wpAny_newFunctionEnv_cells S.kind hkind fun env he s1 x => ?_
  subst he
  refine ⟨lim.keeps x.toInCall.keep, codeAny_func ?_⟩
  obtain ⟨t, ht, hq⟩ := hbody cdv A outer s H vs Q E (hr.deeper _) hsp
  have I : Inv (cxX P w K mg base N _ st f cdv A outer s H E) [] (L2.start N vs) H s1 := inv_start S hr.rm.hd e0 hl r x
  refine wpAny_mono (ht.run [] s1 (L2.start N vs) H _ I hq) (fun fl s' hs => ?_) fun e s' hs => hs
  cases fl with
  | ret u =>
    obtain ⟨v, σ', H', J, rv, q⟩ := hs
    exact ⟨v, H', J.os, J.bare, J.base, J.hok, rv, q⟩
  | next =>
    obtain ⟨σ', H', J, q⟩ := hs
    exact ⟨V.non, H', J.os, J.bare, J.base, J.hok, rfl, q⟩
  | brk =>
    obtain ⟨_, _, _, q⟩ := hs
    exact False.elim q
  | cont =>
    obtain ⟨_, _, _, q⟩ := hs
    exact False.elim q
end
section
variable {X : Cx} {x : Str} {p pos : Pos} {e : Expr} {es : List Expr} {t : TA} {k : Nat} {f : Addr} {fd : FuncData} {ps : List Str} {sp : Sp} {Ee : L2.St → XK}
theorem pe_callX (F : FnX X.prog X.w X.K X.mg X.base k f fd ps sp) (hr : RoomG k X.A) (hg : Gl X x) (hm : X.mg x = some (.ref f)) (hk : PySem.W.keepIn X.K (.ref f) = true) (hb : Binds X.K fd ps []) (hx : ∀ σ, PassesAt (L2.CX X.prog X.w) X σ (Ee σ))
    (ha : PA X (e :: es) t) (hdb : (x == ("__debug__" : Str)) = false := by decide) (he : starEach (e :: es) X.env = (false, eval e X.env) :: starEach es X.env := by rfl) (hpl : (backTo pos (starEach es X.env)).any (·.1) = false := by rfl) :
    PE X (.Call (.Name x p) (e :: es) [] pos) (tCallS sp Ee t) := by
  refine ⟨fun pins s σ H Q I h => ?_⟩
  refine wpAny_Call_Name_kw (ld_glob I hg hm ?_ hdb)
  refine PySem.W.callWith_K (h₀ := X.base) I.ok.mod.kin hk (thn (ha.run pos pins s σ H _ I h) fun us s1 ⟨vs, H1, I1, r, q⟩ => ⟨I1.kIn, ?_⟩) he hpl
  have q : sp vs H1 Q (Ee σ) := q
  have hl : us.length = ps.length := by rw [← r.length]; exact F.len _ _ _ _ q
  have hbt := hb s1 us I1.kIn (by rw [List.append_nil]; exact hl)
  rw [List.append_nil] at hbt
  refine wpAny_call (codeAny_mono (F.runs X.A X.stack s1 H1 ⟨us, []⟩ us vs Q (Ee σ) hr I1.env0 hbt r q) fun r s' hq => ?_)
  cases r with
  | error e => exact hx σ pins H1 s1 e s' I1 hq
  | ok fl =>
    cases fl with
    | ret u => exact I1.after hq
    | next => exact False.elim hq
    | brk => exact False.elim hq
    | cont => exact False.elim hq
/-- C() of an own class -/
theorem pmk_own0 {C : Addr} {bmB : List Value} {B newId initId : String} (F : ExcBaseFacts B newId initId bmB) (q : PySem.W.excIn X.K C bmB newId = true) (gC : X.mg x = some (.ref C))
    (kC : PySem.W.keepIn X.K (.ref C) = true) (r : Raises X (.ref C)) (hg : Gl X x) (hdb : (x == ("__debug__" : Str)) = false := by decide) :
    PMk X (.Call (.Name x p) [] [] pos) (fun _ H Q => Q (.ref C) none H) := by
  intro pins s σ H Q I h
  refine wpAny_Call_Name_kw (ld_glob I hg gC ?_ hdb)
  refine PySem.W.callWith_K0 I.kIn kC ?_
  obtain ⟨bm, N, nm, qn, bs, hdct, sn, sub, ab, col, dd, k0, k1, k2, k3, k5, mN, hC, hN, hni, T⟩ := exc_obj I.kIn q
  obtain ⟨hp1, g1, d1, tk1, os1⟩ := s
  exact wpAny_call_exc_subT F T hC hN hni (fun h' e hm => mk_of I hm r h (I.hok.gone hm.new)) (Nat.zero_le _)
end

/-! ### what raises -/
/-- as Sr, where Z may be leant on -/
def SrZ (Z : Option Addr → Hp → Hp → List (V × Di) → Prop) (sl : List Sl) (ms : List Ob) (t : TS) (O : Out) : Prop :=
  ∀ (ho : Option Addr) (F0 H0 : Hp) (ex : List (V × Di)), Z ho F0 H0 ex → ∀ (F : Hp) (ps : List Addr) (σ : L2.St) (H : Hp), At ho F0 H0 F ps sl ms ex σ H → ∀ D : Ends,
    (∀ sl' ms' F' ps' σ' H', O.nx sl' ms' → At ho F0 H0 F' ps' sl' ms' ex σ' H' → D.nx σ' H') →
    (∀ v F' H', RtOk O.rt O.ro ho F0 H0 ex v F' H' → D.rt v H') →
    (∀ sl' ms' F' ps' σ' H', O.bk sl' ms' → At ho F0 H0 F' ps' sl' ms' ex σ' H' → D.bk σ' H') →
    (∀ sl' ms' F' ps' σ' H', O.ct sl' ms' → At ho F0 H0 F' ps' sl' ms' ex σ' H' → D.ct σ' H') → t D σ H
/-- the wish W takes the class c wherever the slots and lists are as P says -/
def Zw (W : WX) (P : List Sl → List Ob → Prop) (c : Value) : Option Addr → Hp → Hp → List (V × Di) → Prop := fun ho F0 H0 ex => ∀ sl ms F ps σ H, P sl ms → At ho F0 H0 F ps sl ms ex σ H → W c none σ H
section
variable {X : Cx} {sl : List Sl} {ms : List Ob} {Z : Option Addr → Hp → Hp → List (V × Di) → Prop} {O : Out} {t u : TS} {st : Stmt} {rest body : List Stmt} {e c : Expr} {es : List Expr} {p pos np : Pos} {x n : Str} {W : WX} {Pl : List Sl → List Ob → Prop} {cls : Value}
theorem Sr.z (h : Sr sl ms t O) : SrZ Z sl ms t O := fun ho F0 H0 ex _ F ps σ H a => h ho F0 H0 F ps ex σ H a
theorem z_seq (h : Sr sl ms t { O with nx := fun sl' ms' => SrZ Z sl' ms' u O }) : SrZ Z sl ms (tSeq t u) O := fun ho F0 H0 ex z F ps σ H a D n r b c =>
  h ho F0 H0 F ps ex σ H a { D with nx := u D } (fun sl' ms' F' ps' σ' H' k a' => k ho F0 H0 ex z F' ps' σ' H' a' D n r b c) r b c
theorem z_seqZ (h : SrZ Z sl ms t { O with nx := fun sl' ms' => SrZ Z sl' ms' u O }) : SrZ Z sl ms (tSeq t u) O := fun ho F0 H0 ex z F ps σ H a D n r b c =>
  h ho F0 H0 ex z F ps σ H a { D with nx := u D } (fun sl' ms' F' ps' σ' H' k a' => k ho F0 H0 ex z F' ps' σ' H' a' D n r b c) r b c
theorem z_if {tc : TT} (h : Et sl ms tc fun b => (b = true → SrZ Z sl ms t O) ∧ (b = false → SrZ Z sl ms u O)) : SrZ Z sl ms (tIfS tc t u) O := fun ho F0 H0 ex z F ps σ H a D n r b c =>
  h ho F0 H0 F ps ex σ H a _ fun x F' H' ⟨k1, k2⟩ a' => by
    cases x with
    | true => exact k1 rfl ho F0 H0 ex z F' ps σ H' a' D n r b c
    | false => exact k2 rfl ho F0 H0 ex z F' ps σ H' a' D n r b c
theorem SrZ.of (h : PS X st t) (q : SrZ Z sl ms t O) : SrZ Z sl ms (wS X st) O := fun ho F0 H0 ex z F ps σ H a D n r b c pins s I => h.run pins s σ H D I (q ho F0 H0 ex z F ps σ H a D n r b c)
theorem SrZ.ofs (h : PSs X body t) (q : SrZ Z sl ms t O) : SrZ Z sl ms (wSs X body) O := fun ho F0 H0 ex z F ps σ H a D n r b c pins s I => h.run pins s σ H D I (q ho F0 H0 ex z F ps σ H a D n r b c)
theorem zss_cons (h : Sr sl ms (wS X st) { O with nx := fun s m => SrZ Z s m (wSs X rest) O }) : SrZ Z sl ms (wSs X (st :: rest)) O := SrZ.ofs (pss_cons ps_w pss_w) (z_seq h)
theorem zss_consZ (h : SrZ Z sl ms (wS X st) { O with nx := fun s m => SrZ Z s m (wSs X rest) O }) : SrZ Z sl ms (wSs X (st :: rest)) O := SrZ.ofs (pss_cons ps_w pss_w) (z_seqZ h)
theorem zss_one (h : SrZ Z sl ms (wS X st) O) : SrZ Z sl ms (wSs X [st]) O := SrZ.ofs (pss_one ps_w) h
theorem zs_if {t u : List Stmt} (h : Et sl ms (wT X c) fun b => (b = true → SrZ Z sl ms (wSs X t) O) ∧ (b = false → SrZ Z sl ms (wSs X u) O)) : SrZ Z sl ms (wS X (.If c t u pos)) O := SrZ.of (ps_if pt_w pss_w pss_w) (z_if h)
/-- raise C() -/
theorem zs_raise {C : Addr} {bmB : List Value} {B newId initId : String} {pos' : Pos} (hc : X.calm = true) (tk : Takes X W) (F : ExcBaseFacts B newId initId bmB) (q : PySem.W.excIn X.K C bmB newId = true) (gC : X.mg x = some (.ref C)) (kC : PySem.W.keepIn X.K (.ref C) = true)
    (h1 : PySem.W.subIn X.K (.ref C) (.type "BaseException") = some true) (h2 : PySem.W.typeIn X.K (.ref C) = some (.type "type")) (hp : Pl sl ms) (hg : Gl X x := by rfl) (hdb : (x == ("__debug__" : Str)) = false := by decide) :
    SrZ (Zw W Pl (.ref C)) sl ms (wS X (.Raise (some (.Call (.Name x p) [] [] pos)) none pos')) O := SrZ.of (ps_raise hc tk (pmk_own0 F q gC kC (raises_own h1 h2) hg hdb)) fun ho F0 H0 ex z F ps σ H a D n r b c => z sl ms F ps σ H hp a
/-- a call that raises, alone in its line -/
theorem zs_call {k j m : Nat} {Pre : List D → Prop} {Post : List D → D → Prop} {Bad : List D → Value → Prop} {f : Addr} {fd : FuncData} {pn : List Str} (F : FnX X.prog X.w X.K X.mg X.base k f fd pn (spX m Pre Post Bad)) (hm : X.mg x = some (.ref f)) (hkp : PySem.W.keepIn X.K (.ref f) = true) (hb : Binds X.K fd pn [])
    (hr : RoomG j X.A) (hk : k ≤ j) (tk : Takes X W) (hp : Pl sl ms) (h : Ea sl ms (wA X (e :: es)) fun ds => ds.length = m ∧ Pre ds ∧ Bad ds cls ∧ ∀ c, Bad ds c → c = cls) (hg : Gl X x := by rfl)
    (hs : swapsWith (.Call (.Name x p) (e :: es) [] np) none pos.line X.env = pure false := by rfl)
    (hdb : (x == ("__debug__" : Str)) = false := by decide) (he : starEach (e :: es) X.env = (false, eval e X.env) :: starEach es X.env := by rfl) (hpl : (backTo np (starEach es X.env)).any (·.1) = false := by rfl) :
    SrZ (Zw W Pl cls) sl ms (wS X (.Expr (.Call (.Name x p) (e :: es) [] np) pos)) O := SrZ.of (ps_expr (pe_callX F (hr.mono hk) hg hm hkp hb (passAt tk) pa_w hdb he hpl) hs) fun ho F0 H0 ex z F ps σ H a D n r b c =>
  h ho F0 H0 F ps ex σ H a _ fun vs ds F1 H1 ⟨hn, hpr, hbd, hu⟩ a1 l => ⟨F1, ds, a1.fh, l, hn, hpr, fun u d F' H' _ nb => absurd hbd (nb cls), fun c' F' H' hc' x' => by
    rw [hu c' hc']
    exact z sl ms F' ps σ H' hp (a1.step0 x')⟩
/-- a call that does not raise -/
theorem er_callX {m : Nat} {Pre : List D → Prop} {Post : List D → D → Prop} {Bad : List D → Value → Prop} {ta : TA} {R : D → Prop} (h : Ea sl ms ta fun ds => ds.length = m ∧ Pre ds ∧ (∀ c, ¬ Bad ds c) ∧ ∀ d, Post ds d → R d) : Er sl ms (tCallS (spX m Pre Post Bad) (fun _ => E0) ta) R := fun ho F0 H0 F ps ex σ H a Q q =>
  h ho F0 H0 F ps ex σ H a _ fun vs ds F1 H1 ⟨hn, hp, hb, hr⟩ a1 l => ⟨F1, ds, a1.fh, l, hn, hp, fun u d F' H' p _ x du => q u d F' H' (hr d p) ((a1.step0 x).push du), fun c _ _ hc => absurd hc (hb c)⟩
end
/-- a def that may raise, as it stands in the text and as its callers know it -/
structure ClX (P : Program) (w : World) (K : PySem.W.Frag) (mg : Str → Option Value) (base : Heap) (k : Nat) (x : Str) (sp : Sp) : Prop where
  ex : ∃ (f : Addr) (fd : FuncData) (ps : List Str), FnX P w K mg base k f fd ps sp ∧ mg x = some (.ref f) ∧ PySem.W.keepIn K (.ref f) = true ∧ Binds K fd ps []
section
variable {P : Program} {w : World} {K : PySem.W.Frag} {mg : Str → Option Value} {base : Heap}
theorem Df.clX {x : Str} {st : Stmt} {ps : List Str} {f : Addr} {fd : FuncData} {k : Nat} {sp : Sp} (d : Df K mg x st ps f fd) (h : FnX P w K mg base k f fd ps sp) : ClX P w K mg base k x sp := ⟨f, fd, ps, h, d.mgf, d.fn.kp, d.bd⟩
/-- a def by its body: where it does not raise, where it does -/
theorem ok_X {x : Str} {st : Stmt} {f : Addr} {fd : FuncData} {N ps : List Str} {k n m : Nat} {Pre : List D → Prop} {Post : List D → D → Prop} {Bad : List D → Value → Prop} (F : Fun K x x st f fd) (S : FnScope N ps (defScope st)) (hn : ps.length = n) (hm : N.length = n + m)
    (hb : ∀ (cdv : Value) (A : Around) (outer : List Env) (s : Shared) (H : Hp) (E : XK) (ds : List D), RoomG k (A.deeper (envOfC x (defScope st) s.heap.objs.size f cdv)) → ds.length = n → Pre ds → (∀ c, ¬ Bad ds c) →
      Sr (ds.map .d ++ List.replicate m .u) [] (wSs (cx P w K mg base N x st f cdv A outer s H E) (defBody st)) { nx := fun _ _ => Post ds .non, rt := Post ds })
    (hz : ∀ (cdv : Value) (A : Around) (outer : List Env) (s : Shared) (H : Hp) (E : XK) (ds : List D) (c : Value), RoomG k (A.deeper (envOfC x (defScope st) s.heap.objs.size f cdv)) → ds.length = n → Pre ds → Bad ds c →
      SrZ (Zw (fun c d _ H => E c d H) (fun _ _ => True) c) (ds.map .d ++ List.replicate m .u) [] (wSs (cxX P w K mg base N x st f cdv A outer s H E) (defBody st)) { nx := fun _ _ => False, rt := fun _ => False }) :
    FnX P w K mg base (k + 1) f fd ps (spX n Pre Post Bad) := by
  refine fun_X F S (fun vs H Q E h => ?_) (fun cdv A outer s H vs Q E hr h => ?_)
  · obtain ⟨F, ds, _, l, e, _⟩ := h
    rw [l.len, e, hn]
  · obtain ⟨F0, ds, e, l, hl, hp, q, qx⟩ := h
    have a0 : At none F0 H F0 [] (ds.map .d ++ List.replicate m .u) [] [] (L2.start N vs) H := by
      have := at_start (m := m) (vs := vs) (sl := ds.map .d) (ho := none) e (by rw [List.length_map]; exact l.len) (fun i v s h1 h2 => by
        rw [List.getElem?_map] at h2
        cases h3 : ds[i]? with
        | none => rw [h3] at h2; cases h2
        | some d =>
          rw [h3] at h2; cases h2
          obtain ⟨v', h4, h5⟩ := l.get i h3
          rw [h1] at h4; cases h4
          exact ⟨v, rfl, h5⟩) (fun h hh => by cases hh)
      rw [show L2.start N vs = vs.map some ++ List.replicate m none by unfold L2.start; rw [l.len, hl, hm]; congr 2; omega]
      exact this
    by_cases hc : ∃ c, Bad ds c
    · obtain ⟨c, hc⟩ := hc
      refine ⟨_, pss_w, ?_⟩
      exact hz cdv A outer s H E ds c hr hl hp hc none F0 H [] (fun sl ms F' ps' σ' H' _ a' => qx c F' H' hc a'.ext) F0 [] (L2.start N vs) H a0 _ (fun _ _ _ _ _ _ z => z.elim) (fun _ _ _ z => z.no.elim) (fun _ _ _ _ _ _ z => z.elim) (fun _ _ _ _ _ _ z => z.elim)
    · have nc : ∀ c, ¬ Bad ds c := fun c z => hc ⟨c, z⟩
      refine ⟨wSs (cx P w K mg base N x st f cdv A outer s H E) (defBody st), PSs.nox (t := wSs (cx P w K mg base N x st f cdv A outer s H E) (defBody st)) ⟨fun pins s1 σ1 H1 D I h => h pins s1 I⟩, ?_⟩
      exact hb cdv A outer s H E ds hr hl hp nc none F0 H F0 [] [] (L2.start N vs) H a0 _ (fun _ _ F' _ _ H' p a' => q _ _ F' H' p nc a'.ext .non) (fun v F' H' k => let ⟨d, p, x, _, dv⟩ := k.data; q v d F' H' p nc x dv) (fun _ _ _ _ _ _ z => z.elim) (fun _ _ _ _ _ _ z => z.elim)
end
section
variable {X : Cx} {sl : List Sl} {ms : List Ob} {x n : Str} {e : Expr} {es : List Expr} {p pos np : Pos} {R : D → Prop} {O : Out}
theorem j_callX {k j m : Nat} {Pre : List D → Prop} {Post : List D → D → Prop} {Bad : List D → Value → Prop} (c : ClX X.prog X.w X.K X.mg X.base k x (spX m Pre Post Bad)) (hr : RoomG j X.A) (hk : k ≤ j) (h : Ea sl ms (wA X (e :: es)) fun ds => ds.length = m ∧ Pre ds ∧ (∀ c, ¬ Bad ds c) ∧ ∀ d, Post ds d → R d) (hg : Gl X x := by rfl)
    (hdb : (x == ("__debug__" : Str)) = false := by decide) (he : starEach (e :: es) X.env = (false, eval e X.env) :: starEach es X.env := by rfl) (hpl : (backTo pos (starEach es X.env)).any (·.1) = false := by rfl) :
    Er sl ms (wE X (.Call (.Name x p) (e :: es) [] pos)) R := by
  obtain ⟨f, fd, ps, F, hm, kp, b⟩ := c.ex
  exact Er.of (pe_callX F (hr.mono hk) hg hm kp b (fun σ pins H s e s' => passL pins σ H s e s') pa_w hdb he hpl) (er_callX h)
theorem j_raises {k j m : Nat} {Pre : List D → Prop} {Post : List D → D → Prop} {Bad : List D → Value → Prop} {W : WX} {Pl : List Sl → List Ob → Prop} {cls : Value} (c : ClX X.prog X.w X.K X.mg X.base k x (spX m Pre Post Bad)) (hr : RoomG j X.A) (hk : k ≤ j) (tk : Takes X W) (hp : Pl sl ms)
    (h : Ea sl ms (wA X (e :: es)) fun ds => ds.length = m ∧ Pre ds ∧ Bad ds cls ∧ ∀ c, Bad ds c → c = cls) (hg : Gl X x := by rfl) (hs : swapsWith (.Call (.Name x p) (e :: es) [] np) none pos.line X.env = pure false := by rfl)
    (hdb : (x == ("__debug__" : Str)) = false := by decide) (he : starEach (e :: es) X.env = (false, eval e X.env) :: starEach es X.env := by rfl) (hpl : (backTo np (starEach es X.env)).any (·.1) = false := by rfl) :
    SrZ (Zw W Pl cls) sl ms (wS X (.Expr (.Call (.Name x p) (e :: es) [] np) pos)) O := by
  obtain ⟨f, fd, ps, F, hm, kp, b⟩ := c.ex
  exact zs_call F hm kp b hr hk tk hp h hg hs hdb he hpl
end

/-! ### try: body, except x as n: suite -/
section
variable {X : Cx} {sl : List Sl} {ms : List Ob} {x n : Str} {np pos pos' : Pos} {O : Out} {body suite : List Stmt} {b₀ : Stmt} {c : Value} {i : Nat}
/-- the suite's reading -/
def wSuite (X : Cx) (body : List Stmt) : Addr → Value → Option Addr → TS := fun a cls d D σ H => ∀ (oe : Obj) (pn : List (Addr × Obj)), Zc cls d oe → (∃ vs, oe.data = .fields vs) → wSs (X.suite a ((a, oe) :: pn)) body D σ H
def wTry (X : Cx) (body : List Stmt) (W : WX) : TS := fun D σ H => ∀ (pn : List (Addr × Obj)) (xe : Value → Shared → Prop), Takes (X.tr pn xe) W → PassesOwn (model X.prog X.w) X.A X.env xe → wSs (X.tr pn xe) body D σ H
theorem ps_try_w (hs : X.stack = X.env :: X.outer) (hf : X.env.frame = some X.env.locals) (hN : X.N.Nodup) (hi : X.N[i]? = some n) (hln : X.env.kindOf n = some .local) (hc : Names X x c) :
    PS X (.Try body [.ExceptHandler (some (.Name x np)) (some n) (b₀ :: suite) pos'] [] [] pos) (fun D σ H => wTry X body (wAs X.K c i (wSuite X (b₀ :: suite)) (fun _ _ _ _ => False) D) D σ H) :=
  ps_try_as (tb := wTry X body) (ts := wSuite X (b₀ :: suite)) (Wout := fun _ _ _ _ => False) hs hf hN hi hln hc takes0 (fun W pn xe tk po => ⟨fun pins s σ H D I h => h pn xe tk po pins s I⟩) fun a oe cls d pn hz hv => ⟨fun pins s σ H D I h => h oe pn hz hv pins s I⟩
/-- nothing is raised -/
theorem js_try0 (hs : X.stack = X.env :: X.outer) (hf : X.env.frame = some X.env.locals) (hN : X.N.Nodup) (hi : X.N[i]? = some n) (hln : X.env.kindOf n = some .local) (hc : Names X x c)
    (h : ∀ (pn : List (Addr × Obj)) (xe : Value → Shared → Prop), Sr sl ms (wSs (X.tr pn xe) body) O) : Sr sl ms (wS X (.Try body [.ExceptHandler (some (.Name x np)) (some n) (b₀ :: suite) pos'] [] [] pos)) O :=
  Sr.of (ps_try_w hs hf hN hi hln hc) fun ho F0 H0 F ps ex σ H a D n r b ct pn xe tk po => h pn xe ho F0 H0 F ps ex σ H a D n r b ct
/-- an error of the class C is raised: the suite -/
theorem js_tryC {C : Value} (hs : X.stack = X.env :: X.outer) (hf : X.env.frame = some X.env.locals) (hN : X.N.Nodup) (hi : X.N[i]? = some n) (hln : X.env.kindOf n = some .local) (hc : Names X x c) (hm : PySem.W.exmOne X.K C c = some true)
    (h : ∀ (W : WX) (pn : List (Addr × Obj)) (xe : Value → Shared → Prop), Takes (X.tr pn xe) W → SrZ (Zw W (fun s m => s = sl ∧ m = ms) C) sl ms (wSs (X.tr pn xe) body) { nx := fun _ _ => False, rt := fun _ => False })
    (hsu : ∀ (a : Addr) (oe : Obj) (pn : List (Addr × Obj)) (ho : Option Addr) (F0 H0 F : Hp) (ps : List Addr) (ex : List (V × Di)) (σ : L2.St) (H : Hp), Zc C none oe → (∃ vs, oe.data = .fields vs) → At ho F0 H0 F ps sl ms ex σ H → ∀ D : Ends,
      (∀ sl' ms' F' ps' σ' H', O.nx sl' ms' → At ho F0 H0 F' ps' sl' ms' ex (σ'.set i none) H' → D.nx σ' H') → wSs (X.suite a ((a, oe) :: pn)) (b₀ :: suite) D (σ.set i (some (.ref a))) H) :
    Sr sl ms (wS X (.Try body [.ExceptHandler (some (.Name x np)) (some n) (b₀ :: suite) pos'] [] [] pos)) O :=
  Sr.of (ps_try_w hs hf hN hi hln hc) fun ho F0 H0 F ps ex σ H a D n r b ct pn xe tk po =>
    h _ pn xe tk ho F0 H0 ex (fun sl1 ms1 F1 ps1 σ1 H1 ⟨e1, e2⟩ a1 => ⟨true, hm, fun _ ad hna oe pn' hz hv => by
      subst e1 e2
      exact hsu ad oe pn' ho F0 H0 F1 ps1 ex σ1 H1 hz hv a1 _ fun sl' ms' F' ps' σ' H' o a' => n sl' ms' F' ps' _ H' o a', fun z => by cases z⟩) F ps σ H a D (fun _ _ _ _ _ _ z => z.elim) (fun _ _ _ z => z.no.elim) (fun _ _ _ _ _ _ z => z.elim) (fun _ _ _ _ _ _ z => z.elim)
end
end E
set_option Elab.async false
set_option linter.all false
set_option maxRecDepth 100000
/-! sorted of tuples of whole numbers of any lengths (the empty one may stand first). -/
namespace E
open PySem PySem.Spec PyProof.Rows L2 SrtO TS HT
variable [KF]
theorem lexLt_irr : ∀ a : List Int, lexLt a a = false
  | [] => rfl
  | x :: r => by rw [lexLt_cons, if_pos rfl]; exact lexLt_irr r
theorem lexLt_asy : ∀ a b : List Int, lexLt a b = true → lexLt b a = false
  | [], [], h => by cases h
  | [], _ :: _, _ => rfl
  | _ :: _, [], h => by cases h
  | x :: r, y :: s, h => by
    rw [lexLt_cons] at h ⊢
    by_cases e : x = y
    · rw [if_pos e] at h; rw [if_pos e.symm]; exact lexLt_asy r s h
    · rw [if_neg e] at h; rw [if_neg fun z => e z.symm]
      have := of_decide_eq_true h
      exact decide_eq_false (by omega)
theorem lexLt_neg : ∀ a b c : List Int, lexLt b a = false → lexLt c b = false → lexLt c a = false
  | [], [], [], _, _ => rfl
  | [], [], _ :: _, _, _ => rfl
  | [], _ :: _, [], _, h => by cases h
  | [], _ :: _, _ :: _, _, _ => rfl
  | _ :: _, [], _, h, _ => by cases h
  | _ :: _, _ :: _, [], _, h => by cases h
  | x :: r, y :: s, z :: t, h, h' => by
    rw [lexLt_cons] at h h' ⊢
    by_cases e : y = x
    · subst e
      rw [if_pos rfl] at h
      by_cases e' : z = y
      · subst e'
        rw [if_pos rfl] at h' ⊢
        exact lexLt_neg r s t h h'
      · rw [if_neg e'] at h' ⊢
        exact h'
    · rw [if_neg e] at h
      have h := of_decide_eq_false h
      by_cases e' : z = y
      · subst e'
        rw [if_neg e]
        exact decide_eq_false h
      · rw [if_neg e'] at h'
        have h' := of_decide_eq_false h'
        rw [if_neg (by omega)]
        exact decide_eq_false (by omega)
theorem lexLt_conn : ∀ a b : List Int, lexLt a b = false → lexLt b a = false → a = b
  | [], [], _, _ => rfl
  | [], _ :: _, h, _ => by cases h
  | _ :: _, [], _, h => by cases h
  | x :: r, y :: s, h, h' => by
    rw [lexLt_cons] at h h'
    by_cases e : x = y
    · subst e
      rw [if_pos rfl] at h h'
      rw [lexLt_conn r s h h']
    · rw [if_neg e] at h; rw [if_neg fun z => e z.symm] at h'
      have := of_decide_eq_false h
      have := of_decide_eq_false h'
      omega
theorem swo_lexL {α : Type} (k : α → List Int) : Swo fun v u => lexLt (k v) (k u) := ⟨fun x y h => lexLt_asy _ _ h, fun x y z h1 h2 => lexLt_neg _ _ _ h1 h2⟩
section
variable {prog : Program} {w : World} {A : Around} {E : Value → Shared → Prop} {s : Shared}
theorem lex_any {Q : Bool → Shared → Prop} {fin : Bool} : ∀ (ns ms : List Int) (xs ys : List Value) (i : Nat), IntsAre xs ns → IntsAre ys ms → fin = decide (ns.length < ms.length) → Q (lexLt ns ms) s → PySem.W.KatLex prog w A true fin Q (xs.zip ys) i s
  | [], [], _, _, i, .nil, .nil, e, h => PySem.W.kat_nil (by rw [e]; exact h)
  | [], _ :: _, _, _, i, .nil, .cons _ _ _, e, h => PySem.W.kat_nil (by rw [e]; exact h)
  | _ :: _, [], _, _, i, .cons _ _ _, .nil, e, h => PySem.W.kat_nil (by rw [e]; exact h)
  | x :: ns, y :: ms, _, _, i, .cons _ t hx, .cons _ u hy, e, h => by
    rw [List.zip_cons_cons]
    refine PySem.W.kat_cons (SeqAt.EqAt.int_int x t y u prog w _ _ ?_)
    rw [lexLt_cons] at h
    refine PySem.W.kat_go (fun e1 => ?_) (fun e1 => ?_)
    · have ex : x = y := by simpa using e1
      rw [if_pos ex] at h
      exact PySem.W.kat_yes (lex_any ns ms _ _ (i + 1) hx hy (by rw [e]; simp) h)
    · have ex : ¬ x = y := by simpa using e1
      rw [if_neg ex] at h
      exact PySem.W.kat_no (oneLt_ints _ h)
/-- two tuples, when all are not empty -/
theorem cmp_tups {vs : List Value} {k : Value → List Int} (hp : ∀ v ∈ vs, TupInts s.heap v (k v)) : Cmp prog w A s (tuples' true) (fun p => p.1 ∈ vs) (lt2 fun v u => lexLt (k v) (k u)) := by
  intro p q hm hm'
  have h1 := hp _ hm
  have h2 := hp _ hm'
  show wpAny (model prog w) A (keyLt' (tuples' true) p.1 q.1) (fun r s' => s' = s ∧ r = lexLt (k p.1) (k q.1)) (fun _ _ => False) s
  generalize k p.1 = ns at h1 ⊢
  generalize k q.1 = ms at h2 ⊢
  obtain ⟨a, xs, e, ⟨o, ho, hc, n, hd⟩, hi⟩ := h1
  obtain ⟨a', xs', e', ⟨o', ho', hc', n', hd'⟩, hi'⟩ := h2
  rw [e, e']
  refine PySem.W.kat_lt ho hd ho' hd' (lex_any ns ms _ _ 0 hi hi' ?_ ⟨rfl, rfl⟩)
  have l1 := hi.length
  have l2 := hi'.length
  rw [Array.length_toList] at l1 l2
  rw [l1, l2]
/-- .. when some is -/
theorem cmp_ones {vs : List Value} {k : Value → List Int} (hu : A.units < cLine) (hp : ∀ v ∈ vs, TupInts s.heap v (k v)) : Cmp prog w A s oneType' (fun p => p.1 ∈ vs) (lt2 fun v u => lexLt (k v) (k u)) := by
  intro p q hm hm'
  have h1 := hp _ hm
  have h2 := hp _ hm'
  show wpAny (model prog w) A (keyLt' oneType' p.1 q.1) (fun r s' => s' = s ∧ r = lexLt (k p.1) (k q.1)) (fun _ _ => False) s
  generalize k p.1 = ns at h1 ⊢
  generalize k q.1 = ms at h2 ⊢
  obtain ⟨a, xs, e, ⟨⟨cls, dd, data, sl⟩, ho, hc, n, hd⟩, hi⟩ := h1
  obtain ⟨a', xs', e', ⟨⟨cls2, dd2, data2, sl2⟩, ho', hc', n', hd'⟩, hi'⟩ := h2
  simp only at hc hd hc' hd'
  subst hc hd hc' hd'
  rw [e, e', keyLt'_oneType, oneLt'_eq]
  simp only [if_true]
  refine wpAny_bind (wpAny_cRoomFor hu ?_)
  refine wpAny_bind (wpAny_callSpecialIfBound?_slot (T := "tuple") ⟨_, ho, rfl⟩ PySem.F.slot_tuple_lt (call_meets PySem.F.slot_tuple_lt ⟨_, ho, rfl⟩ PySem.F.entry_tuple_lt (PySem.F.args_tuple_lt_2 _ _) (tuple_lt_ints a a' xs xs' n n' dd dd2 sl sl2 ns ms hi hi') ⟨ho, ho', ?_⟩))
  show wpAny _ _ _ _ _ s
  exact wpAny_truthy_bool ⟨rfl, rfl⟩
/-- the first item of a tuple -/
def fstOf (h : Heap) (v : Value) : Option Value := match v with
  | .ref a => match h.get? a with
    | some o => match o.data with
      | .seq xs _ => xs[0]?
      | _ => none
    | none => none
  | _ => none
theorem mapM_fn {α β : Type} {f : α → Sem β} {g : α → β} : ∀ (l : List α) {Q : List β → Shared → Prop}, (∀ v ∈ l, ∀ (Q' : β → Shared → Prop), Q' (g v) s → wpAny (model prog w) A (f v) Q' E s) → Q (l.map g) s → wpAny (model prog w) A (l.mapM f) Q E s
  | [], _, _, h => by rw [List.mapM_nil]; exact wpAny_pure h
  | x :: l, Q, hf, h => by
    rw [List.mapM_cons]
    exact wpAny_bind (hf x (.head _) _ (wpAny_bind (mapM_fn l (Q := fun bs s' => wpAny (model prog w) A (pure (g x :: bs)) Q E s') (fun v hv => hf v (.tail _ hv)) (wpAny_pure h))))
theorem kind_ones {v₁ v₂ : Value} {rest : List Value} {k : Value → List Int} {Q : SortKind → Shared → Prop} (hp : ∀ v ∈ v₁ :: v₂ :: rest, TupInts s.heap v (k v)) (h0 : k v₁ = []) (h : Q oneType' s) : wpAny (model prog w) A (keyKind' (v₁ :: v₂ :: rest).toArray) Q E s := by
  have hT : ∀ v ∈ v₁ :: v₂ :: rest, PySem.W.Looks (model prog w) s.heap (typeOf v) (.type "tuple") := fun v hv => by
    obtain ⟨a, xs, e, ⟨o, ho, hc, n, hd⟩, hi⟩ := hp v hv
    rw [e]
    exact hc ▸ (PySem.W.Looks.ld ho).andThen .now
  rw [keyKind'_eq, List.mapM_toArray, map_eq_pure_bind]
  refine wpAny_bind (wpAny_bind (mapM_fn (g := fstOf s.heap) _ (fun v hv Q' hq => ?_) (wpAny_pure ?_)))
  · rw [PySem.W.kas_first_eq]
    refine wpAny_bind ((hT v hv).here ?_)
    obtain ⟨a, xs, e, ⟨o, ho, hc, n, hd⟩, hi⟩ := hp v hv
    subst e
    rw [if_neg (by simp)]
    refine wpAny_bind (listItems_at ho hd (wpAny_pure ?_))
    have e2 : fstOf s.heap (.ref a) = xs[0]? := by simp only [fstOf, ho, hd]
    rw [← e2]
    exact hq
  · have e0 : fstOf s.heap v₁ = none := by
      obtain ⟨a, xs, e, ⟨o, ho, hc, n, hd⟩, hi⟩ := hp v₁ (.head _)
      subst e
      rw [h0] at hi
      have e2 : fstOf s.heap (.ref a) = xs[0]? := by simp only [fstOf, ho, hd]
      have l1 := hi.length
      rw [Array.length_toList] at l1
      rw [e2]
      exact Array.getElem?_eq_none (by rw [l1]; exact Nat.zero_le _)
    rw [if_neg (by simp [e0]), if_neg (by simp [e0])]
    rw [oneTypeOnly'_eq, List.mapM_toArray, map_eq_pure_bind]
    refine wpAny_bind (wpAny_bind (wpAny_bind (mapM_fn (g := fun _ => Value.type "tuple") _ (fun v hv Q' hq => (hT v hv).here hq) (wpAny_pure ?_))))
    have hall : ((List.map (fun _ => Value.type "tuple") (v₁ :: v₂ :: rest)).toArray.all fun x => x == Value.type "tuple") = true := by
      simp only [List.all_toArray, List.all_map, List.all_eq_true]
      intro _ _
      rfl
    have h0 : (List.map (fun _ => Value.type "tuple") (v₁ :: v₂ :: rest)).toArray[0]? = some (Value.type "tuple") := by simp
    rw [h0]
    simp only [hall, if_true]
    exact wpAny_pure (wpAny_pure h)
theorem firsts_any {h : Heap} {k : Value → List Int} : ∀ vs : List Value, (∀ v ∈ vs, TupInts h v (k v) ∧ k v ≠ []) → ∃ fs, PySem.W.KatTups h vs fs ∧ fs.length = vs.length ∧ ∀ f, f ∈ fs → ∃ n t, f = Value.int n t
  | [], _ => ⟨[], PySem.W.KatTups.nil, rfl, fun f hf => by simp at hf⟩
  | v :: vs, x => by
    obtain ⟨fs, kk, hl, hi⟩ := firsts_any vs fun u hu => x u (List.mem_cons_of_mem _ hu)
    obtain ⟨⟨a, xs, rfl, ⟨o, ho, hc, n, hdt⟩, i⟩, hn⟩ := x v (List.mem_cons_self ..)
    obtain ⟨y, ys, e⟩ : ∃ y ys, xs.toList = y :: ys := by
      cases q : xs.toList with
      | nil =>
        rw [q] at i
        have l := i.length
        exact absurd (List.length_eq_zero_iff.mp l.symm) hn
      | cons y ys => exact ⟨y, ys, rfl⟩
    obtain ⟨m, t, hy⟩ := i.all y (by rw [e]; exact List.mem_cons_self ..)
    refine ⟨y :: fs, PySem.W.KatTups.cons ho hc hdt ?_ kk, by simp [hl], ?_⟩
    · have z := congrArg (fun l : List Value => l[0]?) e
      simpa using z
    · intro f hf
      rcases List.mem_cons.mp hf with rfl | hf
      · exact ⟨m, t, hy⟩
      · exact hi f hf
theorem tups_sortable {a : Addr} {vs : List Value} {k : Value → List Int} (hu : A.units < cLine) (h2 : 2 ≤ vs.length) (hp : ∀ v ∈ vs, TupInts s.heap v (k v)) (hk : (∀ v ∈ vs, k v ≠ []) ∨ ∃ v r, vs = v :: r ∧ k v = []) (ha : ∀ o, s.heap.get? a = some o → o.cls ≠ .type "tuple") :
    SortableO prog w A s a vs fun v u => lexLt (k v) (k u) := by
  intro h' keep
  have hp' : ∀ v ∈ vs, TupInts h' v (k v) := fun v hm => (hp v hm).keeps fun b o e c => keep b o (fun z => by subst z; exact ha o e c) e
  rcases hk with hk | ⟨v, r, rfl, hk⟩
  · obtain ⟨fs, f1, f2, f3⟩ := firsts_any vs fun v hv => ⟨hp' v hv, hk v hv⟩
    refine ⟨tuples' true, fun Q E hq => ?_, cmp_tups hp'⟩
    refine PySem.W.kat_kind (T := .type "int") f1 (by omega) (fun f hm => ?_) (by rfl) ?_
    · obtain ⟨x, t, rfl⟩ := f3 f hm
      exact PySem.W.Looks.now
    · have e : (Value.type "int" != Value.type "tuple") = true := by first | decide +kernel | rfl | decide
      rw [e]
      exact hq
  · match r, h2 with
    | v₂ :: rest, _ => exact ⟨oneType', fun Q E hq => kind_ones (s := { s with heap := h' }) hp' hk hq, cmp_ones hu hp'⟩
end
/-- sorted(xs), xs a list of tuples of whole numbers: k says which -/
def rSortedT (K : PySem.W.Frag) : List V → Hp → VK → Prop := fun vs H Q => ∃ (a : Addr) (xs : List V) (k : V → List Int), vs = [V.ref a] ∧ SqL K H a xs ∧ (∀ x ∈ xs, ∃ t, x = V.ref t ∧ H t = some (.tup ((k x).map V.int))) ∧
  ((∀ x ∈ xs, k x ≠ []) ∨ ∃ x r, xs = x :: r ∧ k x = []) ∧ ∀ ys p, Srtd (fun x y => lexLt (k x) (k y)) ys → ys.Perm xs → H p = none → Q (.ref p) (upd H p (.lst ys))
section
variable {X : Cx}
theorem cr_sortedT (hu : X.A.units + 64 < cLine) : CallR X (.builtin "sorted") (rSortedT X.K) := by
  intro pins s σ H vs us Q I r h
  obtain ⟨a, xs, k, rfl, hs, hx, hk, q⟩ := h
  obtain ⟨its, rv, hl, hz⟩ := I.list hs
  rw [Vals.ref1 r]
  obtain ⟨e1, e2⟩ := refs_back rv fun x m => by
    obtain ⟨t, e, _⟩ := hx x m
    exact ⟨t, e⟩
  have tup : ∀ v ∈ its, TupInts s.heap v (k (backV v)) := fun v hv => by
    obtain ⟨t, rfl⟩ := e2 v hv
    have hm : V.ref t ∈ xs := by rw [e1]; exact List.mem_map.mpr ⟨_, hv, rfl⟩
    obtain ⟨t', e, ht⟩ := hx _ hm
    cases e
    obtain ⟨_, its2, r2, o, ho, hc, n, hd⟩ := I.hok _ _ ht
    exact ⟨t, its2.toArray, rfl, ⟨o, ho, hc, n, hd⟩, by show IntsAre its2.toArray.toList (k (.ref t)); simpa using r2.ints⟩
  have hk' : (∀ v ∈ its, k (backV v) ≠ []) ∨ ∃ v r, its = v :: r ∧ k (backV v) = [] := by
    rcases hk with hk | ⟨x, r, e, hk⟩
    · exact .inl fun v hv => hk _ (by rw [e1]; exact List.mem_map.mpr ⟨v, hv, rfl⟩)
    · right
      rw [e1] at e
      cases its with
      | nil => cases e
      | cons v rest =>
        rw [List.map_cons] at e
        injection e with e _
        exact ⟨v, rest, rfl, by rw [e]; exact hk⟩
  refine SrtO.sorted_ord (swo_lexL fun v => k (backV v)) hl.isList (by rw [← rv.length]; exact hz) (fun h2 h₁ a' ha kk => ?_) fun out h1 h2 => ?_
  · refine tups_sortable (s := { s with heap := h₁ }) (by show X.A.units + 1 + 1 < cLine; omega) h2 (fun v hv => (tup v hv).keeps fun b o e _ => (kk b o e).2) hk' fun o e => ?_
    have e' : some o = some (seqObj "list" its.toArray 0) := e.symm.trans ha
    cases e'
    intro c
    exact absurd (Value.type.inj c) (by decide)
  · obtain ⟨ep, he'⟩ := PyProof.Rows.sortedAll_at s.heap its out.toArray
    have h3 : ∀ u ∈ out, ∃ a, u = Value.ref a := fun u hu => e2 u (h2.perm.mem_iff.mp hu)
    have hb : (out.map backV).Perm xs := by rw [e1]; exact h2.perm.map _
    exact ⟨.ref _, upd H (s.heap.objs.size + 1) (.lst (out.map backV)), I.laid (t' := s.toks) (fun _ _ => PyProof.Rows.sortedAll_old) (Nat.le_succ _) ⟨by rw [hb.length_eq]; exact hz, out, ep, vals_back h3, he'⟩, rfl,
      q _ _ (SrtO.srtd_map h1) hb (I.hok.fresh (Nat.le_succ _))⟩
end
/-- a tuple of whole numbers -/
abbrev tupI (ns : List Int) : D := .tup (ns.map D.int)
def kOf (F : Hp) (v : V) : List Int := match v with
  | .ref t => match F t with
    | some (.tup xs) => xs.map fun | .int i => i | _ => 0
    | _ => []
  | _ => []
theorem kOf_at {F : Hp} {v : V} {ns : List Int} (h : Dn F v (tupI ns)) : kOf F v = ns ∧ ∃ t, v = .ref t ∧ F t = some (.tup (ns.map V.int)) := by
  cases h with
  | @tup a xs _ ha hl =>
    have e := DnL.ints ns hl
    subst e
    refine ⟨?_, a, rfl, ha⟩
    simp only [kOf, ha, List.map_map]
    induction ns with
    | nil => rfl
    | cons n r ih =>
      rw [List.map_cons]
      congr 1
      show List.map _ r = r
      clear ha hl ih
      induction r with
      | nil => rfl
      | cons m r ih => rw [List.map_cons, ih]; rfl
theorem kOf_all {F : Hp} : ∀ {xs : List V} {ls : List (List Int)}, DnL F xs (ls.map tupI) → xs.map (kOf F) = ls ∧ ∀ x ∈ xs, ∃ t, x = .ref t ∧ F t = some (.tup ((kOf F x).map V.int))
  | _, [], .nil => ⟨rfl, fun x h => by simp at h⟩
  | _, l :: ls, .cons h r => by
    obtain ⟨e, t, ht, hF⟩ := kOf_at h
    obtain ⟨r1, r2⟩ := kOf_all r
    refine ⟨by rw [List.map_cons, e, r1], fun x hx => ?_⟩
    rcases List.mem_cons.mp hx with rfl | hx
    · exact ⟨t, ht, by rw [e]; exact hF⟩
    · exact r2 x hx
theorem kOf_back {F : Hp} : ∀ {ys : List V}, (∀ x ∈ ys, ∃ t, x = .ref t ∧ F t = some (.tup ((kOf F x).map V.int))) → DnL F ys ((ys.map (kOf F)).map tupI)
  | [], _ => .nil
  | y :: ys, h => by
    obtain ⟨t, e, hF⟩ := h y (.head _)
    refine .cons ?_ (kOf_back fun x hx => h x (.tail _ hx))
    have := Dn.tup hF (DnL.of_ints (kOf F y))
    rw [← e] at this
    exact this
theorem lsorted_uniq : ∀ (l m : List (List Int)), (l.Pairwise fun a b => HT.lexLt b a = false) → (m.Pairwise fun a b => HT.lexLt b a = false) → l.Perm m → l = m
  | [], m, _, _, p => (List.Perm.eq_nil p.symm).symm
  | x :: l, [], _, _, p => absurd p.length_eq (by simp)
  | x :: l, y :: m, hl, hm, p => by
      have h1 : x = y := by
        refine lexLt_conn x y ?_ ?_
        · rcases List.mem_cons.mp (p.mem_iff.mp (List.mem_cons_self (a := x) (l := l))) with e | hx
          · rw [e]; exact lexLt_irr y
          · exact (List.pairwise_cons.mp hm).1 x hx
        · rcases List.mem_cons.mp (p.mem_iff.mpr (List.mem_cons_self (a := y) (l := m))) with e | hy
          · rw [e]; exact lexLt_irr x
          · exact (List.pairwise_cons.mp hl).1 y hy
      subst h1
      have p' : l.Perm m := p.cons_inv
      have hl' := (List.pairwise_cons.mp hl).2
      have hm' := (List.pairwise_cons.mp hm).2
      rw [lsorted_uniq l m hl' hm' p']
section
variable {X : Cx} {sl : List Sl} {ms : List Ob} {R : D → Prop} {e : Expr} {p pos : Pos}
/-- sorted(e), e a list of tuples of whole numbers -/
theorem j_sortedT (hu : X.A.units + 64 < cLine) (hm : X.mg "sorted" = none)
    (h : Er sl ms (wE X e) fun x => ∃ ls : List (List Int), x = .lst (ls.map tupI) ∧ ((∀ l ∈ ls, l ≠ []) ∨ ∃ r, ls = [] :: r) ∧ ∀ l' : List (List Int), l'.Perm ls → (l'.Pairwise fun a b => HT.lexLt b a = false) → R (.lst (l'.map tupI)))
    (hg : Gl X "sorted" := by rfl) (he : starEach [e] X.env = (false, eval e X.env) :: starEach [] X.env := by rfl) :
    Er sl ms (wE X (.Call (.Name "sorted" p) [e] [] pos)) R :=
  Er.of (pe_callB (cr_sortedT hu) hg hm (by decide +kernel) (pa_cons pe_w pa_nil he) (he := he)) fun ho F0 H0 F ps ex σ H a Q q => h ho F0 H0 F ps ex σ H a _ fun v d F1 H1 ⟨ls, e, hk, k⟩ a1 => by
    subst e
    obtain ⟨t, xs, rfl, ha, hd⟩ : ∃ p xs, v = .ref p ∧ F1 p = some (.lst xs) ∧ DnL F1 xs (ls.map tupI) := by cases a1.top with | lst ha hl => exact ⟨_, _, rfl, ha, hl⟩
    obtain ⟨r1, r2⟩ := kOf_all hd
    refine ⟨t, xs, kOf F1, rfl, sq_l a1.fh ha, fun x hx => (r2 x hx).imp fun t ⟨e, h⟩ => ⟨e, a1.fh _ _ h⟩, ?_, fun ys z h1 h2 hz => ?_⟩
    · rcases hk with hk | ⟨r, hk⟩
      · exact .inl fun x hx => hk _ (by rw [← r1]; exact List.mem_map.mpr ⟨x, hx, rfl⟩)
      · right
        cases xs with
        | nil => rw [hk] at r1; cases r1
        | cons x xs =>
          rw [hk, List.map_cons] at r1
          injection r1 with r1 _
          exact ⟨x, xs, rfl, r1⟩
    · have hy := kOf_back (F := F1) (ys := ys) fun x hx => r2 x (h2.mem_iff.mp hx)
      have hp : (ys.map (kOf F1)).Perm ls := by rw [← r1]; exact h2.map _
      have a2 := a1.pop.laid (o := .lst ys) hz
      exact q _ _ _ _ (k _ hp (List.pairwise_map.mpr h1)) (a2.push (.lst upd_same (hy.mono (Ex.new (a1.fh.none hz)))))
end
end E
set_option Elab.async false
set_option linter.all false
set_option maxRecDepth 100000
/-! Shifts, the lowest bit, range(a, b), sorted of a list of one's own. -/
namespace E
open PySem PySem.Spec PyProof.Rows L2
variable [KF]
section
variable {X : Cx} {sl : List Sl} {ms : List Ob} {R : D → Prop} {a b e : Expr} {pos p p2 : Pos} {x : Str}
theorem j_shl (h : Er sl ms (wE X a) fun x => Er sl ms (wE X b) fun y => ∃ i j, x = .int i ∧ y = .int j ∧ CPow i j ∧ R (.int (i * 2 ^ j.toNat))) : Er sl ms (wE X (.BinOp a .LShift b pos)) R :=
  Er.of (pe_op op_shl pe_w pe_w) (er_op' (h.mono fun _ h => h.mono fun _ ⟨_, _, e1, e2, hc, k⟩ => by rw [e1, e2]; exact R2.done (r2_I hc fun _ => .int _) k))
theorem j_shr (h : Er sl ms (wE X a) fun x => Er sl ms (wE X b) fun y => ∃ i j, x = .int i ∧ y = .int j ∧ 0 ≤ j ∧ R (.int (i / 2 ^ j.toNat))) : Er sl ms (wE X (.BinOp a .RShift b pos)) R :=
  Er.of (pe_op op_shr pe_w pe_w) (er_op' (h.mono fun _ h => h.mono fun _ ⟨_, _, e1, e2, hc, k⟩ => by rw [e1, e2]; exact R2.done (r2_I hc fun _ => .int _) k))
theorem j_bit1 (h : Er sl ms (wE X a) fun x => Er sl ms (wE X b) fun y => ∃ n : Nat, x = .int n ∧ y = .int 1 ∧ R (.int ((n % 2 : Nat) : Int))) : Er sl ms (wE X (.BinOp a .BitAnd b pos)) R :=
  Er.of (pe_op op_odd pe_w pe_w) (er_op' (h.mono fun _ h => h.mono fun _ ⟨n, e1, e2, k⟩ => by
    rw [e1, e2]
    intro F H v w eh hv hw Q q
    cases hv; cases hw
    exact ⟨n, rfl, rfl, q _ _ F H k (Ext.refl eh) (.int _)⟩))
/-- m, m + 1, .. as data -/
def numbersFrom (m n : Nat) : List D := (List.range n).map fun i => .int ((m + i : Nat) : Int)
theorem numbersFrom_len {m n : Nat} : (numbersFrom m n).length = n := by simp [numbersFrom]
theorem numbersFrom_get {m n i : Nat} {d : D} (h : (numbersFrom m n)[i]? = some d) : i < n ∧ d = .int ((m + i : Nat) : Int) := by
  unfold numbersFrom at h
  rw [List.getElem?_map] at h
  by_cases hi : i < n
  · rw [List.getElem?_range hi] at h
    exact ⟨hi, by cases h; rfl⟩
  · rw [List.getElem?_eq_none (by simpa using Nat.le_of_not_lt hi)] at h
    cases h
theorem ei_range2 {ta tb : TE} {K : List D → Prop} (h : Er sl ms ta fun x => Er sl ms tb fun y => ∃ m n : Nat, x = .int m ∧ y = .int ((m + n : Nat) : Int) ∧ m + n < 2 ^ 62 ∧ K (numbersFrom m n)) : Ei sl ms (iRng2 (tCons ta (tCons tb tNil))) none K := ⟨nofx, fun ho F0 H0 F ps ex σ H a Rr q =>
  h ho F0 H0 F ps ex σ H a _ fun v d F1 H1 h' a1 => h' ho F0 H0 F1 ps _ σ H1 a1 _ fun v2 d2 F2 H2 ⟨m, n, e, e2, hn, k⟩ a2 => by
    subst e e2
    cases a2.pop.top
    cases a2.top
    refine ⟨m, ((m + n : Nat) : Int), rfl, ⟨by omega, by omega, by omega, by omega⟩, q _ F2 H2 [] _ ⟨_, rfl, k⟩ a2.pop.pop fun ps' F3 H3 e3 _ _ => ⟨fun i d hd => ?_, ?_⟩⟩
    · obtain ⟨d, hw, rfl⟩ := walk_d hd; have hd := hw
      obtain ⟨hi, rfl⟩ := numbersFrom_get hd
      refine ⟨by show i < (((m + n : Nat) : Int) - (m : Int)).toNat; omega, fun x H4 hy => ?_⟩
      obtain ⟨rfl, rfl⟩ := hy
      exact ⟨F3, Ext.refl e3, .d (by rw [show (m : Int) + (i : Int) = ((m + i : Nat) : Int) by omega]; exact .int _)⟩
    · show (((m + n : Nat) : Int) - (m : Int)).toNat ≤ ((numbersFrom m n).map Di.d).length
      rw [List.length_map, numbersFrom_len]
      omega⟩
theorem ji_range2 {tg : Expr} {K : List D → Prop} (hm : X.mg "range" = none) (h : Er sl ms (wE X a) fun x => Er sl ms (wE X b) fun y => ∃ m n : Nat, x = .int m ∧ y = .int ((m + n : Nat) : Int) ∧ m + n < 2 ^ 62 ∧ K (numbersFrom m n)) (hg : Gl X "range" := by rfl)
    (hs : starEach [a, b] X.env = [(false, eval a X.env), (false, eval b X.env)] := by rfl) (hs2 : starEach [a, b] X.env = (false, eval a X.env) :: starEach [b] X.env := by rfl) (hs3 : starEach [b] X.env = (false, eval b X.env) :: starEach [] X.env := by rfl) (hs4 : starEach [b] X.env = [(false, eval b X.env)] := by rfl) :
    Ei sl ms (wI X tg (.Call (.Name "range" p) [a, b] [] pos)) none K := Ei.of (pi_range2 hg hm (pa_cons pe_w (pa_cons pe_w pa_nil hs3) hs2) hs hs4) (ei_range2 h)
/-- sorted of a list of one's own -/
theorem j_sortedTM (i : Nat) {k : Nat} {ls : List (List Int)} (hu : X.A.units + 64 < cLine) (hN : X.N[i]? = some x) (hs : sl[i]? = some (.m k)) (hk : ms[k]? = some (.l (ls.map tupI))) (hm : X.mg "sorted" = none) (h0 : (∀ l ∈ ls, l ≠ []) ∨ ∃ r, ls = [] :: r)
    (q : ∀ l' : List (List Int), l'.Perm ls → (l'.Pairwise fun a b => HT.lexLt b a = false) → R (.lst (l'.map tupI))) (hg : Gl X "sorted" := by rfl) (he : starEach [.Name x p2] X.env = (false, eval (.Name x p2) X.env) :: starEach [] X.env := by rfl)
    (hv : Vis X.env.scope x := by first | exact Or.inl rfl | exact Or.inr (Or.inl rfl) | exact Or.inr (Or.inr rfl)) (hd : (x == ("__debug__" : Str)) = false := by decide) (hcd : (x == ("__classdict__" : Str)) = false := by decide) :
    Er sl ms (wE X (.Call (.Name "sorted" p) [.Name x p2] [] pos)) R :=
  Er.of (pe_callB (cr_sortedT hu) hg hm (by decide +kernel) (pa_cons (pv i hN hv hd hcd) pa_nil he) (he := he)) fun ho F0 H0 F ps ex σ H a Q qq => by
    obtain ⟨t, xs, e, hp, ha, hdl⟩ := a.ml hs hk
    obtain ⟨r1, r2⟩ := kOf_all hdl
    refine ⟨_, e, t, xs, kOf F, rfl, .inl (.inl ha), fun x hx => (r2 x hx).imp fun t ⟨e, h⟩ => ⟨e, a.fh _ _ h⟩, ?_, fun ys z h1 h2 hz => ?_⟩
    · rcases h0 with h0 | ⟨r, h0⟩
      · exact .inl fun x hx => h0 _ (by rw [← r1]; exact List.mem_map.mpr ⟨x, hx, rfl⟩)
      · right
        cases xs with
        | nil => rw [h0] at r1; cases r1
        | cons x xs =>
          rw [h0, List.map_cons] at r1
          injection r1 with r1 _
          exact ⟨x, xs, rfl, r1⟩
    · have hy := kOf_back (F := F) (ys := ys) fun x hx => r2 x (h2.mem_iff.mp hx)
      have hp : (ys.map (kOf F)).Perm ls := by rw [← r1]; exact h2.map _
      have a2 := a.laid (o := .lst ys) hz
      exact qq _ _ _ _ (q _ hp (List.pairwise_map.mpr h1)) (a2.push (.lst upd_same (hy.mono (Ex.new (a.fh.none hz)))))
end
end E
set_option Elab.async false
set_option linter.all false
set_option maxRecDepth 100000
set_option maxHeartbeats 1000000
/-! zip of a tuple and a list (of any two feeders). -/
namespace ZZ
open PySem
/-- it hands out xs (out of src), one by one; st k: k are out -/
structure Fd (prog : Program) (w : World) (it src : Addr) (xs : Array Value) (st : Nat → Heap → Prop) : Prop where
  low : ∀ k h, st k h → ∃ o, h.get? it = some o ∧ ∀ v, o.data ≠ .cell v
  move : ∀ k h h', st k h → (∀ o, h.get? it = some o → h'.get? it = some o) → (∀ o, h.get? src = some o → h'.get? src = some o) → st k h'
  item : ∀ (A : Around) (E : Value → Shared → Prop) (s : Shared) (k : Nat) (x : Value) (Q : Value → Shared → Prop), st k s.heap → xs[k]? = some x → (∀ h', st (k + 1) h' → Heap.SameBut it s.heap h' → Q x { s with heap := h' }) →
    wpAny (model prog w) A (Builtin.SmallTypes.nextOf (.ref it)) Q E s
  stop : ∀ (A : Around) (E : Value → Shared → Prop) (s : Shared) (k : Nat) (Q : Value → Shared → Prop), A.handled = none → st k s.heap → xs[k]? = none →
    (∀ h' e, Heap.ExtBut it s.heap h' → (∃ o, h'.get? e = some o ∧ o.cls = .type "StopIteration") → E (.ref e) { s with heap := h' }) → wpAny (model prog w) A (Builtin.SmallTypes.nextOf (.ref it)) Q E s
theorem fd_tup {prog : Program} {w : World} {it l : Addr} {xs : Array Value} (ne : l ≠ it) : Fd prog w it l xs fun k h => h.IsTupleIter it l k ∧ h.IsTuple l xs where
  low := fun k h ⟨⟨o, e, _, d⟩, _⟩ => ⟨o, e, fun v q => by rw [d] at q; cases q⟩
  move := fun k h h' ⟨a, ⟨o, e, r⟩⟩ m1 m2 => ⟨a.at m1, o, m2 _ e, r⟩
  item := fun A E s k x Q ⟨a, b⟩ hx q => RZ.nextOf_tuple_item a b hx fun h' a' sb => q h' ⟨a', b.extBut sb.extBut ne⟩ sb
  stop := fun A E s k Q hh ⟨a, b⟩ hx q => RZ.nextOf_tuple_end hh a b hx q
theorem fd_list {prog : Program} {w : World} {it l : Addr} {xs : Array Value} (ne : l ≠ it) : Fd prog w it l xs fun k h => h.IsListIter it l k ∧ h.IsList l xs where
  low := fun k h ⟨⟨o, e, _, d⟩, _⟩ => ⟨o, e, fun v q => by rw [d] at q; cases q⟩
  move := fun k h h' ⟨a, ⟨o, e, r⟩⟩ m1 m2 => ⟨a.at m1, o, m2 _ e, r⟩
  item := fun A E s k x Q ⟨a, b⟩ hx q => wpAny_nextOf_list_item a b hx fun h' a' sb => q h' ⟨a', b.extBut sb.extBut ne⟩ sb
  stop := fun A E s k Q hh ⟨a, b⟩ hx q => wpAny_nextOf_list_end hh a b hx q
section
variable {prog : Program} {w : World} {A : Around} {E : Value → Shared → Prop} {s : Shared} {z TI TO i1 i2 l1 l2 : Addr} {k : Nat} {xs ys : Array Value} {x y a b : Value} {st1 st2 : Nat → Heap → Prop}
/-- all but the zip, its last pair and the two iterators -/
abbrev Else (z TO i1 i2 : Addr) (h h' : Heap) : Prop := ∀ c o, c ≠ z → c ≠ TO → c ≠ i1 → c ≠ i2 → h.get? c = some o → h'.get? c = some o
theorem next_item {Q : Value → Shared → Prop} (D : ZipApart z TI TO i1 i2 l1 l2) (f1 : Fd prog w i1 l1 xs st1) (f2 : Fd prog w i2 l2 ys st2) (oz : IsZip s.heap z TI TO .none) (pI : IsPair s.heap TI (.ref i1) (.ref i2)) (pO : IsPair s.heap TO a b)
    (u1 : st1 k s.heap) (u2 : st2 k s.heap) (ex : xs[k]? = some x) (ey : ys[k]? = some y)
    (done : ∀ h', IsZip h' z TI TO (rawInt s.heap.objs.size) → IsPair h' TO x y → st1 (k + 1) h' → st2 (k + 1) h' → IsPair h' s.heap.objs.size x y → Else z TO i1 i2 s.heap h' → Q (.ref s.heap.objs.size) { s with heap := h' }) :
    wpAny (model prog w) A (Builtin.«zip.__next__» ⟨[.ref z], []⟩) (fun fin s' => ∃ v, fin = .done (.ret v) ∧ Q v s') E s := by
  show wpAny _ _ (field (.ref z) 2 >>= _) _ _ _
  refine wpAny_bind (wpAny_field oz rfl (x := .bool false) rfl (show wpAny _ _ (field (.ref z) 3 >>= _) _ _ _ from wpAny_bind (wpAny_field oz rfl (x := .ref TI) rfl (wpAny_bind (wpAny_seqItems pI rfl ?_)))))
  show wpAny _ _ (Builtin.SmallTypes.ownedTupleIsFree (.ref z) >>= _) _ _ _
  unfold Builtin.SmallTypes.ownedTupleIsFree
  refine wpAny_bind (wpAny_bind (wpAny_field oz rfl (x := .none) rfl (wpAny_pure ?_)))
  simp only [if_true]
  refine wpAny_bind (wpAny_rule (wpAny_bind (wpAny_field oz rfl (x := .ref TO) rfl (wpAny_bind (wpAny_setField_rec oz (by simp) fun g1 oz1 b1 => wpAny_bind ?_)))))
  have oz1 : IsZip g1 z TI TO .ellipsis := oz1
  simp only [List.zipIdx_cons, List.zipIdx_nil, List.forIn_cons, List.forIn_nil]
  refine wpAny_bind (wpAny_bind (wpAny_onRaise (show wpAny _ _ (Builtin.SmallTypes.nextOf (.ref i1) >>= _) _ _ _ from wpAny_bind (f1.item _ _ { s with heap := g1 } k x _ (f1.move _ _ _ u1 (fun o e => b1.extBut _ _ D.i1z e) fun o e => b1.extBut _ _ D.l1z e) ex fun g2 v1 b2 => wpAny_pure ?_))))
  have pO2 : IsPair g2 TO a b := b2.extBut _ _ D.TOi1 (b1.extBut _ _ D.TOz pO)
  refine wpAny_bind (wpAny_seqItems pO2 rfl (wpAny_bind (wpAny_updateSeq_pair pO2 fun g3 pO3 b3 => wpAny_bind (wpAny_letGo (wpAny_pure ?_)))))
  have pO3 : IsPair g3 TO x b := pO3
  have u2' : st2 k g3 := f2.move _ _ _ u2 (fun o e => b3.extBut _ _ D.TOi2.symm (b2.extBut _ _ D.i12.symm (b1.extBut _ _ D.i2z e))) fun o e => b3.extBut _ _ D.l2TO (b2.extBut _ _ D.l2i1 (b1.extBut _ _ D.l2z e))
  refine wpAny_bind (wpAny_bind (wpAny_onRaise (show wpAny _ _ (Builtin.SmallTypes.nextOf (.ref i2) >>= _) _ _ _ from wpAny_bind (f2.item _ _ { s with heap := g3 } k y _ u2' ey fun g4 v2 b4 => wpAny_pure ?_))))
  have pO4 : IsPair g4 TO x b := b4.extBut _ _ D.TOi2 pO3
  refine wpAny_bind (wpAny_seqItems pO4 rfl (wpAny_bind (wpAny_updateSeq_pair pO4 fun g5 pO5 b5 => wpAny_bind (wpAny_letGo (wpAny_pure (wpAny_pure ?_))))))
  have pO5 : IsPair g5 TO x y := pO5
  refine wpAny_bind (wpAny_seqItems pO5 rfl (wpAny_bind (wpAny_newTuple ?_)))
  have size : g5.objs.size = s.heap.objs.size := b5.1.trans (b4.1.trans (b3.1.trans (b2.1.trans b1.1)))
  have oz5 : IsZip g5 z TI TO .ellipsis := b5.extBut _ _ D.TOz.symm (b4.extBut _ _ D.i2z.symm (b3.extBut _ _ D.TOz.symm (b2.extBut _ _ D.i1z.symm oz1)))
  have rest : Else z TO i1 i2 s.heap g5 := fun c o n1 n2 n3 n4 e => b5.extBut _ _ n2 (b4.extBut _ _ n4 (b3.extBut _ _ n2 (b2.extBut _ _ n3 (b1.extBut _ _ n1 e))))
  have w1 : st1 (k + 1) g5 := f1.move _ _ _ v1 (fun o e => b5.extBut _ _ D.TOi1.symm (b4.extBut _ _ D.i12 (b3.extBut _ _ D.TOi1.symm e))) fun o e => b5.extBut _ _ D.l1TO (b4.extBut _ _ D.l1i2 (b3.extBut _ _ D.l1TO e))
  have w2 : st2 (k + 1) g5 := f2.move _ _ _ v2 (fun o e => b5.extBut _ _ D.TOi2.symm e) fun o e => b5.extBut _ _ D.l2TO e
  have zlt : z < g5.objs.size := Heap.lt_size oz5
  show wpAny _ _ (Builtin.SmallTypes.ownedTupleHandOut (.ref z) (.ref g5.objs.size) >>= _) _ _ _
  unfold Builtin.SmallTypes.ownedTupleHandOut
  have oz6 : IsZip (g5.push { cls := .type "tuple", data := .seq #[x, y] }) z TI TO .ellipsis := Heap.get?_push_of_some _ oz5
  refine wpAny_bind (wpAny_bind (wpAny_setField_rec oz6 (by simp) fun g7 oz7 b7 => ?_))
  have oz7 : IsZip g7 z TI TO (rawInt g5.objs.size) := oz7
  refine wpAny_setField_rec oz7 (by simp) fun g8 oz8 b8 => ?_
  have oz8 : IsZip g8 z TI TO (rawInt g5.objs.size) := oz8
  have up : ∀ c o, c ≠ z → g5.get? c = some o → g8.get? c = some o := fun c o n e => b8.extBut _ _ n (b7.extBut _ _ n (Heap.get?_push_of_some _ e))
  have pT : IsPair g8 g5.objs.size x y := b8.extBut _ _ (Nat.ne_of_gt zlt) (b7.extBut _ _ (Nat.ne_of_gt zlt) (Heap.get?_push_size _ rfl))
  rw [size] at oz8 pT
  refine wpAny_pure ⟨_, rfl, ?_⟩
  show Q (.ref g5.objs.size) _
  rw [size]
  exact done g8 oz8 (up _ _ D.TOz pO5) (f1.move _ _ _ w1 (fun o e => up _ o D.i1z e) fun o e => up _ o D.l1z e) (f2.move _ _ _ w2 (fun o e => up _ o D.i2z e) fun o e => up _ o D.l2z e) pT fun c o n1 n2 n3 n4 e => up c o n1 (rest c o n1 n2 n3 n4 e)
theorem next_stop {Q : PySem.Fin → Shared → Prop} (hh : A.handled = none) (D : ZipApart z TI TO i1 i2 l1 l2) (f1 : Fd prog w i1 l1 xs st1) (f2 : Fd prog w i2 l2 ys st2) (oz : IsZip s.heap z TI TO .none) (pI : IsPair s.heap TI (.ref i1) (.ref i2)) (pO : IsPair s.heap TO a b)
    (u1 : st1 k s.heap) (u2 : st2 k s.heap) (over : xs[k]? = none ∨ ys[k]? = none)
    (out : ∀ h' e, Else z TO i1 i2 s.heap h' → (∃ o, h'.get? e = some o ∧ o.cls = .type "StopIteration") → E (.ref e) { s with heap := h' }) :
    wpAny (model prog w) A (Builtin.«zip.__next__» ⟨[.ref z], []⟩) Q E s := by
  show wpAny _ _ (field (.ref z) 2 >>= _) _ _ _
  refine wpAny_bind (wpAny_field oz rfl (x := .bool false) rfl (show wpAny _ _ (field (.ref z) 3 >>= _) _ _ _ from wpAny_bind (wpAny_field oz rfl (x := .ref TI) rfl (wpAny_bind (wpAny_seqItems pI rfl ?_)))))
  show wpAny _ _ (Builtin.SmallTypes.ownedTupleIsFree (.ref z) >>= _) _ _ _
  unfold Builtin.SmallTypes.ownedTupleIsFree
  refine wpAny_bind (wpAny_bind (wpAny_field oz rfl (x := .none) rfl (wpAny_pure ?_)))
  simp only [if_true]
  refine wpAny_bind (wpAny_rule (wpAny_bind (wpAny_field oz rfl (x := .ref TO) rfl (wpAny_bind (wpAny_setField_rec oz (by simp) fun g1 oz1 b1 => wpAny_bind ?_)))))
  have oz1 : IsZip g1 z TI TO .ellipsis := oz1
  simp only [List.zipIdx_cons, List.zipIdx_nil, List.forIn_cons, List.forIn_nil]
  have u1' : st1 k g1 := f1.move _ _ _ u1 (fun o e => b1.extBut _ _ D.i1z e) fun o e => b1.extBut _ _ D.l1z e
  refine wpAny_bind (wpAny_bind (wpAny_onRaise (show wpAny _ _ (Builtin.SmallTypes.nextOf (.ref i1) >>= _) _ _ _ from ?_)))
  cases ex : xs[k]? with
  | none =>
    refine wpAny_bind (f1.stop _ _ { s with heap := g1 } k _ hh u1' ex fun g2 e b2 ⟨oe, he, ce⟩ => ?_)
    have oz2 : IsZip g2 z TI TO .ellipsis := b2 _ _ D.i1z.symm oz1
    have nz : e ≠ z := fun q => by subst q; rw [oz2] at he; cases he; simp at ce
    exact wpAny_setField_rec oz2 (by simp) fun g3 _ b3 => out g3 e (fun c o n1 _ n3 _ q => b3.extBut _ _ n1 (b2 _ _ n3 (b1.extBut _ _ n1 q))) ⟨oe, b3.extBut _ _ nz he, ce⟩
  | some x =>
    have ey : ys[k]? = none := over.resolve_left (by rw [ex]; simp)
    refine wpAny_bind (f1.item _ _ { s with heap := g1 } k x _ u1' ex fun g2 v1 b2 => wpAny_pure ?_)
    have pO2 : IsPair g2 TO a b := b2.extBut _ _ D.TOi1 (b1.extBut _ _ D.TOz pO)
    refine wpAny_bind (wpAny_seqItems pO2 rfl (wpAny_bind (wpAny_updateSeq_pair pO2 fun g3 pO3 b3 => wpAny_bind (wpAny_letGo (wpAny_pure ?_)))))
    have u2' : st2 k g3 := f2.move _ _ _ u2 (fun o e => b3.extBut _ _ D.TOi2.symm (b2.extBut _ _ D.i12.symm (b1.extBut _ _ D.i2z e))) fun o e => b3.extBut _ _ D.l2TO (b2.extBut _ _ D.l2i1 (b1.extBut _ _ D.l2z e))
    refine wpAny_bind (wpAny_bind (wpAny_onRaise (show wpAny _ _ (Builtin.SmallTypes.nextOf (.ref i2) >>= _) _ _ _ from wpAny_bind (f2.stop _ _ { s with heap := g3 } k _ hh u2' ey fun g4 e b4 ⟨oe, he, ce⟩ => ?_))))
    have oz4 : IsZip g4 z TI TO .ellipsis := b4 _ _ D.i2z.symm (b3.extBut _ _ D.TOz.symm (b2.extBut _ _ D.i1z.symm oz1))
    have nz : e ≠ z := fun q => by subst q; rw [oz4] at he; cases he; simp at ce
    exact wpAny_setField_rec oz4 (by simp) fun g5 _ b5 => out g5 e (fun c o n1 n2 n3 n4 q => b5.extBut _ _ n1 (b4 _ _ n4 (b3.extBut _ _ n2 (b2.extBut _ _ n3 (b1.extBut _ _ n1 q))))) ⟨oe, b5.extBut _ _ nz he, ce⟩
theorem py_item {Q : Option Value → Shared → Prop} (D : ZipApart z TI TO i1 i2 l1 l2) (f1 : Fd prog w i1 l1 xs st1) (f2 : Fd prog w i2 l2 ys st2) (oz : IsZip s.heap z TI TO .none) (pI : IsPair s.heap TI (.ref i1) (.ref i2)) (pO : IsPair s.heap TO a b)
    (u1 : st1 k s.heap) (u2 : st2 k s.heap) (ex : xs[k]? = some x) (ey : ys[k]? = some y)
    (done : ∀ h', IsZip h' z TI TO (rawInt s.heap.objs.size) → IsPair h' TO x y → st1 (k + 1) h' → st2 (k + 1) h' → IsPair h' s.heap.objs.size x y → Else z TO i1 i2 s.heap h' → Q (some (.ref s.heap.objs.size)) { s with heap := h' }) :
    wpAny (model prog w) A (pyNext (.ref z)) Q E s := by
  unfold pyNext
  have ty : s.TypeIs (.ref z) "zip" := ⟨_, oz, rfl⟩
  exact wpAny_bind (wpAny_attempt (wpAny_callSpecial?_slot (name := Str.ofString "__next__") ty F.slot_zip_next (wpAny_call_entry F.slot_zip_next ty F.entry_zip_next
    (next_item D f1 f2 oz pI pO u1 u2 ex ey fun h' c1 c2 c3 c4 c5 c6 => wpAny_pure (done h' c1 c2 c3 c4 c5 c6)) (F.args_zip_next_1 _))))
theorem py_stop {Q : Option Value → Shared → Prop} (hh : A.handled = none) (D : ZipApart z TI TO i1 i2 l1 l2) (f1 : Fd prog w i1 l1 xs st1) (f2 : Fd prog w i2 l2 ys st2) (oz : IsZip s.heap z TI TO .none) (pI : IsPair s.heap TI (.ref i1) (.ref i2)) (pO : IsPair s.heap TO a b)
    (u1 : st1 k s.heap) (u2 : st2 k s.heap) (over : xs[k]? = none ∨ ys[k]? = none) (out : ∀ h', Else z TO i1 i2 s.heap h' → Q none { s with heap := h' }) : wpAny (model prog w) A (pyNext (.ref z)) Q E s := by
  unfold pyNext
  have ty : s.TypeIs (.ref z) "zip" := ⟨_, oz, rfl⟩
  refine wpAny_bind (wpAny_attempt (wpAny_callSpecial?_slot (name := Str.ofString "__next__") ty F.slot_zip_next (wpAny_call_entry F.slot_zip_next ty F.entry_zip_next
    (next_stop hh D f1 f2 oz pI pO u1 u2 over fun h' e hk ⟨o, ho, hc⟩ => ?_) (F.args_zip_next_1 _))))
  exact wpAny_bind (wpAny_isInstance (T := "StopIteration") (b := true) ⟨o, ho, hc⟩ isSubtype_stop (wpAny_pure (out _ hk)))
/-! zip(t, l) is made -/
abbrev it1 (l : Addr) : Obj := { cls := .type "tuple_iterator", data := .fields #[.ref l, .int 0 0] }
abbrev it2 (l : Addr) : Obj := { cls := .type "list_iterator", data := .fields #[.ref l, .int 0 0] }
abbrev two (p q : Value) : Obj := { cls := .type "tuple", data := .seq #[p, q] }
abbrev zobj (p q : Addr) : Obj := { cls := .type "zip", data := .fields #[.none, .bool false, .bool false, .ref p, .ref q] }
abbrev made4 (h : Heap) (l1 l2 : Addr) : Heap := (((h.push (it1 l1)).push (it2 l2)).push (two (.ref h.objs.size) (.ref (h.push (it1 l1)).objs.size))).push (two .none .none)
abbrev made5 (h : Heap) (l1 l2 : Addr) : Heap := (made4 h l1 l2).push (zobj ((h.push (it1 l1)).push (it2 l2)).objs.size (((h.push (it1 l1)).push (it2 l2)).push (two (.ref h.objs.size) (.ref (h.push (it1 l1)).objs.size))).objs.size)
theorem new_meets (l1 l2 : Addr) (xs ys : Array Value) :
    Meets (Builtin.«zip.__new__» ⟨[.type "zip", .ref l1, .ref l2], []⟩) (fun _ R s => s.heap.IsTuple l1 xs ∧ s.heap.IsList l2 ys ∧ R (.ok (.ret (.ref (made4 s.heap l1 l2).objs.size))) { s with heap := made5 s.heap l1 l2 }) :=
  .of_wp fun prog w A R s h => by
    obtain ⟨hp, g, d, tk, os⟩ := s; obtain ⟨m1, m2, h⟩ := h
    have isz := sub_zip
    have t1 : Heap.IsTuple (Shared.heap ⟨hp, g, d, tk, os⟩) l1 xs := m1
    have t2 : Heap.IsList (Shared.heap ⟨hp.push (it1 l1), g, d, tk, os⟩) l2 ys := Heap.IsList.push m2 _
    wp_walk using wpAny_pyIter_tuple t1, wpAny_pyIter_list t2
    exact ⟨_, rfl, h⟩
theorem call_new {Q : Value → Shared → Prop} (m1 : s.heap.IsTuple l1 xs) (m2 : s.heap.IsList l2 ys)
    (h : ∀ h', IsZip h' (s.heap.objs.size + 4) (s.heap.objs.size + 2) (s.heap.objs.size + 3) .none → IsPair h' (s.heap.objs.size + 2) (.ref s.heap.objs.size) (.ref (s.heap.objs.size + 1)) →
      IsPair h' (s.heap.objs.size + 3) .none .none → h'.IsTupleIter s.heap.objs.size l1 0 → h'.IsListIter (s.heap.objs.size + 1) l2 0 →
      (∀ c o, s.heap.get? c = some o → h'.get? c = some o) → Q (.ref (s.heap.objs.size + 4)) { s with heap := h' }) :
    wpAny (model prog w) A (call (.type "zip") [.ref l1, .ref l2]) Q E s := by
  refine callType_new F.called_zip (by decide) (F.typeCall_zip_2 _ _) (F.newCall_zip_2 _ _) (fun obj => F.args_object_init_3 obj _ _) F.entry_zip_new (new_meets l1 l2 xs ys) ⟨m1, m2, ?_⟩
  have q0 := Heap.get?_push_size s.heap (o := it1 l1) rfl
  have n1 : (s.heap.push (it1 l1)).objs.size = s.heap.objs.size + 1 := Heap.size_push ..
  have q1 := Heap.get?_push_size (s.heap.push (it1 l1)) (o := it2 l2) rfl
  have n2 : ((s.heap.push (it1 l1)).push (it2 l2)).objs.size = s.heap.objs.size + 2 := (Heap.size_push ..).trans (congrArg (· + 1) n1)
  have q2 := Heap.get?_push_size ((s.heap.push (it1 l1)).push (it2 l2)) (o := two (.ref s.heap.objs.size) (.ref (s.heap.push (it1 l1)).objs.size)) rfl
  have n3 : (((s.heap.push (it1 l1)).push (it2 l2)).push (two (.ref s.heap.objs.size) (.ref (s.heap.push (it1 l1)).objs.size))).objs.size = s.heap.objs.size + 3 := (Heap.size_push ..).trans (congrArg (· + 1) n2)
  have q3 := Heap.get?_push_size (((s.heap.push (it1 l1)).push (it2 l2)).push (two (.ref s.heap.objs.size) (.ref (s.heap.push (it1 l1)).objs.size))) (o := two .none .none) rfl
  have n4 : (made4 s.heap l1 l2).objs.size = s.heap.objs.size + 4 := (Heap.size_push ..).trans (congrArg (· + 1) n3)
  have q4 := Heap.get?_push_size (made4 s.heap l1 l2) (o := zobj ((s.heap.push (it1 l1)).push (it2 l2)).objs.size (((s.heap.push (it1 l1)).push (it2 l2)).push (two (.ref s.heap.objs.size) (.ref (s.heap.push (it1 l1)).objs.size))).objs.size) rfl
  have w0 : (made5 s.heap l1 l2).get? s.heap.objs.size = some (it1 l1) := Heap.get?_push_of_some _ (Heap.get?_push_of_some _ (Heap.get?_push_of_some _ (Heap.get?_push_of_some _ q0)))
  have w1 : (made5 s.heap l1 l2).get? (s.heap.push (it1 l1)).objs.size = some (it2 l2) := Heap.get?_push_of_some _ (Heap.get?_push_of_some _ (Heap.get?_push_of_some _ q1))
  have w2 := Heap.get?_push_of_some (zobj ((s.heap.push (it1 l1)).push (it2 l2)).objs.size (((s.heap.push (it1 l1)).push (it2 l2)).push (two (.ref s.heap.objs.size) (.ref (s.heap.push (it1 l1)).objs.size))).objs.size) (Heap.get?_push_of_some (two .none .none) q2)
  have w3 := Heap.get?_push_of_some (zobj ((s.heap.push (it1 l1)).push (it2 l2)).objs.size (((s.heap.push (it1 l1)).push (it2 l2)).push (two (.ref s.heap.objs.size) (.ref (s.heap.push (it1 l1)).objs.size))).objs.size) q3
  have e4 : IsZip (made5 s.heap l1 l2) (s.heap.objs.size + 4) (s.heap.objs.size + 2) (s.heap.objs.size + 3) .none := by rw [← n4, ← n2, ← n3]; exact q4
  have e2 : IsPair (made5 s.heap l1 l2) (s.heap.objs.size + 2) (.ref s.heap.objs.size) (.ref (s.heap.objs.size + 1)) := by rw [← n2, ← n1]; exact w2
  have e3 : IsPair (made5 s.heap l1 l2) (s.heap.objs.size + 3) .none .none := by rw [← n3]; exact w3
  show _ ∧ _
  rw [n4]
  exact ⟨⟨_, e4, rfl⟩, h _ e4 e2 e3 ⟨_, w0, rfl, rfl⟩ (by rw [← n1]; exact ⟨_, w1, rfl, rfl⟩) fun c o q => Heap.get?_push_of_some _ (Heap.get?_push_of_some _ (Heap.get?_push_of_some _ (Heap.get?_push_of_some _ (Heap.get?_push_of_some _ q))))⟩
end
end ZZ
namespace ZZ
open PySem PySem.Spec PyProof.Rows L2
/-- the tuple at a and the list at b as they stand at each turn -/
def ItM (K : PySem.W.Frag) (a b : Addr) : It :=
  ⟨fun i H => ∃ (xs ys : List V) (x y : V), (SqT K H a xs ∧ SqL K H b ys) ∧ xs[i]? = some x ∧ ys[i]? = some y,
    fun i H v H' => ∃ T x y, (v = .ref T ∧ H T = none ∧ H' = upd H T (.tup [x, y])) ∧ (∀ l, SqT K H a l → l[i]? = some x) ∧ ∀ l, SqL K H b l → l[i]? = some y,
    fun i H => ∃ xs ys : List V, (SqT K H a xs ∧ SqL K H b ys) ∧ (xs.length ≤ i ∨ ys.length ≤ i)⟩
theorem five {z TI TO i1 i2 c : Addr} (h : c ∈ [z, TI, TO, i1, i2]) : c = z ∨ c = TI ∨ c = TO ∨ c = i1 ∨ c = i2 := by simpa using h
abbrev Tn (z TI TO i1 i2 a b : Addr) (i : Nat) (h : Heap) : Prop := IsZip h z TI TO .none ∧ IsPair h TI (.ref i1) (.ref i2) ∧ (∃ x y, IsPair h TO x y) ∧ h.IsTupleIter i1 a i ∧ h.IsListIter i2 b i
theorem turnM {P : Program} {w : World} {K : PySem.W.Frag} {elts : List Expr} {kk : Nat} {tpos : Pos} {a b z TI TO i1 i2 : Addr} (D : ZipApart z TI TO i1 i2 a b) : Turn P w K (.Tuple elts kk tpos) (ItM K a b) [z, TI, TO, i1, i2] z (Tn z TI TO i1 i2 a b) where
  mem := List.mem_cons_self
  obj := fun i h ⟨oz, pI, ⟨x, y, pO⟩, ⟨u1, e1, _, d1⟩, ⟨u2, e2, _, d2⟩⟩ c hc => by
    rcases five hc with rfl | rfl | rfl | rfl | rfl
    · exact ⟨_, oz, fun v q => nomatch q⟩
    · exact ⟨_, pI, fun v q => nomatch q⟩
    · exact ⟨_, pO, fun v q => nomatch q⟩
    · exact ⟨u1, e1, fun v q => by rw [d1] at q; cases q⟩
    · exact ⟨u2, e2, fun v q => by rw [d2] at q; cases q⟩
  keep := fun i h h' ⟨oz, pI, ⟨x, y, pO⟩, t1, t2⟩ k => ⟨k z (by simp) _ oz, k TI (by simp) _ pI, ⟨x, y, k TO (by simp) _ pO⟩, t1.at fun o q => k i1 (by simp) o q, t2.at fun o q => k i2 (by simp) o q⟩
  item := by
    intro X hP hw hK hc i pins s σ H E I hf ⟨oz, pI, ⟨x0, y0, pO⟩, t1, t2⟩ ⟨xs, ys, x, y, ⟨qx, qy⟩, hx, hy⟩
    subst hP hw hK
    obtain ⟨its, rv, p, _⟩ := I.tuple qx
    obtain ⟨its2, rv2, p2, _⟩ := I.list qy
    obtain ⟨u, hu, ru⟩ := rv.get hx
    obtain ⟨u2, hu2, ru2⟩ := rv2.get hy
    have zlt : z < s.heap.objs.size := Heap.lt_size oz
    refine py_item D (fd_tup (xs := its.toArray) D.l1i1) (fd_list (xs := its2.toArray) D.l2i2) oz pI pO ⟨t1, p⟩ ⟨t2, p2.isList⟩ (by simpa using hu) (by simpa using hu2) fun h' z' TO' t1' t2' pT hk => ?_
    refine ⟨_, rfl, wpAny_letOwnedTupleGo_zip (s := { s with heap := h' }) z' fun h'' z'' sb => ?_⟩
    have pT2 : h''.get? s.heap.objs.size = some { cls := .type "tuple", data := .seq #[u, u2] } := (sb.2 _ (Nat.ne_of_gt zlt)).trans pT
    have ob : ObjOk X.prog X.w (upd H s.heap.objs.size (.tup [x, y])) h'' s.heap.objs.size (.tup [x, y]) := ⟨by show 2 ≤ sizeLine; decide, [u, u2], .cons ru (.cons ru2 .nil), ⟨_, pT2, rfl, _, rfl⟩⟩
    have I1 : Inv X pins σ (upd H s.heap.objs.size (.tup [x, y])) { s with heap := h'' } :=
      I.turnedNew (t' := s.toks) (ch := [z, TI, TO, i1, i2]) (fun c o n q => (sb.2 c fun e => n (by simp [e])).trans (hk c o (fun e => n (by simp [e])) (fun e => n (by simp [e])) (fun e => n (by simp [e])) (fun e => n (by simp [e])) q)) hf (Nat.le_refl _) ob
    refine ⟨.ref s.heap.objs.size, _, I1, rfl, ⟨_, x, y, ⟨rfl, I.hok.fresh (Nat.le_refl _), rfl⟩, fun l hl => by rw [I.tuple_inj hl qx]; exact hx, fun l hl => by rw [I.list_inj hl qy]; exact hy⟩, ⟨z'', ?_, ⟨u, u2, ?_⟩, ?_, ?_⟩, fun c hcm => ?_⟩
    · exact (sb.2 _ D.TIz).trans (hk _ _ D.TIz D.TITO D.TIi1 D.TIi2 pI)
    · exact (sb.2 _ D.TOz).trans TO'
    · exact t1'.1.at fun o q => (sb.2 _ D.i1z).trans q
    · exact t2'.1.at fun o q => (sb.2 _ D.i2z).trans q
    · have lt : c < s.heap.objs.size := by
        obtain ⟨_, e1, _⟩ := t1
        obtain ⟨_, e2, _⟩ := t2
        rcases five hcm with rfl | rfl | rfl | rfl | rfl
        · exact zlt
        · exact Heap.lt_size pI
        · exact Heap.lt_size pO
        · exact Heap.lt_size e1
        · exact Heap.lt_size e2
      rw [upd_ne (Nat.ne_of_lt lt)]
      exact (hf c hcm).1
  done := by
    intro X hP hw hK hc i pins s σ H E I hf ⟨oz, pI, ⟨x0, y0, pO⟩, t1, t2⟩ ⟨xs, ys, ⟨qx, qy⟩, over⟩
    subst hP hw hK
    obtain ⟨its, rv, p, _⟩ := I.tuple qx
    obtain ⟨its2, rv2, p2, _⟩ := I.list qy
    have n1 := rv.length
    have n2 := rv2.length
    have he : its.toArray[i]? = none ∨ its2.toArray[i]? = none := over.imp (fun q => by simp; omega) fun q => by simp; omega
    exact py_stop (I.ok.hd hc) D (fd_tup (xs := its.toArray) D.l1i1) (fd_list (xs := its2.toArray) D.l2i2) oz pI pO ⟨t1, p⟩ ⟨t2, p2.isList⟩ he fun h' hk => ⟨rfl, I.turnedL (t' := s.toks) (ch := [z, TI, TO, i1, i2]) (fun c o n q =>
      hk c o (fun e => n (by simp [e])) (fun e => n (by simp [e])) (fun e => n (by simp [e])) (fun e => n (by simp [e])) q) hf⟩
  self := fun A i s Q E st h => wpAny_pyIter_zip st.1 h
def iZipM (K : PySem.W.Frag) (ta : TA) : TI := fun σ H R => ta σ H fun vs H1 => ∃ a b xs ys, vs = [.ref a, .ref b] ∧ (SqT K H1 a xs ∧ SqL K H1 b ys) ∧ R (ItM K a b) H1
theorem pi_zipM {X : Cx} {e e2 : Expr} {ta : TA} {p pos tpos : Pos} {elts : List Expr} {kk : Nat} (hg : Gl X "zip") (hm : X.mg "zip" = none) (ha : PA X [e, e2] ta)
    (hs : starEach [e, e2] X.env = (false, eval e X.env) :: starEach [e2] X.env := by rfl) (hpl : (backTo pos (starEach [e2] X.env)).any (·.1) = false := by rfl) :
    PI X (.Tuple elts kk tpos) (.Call (.Name "zip" p) [e, e2] [] pos) (iZipM X.K ta) := by
  refine ⟨fun pins s σ H R I h => Call_ (ld_blt I hg hm PyProof.Rows.boot_zip (PyProof.Rows.callWith_type1 (thn (ha.run pos pins s σ H _ I h) fun us s1 ⟨vs, H1, I1, r1, q1⟩ => ?_) hs hpl))⟩
  obtain ⟨a, b, xs, ys, ex, ⟨qx, qy⟩, q⟩ := q1
  subst ex
  cases r1 with
  | cons r rr =>
    cases rr with
    | cons r' rr =>
      cases rr; cases r; cases r'
      have fresh : ∀ c, c ∈ [s1.heap.objs.size + 4, s1.heap.objs.size + 2, s1.heap.objs.size + 3, s1.heap.objs.size, s1.heap.objs.size + 1] → FpOk X pins H1 c := fun c hc => by
        have le : s1.heap.objs.size ≤ c := by
          rcases five hc with rfl | rfl | rfl | rfl | rfl
          · exact Nat.le_add_right _ _
          · exact Nat.le_add_right _ _
          · exact Nat.le_add_right _ _
          · exact Nat.le_refl _
          · exact Nat.le_add_right _ _
        exact I1.fpOk le (I1.hok.fresh le)
      obtain ⟨its, rv, p1, _⟩ := I1.tuple qx
      obtain ⟨its2, rv2, p2, _⟩ := I1.list qy
      obtain ⟨o1, ho1, _⟩ := id p1
      refine call_new (show s1.heap.IsTuple a its.toArray from p1) p2.isList fun h' oz pI pO t1 t2 hk => wpAny_pyIter_zip oz ?_
      have I2 : Inv X pins σ H1 { s1 with heap := h' } := I1.kept (t' := s1.toks) hk
      exact ⟨_, [_, _, _, _, _], _, _, H1, rfl, I2, turnM (PySem.W.ktu_apart s1.heap.objs.size a b (Heap.lt_size ho1) p2.lt), ⟨oz, pI, ⟨_, _, pO⟩, t1, t2⟩, fresh, q⟩
end ZZ
namespace E
open PySem PySem.Spec PyProof.Rows L2
variable [KF]
section
variable {X : Cx} {sl : List Sl} {ms : List Ob} {ta tb : TE} {Kf : PySem.W.Frag} {a b : Expr} {p pos : Pos}
theorem ei_zipM {K : List D → Prop} (h : Er sl ms ta fun x => Er sl ms tb fun y => ∃ ds es, x = .tup ds ∧ y = .lst es ∧ K (zipD ds es)) : Ei sl ms (ZZ.iZipM Kf (tCons ta (tCons tb tNil))) none K := ⟨nofx, fun ho F0 H0 F ps ex σ H a Rr q =>
  h ho F0 H0 F ps ex σ H a _ fun v d F1 H1 h' a1 => h' ho F0 H0 F1 ps _ σ H1 a1 _ fun w d' F2 H2 ⟨ds, es, e, e', k⟩ a2 => by
    subst e e'
    obtain ⟨p, xs, rfl, ha, hl⟩ : ∃ p xs, v = .ref p ∧ F2 p = some (.tup xs) ∧ DnL F2 xs ds := by cases a2.pop.top with | tup ha hl => exact ⟨_, _, rfl, ha, hl⟩
    obtain ⟨p', xs', rfl, ha', hl'⟩ : ∃ p xs, w = .ref p ∧ F2 p = some (.lst xs) ∧ DnL F2 xs es := by cases a2.top with | lst ha hl => exact ⟨_, _, rfl, ha, hl⟩
    refine ⟨p, p', xs, xs', rfl, ⟨sq_t a2.fh ha, sq_l a2.fh ha'⟩, q _ F2 H2 [(.ref p', .d (.lst es)), (.ref p, .d (.tup ds))] _ ⟨_, rfl, k⟩ a2 fun ps' F3 H3 e3 hp _ => ?_⟩
    have hq := hp (.ref p, .d (.tup ds)) (by simp)
    cases hp (.ref p', .d (.lst es)) (by simp) with
    | d hp =>
      cases hp with
      | @lst _ zs _ hb hm =>
        cases hq with
        | d hq =>
          cases hq with
          | @tup _ ys _ ha hl =>
            refine ⟨fun i d hd => ?_, ys, zs, ⟨sq_t e3 ha, sq_l e3 hb⟩, ?_⟩
            · obtain ⟨d, hw, rfl⟩ := walk_d hd; have hd := hw
              obtain ⟨x, y, hx, hy, rfl⟩ := zipD_get hd
              obtain ⟨x, hx, hxd⟩ := hl.get i hx
              obtain ⟨y, hy, hyd⟩ := hm.get i hy
              refine ⟨⟨ys, zs, x, y, ⟨sq_t e3 ha, sq_l e3 hb⟩, hx, hy⟩, fun u H4 hu => ?_⟩
              obtain ⟨T, x', y', ⟨rfl, hT, rfl⟩, h1, h2⟩ := hu
              have w := h1 ys (sq_t e3 ha)
              rw [hx] at w; cases w
              have w := h2 zs (sq_l e3 hb)
              rw [hy] at w; cases w
              have ef := Ex.new (o := HO.tup [x, y]) (e3.none hT)
              exact ⟨_, Ext.new e3 hT, .d (.tup upd_same (.cons (hxd.mono ef) (.cons (hyd.mono ef) .nil)))⟩
            · rw [hl.len, hm.len, List.length_map]
              show ds.length ≤ (zipD ds es).length ∨ es.length ≤ (zipD ds es).length
              unfold zipD
              rw [List.length_map, List.length_zip]
              omega⟩
theorem ji_zipM {elts kk tpos} {K : List D → Prop} (hm : X.mg "zip" = none) (h : Er sl ms (wE X a) fun x => Er sl ms (wE X b) fun y => ∃ ds es, x = .tup ds ∧ y = .lst es ∧ K (zipD ds es)) (hg : Gl X "zip" := by rfl)
    (he : starEach [a, b] X.env = (false, eval a X.env) :: starEach [b] X.env := by rfl) (he2 : starEach [b] X.env = (false, eval b X.env) :: starEach [] X.env := by rfl) (hpl : (backTo pos (starEach [b] X.env)).any (·.1) = false := by rfl) :
    Ei sl ms (wI X (.Tuple elts kk tpos) (.Call (.Name "zip" p) [a, b] [] pos)) none K := Ei.of (ZZ.pi_zipM hg hm (pa_cons pe_w (pa_cons pe_w pa_nil he2) he) he hpl) (ei_zipM h)
end
end E
set_option Elab.async false
set_option linter.all false
set_option maxRecDepth 100000
/-! in, not in, == of data. -/
namespace E
open PySem PySem.Spec PyProof.Rows L2
variable [KF]
/-! ### a tuple and a dict -/
namespace TD
open PySem.SeqAt PySem.MeetsSeq
open PySem.AutoSeq1 (wpAny_loadPart')
theorem sub_dt : isSubtype (.type "dict") (.type "tuple") = pure false := by rw [isSubtype_type]; kernel_rfl
theorem sub_td : isSubtype (.type "tuple") (.type "dict") = pure false := by rw [isSubtype_type]; kernel_rfl
theorem tuple_declines (l b : Addr) (its : Array Value) (n k : Nat) (d1 d2 : Option Addr) (es : Array DictEntry) (s1 s2 : Array (Option Value)) :
    Meets (Builtin.«tuple.__eq__» ⟨[.ref l, .ref b], []⟩) (fun _ R s => s.heap.get? l = some { cls := .type "tuple", dict := d1, data := .seq its n, slots := s1 } ∧ s.heap.get? b = some { cls := .type "dict", dict := d2, data := .dict es k, slots := s2 } ∧ R (.ok (.ret .notImplemented)) s) :=
  .of_wp fun prog w A R s h => by
    obtain ⟨hp, g, d, tk, os⟩ := s
    obtain ⟨a1, a2, h⟩ := h
    have f1 := sub_dt
    wp_walk using wpAny_loadPart' a1, wpAny_loadPart' a2
    exact ⟨_, rfl, h⟩
theorem dict_declines (l b : Addr) (its : Array Value) (n k : Nat) (d1 d2 : Option Addr) (es : Array DictEntry) (s1 s2 : Array (Option Value)) :
    Meets (Builtin.«dict.__eq__» ⟨[.ref b, .ref l], []⟩) (fun _ R s => s.heap.get? l = some { cls := .type "tuple", dict := d1, data := .seq its n, slots := s1 } ∧ s.heap.get? b = some { cls := .type "dict", dict := d2, data := .dict es k, slots := s2 } ∧ R (.ok (.ret .notImplemented)) s) :=
  .of_wp fun prog w A R s h => by
    obtain ⟨hp, g, d, tk, os⟩ := s
    obtain ⟨a1, a2, h⟩ := h
    have f1 := sub_td
    wp_walk using wpAny_loadPart' a1, wpAny_loadPart' a2
    exact ⟨_, rfl, h⟩
theorem eq_td {A : Around} {s : Shared} {l b : Addr} {its : Array Value} {o : Obj} {es : Array DictEntry} {k : Nat} (h1 : s.heap.IsTuple l its) (h2 : s.heap.get? b = some o) (hc : o.cls = .type "dict") (hd : o.data = .dict es k) (hu : A.units < cLine) : EqAt A s (.ref l) (.ref b) false := by
  obtain ⟨⟨c1, d1, t1, s1⟩, ho, hc1, n, hd1⟩ := id h1
  obtain ⟨c2, d2, t2, s2⟩ := o
  simp only at hc1 hd1 hc hd
  subst hc1 hd1 hc hd
  have ne : l ≠ b := fun e => by
    subst e
    exact absurd (congrArg Obj.cls (Option.some.inj (ho.symm.trans h2))) (by simp)
  refine .of_refs ne fun prog w E Q h => ?_
  exact (rc_eq_decline_or (k := false) ⟨_, ho, rfl⟩ ⟨_, h2, rfl⟩ (by decide) sub_dt F.slot_tuple_eq F.slot_dict_eq_refl
    (fun _ hq => call_meets F.slot_tuple_eq ⟨_, ho, rfl⟩ F.entry_tuple_eq (F.args_tuple_eq_2 _ _) (tuple_declines l b its n k d1 d2 es s1 s2) ⟨ho, h2, hq⟩)
    (fun _ hq => call_meets F.slot_dict_eq_refl ⟨_, h2, rfl⟩ F.entry_dict_eq (F.args_dict_eq_2 _ _) (dict_declines l b its n k d1 d2 es s1 s2) ⟨ho, h2, hq⟩)
    (fun _ hq => wpAny_isSame_ref_other' ne ho h2 (by simp) hq) (.inr hu) h)
end TD
abbrev tupN (ns : List Int) : D := .tup (ns.map D.int)
theorem eqv_tups (l m : List Int) : PyData.eqv (toP (tupN l)) (toP (tupN m)) = decide (l = m) := by rw [toP, toP, PyData.eqv, eqv_ints]
theorem lay_tups : ∀ ls : List (List Int), PyData.canLayAll0 (toPs (ls.map tupN)) = true ∧ PyData.depthAll (toPs (ls.map tupN)) ≤ 1
  | [] => by simp [toPs, PyData.canLayAll0, PyData.depthAll]
  | l :: ls => by
    have ⟨h1, h2⟩ := lay_tups ls
    have ⟨h3, h4⟩ := lay_ints l
    rw [List.map_cons, toPs, toP, PyData.canLayAll0, PyData.canLay0, h1, h3, PyData.depthAll, PyData.depth, h4]
    exact ⟨rfl, by omega⟩
theorem any_tups (l : List Int) : ∀ ls : List (List Int), ((toPs (ls.map tupN)).any fun z => PyData.eqv z (toP (tupN l))) = decide (l ∈ ls)
  | [] => by simp [toPs]
  | m :: ls => by
    rw [List.map_cons, toPs, List.any_cons, any_tups l ls, eqv_tups]
    by_cases h : m = l
    · subst h; simp
    · have h' : ¬ l = m := fun e => h e.symm
      simp [h, h']
/-- x not in a tuple of tuples of whole numbers -/
def rNotInT : L2.R2 := fun x y H Q => ∃ (F : Hp) (d : D) (ls : List (List Int)), Ex F H ∧ Dn F x d ∧ Dn F y (.tup (ls.map tupN)) ∧ (PyData.canLay0 (toP d) = true ∨ d = .dic) ∧ ∀ b : Bool, (b = true → ∀ l ∈ ls, d ≠ tupN l) → Q (.bl b) H
theorem op_notInT {X : Cx} [KonK X.K] (hu : X.A.units + 64 < cLine) : OpR X (compareOp .NotIn) rNotInT := by
  intro pins s σ H x y v u Q I rx ry h
  obtain ⟨F, d, ls, ef, hd, he, hcase, q⟩ := h
  obtain ⟨bs, r2⟩ := he.reads I ef ry
  rw [toP] at r2
  rcases hcase with hlay | rfl
  · obtain ⟨as, r1⟩ := hd.reads I ef rx
    refine SeqAt.notIn_tuple_reads r2 r1 (lay_tups ls).1 hlay (by have := (lay_tups ls).2; omega) ⟨.bl _, H, I, rfl, q _ fun hb l hl e => ?_⟩
    subst e
    rw [any_tups, decide_eq_true hl] at hb
    cases hb
  · cases hd with
    | @dic a ha =>
      cases rx
      obtain ⟨_, o, es, n, k1, k2, k3, _⟩ := dic_at I (ef _ _ ha)
      cases he with
      | @tup b xs _ hb hl =>
        cases ry
        obtain ⟨its, rv, p, _⟩ := I.tuple (sq_t ef hb)
        refine SeqAt.notIn_tupleAt (fun _ => false) (show s.heap.IsTuple b its.toArray from p) (fun z hz => ?_) ⟨.bl _, H, I, rfl, q _ fun _ l _ e => by cases e⟩
        have hz : z ∈ its := by simpa using hz
        have key : ∀ {xs : List V} {us : List Value} {ls : List (List Int)}, DnL F xs (ls.map tupN) → Vals xs us → ∀ z ∈ us, ∃ t js, z = .ref t ∧ s.heap.IsTuple t js := by
          intro xs us ls h1
          induction ls generalizing xs us with
          | nil => intro h2 z hz; cases h1; cases h2; cases hz
          | cons l ls ih =>
            intro h2 z hz
            cases h1 with
            | cons g1 g2 =>
              cases h2 with
              | cons f1 f2 =>
                rcases List.mem_cons.mp hz with rfl | hz
                · cases g1 with
                  | @tup t xs _ ht _ =>
                    cases f1
                    obtain ⟨js, _, p, _⟩ := I.tuple (sq_t ef ht)
                    exact ⟨t, _, rfl, p⟩
                · exact ih g2 f2 z hz
        obtain ⟨t, js, rfl, ht⟩ := key hl rv z hz
        exact TD.eq_td ht k1 k2 k3 (by show X.A.units + 1 < cLine; omega)
/-- a tuple of whole numbers in a list of such -/
def rInT : L2.R2 := fun x y H Q => ∃ (F : Hp) (l : List Int) (ls : List (List Int)), Ex F H ∧ Dn F x (tupN l) ∧ Dn F y (.lst (ls.map tupN)) ∧ Q (.bl (decide (l ∈ ls))) H
theorem op_inT {X : Cx} [KonK X.K] (hu : X.A.units + 64 < cLine) : OpR X (compareOp .In) rInT := by
  intro pins s σ H x y v u Q I rx ry h
  obtain ⟨F, l, ls, ef, hd, he, q⟩ := h
  obtain ⟨bs, r2⟩ := he.reads I ef ry
  obtain ⟨as, r1⟩ := hd.reads I ef rx
  rw [toP] at r2
  refine SeqAt.in_list_reads r2 r1 (lay_tups ls).1 (by rw [toP, PyData.canLay0]; exact (lay_ints l).1) (by have := (lay_tups ls).2; omega) ⟨.bl _, H, I, rfl, ?_⟩
  rw [any_tups]
  exact q
def rEqA : L2.R2 := fun x y H Q => ∃ F d e, Ex F H ∧ Dn F x d ∧ Dn F y e ∧ SeqAt.shaped (toP d) = true ∧ SeqAt.shaped (toP e) = true ∧ Q (.bl (PyData.eqv (toP d) (toP e))) H
theorem op_eqA {X : Cx} [KonK X.K] (hu : X.A.units + 64 < cLine) : OpR X (compareOp .Eq) rEqA := by
  intro pins s σ H x y v u Q I rx ry h
  obtain ⟨F, d, e, ef, hd, he, sd, se, q⟩ := h
  obtain ⟨as, r1⟩ := hd.reads I ef rx
  obtain ⟨bs, r2⟩ := he.reads I ef ry
  exact SeqAt.compareEq_shaped r1 r2 sd se hu ⟨.bl _, H, I, rfl, q⟩
section
variable {X : Cx} [KonK X.K] {sl : List Sl} {ms : List Ob} {R : D → Prop} {B : Bool → Prop} {a b : Expr} {pos : Pos}
theorem jt_notInT (hu : X.A.units + 64 < cLine) (h : Er sl ms (wE X a) fun x => Er sl ms (wE X b) fun y => ∃ ls : List (List Int), y = .tup (ls.map tupN) ∧ (PyData.canLay0 (toP x) = true ∨ x = .dic) ∧ ∀ k : Bool, (k = true → ∀ l ∈ ls, x ≠ tupN l) → B k) (hm : behindInMarks .NotIn b = false := by first | exact nobehind _ (by decide) (by decide) | rfl) :
    Et sl ms (wT X (.Compare a [.NotIn] [b] pos)) B :=
  Et.of (pt_cmpR (op_notInT hu) pe_w pe_w hm) (et_test (er_op' (h.mono fun x h => h.mono fun y ⟨ls, e, hl, k⟩ => fun F H v w eh hv hw Q q => by
    subst e
    exact ⟨F, x, ls, eh, hv, hw, hl, fun c hc => q _ _ F H ⟨_, rfl, k c hc⟩ (Ext.refl eh) (.bl _)⟩)))
theorem j_inL (hu : X.A.units + 64 < cLine) (h : Er sl ms (wE X a) fun x => Er sl ms (wE X b) fun y => ∃ (l : List Int) (ls : List (List Int)), x = tupN l ∧ y = .lst (ls.map tupN) ∧ R (.bl (decide (l ∈ ls)))) (hm : behindInMarks .In b = false := by first | exact nobehind _ (by decide) (by decide) | rfl) :
    Er sl ms (wE X (.Compare a [.In] [b] pos)) R :=
  Er.of (pe_cmpR (op_inT hu) pe_w pe_w hm) (er_op' (h.mono fun x h => h.mono fun y ⟨l, ls, e1, e2, k⟩ => fun F H v w eh hv hw Q q => by
    subst e1 e2
    exact ⟨F, l, ls, eh, hv, hw, q _ _ F H k (Ext.refl eh) (.bl _)⟩))
theorem jt_inL (hu : X.A.units + 64 < cLine) (h : Er sl ms (wE X a) fun x => Er sl ms (wE X b) fun y => ∃ (l : List Int) (ls : List (List Int)), x = tupN l ∧ y = .lst (ls.map tupN) ∧ B (decide (l ∈ ls))) (hm : behindInMarks .In b = false := by first | exact nobehind _ (by decide) (by decide) | rfl) :
    Et sl ms (wT X (.Compare a [.In] [b] pos)) B :=
  Et.of (pt_cmpR (op_inT hu) pe_w pe_w hm) (et_test (er_op' (h.mono fun x h => h.mono fun y ⟨l, ls, e1, e2, k⟩ => fun F H v w eh hv hw Q q => by
    subst e1 e2
    exact ⟨F, l, ls, eh, hv, hw, q _ _ F H ⟨_, rfl, k⟩ (Ext.refl eh) (.bl _)⟩)))
theorem j_eqA (hu : X.A.units + 64 < cLine) (h : Er sl ms (wE X a) fun x => Er sl ms (wE X b) fun y => SeqAt.shaped (toP x) = true ∧ SeqAt.shaped (toP y) = true ∧ R (.bl (PyData.eqv (toP x) (toP y)))) (hm : behindInMarks .Eq b = false := by first | exact nobehind _ (by decide) (by decide) | rfl) :
    Er sl ms (wE X (.Compare a [.Eq] [b] pos)) R :=
  Er.of (pe_cmpR (op_eqA hu) pe_w pe_w hm) (er_op' (h.mono fun x h => h.mono fun y ⟨s1, s2, k⟩ => fun F H v w eh hv hw Q q => ⟨F, x, y, eh, hv, hw, s1, s2, q _ _ F H k (Ext.refl eh) (.bl _)⟩))
theorem jt_neT (hu : X.A.units + 64 < cLine) (h : Er sl ms (wE X a) fun x => Er sl ms (wE X b) fun y => ∃ l m : List Int, x = tupN l ∧ y = tupN m ∧ B (!decide (l = m))) : Et sl ms (wT X (.Compare a [.NotEq] [b] pos)) B :=
  Et.of (pt_cmpR (op_neA hu) pe_w pe_w (nomark _)) (et_test (er_op' (h.mono fun x h => h.mono fun y ⟨l, m, e1, e2, k⟩ => fun F H v w eh hv hw Q q => by
    subst e1 e2
    have sh : ∀ n : List Int, SeqAt.shaped (toP (tupN n)) = true := fun n => by
      have ⟨h1, h2⟩ := lay_ints n
      simp [SeqAt.shaped, toP, PyData.canLay0, PyData.depth, h1, h2]
    exact ⟨F, _, _, eh, hv, hw, sh l, sh m, by rw [eqv_tups]; exact q _ _ F H ⟨_, rfl, k⟩ (Ext.refl eh) (.bl _)⟩)))
/-- bool == bool -/
theorem j_eqB (h : Er sl ms (wE X a) fun x => Er sl ms (wE X b) fun y => ∃ i j : Bool, x = .bl i ∧ y = .bl j ∧ R (.bl (decide (i = j)))) (hm : behindInMarks .Eq b = false := by first | exact nobehind _ (by decide) (by decide) | rfl) : Er sl ms (wE X (.Compare a [.Eq] [b] pos)) R :=
  Er.of (pe_cmpR op_eq pe_w pe_w hm) (er_op' (h.mono fun x h => h.mono fun y ⟨i, j, e1, e2, k⟩ => fun F H v w eh hv hw Q q => by
    subst e1 e2
    cases hv; cases hw
    have e : decide (V.bl i = V.bl j) = decide (i = j) := by
      by_cases h : i = j
      · subst h; rw [decide_eq_true rfl, decide_eq_true rfl]
      · rw [decide_eq_false h, decide_eq_false fun z => h (V.bl.inj z)]
    exact ⟨rfl, by rw [e]; exact q _ _ F H k (Ext.refl eh) (.bl _)⟩))
/-- list * n -/
theorem j_repL (h : Er sl ms (wE X a) fun x => Er sl ms (wE X b) fun y => ∃ (ds : List D) (n : Nat), x = .lst ds ∧ y = .int n ∧ n ≤ 1000 ∧ ds.length ≤ 1000 ∧ R (.lst (List.replicate n ds).flatten)) : Er sl ms (wE X (.BinOp a .Mult b pos)) R :=
  Er.of (pe_op op_rep pe_w pe_w) (er_op' (h.mono fun x h => h.mono fun y ⟨ds, n, e1, e2, h1, h2, k⟩ => fun F H v w eh hv hw Q q => by
    subst e1 e2
    cases hw
    cases hv with
    | @lst p xs _ ha hl =>
      have hz : xs.length * n ≤ 1000 * 1000 := Nat.mul_le_mul (by rw [hl.len]; exact h2) h1
      refine ⟨p, n, xs, rfl, rfl, eh _ _ ha, by omega, by omega, ?_, fun z hp => ?_⟩
      · rw [Int.toNat_natCast]
        exact Nat.le_trans hz (by rw [sizeLine_eq]; decide)
      · rw [Int.toNat_natCast]
        exact q _ _ _ _ k (Ext.new eh hp) (.lst upd_same ((hl.rep n).mono (Ex.new (eh.none hp))))))
end
end E
set_option Elab.async false
set_option linter.all false
set_option maxRecDepth 100000
/-! What is one's own: dicts, lists of such, by the text. -/
namespace E
open PySem PySem.Spec PyProof.Rows L2
variable [KF]

/-! ### pairs by their keys -/
section
variable {κ α : Type} [DecidableEq κ]
def valG (es : List (κ × α)) (k : κ) : Option α := (es.find? fun e => decide (e.1 = k)).map (·.2)
def putG (es : List (κ × α)) (k : κ) (v : α) : List (κ × α) := if (es.any fun e => decide (e.1 = k)) = true then es.map (fun e => if e.1 = k then (e.1, v) else e) else es ++ [(k, v)]
def dropG (es : List (κ × α)) (k : κ) : List (κ × α) := es.filter fun e => decide (e.1 ≠ k)
theorem valG_pos {p : κ × α} {r : List (κ × α)} {k : κ} (e : p.1 = k) : valG (p :: r) k = some p.2 := by
  unfold valG; rw [List.find?_cons_of_pos (by simpa using e)]; rfl
theorem valG_neg {p : κ × α} {r : List (κ × α)} {k : κ} (e : ¬ p.1 = k) : valG (p :: r) k = valG r k := by
  unfold valG; rw [List.find?_cons_of_neg (by simpa using e)]
end
theorem IvE.get {κ : Type} [DecidableEq κ] {F : Hp} {ps : List Addr} {k : κ} : ∀ {ks : List (κ × V)} {es : List (κ × Di)}, IvE F ps ks es → (valG es k = none ∧ valV ks k = none) ∨ ∃ i v, valG es k = some i ∧ valV ks k = some v ∧ Iv F ps v i
  | _, _, .nil => .inl ⟨rfl, rfl⟩
  | _, _, .cons (k := j) (x := x) (i := i) (xs := xs) (is := is) h l => by
    by_cases e : j = k
    · exact .inr ⟨i, x, valG_pos e, valG_pos (α := V) e, h⟩
    · rcases IvE.get l with ⟨a, b⟩ | ⟨i', v', a, b, c⟩
      · exact .inl ⟨(valG_neg e).trans a, (valG_neg (α := V) e).trans b⟩
      · exact .inr ⟨i', v', (valG_neg e).trans a, (valG_neg (α := V) e).trans b, c⟩
theorem IvE.app {κ : Type} {F : Hp} {ps : List Addr} : ∀ {ks ls : List (κ × V)} {es fs : List (κ × Di)}, IvE F ps ks es → IvE F ps ls fs → IvE F ps (ks ++ ls) (es ++ fs)
  | _, _, _, _, .nil, s => s
  | _, _, _, _, .cons h l, s => .cons h (IvE.app l s)
theorem IvE.keys {κ : Type} {F : Hp} {ps : List Addr} : ∀ {ks : List (κ × V)} {es : List (κ × Di)}, IvE F ps ks es → ks.map (·.1) = es.map (·.1)
  | _, _, .nil => rfl
  | _, _, .cons h l => by rw [List.map_cons, List.map_cons, IvE.keys l]
theorem IvE.len {κ : Type} {F : Hp} {ps : List Addr} {ks : List (κ × V)} {es : List (κ × Di)} (h : IvE F ps ks es) : ks.length = es.length := by
  have := congrArg List.length h.keys
  rwa [List.length_map, List.length_map] at this
theorem IvE.any {κ : Type} [DecidableEq κ] {F : Hp} {ps : List Addr} {k : κ} : ∀ {ks : List (κ × V)} {es : List (κ × Di)}, IvE F ps ks es → (ks.any fun e => decide (e.1 = k)) = es.any fun e => decide (e.1 = k)
  | _, _, .nil => rfl
  | _, _, .cons h l => by rw [List.any_cons, List.any_cons, IvE.any l]
theorem IvE.put {κ : Type} [DecidableEq κ] {F : Hp} {ps : List Addr} {k : κ} {v : V} {i : Di} (hv : Iv F ps v i) {ks : List (κ × V)} {es : List (κ × Di)} (h : IvE F ps ks es) : IvE F ps (putK ks k v) (putG es k i) := by
  have key : ∀ {ks : List (κ × V)} {es : List (κ × Di)}, IvE F ps ks es → IvE F ps (ks.map fun e => if e.1 = k then (e.1, v) else e) (es.map fun e => if e.1 = k then (e.1, i) else e) := by
    intro ks es h
    induction h with
    | nil => exact .nil
    | @cons j x i' xs is hx _ ih =>
      rw [List.map_cons, List.map_cons]
      by_cases e : j = k
      · rw [if_pos e, if_pos e]; exact .cons hv ih
      · rw [if_neg e, if_neg e]; exact .cons hx ih
  unfold putK putG
  rw [h.any]
  split
  · exact key h
  · exact h.app (.cons hv .nil)
theorem IvE.drop {κ : Type} [DecidableEq κ] {F : Hp} {ps : List Addr} {k : κ} {ks : List (κ × V)} {es : List (κ × Di)} (h : IvE F ps ks es) : IvE F ps (dropK ks k) (dropG es k) := by
  unfold dropK dropG
  induction h with
  | nil => exact .nil
  | @cons j x i' xs is hx _ ih =>
    by_cases e : j = k
    · rw [List.filter_cons_of_neg (by simpa using e), List.filter_cons_of_neg (by simpa using e)]; exact ih
    · rw [List.filter_cons_of_pos (by simpa using e), List.filter_cons_of_pos (by simpa using e)]; exact .cons hx ih
/-- a key as data -/
def kD : Key → D
  | .inl i => .int i
  | .inr x => .str x
theorem Dn.key {F : Hp} {v : V} : ∀ {k : Key}, Dn F v (kD k) → v = kV k
  | .inl _, .int _ => rfl
  | .inr _, .str _ => rfl
theorem Dn.of_key {F : Hp} : ∀ k : Key, Dn F (kV k) (kD k)
  | .inl _ => .int _
  | .inr _ => .str _

/-! ### expressions that give what is one's own, or change it -/
def Eo (sl : List Sl) (ms : List Ob) (t : TE) (R : Di → List Ob → Prop) : Prop :=
  ∀ (ho : Option Addr) (F0 H0 F : Hp) (ps : List Addr) (ex : List (V × Di)) (σ : L2.St) (H : Hp), At ho F0 H0 F ps sl ms ex σ H →
    ∀ Q : VK, (∀ v i F' qs ms' H', R i ms' → At ho F0 H0 F' (ps ++ qs) sl ms' ((v, i) :: ex) σ H' → Q v H') → t σ H Q
section
variable {X : Cx} {sl sl' : List Sl} {ms : List Ob} {R : D → Prop} {Ro : Di → List Ob → Prop} {B : Bool → Prop} {pos p p2 p3 : Pos} {a b c e oe key val : Expr} {es rest : List Expr} {x y : Str} {d : D} {O : Out} {t : TE}
theorem Eo.mono {Rp : Di → List Ob → Prop} (h : Eo sl ms t Ro) (k : ∀ i m, Ro i m → Rp i m) : Eo sl ms t Rp := fun ho F0 H0 F ps ex σ H a Q q => h ho F0 H0 F ps ex σ H a Q fun v i F' qs ms' H' r => q v i F' qs ms' H' (k i ms' r)
theorem Er.o (h : Er sl ms t fun d => Ro (.d d) ms) : Eo sl ms t Ro := fun ho F0 H0 F ps ex σ H a Q q => h ho F0 H0 F ps ex σ H a Q fun v d F' H' r a' => q v (.d d) F' [] ms H' r (by rw [List.append_nil]; exact a')
theorem El.o (h : El sl ms t fun ds => Ro (.o ms.length) (ms ++ [.l ds])) : Eo sl ms t Ro := fun ho F0 H0 F ps ex σ H a Q q => h ho F0 H0 F ps ex σ H a Q fun p ds F' H' r a' => q _ _ F' [p] _ H' r (a'.pushI (.o (by rw [← a.len, List.getElem?_append_right (Nat.le_refl _)]; simp)))
theorem Eo.of (h : PE X e t) (q : Eo sl ms t Ro) : Eo sl ms (wE X e) Ro := fun ho F0 H0 F ps ex σ H a Q k pins s I => h.run pins s σ H Q I (q ho F0 H0 F ps ex σ H a Q k)
theorem qs_nil {ho : Option Addr} {F0 H0 F H F1 H1 : Hp} {ps qs : List Addr} {ex ex1 : List (V × Di)} {σ σ1 : L2.St} {sl1 : List Sl} (a : At ho F0 H0 F ps sl ms ex σ H) (a' : At ho F0 H0 F1 (ps ++ qs) sl1 ms ex1 σ1 H1) : qs = [] := by
  have h1 := a.len
  have h2 := a'.len
  rw [List.length_append] at h2
  exact List.length_eq_zero_iff.mp (by omega)
/-- what is data, and nothing has changed -/
theorem Eo.r (h : Eo sl ms t fun i m => m = ms ∧ ∃ d, i = .d d ∧ R d) : Er sl ms t R := fun ho F0 H0 F ps ex σ H a Q q => h ho F0 H0 F ps ex σ H a Q fun v i F' qs ms' H' ⟨e, d, e', r⟩ a' => by
  subst e e'
  obtain rfl := qs_nil a a'
  rw [List.append_nil] at a'
  exact q v d F' H' r a'
/-- a name that holds an object of one's own -/
theorem jo_var (i : Nat) {k : Nat} (hN : X.N[i]? = some x) (h : sl[i]? = some (.m k)) (r : Ro (.o k) ms) (hv : Vis X.env.scope x := by first | exact Or.inl rfl | exact Or.inr (Or.inl rfl) | exact Or.inr (Or.inr rfl)) (hd : (x == ("__debug__" : Str)) = false := by decide)
    (hcd : (x == ("__classdict__" : Str)) = false := by decide) : Eo sl ms (wE X (.Name x pos)) Ro := Eo.of (pv i hN hv hd hcd) fun ho F0 H0 F ps ex σ H a Q q => by
  obtain ⟨o, e, p, rfl, hp⟩ := a.slo i _ h
  exact ⟨_, e, q _ _ F [] ms H r (by rw [List.append_nil]; exact a.pushI (.o hp))⟩
/-- {}: a new dict of one's own -/
theorem jo_dic (r : Ro (.o ms.length) (ms ++ [.x []])) : Eo sl ms (wE X (.Dict [] [] pos)) Ro := Eo.of pe_dnewK fun ho F0 H0 F ps ex σ H a Q q p hp => by
  have a1 := a.ownO (ob := .x []) hp ⟨[], rfl, .nil⟩
  exact q _ _ F [p] _ _ r (a1.pushI (.o (by rw [← a.len, List.getElem?_append_right (Nat.le_refl _)]; simp)))
/-- what a slot says of it -/
def slOf : Di → Sl
  | .d d => .d d
  | .o k => .m k
  | .t _ => .u
theorem slOf_ok {F : Hp} {ps : List Addr} {ho : Option Addr} {v : V} : ∀ {i : Di}, Iv F ps v i → SlOk F ps ho (some v) (slOf i)
  | .d _, .d h => ⟨v, rfl, h⟩
  | .o _, .o h => ⟨_, rfl, h⟩
  | .t _, _ => trivial
theorem js_setO (i : Nat) (hN : X.N.Nodup) (hi : X.N[i]? = some x) (h : Eo sl ms (wE X e) fun d m => O.nx (sl.set i (slOf d)) m) (hx : Loc X.env.scope x := by first | exact Or.inl rfl | exact Or.inr rfl) (hs : swapsWith e (some (.Name x p)) pos.line X.env = pure false := by rfl)
    (hf : X.fn x = true ∨ X.env.scope.names.lookup x = some .local := by first | exact .inl rfl | exact .inr rfl) : Sr sl ms (wS X (.Assign [.Name x p] e pos)) O := Sr.of (ps_set hN hi hx pe_w hs hf) fun ho F0 H0 F ps ex σ H a Z n r b c =>
  h ho F0 H0 F ps ex σ H a _ fun v d F' qs ms' H' k a' => n _ _ F' _ _ H' k (a'.pop.store i (slOf_ok a'.topI))
/-- the object of one's own that is met -/
theorem At.mo {ho : Option Addr} {F0 H0 F H : Hp} {ps : List Addr} {ex : List (V × Di)} {σ : L2.St} {v : V} {k : Nat} {ob : Ob} (a : At ho F0 H0 F ps sl ms ex σ H) (hv : Iv F ps v (.o k)) (hm : ms[k]? = some ob) : ∃ p o, v = .ref p ∧ ps[k]? = some p ∧ H p = some o ∧ OwH F ps o ob := by
  cases hv with
  | o hp =>
    obtain ⟨_, _, _, o, h1, h2⟩ := a.mu k _ ob hp hm
    exact ⟨_, o, rfl, hp, h1, h2⟩
/-- d[key] -/
theorem jo_dget (hu : X.A.units + 1 < cLine) (h : Eo sl ms (wE X oe) fun i m => Er sl m (wE X key) fun y => ∃ k es q w, i = .o k ∧ m[k]? = some (.x es) ∧ y = kD q ∧ valG es q = some w ∧ Ro w m) (hp : NoSl key := by intro _ _; rfl) :
    Eo sl ms (wE X (.Subscript oe key pos)) Ro := Eo.of (pe_dget hu pe_w pe_w hp) fun ho F0 H0 F ps ex σ H a Q q => h ho F0 H0 F ps ex σ H a _ fun v i F1 qs m H1 h1 a1 => h1 ho F0 H0 F1 _ _ σ H1 a1 _ fun y d F2 H2 ⟨k, es, kq, w, e1, e2, e3, e4, r⟩ a2 => by
  subst e1 e3
  obtain ⟨p, o, rfl, hp, h4, ks, rfl, h5⟩ := a2.mo a2.pop.topI e2
  have hy := a2.top.key
  subst hy
  rcases h5.get (k := kq) with ⟨z, _⟩ | ⟨i', v', z1, z2, z3⟩
  · rw [e4] at z; cases z
  · rw [e4] at z1; cases z1
    exact ⟨p, v', rfl, by have := DGet.k (k := kq) h4; rw [z2] at this; exact this, q v' w F2 qs m H2 r (a2.pop.pop.pushI z3)⟩
theorem At.isD {ho : Option Addr} {F0 H0 F H : Hp} {ps : List Addr} {ex : List (V × Di)} {σ : L2.St} {v : V} {k : Nat} {es : List (Key × Di)} (a : At ho F0 H0 F ps sl ms ex σ H) (hv : Iv F ps v (.o k)) (hm : ms[k]? = some (.x es)) : ∃ p, v = .ref p ∧ IsD H p := by
  obtain ⟨p, o, rfl, hp, h4, ks, rfl, h5⟩ := a.mo hv hm
  exact ⟨p, rfl, .inl ⟨ks, .inl h4⟩⟩
/-- d.get(key, val) -/
theorem jo_dget2 {ap cp : Pos} (hu : X.A.units + 1 < cLine) (h : Eo sl ms (wE X oe) fun i m => ∃ k es0, i = .o k ∧ m[k]? = some (.x es0) ∧ Er sl m (wE X key) fun y => Eo sl m (wE X val) fun z m2 => ∃ es q, m2[k]? = some (.x es) ∧ y = kD q ∧ (∀ w, valG es q = some w → Ro w m2) ∧ (valG es q = none → Ro z m2))
    (hm : M2 X oe "get" ap key val cp := by exact ⟨rfl, rfl, rfl, rfl⟩) :
    Eo sl ms (wE X (.Call (.Attribute oe "get" ap) [key, val] [] cp)) Ro := Eo.of (pe_dget2 hu pe_w pe_w pe_w hm) fun ho F0 H0 F ps ex σ H a Q q => h ho F0 H0 F ps ex σ H a _ fun v i F1 qs m H1 ⟨k, es0, ei, e0, h1⟩ a1 => by
  subst ei
  obtain ⟨p0, rfl, hd0⟩ := a1.isD a1.topI e0
  refine ⟨p0, rfl, hd0, h1 ho F0 H0 F1 _ _ σ H1 a1 _ fun y d F2 H2 h2 a2 => h2 ho F0 H0 F2 _ _ σ H2 a2 _ fun z i2 F3 qs3 m3 H3 ⟨es, kq, e2, e3, r1, r2⟩ a3 => ?_⟩
  subst e3
  obtain ⟨p, o, ep, hp, h4, ks, rfl, h5⟩ := a3.mo a3.pop.pop.topI e2
  cases ep
  have hy := a3.pop.top.key
  subst hy
  have hg := DGet.k (k := kq) h4
  rcases h5.get (k := kq) with ⟨z1, z2⟩ | ⟨i', v', z1, z2, z3⟩
  · rw [z2] at hg
    exact ⟨none, hg, q z i2 F3 (qs ++ qs3) m3 H3 (r2 z1) (by rw [← List.append_assoc]; exact a3.pop.pop.pop.pushI a3.topI)⟩
  · rw [z2] at hg
    exact ⟨some v', hg, q v' i' F3 (qs ++ qs3) m3 H3 (r1 i' z1) (by rw [← List.append_assoc]; exact a3.pop.pop.pop.pushI z3)⟩
/-- d.get(key) -/
theorem jo_dget1 {ap cp : Pos} (hu : X.A.units + 1 < cLine) (h : Eo sl ms (wE X oe) fun i m => ∃ k es, i = .o k ∧ m[k]? = some (.x es) ∧ Er sl m (wE X key) fun y => ∃ q, y = kD q ∧ (∀ w, valG es q = some w → Ro w m) ∧ (valG es q = none → Ro (.d .non) m))
    (hm : M1 X oe "get" ap key cp := by exact ⟨rfl, rfl, rfl, rfl⟩) :
    Eo sl ms (wE X (.Call (.Attribute oe "get" ap) [key] [] cp)) Ro := Eo.of (pe_dget1 hu pe_w pe_w hm) fun ho F0 H0 F ps ex σ H a Q q => h ho F0 H0 F ps ex σ H a _ fun v i F1 qs m H1 ⟨k, es, ei, e0, h1⟩ a1 => by
  subst ei
  obtain ⟨p0, rfl, hd0⟩ := a1.isD a1.topI e0
  refine ⟨p0, rfl, hd0, h1 ho F0 H0 F1 _ _ σ H1 a1 _ fun y d F2 H2 ⟨kq, e3, r1, r2⟩ a3 => ?_⟩
  subst e3
  obtain ⟨p, o, ep, hp, h4, ks, rfl, h5⟩ := a3.mo a3.pop.topI e0
  cases ep
  have hy := a3.top.key
  subst hy
  have hg := DGet.k (k := kq) h4
  rcases h5.get (k := kq) with ⟨z1, z2⟩ | ⟨i', v', z1, z2, z3⟩
  · rw [z2] at hg
    exact ⟨none, hg, q _ _ F2 qs m H2 (r2 z1) (a3.pop.pop.push .non)⟩
  · rw [z2] at hg
    exact ⟨some v', hg, q v' i' F2 qs m H2 (r1 i' z1) (a3.pop.pop.pushI z3)⟩
/-- key in d -/
theorem jt_din (hu : X.A.units + 1 < cLine) (h : Er sl ms (wE X key) fun y => Eo sl ms (wE X oe) fun i m => m = ms ∧ ∃ k es q, i = .o k ∧ ms[k]? = some (.x es) ∧ y = kD q ∧ B (valG es q).isSome) (hm : behindInMarks .In oe = false := by first | exact nobehind _ (by decide) (by decide) | rfl) :
    Et sl ms (wT X (.Compare key [.In] [oe] pos)) B := Et.of (pt_cmp (pc_din hu pe_w pe_w) hm) fun ho F0 H0 F ps ex σ H a Q q => h ho F0 H0 F ps ex σ H a _ fun y d F1 H1 h1 a1 => h1 ho F0 H0 F1 _ _ σ H1 a1 _ fun v i F2 qs m H2 ⟨em, k, es, kq, e1, e2, e3, r⟩ a2 => by
  subst em e1 e3
  obtain rfl := qs_nil a a2
  rw [List.append_nil] at a2
  obtain ⟨p, o, rfl, hp, h4, ks, rfl, h5⟩ := a2.mo a2.topI e2
  have hy := a2.pop.top.key
  subst hy
  have hg := DGet.k (k := kq) h4
  refine ⟨p, _, rfl, hg, _, rfl, ?_⟩
  have hs : (valV ks kq).isSome = (valG es kq).isSome := by
    rcases h5.get (k := kq) with ⟨z1, z2⟩ | ⟨i', v', z1, z2, z3⟩
    · rw [z1, z2]; rfl
    · rw [z1, z2]; rfl
  rw [hs]
  exact q _ F2 H2 r a2.pop.pop
theorem jt_dnotin (hu : X.A.units + 1 < cLine) (h : Er sl ms (wE X key) fun y => Eo sl ms (wE X oe) fun i m => m = ms ∧ ∃ k es q, i = .o k ∧ ms[k]? = some (.x es) ∧ y = kD q ∧ B (!(valG es q).isSome)) (hm : behindInMarks .NotIn oe = false := by first | exact nobehind _ (by decide) (by decide) | rfl) :
    Et sl ms (wT X (.Compare key [.NotIn] [oe] pos)) B := Et.of (pt_cmp (pc_dnotin hu pe_w pe_w) hm) fun ho F0 H0 F ps ex σ H a Q q => h ho F0 H0 F ps ex σ H a _ fun y d F1 H1 h1 a1 => h1 ho F0 H0 F1 _ _ σ H1 a1 _ fun v i F2 qs m H2 ⟨em, k, es, kq, e1, e2, e3, r⟩ a2 => by
  subst em e1 e3
  obtain rfl := qs_nil a a2
  rw [List.append_nil] at a2
  obtain ⟨p, o, rfl, hp, h4, ks, rfl, h5⟩ := a2.mo a2.topI e2
  have hy := a2.pop.top.key
  subst hy
  have hg := DGet.k (k := kq) h4
  refine ⟨p, _, rfl, hg, _, rfl, ?_⟩
  have hs : (valV ks kq).isSome = (valG es kq).isSome := by
    rcases h5.get (k := kq) with ⟨z1, z2⟩ | ⟨i', v', z1, z2, z3⟩
    · rw [z1, z2]; rfl
    · rw [z1, z2]; rfl
  rw [hs]
  exact q _ F2 H2 r a2.pop.pop
/-- d[key] = val -/
theorem js_dput (hu : X.A.units + 1 < cLine) (h : Eo sl ms (wE X val) fun w m1 => Eo sl m1 (wE X oe) fun i m => Er sl m (wE X key) fun y => ∃ k es q, i = .o k ∧ m[k]? = some (.x es) ∧ y = kD q ∧ es.length < 100000 ∧ O.nx sl (m.set k (.x (putG es q w))))
    (hs : swapsWith val (some (.Subscript oe key p)) pos.line X.env = pure false := by rfl) :
    Sr sl ms (wS X (.Assign [.Subscript oe key p] val pos)) O := Sr.of (ps_dput hu pe_w pe_w pe_w hs) fun ho F0 H0 F ps ex σ H a Z n r b c => h ho F0 H0 F ps ex σ H a _ fun w iw F1 qs1 m1 H1 h1 a1 => h1 ho F0 H0 F1 _ _ σ H1 a1 _ fun v i F2 qs m H2 h2 a2 => h2 ho F0 H0 F2 _ _ σ H2 a2 _ fun y d F3 H3 ⟨k, es, kq, e1, e2, e3, hl, k1⟩ a3 => by
  subst e1 e3
  obtain ⟨p, o, rfl, hp, h4, ks, rfl, h5⟩ := a3.mo a3.pop.topI e2
  have hy := a3.top.key
  subst hy
  exact ⟨p, _, rfl, DPut.k h4 (by rw [h5.len]; exact Nat.lt_trans hl (by decide)), n _ _ F3 _ σ _ k1 ((a3.putO (ob := .x (putG es kq iw)) hp ⟨_, rfl, h5.put a3.pop.pop.topI⟩).pop.pop.pop)⟩
end
end E
set_option Elab.async false
set_option linter.all false
set_option maxRecDepth 100000
/-! Calls that hand over what is one's own. -/
namespace E
open PySem PySem.Spec PyProof.Rows L2
variable [KF]

structure Own (F H : Hp) (ps : List Addr) (ms : List Ob) : Prop where
  nd : ps.Nodup
  len : ps.length = ms.length
  mu : ∀ (k : Nat) (p : Addr) (ob : Ob), ps[k]? = some p → ms[k]? = some ob → F p = none ∧ ∃ o, H p = some o ∧ OwH F ps o ob
/-- all that is tracked stays, but ps -/
structure ExtO (F H : Hp) (ps : List Addr) (F' H' : Hp) : Prop where
  ff : Ex F F'
  fh : Ex F' H'
  hh : ∀ a o, a ∉ ps → H a = some o → H' a = some o
  dj : ∀ a, F a = none → H a ≠ none → a ∉ ps → F' a = none
def spO (n : Nat) (Pre : List Di → List Ob → Prop) (Post : List Di → List Ob → Di → List Ob → Prop) : Sp := fun vs H Q _ => ∃ F ps ms is, Ex F H ∧ Own F H ps ms ∧ IvL F ps vs is ∧ is.length = n ∧ Pre is ms ∧
  ∀ u i F' qs ms' H', Post is ms i ms' → ExtO F H ps F' H' → Own F' H' (ps ++ qs) ms' → (∀ q ∈ qs, H q = none) → Iv F' (ps ++ qs) u i → Q u H'
section
variable {ho : Option Addr} {F0 H0 F H : Hp} {ps : List Addr} {sl : List Sl} {ms : List Ob} {ex : List (V × Di)} {σ : L2.St}
theorem At.ownS (a : At ho F0 H0 F ps sl ms ex σ H) : Own F H ps ms := ⟨a.nd, a.len, fun k p ob h1 h2 => by
  obtain ⟨_, m2, _, m4⟩ := a.mu k p ob h1 h2
  exact ⟨m2, m4⟩⟩
theorem At.own_in (a : At ho F0 H0 F ps sl ms ex σ H) {p : Addr} (h : p ∈ ps) : H0 p = none ∧ ho ≠ some p ∧ H p ≠ none := by
  obtain ⟨k, hk⟩ := List.getElem?_of_mem h
  have hl : k < ms.length := by rw [← a.len]; exact (List.getElem?_eq_some_iff.mp hk).1
  obtain ⟨m1, _, m3, o, m4, _⟩ := a.mu k p _ hk (List.getElem?_eq_getElem hl)
  exact ⟨m1, m3, by rw [m4]; intro z; cases z⟩
theorem At.live (a : At ho F0 H0 F ps sl ms ex σ H) {b : Addr} (h1 : H0 b ≠ none) : H b ≠ none := by
  by_cases hb : ho = some b
  · obtain ⟨c, cs, is, q, _⟩ := (a.hand b hb).ex
    rw [q]; intro z; cases z
  · cases q : H0 b with
    | none => exact absurd q h1
    | some o => rw [a.ext.hh b o hb q]; intro z; cases z
/-- behind such a call -/
theorem At.after {F' H' : Hp} {qs : List Addr} {ms' : List Ob} (a : At ho F0 H0 F ps sl ms ex σ H) (e : ExtO F H ps F' H') (w : Own F' H' (ps ++ qs) ms') (hq : ∀ q ∈ qs, H q = none) : At ho F0 H0 F' (ps ++ qs) sl ms' ex σ H' := by
  have hh0 : ∀ h, ho = some h → h ∉ ps := fun h e z => (a.own_in z).2.1 e
  have hlive : ∀ h, ho = some h → H h ≠ none := fun h e => by
    obtain ⟨c, cs, is, q, _⟩ := (a.hand h e).ex
    rw [q]; intro z; cases z
  refine ⟨⟨a.ext.ff.trans e.ff, e.fh, fun b o hb q => e.hh b o (fun z => by rw [(a.own_in z).1] at q; cases q) (a.ext.hh b o hb q), fun b h0 h1 => e.dj b (a.ext.dj b h0 h1) (a.live h1) fun z => h1 (a.own_in z).1⟩, w.nd, w.len, fun k p ob h1 h2 => ?_, a.sln, fun i s h => ?_, fun x hx => (a.pen x hx).mono e.ff app_left, fun h hh => ?_⟩
  · obtain ⟨m2, m4⟩ := w.mu k p ob h1 h2
    rcases List.mem_append.mp (List.mem_of_getElem? h1) with hp | hp
    · exact ⟨(a.own_in hp).1, m2, (a.own_in hp).2.1, m4⟩
    · have hn := hq p hp
      refine ⟨?_, m2, fun z => hlive p z hn, m4⟩
      cases q : H0 p with
      | none => rfl
      | some o => exact absurd hn (a.live (by rw [q]; intro z; cases z))
  · obtain ⟨o, q, r⟩ := a.slo i s h
    exact ⟨o, q, r.mono e.ff app_left⟩
  · obtain ⟨f, c, cs, is, q, r, rest⟩ := a.hand h hh
    exact ⟨e.dj h f (by rw [q]; intro z; cases z) (hh0 h hh), c, cs, is, e.hh h _ (hh0 h hh) q, e.ff c _ r, rest⟩
end
/-- arguments, of which some may be one's own -/
def Eas (sl : List Sl) (ms : List Ob) (t : TA) (R : List Di → List Ob → Prop) : Prop :=
  ∀ (ho : Option Addr) (F0 H0 F : Hp) (ps : List Addr) (ex : List (V × Di)) (σ : L2.St) (H : Hp), At ho F0 H0 F ps sl ms ex σ H →
    ∀ Q : List V → Hp → Prop, (∀ vs is F' qs ms' H', R is ms' → At ho F0 H0 F' (ps ++ qs) sl ms' ex σ H' → IvL F' (ps ++ qs) vs is → Q vs H') → t σ H Q
section
variable {X : Cx} {sl : List Sl} {ms : List Ob} {pos p : Pos} {e : Expr} {es : List Expr} {x : Str} {Rs : List Di → List Ob → Prop} {Ro : Di → List Ob → Prop}
theorem eas_nil (h : Rs [] ms) : Eas sl ms (wA X []) Rs := fun ho F0 H0 F ps ex σ H a Q q pos pins s I => pa_nil.run pos pins s σ H Q I (q [] [] F [] ms H h (by rw [List.append_nil]; exact a) .nil)
theorem eas_cons (h : Eo sl ms (wE X e) fun i m => Eas sl m (wA X es) fun is m' => Rs (i :: is) m') (he : starEach (e :: es) X.env = (false, eval e X.env) :: starEach es X.env := by rfl) : Eas sl ms (wA X (e :: es)) Rs := fun ho F0 H0 F ps ex σ H a Q q pos pins s I =>
  (pa_cons pe_w pa_w he).run pos pins s σ H Q I (h ho F0 H0 F ps ex σ H a _ fun v i F1 qs m1 H1 h1 a1 => h1 ho F0 H0 F1 _ _ σ H1 a1 _ fun vs is F2 qs2 m2 H2 h2 a2 l => q (v :: vs) (i :: is) F2 (qs ++ qs2) m2 H2 h2 (by rw [← List.append_assoc]; exact a2.pop) (by rw [← List.append_assoc]; exact .cons a2.topI l))
theorem jo_call {k j n : Nat} {Pre : List Di → List Ob → Prop} {Post : List Di → List Ob → Di → List Ob → Prop} (c : Cl X.prog X.w X.K X.mg X.base k x (spO n Pre Post)) (hr : RoomG j X.A) (hk : k ≤ j) (h : Eas sl ms (wA X (e :: es)) fun is m => is.length = n ∧ Pre is m ∧ ∀ i m', Post is m i m' → Ro i m') (hg : Gl X x := by rfl)
    (hdb : (x == ("__debug__" : Str)) = false := by decide) (he : starEach (e :: es) X.env = (false, eval e X.env) :: starEach es X.env := by rfl) (hpl : (backTo pos (starEach es X.env)).any (·.1) = false := by rfl) :
    Eo sl ms (wE X (.Call (.Name x p) (e :: es) [] pos)) Ro := by
  obtain ⟨f, fd, pn, F, hm, kp, b⟩ := c.ex
  refine Eo.of (pe_callG F (hr.mono hk) hg hm kp b pa_w hdb he hpl) fun ho F0 H0 F ps ex σ H a Q q => h ho F0 H0 F ps ex σ H a _ fun vs is F1 qs m1 H1 ⟨hn, hp, hr⟩ a1 l => ?_
  refine ⟨F1, ps ++ qs, m1, is, a1.fh, a1.ownS, by rw [List.append_nil]; exact l, hn, hp, fun u i F' qs' ms' H' po ex' w hq hi => ?_⟩
  have a2 := a1.after ex' w hq
  exact q u i F' (qs ++ qs') ms' H' (hr i ms' po) (by rw [← List.append_assoc]; exact a2.pushI hi)
end
/-- the pens of what is one's own -/
def pensOf (ps : List Addr) : List (V × Di) := ps.zipIdx.map fun p => (.ref p.1, .o p.2)
theorem pensOf_mem {ps : List Addr} {k : Nat} {p : Addr} (h : ps[k]? = some p) : (V.ref p, Di.o k) ∈ pensOf ps := List.mem_map.mpr ⟨(p, k), by rw [List.mem_zipIdx_iff_getElem?]; exact h, rfl⟩
theorem pensOf_ok {F : Hp} {ps : List Addr} : ∀ x ∈ pensOf ps, Iv F ps x.1 x.2 := fun x hx => by
  obtain ⟨⟨p, k⟩, h1, rfl⟩ := List.mem_map.mp hx
  rw [List.mem_zipIdx_iff_getElem?] at h1
  exact .o h1
theorem pensOf_pre {F : Hp} {ps ps' : List Addr} (h : ∀ x ∈ pensOf ps, Iv F ps' x.1 x.2) : ∃ qs, ps' = ps ++ qs := by
  refine ⟨ps'.drop ps.length, ?_⟩
  refine List.ext_getElem? fun i => ?_
  by_cases hi : i < ps.length
  · rw [List.getElem?_append_left hi]
    cases h _ (pensOf_mem (List.getElem?_eq_getElem hi)) with
    | o z => rw [z, List.getElem?_eq_getElem hi]
  · rw [List.getElem?_append_right (by omega), List.getElem?_drop]
    congr 1; omega
/-! ### defs that are handed what is one's own -/
open Classical in
noncomputable def less (H : Hp) (ps : List Addr) : Hp := fun a => if a ∈ ps then none else H a
theorem less_in {H : Hp} {ps : List Addr} {a : Addr} (h : a ∈ ps) : less H ps a = none := if_pos h
theorem less_out {H : Hp} {ps : List Addr} {a : Addr} (h : a ∉ ps) : less H ps a = H a := if_neg h
theorem own_start {F H : Hp} {ps : List Addr} {ms : List Ob} {vs : List V} {is : List Di} {m : Nat} (e : Ex F H) (w : Own F H ps ms) (l : IvL F ps vs is) :
    At none F (less H ps) F ps (is.map slOf ++ List.replicate m .u) ms (pensOf ps) (vs.map some ++ List.replicate m none) H := by
  refine ⟨⟨Ex.refl F, e, fun a o _ h => ?_, fun a h _ => h⟩, w.nd, w.len, fun k p ob h1 h2 => ?_, by simp [l.len], fun i s h => ?_, pensOf_ok, fun h hh => by cases hh⟩
  · by_cases ha : a ∈ ps
    · rw [less_in ha] at h; cases h
    · rw [less_out ha] at h; exact h
  · obtain ⟨m2, m4⟩ := w.mu k p ob h1 h2
    exact ⟨less_in (List.mem_of_getElem? h1), m2, (by intro z; cases z), m4⟩
  · by_cases hi : i < is.length
    · rw [List.getElem?_append_left (by rw [List.length_map]; exact hi), List.getElem?_map] at h
      cases q : is[i]? with
      | none => rw [q] at h; cases h
      | some d =>
        rw [q] at h; cases h
        obtain ⟨v, h1, h2⟩ := l.get i q
        refine ⟨some v, ?_, slOf_ok h2⟩
        rw [List.getElem?_append_left (by rw [List.length_map, l.len]; exact hi), List.getElem?_map, h1]; rfl
    · rw [List.getElem?_append_right (by rw [List.length_map]; omega)] at h
      have hm : i - (is.map slOf).length < m := by
        have := (List.getElem?_eq_some_iff.mp h).1
        rwa [List.length_replicate] at this
      rw [List.getElem?_replicate, if_pos hm] at h
      cases h
      rw [List.length_map] at hm
      exact ⟨none, by rw [List.getElem?_append_right (by rw [List.length_map, l.len]; omega), List.getElem?_replicate, if_pos (by rw [List.length_map, l.len]; exact hm)], trivial⟩
theorem own_end {F H F' H' : Hp} {ps ps' : List Addr} {sl' : List Sl} {ms' : List Ob} {ex : List (V × Di)} {σ' : L2.St} (a : At none F (less H ps) F' ps' sl' ms' (ex ++ pensOf ps) σ' H') :
    ∃ qs, ps' = ps ++ qs ∧ ExtO F H ps F' H' ∧ Own F' H' (ps ++ qs) ms' ∧ ∀ q ∈ qs, H q = none := by
  obtain ⟨qs, rfl⟩ := pensOf_pre fun x hx => a.pen x (List.mem_append_right _ hx)
  refine ⟨qs, rfl, ⟨a.ext.ff, a.ext.fh, fun b o hb h => a.ext.hh b o (by intro z; cases z) (by rw [less_out hb]; exact h), fun b h0 h1 hb => a.ext.dj b h0 (by rw [less_out hb]; exact h1)⟩, a.ownS, fun q hq => ?_⟩
  have h1 := (a.own_in (List.mem_append_right _ hq)).1
  have h2 : q ∉ ps := fun z => by
    have := a.nd
    rw [List.nodup_append] at this
    exact this.2.2 q z q hq rfl
  rw [less_out h2] at h1
  exact h1
section
variable {P : Program} {w : World} {K : PySem.W.Frag} {mg : Str → Option Value} {base : Heap}
theorem ok_O {x : Str} {st : Stmt} {f : Addr} {fd : FuncData} {N ps : List Str} {k n m : Nat} {Pre : List Di → List Ob → Prop} {Post : List Di → List Ob → Di → List Ob → Prop} (F : Fun K x x st f fd) (S : FnScope N ps (defScope st)) (hn : ps.length = n) (hm : N.length = n + m)
    (hb : ∀ (cdv : Value) (A : Around) (outer : List Env) (s : Shared) (H : Hp) (E : XK) (is : List Di) (ms : List Ob), RoomG k (A.deeper (envOfC x (defScope st) s.heap.objs.size f cdv)) → is.length = n → Pre is ms →
      Sr (is.map slOf ++ List.replicate m .u) ms (wSs (cx P w K mg base N x st f cdv A outer s H E) (defBody st)) { nx := fun _ ms' => Post is ms (.d .non) ms', rt := fun _ => False, ro := Post is ms }) :
    FnG P w K mg base (k + 1) f fd ps (spO n Pre Post) := by
  refine fun_G F S (fun vs H Q E h => ?_) (fun cdv A outer s H vs Q E hr h => ?_)
  · obtain ⟨F, ps, ms, is, _, _, l, e, _⟩ := h
    rw [l.len, e, hn]
  · obtain ⟨F0, qs, ms, is, e, ow, l, hl, hp, q⟩ := h
    refine ⟨_, pss_w, ?_⟩
    have a0 : At none F0 (less H qs) F0 qs (is.map slOf ++ List.replicate m .u) ms (pensOf qs) (L2.start N vs) H := by
      rw [show L2.start N vs = vs.map some ++ List.replicate m none by unfold L2.start; rw [l.len, hl, hm]; congr 2; omega]
      exact own_start e ow l
    refine hb cdv A outer s H E is ms hr hl hp none F0 (less H qs) F0 qs (pensOf qs) (L2.start N vs) H a0 _ (fun sl' ms' F' ps' σ' H' po a' => ?_) (fun v F' H' ro => ?_) (fun _ _ _ _ _ _ z => z.elim) (fun _ _ _ _ _ _ z => z.elim)
    · obtain ⟨qs', rfl, x1, x2, x3⟩ := own_end (ex := []) a'
      exact q .non (.d .non) F' qs' ms' H' po x1 x2 x3 (.d .non)
    · rcases ro with ⟨_, z, _⟩ | ⟨i, ms', ps', sl', σ', po, a'⟩
      · exact z.elim
      · obtain ⟨qs', rfl, x1, x2, x3⟩ := own_end (ex := [(v, i)]) a'
        exact q v i F' qs' ms' H' po x1 x2 x3 a'.topI
end
section
variable {X : Cx} {sl : List Sl} {ms : List Ob} {pos p : Pos} {e : Expr} {O : Out}
theorem js_retO (h : Eo sl ms (wE X e) O.ro) : Sr sl ms (wS X (.Return (some e) pos)) O := Sr.of (ps_ret pe_w) fun ho F0 H0 F ps ex σ H a Z n r b c => h ho F0 H0 F ps ex σ H a _ fun v i F' qs m H' hi a' => r v F' H' (.inr ⟨i, m, _, _, _, hi, a'⟩)
theorem js_retNO (h : O.ro (.d .non) ms) : Sr sl ms (wS X (.Return none pos)) O := Sr.of ps_retN fun ho F0 H0 F ps ex σ H a Z n r b c => r .non F H (.inr ⟨.d .non, ms, _, _, _, h, a.push .non⟩)
end
end E
set_option Elab.async false
set_option linter.all false
set_option maxRecDepth 100000
/-! Lists of one's own by any expression; attributes; what dicts are asked as a whole. -/
namespace E
open PySem PySem.Spec PyProof.Rows L2
variable [KF]

/-! ### instances -/
def fldG (f : Str) (i : Di) : List (Str × Di) → List (Str × Di)
  | [] => [(f, i)]
  | (g, x) :: r => if g = f then (g, i) :: r else (g, x) :: fldG f i r
theorem IvE.look {F : Hp} {ps : List Addr} {f : Str} {i : Di} : ∀ {ks : List (Str × V)} {es : List (Str × Di)}, IvE F ps ks es → es.lookup f = some i → ∃ v, ks.lookup f = some v ∧ Iv F ps v i
  | _, _, .nil, e => by cases e
  | _, _, .cons (k := k) (x := x) (xs := xs) h l, e => by
    rw [List.lookup_cons] at e
    by_cases z : (f == k) = true
    · rw [z] at e; cases e
      exact ⟨x, by rw [List.lookup_cons, z], h⟩
    · rw [Bool.not_eq_true] at z
      rw [z] at e
      obtain ⟨v, h1, h2⟩ := IvE.look l e
      exact ⟨v, by rw [List.lookup_cons, z]; exact h1, h2⟩
theorem IvE.lookN {F : Hp} {ps : List Addr} {f : Str} : ∀ {ks : List (Str × V)} {es : List (Str × Di)}, IvE F ps ks es → es.lookup f = none → ks.lookup f = none
  | _, _, .nil, _ => rfl
  | _, _, .cons (k := k) (x := x) (xs := xs) h l, e => by
    rw [List.lookup_cons] at e ⊢
    by_cases z : (f == k) = true
    · rw [z] at e; cases e
    · rw [Bool.not_eq_true] at z
      rw [z] at e ⊢
      exact IvE.lookN l e
theorem IvE.fld {F : Hp} {ps : List Addr} {f : Str} {i : Di} {v : V} (hv : Iv F ps v i) : ∀ {ks : List (Str × V)} {es : List (Str × Di)}, IvE F ps ks es → IvE F ps (putF f v ks) (fldG f i es)
  | _, _, .nil => by rw [putF.eq_1]; exact .cons hv .nil
  | _, _, .cons (k := k) h l => by
    rw [putF.eq_2]
    unfold fldG
    by_cases z : k = f
    · rw [if_pos z, if_pos z]; exact .cons hv l
    · rw [if_neg z, if_neg z]; exact .cons h (IvE.fld hv l)
section
variable {X : Cx} {sl sl' : List Sl} {ms : List Ob} {R : D → Prop} {Ro : Di → List Ob → Prop} {B : Bool → Prop} {pos p p2 p3 : Pos} {a b c e oe key val : Expr} {es rest : List Expr} {x y : Str} {d : D} {O : Out} {t : TE}
/-- oe.f -/
theorem jo_fld {f : Str} (h : Eo sl ms (wE X oe) fun i m => ∃ k C fs w, i = .o k ∧ m[k]? = some (.i C fs) ∧ Cls X.K C ∧ NoAttr X.K C f ∧ fs.lookup f = some w ∧ Ro w m) (hb : attributeBase oe f X.env (eval oe X.env) = eval oe X.env := by rfl) :
    Eo sl ms (wE X (.Attribute oe f pos)) Ro := Eo.of (pe_fld pe_w hb) fun ho F0 H0 F ps ex σ H a Q q => h ho F0 H0 F ps ex σ H a _ fun v i F1 qs m H1 ⟨k, C, fs, w, ei, hm, hc, hn, hl, r⟩ a1 => by
  subst ei
  obtain ⟨p, o, rfl, hp, h4, dx, ks, rfl, h5⟩ := a1.mo a1.topI hm
  obtain ⟨u, hu, hi⟩ := h5.look hl
  exact ⟨p, C, dx, ks, u, rfl, h4, hc, hn, hu, q u w F1 qs m H1 r (a1.pop.pushI hi)⟩
/-- oe.f = val -/
theorem js_fld {f : Str} (h : Eo sl ms (wE X val) fun w m1 => Eo sl m1 (wE X oe) fun i m => ∃ k C fs, i = .o k ∧ m[k]? = some (.i C fs) ∧ Cls X.K C ∧ NoAttr X.K C f ∧ fs.length < 1000 ∧ O.nx sl (m.set k (.i C (fldG f w fs))))
    (hs : swapsWith val (some (.Attribute oe f p)) pos.line X.env = pure false := by rfl) : Sr sl ms (wS X (.Assign [.Attribute oe f p] val pos)) O := Sr.of (ps_fld pe_w pe_w hs) fun ho F0 H0 F ps ex σ H a Z n r b c =>
  h ho F0 H0 F ps ex σ H a _ fun w iw F1 qs1 m1 H1 h1 a1 => h1 ho F0 H0 F1 _ _ σ H1 a1 _ fun v i F2 qs m H2 ⟨k, C, fs, ei, hm, hc, hn, hl, k1⟩ a2 => by
  subst ei
  obtain ⟨p, o, rfl, hp, h4, dx, ks, rfl, h5⟩ := a2.mo a2.topI hm
  exact ⟨p, C, dx, ks, rfl, h4, hc, hn, by rw [h5.len]; exact hl, n _ _ F2 _ σ _ k1 ((a2.putO (ob := .i C (fldG f iw fs)) hp ⟨dx, _, rfl, h5.fld a2.pop.topI⟩).pop.pop)⟩

/-! ### lists of one's own -/
/-- what is a list: its items -/
def itsOf : Ob → Option (List Di)
  | .l ds => some (ds.map .d)
  | .g is => some is
  | _ => none
theorem OwH.its {F : Hp} {ps : List Addr} {o : HO} {is : List Di} : ∀ {ob : Ob}, OwH F ps o ob → itsOf ob = some is → ∃ xs, o = .lst xs ∧ IvL F ps xs is
  | .l ds, ⟨xs, h, l⟩, e => by cases e; exact ⟨xs, h, IvL.of l⟩
  | .g _, ⟨xs, h, l⟩, e => by cases e; exact ⟨xs, h, l⟩
theorem IvL.atI {F : Hp} {ps : List Addr} {vs : List V} {is : List Di} {i : Int} {d : Di} (h : IvL F ps vs is) (e : L2.atI is i = some d) : ∃ v, L2.atI vs i = some v ∧ Iv F ps v d := by
  unfold L2.atI at e ⊢
  rw [h.len]
  cases q : ixN is.length i with
  | none => rw [q] at e; cases e
  | some j =>
    rw [q] at e
    exact IvL.get j h e
/-- oe[key], oe a list -/
theorem jo_ix (h : Eo sl ms (wE X oe) fun i m => Er sl m (wE X key) fun y => ∃ k ob is n w, i = .o k ∧ m[k]? = some ob ∧ itsOf ob = some is ∧ y = .int n ∧ L2.atI is n = some w ∧ Ro w m) (hp : PlainIx key := by intro _ _; rfl) :
    Eo sl ms (wE X (.Subscript oe key pos)) Ro := Eo.of (pe_ix ix_list pe_w pe_w hp) fun ho F0 H0 F ps ex σ H a Q q => h ho F0 H0 F ps ex σ H a _ fun v i F1 qs m H1 h1 a1 => h1 ho F0 H0 F1 _ _ σ H1 a1 _ fun y d F2 H2 ⟨k, ob, is, n, w, e1, e2, e3, e4, e5, r⟩ a2 => by
  subst e1 e4
  obtain ⟨p, o, rfl, hp, h4, h5⟩ := a2.mo a2.pop.topI e2
  obtain ⟨xs, rfl, hl⟩ := h5.its e3
  cases a2.top
  obtain ⟨u, hu, hi⟩ := hl.atI e5
  exact ⟨p, xs, n, u, rfl, rfl, .inl (.inl h4), hu, q u w F2 qs m H2 r (a2.pop.pop.pushI hi)⟩
/-- len(oe) -/
theorem j_lenO (hm : X.mg "len" = none) (h : Eo sl ms (wE X e) fun i m => m = ms ∧ ∃ k ob is, i = .o k ∧ ms[k]? = some ob ∧ itsOf ob = some is ∧ R (.int is.length)) (hg : Gl X "len" := by rfl) (he : starEach [e] X.env = (false, eval e X.env) :: starEach [] X.env := by rfl) :
    Er sl ms (wE X (.Call (.Name "len" p) [e] [] pos)) R := Er.of (pe_callB call_len_seq hg hm PySem.boot_len (pa_cons pe_w pa_nil he) (he := he)) fun ho F0 H0 F ps ex σ H a Q q => h ho F0 H0 F ps ex σ H a _ fun v i F1 qs m H1 ⟨em, k, ob, is, e1, e2, e3, r⟩ a1 => by
  subst em e1
  obtain rfl := qs_nil a a1
  rw [List.append_nil] at a1
  obtain ⟨p, o, rfl, hp, h4, h5⟩ := a1.mo a1.topI e2
  obtain ⟨xs, rfl, hl⟩ := h5.its e3
  exact ⟨p, xs, rfl, .inl (.inl (.inl h4)), by rw [hl.len]; exact q _ _ F1 H1 r (a1.pop.push (.int _))⟩
/-- oe.append(e), oe a list of data -/
theorem js_appO {ap cp : Pos} (h : Eo sl ms (wE X oe) fun i m => ∃ k ds0, i = .o k ∧ m[k]? = some (.l ds0) ∧ Er sl m (wE X e) fun y => ∃ ds, m[k]? = some (.l ds) ∧ ds.length < 100000 ∧ O.nx sl (m.set k (.l (ds ++ [y]))))
    (hbase : attributeBase oe "append" X.env (eval oe X.env) = eval oe X.env := by rfl)
    (hfew : ((backTo cp (starEach [e] X.env)).all (fun x => !x.1) && (backToKw cp (keywordEach [] X.env)).all (fun x => x.1.isSome) && decide (([e] : List Expr).length + ([] : List Keyword).length + (if ([] : List Keyword).isEmpty then 0 else 1) < 30)) = true := by rfl)
    (hline : (ap.endLine == cp.line) = true := by rfl) (hse : starEach [e] X.env = (false, eval e X.env) :: starEach [] X.env := by rfl) (hplain : (backTo cp (starEach [] X.env)).any (·.1) = false := by rfl)
    (hsw : swapsWith (.Call (.Attribute oe "append" ap) [e] [] cp) none pos.line X.env = pure false := by rfl) :
    Sr sl ms (wS X (.Expr (.Call (.Attribute oe "append" ap) [e] [] cp) pos)) O :=
  Sr.of (ps_expr (pe_bm PySem.F.plainAttrs_list PySem.F.slot_list_append PySem.F.type_list_append mt_append pe_w (pa_cons pe_w pa_nil hse) hbase hfew hline hse hplain) hsw) fun ho F0 H0 F ps ex σ H a Z n r b c =>
  h ho F0 H0 F ps ex σ H a _ fun v i F1 qs m H1 ⟨k, ds0, e1, e2, h1⟩ a1 => by
  subst e1
  obtain ⟨p0, o0, rfl, hp0, h40, xs0, rfl, h50⟩ := a1.mo a1.topI e2
  refine ⟨.inl ⟨rfl, _, .inl (.inl h40)⟩, h1 ho F0 H0 F1 _ _ σ H1 a1 _ fun y d F2 H2 ⟨ds, e3, hl, k1⟩ a2 => ?_⟩
  obtain ⟨p, o, ep, hp, h4, xs, rfl, h5⟩ := a2.mo a2.pop.topI e3
  cases ep
  exact ⟨p0, xs, y, rfl, rfl, h4, by rw [h5.len]; exact Nat.lt_trans hl (by decide), n _ _ F2 _ σ _ k1 ((a2.put hp (h5.app (.cons a2.top .nil))).pop.pop)⟩
end
end E
set_option Elab.async false
set_option linter.all false
set_option maxRecDepth 100000
/-! Classes of the program's own: methods, objects made. -/
namespace E
open PySem PySem.Spec PyProof.Rows L2
variable [KF]
section
variable {P : Program} {w : World} {K : PySem.W.Frag} {mg : Str → Option Value} {base : Heap}
/-- as ok_O, for a method -/
theorem ok_K {x qual : Str} {st : Stmt} {f : Addr} {fd : FuncData} {N ps : List Str} {k n m : Nat} {Pre : List Di → List Ob → Prop} {Post : List Di → List Ob → Di → List Ob → Prop} (F : Fun K x qual st f fd) (S : FnScope N ps (defScope st)) (hn : ps.length = n) (hm : N.length = n + m)
    (hb : ∀ (cdv : Value) (A : Around) (outer : List Env) (s : Shared) (H : Hp) (E : XK) (is : List Di) (ms : List Ob), Room k (A.deeper (envOfC qual (defScope st) s.heap.objs.size f cdv)) → is.length = n → Pre is ms →
      Sr (is.map slOf ++ List.replicate m .u) ms (wSs (cx P w K mg base N qual st f cdv A outer s H E) (defBody st)) { nx := fun _ ms' => Post is ms (.d .non) ms', rt := fun _ => False, ro := Post is ms }) :
    FnOk P w K mg base CX0 (k + 1) f fd ps (spO n Pre Post) := by
  refine F.ok S (fun vs H Q E h => ?_) (fun cdv A outer s H vs Q E hr h => ?_)
  · obtain ⟨F, ps, ms, is, _, _, l, e, _⟩ := h
    rw [l.len, e, hn]
  · obtain ⟨F0, qs, ms, is, e, ow, l, hl, hp, q⟩ := h
    refine ⟨_, pss_w, ?_⟩
    have a0 : At none F0 (less H qs) F0 qs (is.map slOf ++ List.replicate m .u) ms (pensOf qs) (L2.start N vs) H := by
      rw [show L2.start N vs = vs.map some ++ List.replicate m none by unfold L2.start; rw [l.len, hl, hm]; congr 2; omega]
      exact own_start e ow l
    refine hb cdv A outer s H E is ms hr hl hp none F0 (less H qs) F0 qs (pensOf qs) (L2.start N vs) H a0 _ (fun sl' ms' F' ps' σ' H' po a' => ?_) (fun v F' H' ro => ?_) (fun _ _ _ _ _ _ z => z.elim) (fun _ _ _ _ _ _ z => z.elim)
    · obtain ⟨qs', rfl, x1, x2, x3⟩ := own_end (ex := []) a'
      exact q .non (.d .non) F' qs' ms' H' po x1 x2 x3 (.d .non)
    · rcases ro with ⟨_, z, _⟩ | ⟨i, ms', ps', sl', σ', po, a'⟩
      · exact z.elim
      · obtain ⟨qs', rfl, x1, x2, x3⟩ := own_end (ex := [(v, i)]) a'
        exact q v i F' qs' ms' H' po x1 x2 x3 a'.topI
/-- a method, as its callers know it -/
structure ClM (P : Program) (w : World) (K : PySem.W.Frag) (mg : Str → Option Value) (base : Heap) (k : Nat) (C : Addr) (m : Str) (sp : Sp) : Prop where
  cl : Cls K C
  ex : ∃ (f : Addr) (fd : FuncData) (ps : List Str), FnOk P w K mg base CX0 k f fd ps sp ∧ Meth K C m f ∧ Binds K fd ps []
/-- a class, as it is called -/
structure ClK (P : Program) (w : World) (K : PySem.W.Frag) (mg : Str → Option Value) (base : Heap) (k : Nat) (x : Str) (C : Addr) (sp : Sp) : Prop where
  ex : ∃ (f : Addr) (fd : FuncData) (ps : List Str), FnOk P w K mg base CX0 k f fd ps sp ∧ Mk K C f ∧ mg x = some (.ref C) ∧ Binds K fd ps []
end
section
variable {X : Cx} {sl sl' : List Sl} {ms : List Ob} {Ro : Di → List Ob → Prop} {pos p ap : Pos} {e oe : Expr} {es : List Expr} {x m : Str} {O : Out} {C : Addr}
/-- oe.m(..) -/
theorem jo_meth {k j n : Nat} {pl : Sem Bool} {Pre : List Di → List Ob → Prop} {Post : List Di → List Ob → Di → List Ob → Prop} (c : ClM X.prog X.w X.K X.mg X.base k C m (spO n Pre Post)) (hr : Room j X.A) (hk : k ≤ j)
    (h : Eo sl ms (wE X oe) fun i m1 => ∃ q fs0, i = .o q ∧ m1[q]? = some (.i C fs0) ∧ fs0.lookup m = none ∧ Eas sl m1 (wA X (e :: es)) fun is m2 => is.length + 1 = n ∧ Pre (i :: is) m2 ∧ ∀ i' m', Post (i :: is) m2 i' m' → Ro i' m')
    (he : starEach (e :: es) X.env = (false, eval e X.env) :: starEach es X.env := by rfl) (hpl : (backTo pos (starEach es X.env)).any (·.1) = false := by rfl)
    (hev : eval (.Call (.Attribute oe m ap) (e :: es) [] pos) X.env = (do let ov ← eval oe X.env; standAt ap.atName; let (f, first) ← holding [ov] (getMethod ov m pl); callWith pos f first (backTo pos (starEach (e :: es) X.env)) (backToKw pos (keywordEach [] X.env))) := by rfl) :
    Eo sl ms (wE X (.Call (.Attribute oe m ap) (e :: es) [] pos)) Ro := by
  obtain ⟨f, fd, pn, F, hm, b⟩ := c.ex
  refine Eo.of (pe_meth (pl := pl) pe_w c.cl hm F (hr.mono hk) b .nil pass0 pa_w he hpl hev) fun ho F0 H0 F ps ex σ H a Q q => h ho F0 H0 F ps ex σ H a _ fun v i F1 qs m1 H1 ⟨kq, fs0, ei, em, hl, h1⟩ a1 => ?_
  subst ei
  obtain ⟨pa, o, rfl, hp, h4, dx, ks, rfl, h5⟩ := a1.mo a1.topI em
  refine ⟨pa, dx, ks, rfl, h4, h5.lookN hl, h1 ho F0 H0 F1 _ _ σ H1 a1 _ fun vs is F2 qs2 m2 H2 ⟨hn, hpre, hpost⟩ a2 l => ?_⟩
  refine ⟨F2, ps ++ qs ++ qs2, m2, .o kq :: is, a2.fh, a2.ownS, by rw [List.append_nil]; exact .cons a2.topI l, hn, hpre, fun u i' F' qs' ms' H' po ex' w hq hi => ?_⟩
  have a3 := a2.after ex' w hq
  exact q u i' F' (qs ++ qs2 ++ qs') ms' H' (hpost i' ms' po) (by rw [← List.append_assoc, ← List.append_assoc]; exact a3.pop.pushI hi)
theorem jo_meth0 {k j : Nat} {pl : Sem Bool} {Pre : List Di → List Ob → Prop} {Post : List Di → List Ob → Di → List Ob → Prop} (c : ClM X.prog X.w X.K X.mg X.base k C m (spO 1 Pre Post)) (hr : Room j X.A) (hk : k ≤ j)
    (h : Eo sl ms (wE X oe) fun i m1 => ∃ q fs0, i = .o q ∧ m1[q]? = some (.i C fs0) ∧ fs0.lookup m = none ∧ Pre [i] m1 ∧ ∀ i' m', Post [i] m1 i' m' → Ro i' m')
    (hev : eval (.Call (.Attribute oe m ap) [] [] pos) X.env = (do let ov ← eval oe X.env; standAt ap.atName; let (f, first) ← holding [ov] (getMethod ov m pl); callWith pos f first (backTo pos (starEach [] X.env)) (backToKw pos (keywordEach [] X.env))) := by rfl) :
    Eo sl ms (wE X (.Call (.Attribute oe m ap) [] [] pos)) Ro := by
  obtain ⟨f, fd, pn, F, hm, b⟩ := c.ex
  refine Eo.of (pe_meth0 (pl := pl) pe_w c.cl hm F (hr.mono hk) b .nil pass0 hev) fun ho F0 H0 F ps ex σ H a Q q => h ho F0 H0 F ps ex σ H a _ fun v i F1 qs m1 H1 ⟨kq, fs0, ei, em, hl, hpre, hpost⟩ a1 => ?_
  subst ei
  obtain ⟨pa, o, rfl, hp, h4, dx, ks, rfl, h5⟩ := a1.mo a1.topI em
  refine ⟨pa, dx, ks, rfl, h4, h5.lookN hl, ?_⟩
  refine ⟨F1, ps ++ qs, m1, [.o kq], a1.fh, a1.ownS, .cons a1.topI .nil, rfl, hpre, fun u i' F' qs' ms' H' po ex' w hq hi => ?_⟩
  have a3 := a1.after ex' w hq
  exact q u i' F' (qs ++ qs') ms' H' (hpost i' ms' po) (by rw [← List.append_assoc]; exact a3.pop.pushI hi)
/-- C(..) -/
theorem jo_make {k j n : Nat} {Pre : List Di → List Ob → Prop} {Post : List Di → List Ob → Di → List Ob → Prop} (c : ClK X.prog X.w X.K X.mg X.base k x C (spO n Pre Post)) (hr : Room j X.A) (hk : k + 1 ≤ j)
    (h : Eas sl ms (wA X (e :: es)) fun is m1 => is.length + 1 = n ∧ Pre (.o m1.length :: is) (m1 ++ [.i C []]) ∧ ∀ i' m', Post (.o m1.length :: is) (m1 ++ [.i C []]) i' m' → i' = .d .non ∧ Ro (.o m1.length) m') (hg : Gl X x := by rfl)
    (hdb : (x == ("__debug__" : Str)) = false := by decide) (he : starEach (e :: es) X.env = (false, eval e X.env) :: starEach es X.env := by rfl) (hpl : (backTo pos (starEach es X.env)).any (·.1) = false := by rfl) :
    Eo sl ms (wE X (.Call (.Name x p) (e :: es) [] pos)) Ro := by
  obtain ⟨f, fd, pn, F, hmk, hm, b⟩ := c.ex
  refine Eo.of (pe_make hmk F (hr.mono hk) hg hm b .nil pass0 pa_w hdb he hpl) fun ho F0 H0 F ps ex σ H a Q q => h ho F0 H0 F ps ex σ H a _ fun vs is F1 qs m1 H1 ⟨hn, hpre, hpost⟩ a1 l => ?_
  intro xa dx hx hdx hne
  have a2 := a1.junk (p := dx) (o := .own xa) hdx
  have hx2 : upd H1 dx (.own xa) xa = none := by rw [upd_ne (Ne.symm hne)]; exact hx
  have a3 := a2.ownO (p := xa) (o := .ins C dx []) (ob := .i C []) hx2 ⟨dx, [], rfl, .nil⟩
  have hk : (ps ++ qs ++ [xa])[m1.length]? = some xa := by rw [← a1.len, List.getElem?_append_right (Nat.le_refl _)]; simp
  refine ⟨F1, ps ++ qs ++ [xa], m1 ++ [.i C []], .o m1.length :: is, a3.fh, a3.ownS, by rw [List.append_nil]; exact .cons (.o hk) (l.mono (Ex.refl _) app_left), hn, hpre, fun u i' F' qs' ms' H' po ex' w hq hi => ?_⟩
  obtain ⟨rfl, r⟩ := hpost i' ms' po
  have a4 := a3.after ex' w hq
  cases hi with
  | d hi =>
    cases hi
    refine ⟨rfl, q _ _ F' (qs ++ [xa] ++ qs') ms' H' r ?_⟩
    have e : ps ++ (qs ++ [xa] ++ qs') = ps ++ qs ++ [xa] ++ qs' := by simp
    rw [e]
    exact a4.pushI (.o (app_left _ _ hk))
end
end E
set_option Elab.async false
set_option linter.all false
set_option maxRecDepth 100000
/-! Dicts as a whole. -/
namespace E
open PySem PySem.Spec PyProof.Rows L2
variable [KF]
theorem DnL.of_keys {F : Hp} : ∀ ks : List Key, DnL F (ks.map kV) (ks.map kD)
  | [] => .nil
  | k :: r => .cons (Dn.of_key k) (DnL.of_keys r)
theorem mergeK_nd : ∀ (more kvs : List (Key × V)), ((kvs ++ more).map (·.1)).Nodup → mergeK kvs more = kvs ++ more
  | [], kvs, _ => by rw [List.append_nil]; rfl
  | q :: more, kvs, h => by
    have hn : (kvs.any fun kv => decide (kv.1 = q.1)) = false := by
      rw [List.any_eq_false]
      intro z hz e
      have e : z.1 = q.1 := of_decide_eq_true e
      rw [List.map_append, List.nodup_append] at h
      exact h.2.2 z.1 (List.mem_map_of_mem hz) q.1 (by simp) e
    have hp : putK kvs q.1 q.2 = kvs ++ [q] := by
      unfold putK
      rw [if_neg (by rw [hn]; exact Bool.false_ne_true)]
    show mergeK (putK kvs q.1 q.2) more = kvs ++ q :: more
    rw [hp, mergeK_nd more (kvs ++ [q]) (by rw [List.append_assoc]; exact h), List.append_assoc]
    rfl
theorem pairs_of {F H : Hp} {K : PySem.W.Frag} (e : Ex F H) : ∀ {xs : List V} (kd : List (Key × D)), DnL F xs (kd.map fun q => .tup [kD q.1, q.2]) → ∃ (ps : List Addr) (kvs : List (Key × V)), xs = ps.map V.ref ∧ PySem.Paired (fun p kv => SqT K H p [kV kv.1, kv.2]) ps kvs ∧ (∀ ws, IvE F ws kvs (kd.map fun q => (q.1, .d q.2))) ∧ kvs.map (·.1) = kd.map (·.1)
  | _, [], .nil => ⟨[], [], rfl, .nil, fun _ => .nil, rfl⟩
  | _, q :: r, .cons h l => by
    obtain ⟨ps, kvs, h1, h2, h3, h4⟩ := pairs_of e (K := K) r l
    cases h with
    | @tup a zs _ ha hl =>
      cases hl with
      | cons hx hr =>
        cases hr with
        | cons hy hr =>
          cases hr
          have := hx.key
          subst this
          exact ⟨a :: ps, (q.1, _) :: kvs, by rw [h1]; rfl, .cons (sq_t e ha) h2, fun ws => .cons (.d hy) (h3 ws), by rw [List.map_cons, List.map_cons, h4]⟩
section
variable {X : Cx} {sl sl' : List Sl} {ms : List Ob} {R : D → Prop} {Ro : Di → List Ob → Prop} {B : Bool → Prop} {pos p p2 p3 : Pos} {a b c e oe key val : Expr} {es rest : List Expr} {x y : Str} {d : D} {O : Out} {t : TE}
/-- list(d) -/
theorem jl_listX {R : List D → Prop} (hc : X.calm = true) (hm : X.mg "list" = none) (h : Eo sl ms (wE X e) fun i m => m = ms ∧ ∃ k es, i = .o k ∧ ms[k]? = some (.x es) ∧ R (es.map fun q => kD q.1)) (hg : Gl X "list" := by rfl) (he : starEach [e] X.env = (false, eval e X.env) :: starEach [] X.env := by rfl) :
    El sl ms (wE X (.Call (.Name "list" p) [e] [] pos)) R := El.of (pe_callTy (call_listD hc) hg hm boot_list (pa_cons pe_w pa_nil he) (he := he)) fun ho F0 H0 F ps ex σ H a Q q => h ho F0 H0 F ps ex σ H a _ fun v i F1 qs m H1 ⟨em, k, es, ei, hk, r⟩ a1 => by
  subst em ei
  obtain rfl := qs_nil a a1
  rw [List.append_nil] at a1
  obtain ⟨pa, o, rfl, hp, h4, ks, rfl, h5⟩ := a1.mo a1.topI hk
  refine ⟨pa, ks, rfl, .inl h4, fun l hl => q l _ F1 _ r (a1.pop.own hl ?_)⟩
  have e1 : (ks.map fun kv => kV kv.1) = (es.map (·.1)).map kV := by rw [← h5.keys, List.map_map]; rfl
  have e2 : (es.map fun q => kD q.1) = (es.map (·.1)).map kD := by rw [List.map_map]; rfl
  rw [e1, e2]
  exact DnL.of_keys _
/-- sorted(d), the keys whole numbers -/
theorem j_sortedXI (hc : X.calm = true) (hm : X.mg "sorted" = none) (h : Eo sl ms (wE X e) fun i m => m = ms ∧ ∃ (k : Nat) (es : List (Key × Di)) (ns : List Int), i = .o k ∧ ms[k]? = some (.x es) ∧ es.map (·.1) = ns.map Sum.inl ∧ ns.length < 64 ∧ ∀ ns' : List Int, ns'.Perm ns → ns'.Pairwise (· ≤ ·) → R (.lst (ns'.map D.int)))
    (hg : Gl X "sorted" := by rfl) (he : starEach [e] X.env = (false, eval e X.env) :: starEach [] X.env := by rfl) :
    Er sl ms (wE X (.Call (.Name "sorted" p) [e] [] pos)) R := Er.of (pe_callB (call_sortedDI hc) hg hm (by decide +kernel) (pa_cons pe_w pa_nil he) (he := he)) fun ho F0 H0 F ps ex σ H a Q q => h ho F0 H0 F ps ex σ H a _ fun v i F1 qs m H1 ⟨em, k, es, ns, ei, hk, hns, hlen, r⟩ a1 => by
  subst em ei
  obtain rfl := qs_nil a a1
  rw [List.append_nil] at a1
  obtain ⟨pa, o, rfl, hp, h4, ks, rfl, h5⟩ := a1.mo a1.topI hk
  exact ⟨pa, ks, ns, rfl, .inl h4, by rw [h5.keys]; exact hns, hlen, fun ys l h1 h2 hl => q _ _ _ _ (r ys h1 h2) ((a1.pop.laid hl).push (.lst upd_same (DnL.of_ints ys)))⟩
/-- sorted(d), the keys texts -/
theorem j_sortedXS (hc : X.calm = true) (hm : X.mg "sorted" = none) (h : Eo sl ms (wE X e) fun i m => m = ms ∧ ∃ (k : Nat) (es : List (Key × Di)) (ns : List Str), i = .o k ∧ ms[k]? = some (.x es) ∧ es.map (·.1) = ns.map Sum.inr ∧ ns.length < 64 ∧ ∀ ns' : List Str, ns'.Perm ns → sortedS ns' = true → R (.lst (ns'.map D.str)))
    (hg : Gl X "sorted" := by rfl) (he : starEach [e] X.env = (false, eval e X.env) :: starEach [] X.env := by rfl) :
    Er sl ms (wE X (.Call (.Name "sorted" p) [e] [] pos)) R := Er.of (pe_callB (call_sortedD hc) hg hm (by decide +kernel) (pa_cons pe_w pa_nil he) (he := he)) fun ho F0 H0 F ps ex σ H a Q q => h ho F0 H0 F ps ex σ H a _ fun v i F1 qs m H1 ⟨em, k, es, ns, ei, hk, hns, hlen, r⟩ a1 => by
  subst em ei
  obtain rfl := qs_nil a a1
  rw [List.append_nil] at a1
  obtain ⟨pa, o, rfl, hp, h4, ks, rfl, h5⟩ := a1.mo a1.topI hk
  have key : ∀ (F : Hp) (ys : List Str), DnL F (ys.map V.str) (ys.map D.str) := fun F ys => by
    induction ys with
    | nil => exact .nil
    | cons y r ih => exact .cons (.str y) ih
  exact ⟨pa, ks, ns, rfl, .inl h4, by rw [h5.keys]; exact hns, hlen, fun ys l h1 h2 hl => q _ _ _ _ (r ys h1 h2) ((a1.pop.laid hl).push (.lst upd_same (key _ ys)))⟩
/-- len(d) -/
theorem j_lenX (hm : X.mg "len" = none) (h : Eo sl ms (wE X e) fun i m => m = ms ∧ ∃ k es, i = .o k ∧ ms[k]? = some (.x es) ∧ R (.int es.length)) (hg : Gl X "len" := by rfl) (he : starEach [e] X.env = (false, eval e X.env) :: starEach [] X.env := by rfl) :
    Er sl ms (wE X (.Call (.Name "len" p) [e] [] pos)) R := Er.of (pe_callB call_lenD hg hm PySem.boot_len (pa_cons pe_w pa_nil he) (he := he)) fun ho F0 H0 F ps ex σ H a Q q => h ho F0 H0 F ps ex σ H a _ fun v i F1 qs m H1 ⟨em, k, es, ei, hk, r⟩ a1 => by
  subst em ei
  obtain rfl := qs_nil a a1
  rw [List.append_nil] at a1
  obtain ⟨pa, o, rfl, hp, h4, ks, rfl, h5⟩ := a1.mo a1.topI hk
  exact ⟨pa, ks, rfl, h4, by rw [h5.len]; exact q _ _ F1 H1 r (a1.pop.push (.int _))⟩
/-- dict(e), e a list of pairs -/
theorem jo_dictP (hc : X.calm = true) (hm : X.mg "dict" = none) (h : Er sl ms (wE X e) fun z => ∃ kd : List (Key × D), z = .lst (kd.map fun q => .tup [kD q.1, q.2]) ∧ (kd.map (·.1)).Nodup ∧ Ro (.o ms.length) (ms ++ [.x (kd.map fun q => (q.1, .d q.2))])) (hg : Gl X "dict" := by rfl) (he : starEach [e] X.env = (false, eval e X.env) :: starEach [] X.env := by rfl) :
    Eo sl ms (wE X (.Call (.Name "dict" p) [e] [] pos)) Ro := Eo.of (pe_callTy (call_dictP hc) hg hm boot_dict (pa_cons pe_w pa_nil he) (he := he)) fun ho F0 H0 F ps ex σ H a Q q => h ho F0 H0 F ps ex σ H a _ fun v zd F1 H1 ⟨kd, ez, hnd, r⟩ a1 => by
  subst ez
  obtain ⟨pa, xs, rfl, ha, hl⟩ : ∃ p xs, v = .ref p ∧ F1 p = some (.lst xs) ∧ DnL F1 xs (kd.map fun q => .tup [kD q.1, q.2]) := by cases a1.top with | lst ha hl => exact ⟨_, _, rfl, ha, hl⟩
  obtain ⟨as, kvs, rfl, h2, h3, h4⟩ := pairs_of a1.fh (K := X.K) kd hl
  refine ⟨pa, as, kvs, rfl, sq_l a1.fh ha, h2, fun l hl => ?_⟩
  rw [mergeK_nd kvs [] (by rw [List.nil_append, h4]; exact hnd), List.nil_append]
  exact q _ _ F1 [l] _ _ r ((a1.pop.ownO (ob := .x _) hl ⟨kvs, rfl, h3 _⟩).pushI (.o (by rw [← a.len, List.getElem?_append_right (Nat.le_refl _)]; simp)))
end
end E
set_option Elab.async false
set_option linter.all false
set_option maxRecDepth 100000
/-! What is one's own, further: in, pop, remove, max; tests that change it; tuples of it; lists of it walked. -/
namespace E
open PySem PySem.Spec PyProof.Rows L2
variable [KF]

/-! ### tests that change what is one's own -/
def Eto (sl : List Sl) (ms : List Ob) (t : TT) (B : Bool → List Ob → Prop) : Prop :=
  ∀ (ho : Option Addr) (F0 H0 F : Hp) (ps : List Addr) (ex : List (V × Di)) (σ : L2.St) (H : Hp), At ho F0 H0 F ps sl ms ex σ H →
    ∀ Q : Bool → Hp → Prop, (∀ b F' qs ms' H', B b ms' → At ho F0 H0 F' (ps ++ qs) sl ms' ex σ H' → Q b H') → t σ H Q
section
variable {X : Cx} [KonK X.K] {sl sl' : List Sl} {ms : List Ob} {R : D → Prop} {Ro : Di → List Ob → Prop} {B : Bool → Prop} {Bo : Bool → List Ob → Prop} {pos p p2 p3 : Pos} {a b c e oe key val : Expr} {es rest : List Expr} {x y : Str} {d : D} {O : Out} {t : TE}
theorem Eto.of {t : TT} (h : PT X e t) (q : Eto sl ms t Bo) : Eto sl ms (wT X e) Bo := fun ho F0 H0 F ps ex σ H a Q k pins s I => h.run pins s σ H Q I (q ho F0 H0 F ps ex σ H a Q k)
theorem Et.o {t : TT} (h : Et sl ms t fun b => Bo b ms) : Eto sl ms t Bo := fun ho F0 H0 F ps ex σ H a Q q => h ho F0 H0 F ps ex σ H a Q fun b F' H' r a' => q b F' [] ms H' r (by rw [List.append_nil]; exact a')
theorem jto_val (h : Eo sl ms (wE X e) fun i m => ∃ t, i = .d (.bl t) ∧ Bo t m) (he : ∀ whole, isTrue e X.env whole = (do let v ← whole; standAt e.pos; holding [v] (truthy v)) := by intro _; rfl) : Eto sl ms (wT X e) Bo := Eto.of (pt_val pe_w he) fun ho F0 H0 F ps ex σ H a Q q =>
  h ho F0 H0 F ps ex σ H a _ fun v i F1 qs m H1 ⟨t, e, r⟩ a1 => by
    subst e
    cases a1.top
    exact ⟨t, rfl, q t F1 qs m H1 r a1.pop⟩
theorem jto_not (h : Eto sl ms (wT X a) fun t m => Bo (!t) m) : Eto sl ms (wT X (.UnaryOp .Not a pos)) Bo := Eto.of (pt_not pt_w) fun ho F0 H0 F ps ex σ H a Q q => h ho F0 H0 F ps ex σ H a _ fun b F' qs m H' r a' => q (!b) F' qs m H' r a'
theorem js_ifO {t u : List Stmt} (h : Eto sl ms (wT X c) fun b m => (b = true → Sr sl m (wSs X t) O) ∧ (b = false → Sr sl m (wSs X u) O)) : Sr sl ms (wS X (.If c t u pos)) O := Sr.of (ps_if pt_w pss_w pss_w) fun ho F0 H0 F ps ex σ H a Z n r bk ct =>
  h ho F0 H0 F ps ex σ H a _ fun b F' qs m H' ⟨k1, k2⟩ a' => by
    cases b with
    | true => exact k1 rfl ho F0 H0 F' _ ex σ H' a' Z n r bk ct
    | false => exact k2 rfl ho F0 H0 F' _ ex σ H' a' Z n r bk ct
theorem js_whileO {body : List Stmt} (hp : PassesOwn (model X.prog X.w) X.A X.env X.xe) (Pv : Nat → List Sl → List Ob → Prop) (h0 : ∃ m, Pv m sl ms)
    (hs : ∀ m sl1 ms1, Pv m sl1 ms1 → Eto sl1 ms1 (wT X c) fun b ms2 => (b = true → Sr sl1 ms2 (wSs X body) { nx := fun s l => ∃ m', m' < m ∧ Pv m' s l, rt := O.rt, ro := O.ro, bk := O.nx, ct := fun s l => ∃ m', m' < m ∧ Pv m' s l }) ∧ (b = false → O.nx sl1 ms2)) :
    Sr sl ms (wS X (.While c body [] pos)) O := Sr.of (ps_while hp pt_w pss_w) fun ho F0 H0 F ps ex σ H a Z n r bk ct => by
  refine ⟨fun m σ H => ∃ sl1 ms1 F2 ps2, Pv m sl1 ms1 ∧ At ho F0 H0 F2 ps2 sl1 ms1 ex σ H, (let ⟨m, p⟩ := h0; ⟨m, _, _, _, _, p, a⟩), ?_⟩
  rintro m τ H2 ⟨sl1, ms1, F2, ps2, pv, a2⟩
  refine hs m sl1 ms1 pv ho F0 H0 F2 ps2 ex τ H2 a2 _ fun b F3 qs m3 H3 ⟨k1, k2⟩ a3 => ?_
  cases b with
  | false =>
    rw [if_neg Bool.false_ne_true]
    exact n _ _ _ _ _ _ (k2 rfl) a3
  | true =>
    rw [if_pos rfl]
    refine ⟨fun τ H => ∃ m', m' < m ∧ ∃ sl1 ms1 F2 ps2, Pv m' sl1 ms1 ∧ At ho F0 H0 F2 ps2 sl1 ms1 ex τ H, fun _ _ z => z, ?_⟩
    exact k1 rfl ho F0 H0 F3 _ ex τ H3 a3 _ (fun s l F' ps' τ' H' ⟨m', hm, p⟩ a' => ⟨m', hm, s, l, F', ps', p, a'⟩) r
      (fun s l F' ps' τ' H' p a' => n s l F' ps' τ' H' p a') (fun s l F' ps' τ' H' ⟨m', hm, p⟩ a' => ⟨m', hm, s, l, F', ps', p, a'⟩)
theorem js_pass (k : O.nx sl ms) : Sr sl ms (wS X (.Pass pos)) O := Sr.of ps_pass (sr_next k)

/-! ### in, max -/
/-- what is a list of whole numbers, met by any expression -/
def Nums (ms : List Ob) (i : Di) (ns : List Int) : Prop := (i = .d (.lst (ns.map D.int)) ∨ i = .d (.tup (ns.map D.int))) ∨ ∃ k, i = .o k ∧ ms[k]? = some (.l (ns.map D.int))
theorem At.nums {K : PySem.W.Frag} {ho : Option Addr} {F0 H0 F H : Hp} {ps : List Addr} {ex : List (V × Di)} {σ : L2.St} {v : V} {i : Di} {ns : List Int} (a : At ho F0 H0 F ps sl ms ex σ H) (hv : Iv F ps v i) (h : Nums ms i ns) : ∃ p, v = .ref p ∧ (SqL K H p (ns.map V.int) ∨ SqT K H p (ns.map V.int)) := by
  rcases h with (rfl | rfl) | ⟨k, rfl, hk⟩
  · cases hv with
    | d hv => cases hv with | lst ha hl => exact ⟨_, rfl, .inl (by rw [DnL.ints ns hl] at ha; exact sq_l a.fh ha)⟩
  · cases hv with
    | d hv => cases hv with | tup ha hl => exact ⟨_, rfl, .inr (by rw [DnL.ints ns hl] at ha; exact sq_t a.fh ha)⟩
  · obtain ⟨p, o, rfl, hp, h4, xs, rfl, h5⟩ := a.mo hv hk
    rw [DnL.ints ns h5] at h4
    exact ⟨p, rfl, .inl (.inl (.inl h4))⟩
theorem jt_inO (h : Er sl ms (wE X key) fun y => Eo sl ms (wE X oe) fun i m => m = ms ∧ ∃ ns j, Nums ms i ns ∧ y = .int j ∧ B (decide (j ∈ ns))) (hm : behindInMarks .In oe = false := by first | exact nobehind _ (by decide) (by decide) | rfl) :
    Et sl ms (wT X (.Compare key [.In] [oe] pos)) B := Et.of (pt_cmpR op_in_seq pe_w pe_w hm) fun ho F0 H0 F ps ex σ H a Q q => h ho F0 H0 F ps ex σ H a _ fun y d F1 H1 h1 a1 => h1 ho F0 H0 F1 _ _ σ H1 a1 _ fun v i F2 qs m H2 ⟨em, ns, j, hn, ey, r⟩ a2 => by
  subst em ey
  obtain rfl := qs_nil a a2
  rw [List.append_nil] at a2
  obtain ⟨p, rfl, hp⟩ := a2.nums a2.topI hn
  cases a2.pop.top
  exact ⟨p, _, rfl, hp, rfl, flat_ints ns, _, rfl, q _ F2 H2 (by rw [if_neg Bool.false_ne_true, inV_ints]; exact r) a2.pop.pop⟩
theorem jt_notInO (h : Er sl ms (wE X key) fun y => Eo sl ms (wE X oe) fun i m => m = ms ∧ ∃ ns j, Nums ms i ns ∧ y = .int j ∧ B (!decide (j ∈ ns))) (hm : behindInMarks .NotIn oe = false := by first | exact nobehind _ (by decide) (by decide) | rfl) :
    Et sl ms (wT X (.Compare key [.NotIn] [oe] pos)) B := Et.of (pt_cmpR op_notIn_seq pe_w pe_w hm) fun ho F0 H0 F ps ex σ H a Q q => h ho F0 H0 F ps ex σ H a _ fun y d F1 H1 h1 a1 => h1 ho F0 H0 F1 _ _ σ H1 a1 _ fun v i F2 qs m H2 ⟨em, ns, j, hn, ey, r⟩ a2 => by
  subst em ey
  obtain rfl := qs_nil a a2
  rw [List.append_nil] at a2
  obtain ⟨p, rfl, hp⟩ := a2.nums a2.topI hn
  cases a2.pop.top
  exact ⟨p, _, rfl, hp, rfl, flat_ints ns, _, rfl, q _ F2 H2 (by rw [if_pos rfl, inV_ints]; exact r) a2.pop.pop⟩
/-- max of a list of one's own, or of data -/
theorem j_maxO (hc : X.calm = true) (hm : X.mg "max" = none) (h : Eo sl ms (wE X e) fun i m => m = ms ∧ ∃ ns z, Nums ms i ns ∧ (∀ t, i ≠ .d (.tup t)) ∧ 0 < ns.length ∧ (∀ k, k ∈ ns → (∀ y, y ∈ ns → y ≤ k) → k = z) ∧ R (.int z)) (hg : Gl X "max" := by rfl) (he : starEach [e] X.env = (false, eval e X.env) :: starEach [] X.env := by rfl) :
    Er sl ms (wE X (.Call (.Name "max" p) [e] [] pos)) R := Er.of (pe_callB (cr_max hc) hg hm (by decide +kernel) (pa_cons pe_w pa_nil he) (he := he)) fun ho F0 H0 F ps ex σ H a Q q => h ho F0 H0 F ps ex σ H a _ fun v i F1 qs m H1 ⟨em, ns, z, hn, ht, h0, hz, r⟩ a1 => by
  subst em
  obtain rfl := qs_nil a a1
  rw [List.append_nil] at a1
  have key : ∃ p, v = .ref p ∧ SqL X.K H1 p (ns.map V.int) := by
    rcases hn with (rfl | rfl) | ⟨k, rfl, hk⟩
    · have hv := a1.top
      cases hv with | lst ha hl => exact ⟨_, rfl, by rw [DnL.ints ns hl] at ha; exact sq_l a1.fh ha⟩
    · exact absurd rfl (ht _)
    · obtain ⟨p, o, rfl, hp, h4, xs, rfl, h5⟩ := a1.mo a1.topI hk
      rw [DnL.ints ns h5] at h4
      exact ⟨p, rfl, .inl (.inl h4)⟩
  obtain ⟨p, rfl, hp⟩ := key
  exact ⟨p, ns, rfl, hp, h0, fun k k1 k2 => by rw [hz k k1 k2]; exact q _ _ F1 H1 r (a1.pop.push (.int _))⟩

/-! ### pop, remove -/
theorem DnL.dropLast {F : Hp} : ∀ {vs : List V} {ds : List D}, DnL F vs ds → DnL F vs.dropLast ds.dropLast
  | _, _, .nil => .nil
  | _, _, .cons _ .nil => .nil
  | _, _, .cons h (.cons h2 l) => .cons h (DnL.dropLast (.cons h2 l))
/-- oe.pop() -/
theorem jo_pop {ap cp : Pos} (h : Eo sl ms (wE X oe) fun i m => ∃ k ds d, i = .o k ∧ m[k]? = some (.l ds) ∧ ds.getLast? = some d ∧ Ro (.d d) (m.set k (.l ds.dropLast)))
    (hbase : attributeBase oe "pop" X.env (eval oe X.env) = eval oe X.env := by rfl) (hline : (ap.endLine == cp.line) = true := by rfl) :
    Eo sl ms (wE X (.Call (.Attribute oe "pop" ap) [] [] cp)) Ro := Eo.of (pe_bm0 PySem.F.plainAttrs_list PySem.F.slot_list_pop PySem.F.type_list_pop mt_pop pe_w hbase hline) fun ho F0 H0 F ps ex σ H a Q q => h ho F0 H0 F ps ex σ H a _ fun v i F1 qs m H1 ⟨k, ds, d, ei, hk, hd, r⟩ a1 => by
  subst ei
  obtain ⟨p, o, rfl, hp, h4, xs, rfl, h5⟩ := a1.mo a1.topI hk
  rw [List.getLast?_eq_getElem?] at hd
  obtain ⟨u, hu, hud⟩ := h5.get _ hd
  refine ⟨.inl ⟨rfl, _, .inl (.inl h4)⟩, p, xs, u, rfl, rfl, h4, by rw [h5.len]; exact hu, ?_⟩
  exact q u _ F1 qs _ _ r ((a1.pop.put hp h5.dropLast).push hud)
/-- oe.remove(e), whole numbers -/
theorem js_remO {ap cp : Pos} (h : Eo sl ms (wE X oe) fun i m => ∃ k ds0, i = .o k ∧ m[k]? = some (.l ds0) ∧ Er sl m (wE X e) fun y => ∃ (ns : List Int) (z : Int), m[k]? = some (.l (ns.map D.int)) ∧ y = .int z ∧ z ∈ ns ∧ O.nx sl (m.set k (.l ((ns.erase z).map D.int))))
    (hbase : attributeBase oe "remove" X.env (eval oe X.env) = eval oe X.env := by rfl)
    (hfew : ((backTo cp (starEach [e] X.env)).all (fun x => !x.1) && (backToKw cp (keywordEach [] X.env)).all (fun x => x.1.isSome) && decide (([e] : List Expr).length + ([] : List Keyword).length + (if ([] : List Keyword).isEmpty then 0 else 1) < 30)) = true := by rfl)
    (hline : (ap.endLine == cp.line) = true := by rfl) (hse : starEach [e] X.env = (false, eval e X.env) :: starEach [] X.env := by rfl) (hplain : (backTo cp (starEach [] X.env)).any (·.1) = false := by rfl)
    (hsw : swapsWith (.Call (.Attribute oe "remove" ap) [e] [] cp) none pos.line X.env = pure false := by rfl) :
    Sr sl ms (wS X (.Expr (.Call (.Attribute oe "remove" ap) [e] [] cp) pos)) O :=
  Sr.of (ps_expr (pe_bm PySem.F.plainAttrs_list PySem.F.slot_list_remove PySem.F.type_list_remove mt_remove pe_w (pa_cons pe_w pa_nil hse) hbase hfew hline hse hplain) hsw) fun ho F0 H0 F ps ex σ H a Z n r b c =>
  h ho F0 H0 F ps ex σ H a _ fun v i F1 qs m H1 ⟨k, ds0, e1, e2, h1⟩ a1 => by
  subst e1
  obtain ⟨p0, o0, rfl, hp0, h40, xs0, rfl, h50⟩ := a1.mo a1.topI e2
  refine ⟨.inl ⟨rfl, _, .inl (.inl h40)⟩, h1 ho F0 H0 F1 _ _ σ H1 a1 _ fun y d F2 H2 ⟨ns, z, e3, ey, hz, k1⟩ a2 => ?_⟩
  subst ey
  cases a2.top
  obtain ⟨p, o, ep, hp, h4, xs, rfl, h5⟩ := a2.mo a2.pop.topI e3
  cases ep
  rw [DnL.ints ns h5] at h4
  have fa : ∀ {l : List Int}, z ∈ l → ∃ j : Nat, l[j]? = some z ∧ (∀ m : Nat, m < j → l[m]? ≠ some z) ∧ l.eraseIdx j = l.erase z := fun {l} hz => by
    induction l with
    | nil => cases hz
    | cons u l ih =>
      by_cases e : u = z
      · subst e
        exact ⟨0, rfl, fun m hm => absurd hm (Nat.not_lt_zero m), by rw [List.erase_cons_head]; rfl⟩
      · obtain ⟨j, j1, j2, j3⟩ := ih ((List.mem_cons.mp hz).resolve_left fun y => e y.symm)
        refine ⟨j + 1, j1, fun m hm => ?_, by rw [List.erase_cons_tail (by simpa using e), ← j3]; rfl⟩
        match m with
        | 0 => intro y; exact e (Option.some.inj y)
        | m + 1 => exact j2 m (by omega)
  obtain ⟨j, j1, j2, j3⟩ := fa hz
  refine ⟨p0, ns, z, j, rfl, rfl, h4, j1, j2, ?_⟩
  rw [j3]
  exact n _ _ F2 _ σ _ k1 ((a2.put hp (DnL.of_ints _)).pop.pop)

/-! ### tuples of what is one's own -/
theorem jo_tup {x1} (h : Eas sl ms (wA X es) fun is m => is.length ≤ 1000 ∧ Ro (.t is) m) : Eo sl ms (wE X (.Tuple es x1 pos)) Ro := Eo.of (pe_tup pa_w) fun ho F0 H0 F ps ex σ H a Q q => h ho F0 H0 F ps ex σ H a _ fun vs is F1 qs m H1 ⟨hl, r⟩ a1 l =>
  ⟨by rw [l.len]; exact Nat.le_trans hl (by decide), fun p hp => by
    have a2 := a1.laid (o := .tup vs) hp
    exact q _ _ _ qs m _ r (a2.pushI (.t upd_same (l.mono (Ex.new (a1.fh.none hp)) fun _ _ z => z)))⟩
theorem js_tgO {tg : Expr} (h : Eo sl ms (wE X e) fun i m => ∃ tv sl', Egi sl (wG X tg) i tv sl' ∧ O.nx sl' m) (hs : swapsWithSole [tg] e pos.line X.env = pure false := by rfl) (hw : swappedStores [tg] e X.env = pure none := by rfl)
    (h1 : (assignEach [tg] X.env).map (·.2) = [assign tg X.env] := by rfl) : Sr sl ms (wS X (.Assign [tg] e pos)) O :=
  Sr.of (ps_asg pe_w pg_w hs hw h1) fun ho F0 H0 F ps ex σ H at0 Z nx rt bk ct => h ho F0 H0 F ps ex σ H at0 _ fun v i F1 qs m H1 ⟨tv, sl', eg, k⟩ a1 =>
    eg.run m ho F0 H0 F1 _ ex σ H1 v a1.pop a1.topI _ fun F2 σ2 H2 _ a2 _ => nx _ _ F2 _ σ2 H2 k a2
theorem jg_nameO (i : Nat) {k : Nat} (hN : X.N.Nodup) (hi : X.N[i]? = some x) (hx : Loc X.env.scope x := by first | exact Or.inl rfl | exact Or.inr rfl) (hf : X.fn x = true ∨ X.env.scope.names.lookup x = some .local := by first | exact .inl rfl | exact .inr rfl) : Egi sl (wG X (.Name x pos)) (.o k) [i] (sl.set i (.m k)) :=
  Egi.of (pg_name hN hi hx hf) eg_nameO
theorem jg_tupI {es : List Expr} {k : Nat} {is : List Di} {tv : List Nat} (hc : X.calm = true) (h : Egis sl (wGs X es) is tv sl') (hn : (assignEach es X.env).length = is.length := by rfl) (hst : (assignEach es X.env).findIdx? (·.1) = none := by rfl) : Egi sl (wG X (.Tuple es k pos)) (.t is) tv sl' :=
  Egi.of (pg_tup hc pgs_w hn hst) (eg_tupI rfl h)
theorem jgs_nilI : Egis sl (wGs X []) [] [] sl := Egis.of pgs_nil egs_nilI
theorem jgs_consI {es : List Expr} {i : Di} {is : List Di} {tv tw : List Nat} {sl1 : List Sl} (h : Egi sl (wG X e) i tv sl1) (h' : Egis sl1 (wGs X es) is tw sl') (hs : (assignEach (e :: es) X.env).map (·.2) = assign e X.env :: (assignEach es X.env).map (·.2) := by rfl) : Egis sl (wGs X (e :: es)) (i :: is) (tv ++ tw) sl' :=
  Egis.of (pgs_cons pg_w pgs_w hs) (egs_consI h h')
end
end E
set_option Elab.async false
set_option linter.all false
set_option maxRecDepth 100000
/-! Lists of one's own walked; comprehensions over them; new lists in a list; sorted(dict); list(range(a, b)). -/
namespace E
open PySem PySem.Spec PyProof.Rows L2
variable [KF]
section
variable {X : Cx} {sl sl' : List Sl} {ms : List Ob} {R : D → Prop} {Ro : Di → List Ob → Prop} {B : Bool → Prop} {pos p p2 p3 : Pos} {a b c e oe key val : Expr} {es rest : List Expr} {x y : Str} {d : D} {O : Out} {t : TE}
theorem ji_own {tg : Expr} {k : Nat} {ob : Ob} {is : List Di} {Kx : List Di → Prop} (hk : ms[k]? = some ob) (hi : itsOf ob = some is) (h : Eo sl ms (wE X e) fun i m => m = ms ∧ i = .o k) (hK : Kx is) : EiI sl ms (wI X tg e) (some (k, ob)) Kx :=
  EiI.of (pi_list pe_w) ⟨fun k' ob' z => by cases z; exact hk, fun ho F0 H0 F ps ex σ H a Rr q => h ho F0 H0 F ps ex σ H a _ fun v i F1 qs m H1 ⟨em, ei⟩ a1 => by
    subst em ei
    obtain rfl := qs_nil a a1
    rw [List.append_nil] at a1
    obtain ⟨p, o, rfl, hp, h4, h5⟩ := a1.mo a1.topI hk
    obtain ⟨xs, rfl, hl⟩ := h5.its hi
    refine ⟨p, rfl, ⟨xs, .inl (.inl h4)⟩, q _ F1 H1 [(.ref p, .o k)] _ hK a1 fun ps' F2 H2 e2 hpn hx => ?_⟩
    obtain ⟨p', o', hp', hH, how⟩ := hx k _ rfl
    obtain ⟨ys, rfl, hl⟩ := how.its hi
    cases hpn _ (List.mem_singleton.mpr rfl) with
    | o hpn =>
      rw [hp'] at hpn; cases hpn
      refine ⟨fun i d hd => ?_, ys, .inl (.inl hH), by rw [hl.len]; exact Nat.le_refl _⟩
      obtain ⟨x, hxx, hxd⟩ := hl.get i hd
      refine ⟨⟨ys, x, .inl (.inl hH), hxx⟩, fun y H3 hy => ?_⟩
      obtain ⟨ey, hy⟩ := hy
      subst ey
      have z := hy ys (.inl (.inl hH))
      rw [hxx] at z; cases z
      exact ⟨F2, Ext.refl e2, hxd⟩⟩
/-- enumerate(..) of a list of one's own -/
theorem ji_enumO {elts kk tpos} {k : Nat} {ob : Ob} {is : List Di} {Kx : List Di → Prop} (hm : X.mg "enumerate" = none) (hk : ms[k]? = some ob) (hi : itsOf ob = some is) (h : Eo sl ms (wE X e) fun i m => m = ms ∧ i = .o k) (hK : Kx (enumI 0 is)) (hg : Gl X "enumerate" := by rfl)
    (hs : starEach [e] X.env = [(false, eval e X.env)] := by rfl) (hs2 : starEach [e] X.env = (false, eval e X.env) :: starEach [] X.env := by rfl) : EiI sl ms (wI X (.Tuple elts kk tpos) (.Call (.Name "enumerate" p) [e] [] pos)) (some (k, ob)) Kx :=
  EiI.of (pi_enum hg hm (pa_cons pe_w pa_nil hs2) hs) ⟨fun k' ob' z => by cases z; exact hk, fun ho F0 H0 F ps ex σ H a Rr q => h ho F0 H0 F ps ex σ H a _ fun v i F1 qs m H1 ⟨em, ei⟩ a1 => by
    subst em ei
    obtain rfl := qs_nil a a1
    rw [List.append_nil] at a1
    obtain ⟨p, o, rfl, hp, h4, h5⟩ := a1.mo a1.topI hk
    obtain ⟨xs, rfl, hl⟩ := h5.its hi
    refine ⟨p, xs, rfl, .inl (.inl h4), q _ F1 H1 [(.ref p, .o k)] _ hK a1 fun ps' F2 H2 e2 hpn hx => ?_⟩
    obtain ⟨p', o', hp', hH, how⟩ := hx k _ rfl
    obtain ⟨ys, rfl, hl⟩ := how.its hi
    cases hpn _ (List.mem_singleton.mpr rfl) with
    | o hpn =>
      rw [hp'] at hpn; cases hpn
      refine ⟨fun i d hd => ?_, ys, .inl (.inl hH), by rw [hl.len, enumI_len]; exact Nat.le_refl _⟩
      obtain ⟨z, hz, rfl⟩ := enumI_get hd
      obtain ⟨x, hx, hxd⟩ := hl.get i hz
      refine ⟨⟨ys, x, .inl (.inl hH), hx⟩, fun y H3 hy => ?_⟩
      obtain ⟨T, x', rfl, hT, rfl, hy⟩ := hy
      have w := hy ys (.inl (.inl hH))
      rw [hx] at w; cases w
      have ef := Ex.new (o := HO.tup [.int (i : Nat), x]) (e2.none hT)
      exact ⟨_, Ext.new e2 hT, .t upd_same (.cons (by rw [Nat.zero_add]; exact .d (.int _)) (.cons (hxd.mono ef fun _ _ z => z) .nil))⟩⟩
/-- a comprehension over what may be one's own -/
theorem jl_lcI {elt tg iter : Expr} {ifs : List Expr} {scope : Scope} (own : List (Str × Nat)) {fx : Option (Nat × Ob)} {R : List D → Prop} (hc : X.calm = true) (hN : X.N.Nodup) (ok : BlkOk X.N X.env.scope scope own)
    (hv : ∀ j ∈ own.map (·.2), ∀ s, sl[j]? = some s → s = .u)
    (h : EiI sl ms (wI X tg iter) fx fun items => items.length < 100000 ∧ ∃ (p : Di → Bool) (f : Di → D),
      (∀ d acc, d ∈ items → ∃ tv sl2, Blk X scope (fun Y => Egi sl (wG Y tg) d tv sl2) ∧ (∀ j ∈ tv, j ∈ own.map (·.2)) ∧
        Blk X scope fun Y => Et sl2 (ms ++ [.l acc]) (wTs Y ifs) fun b => b = p d ∧ (b = true → Blk X scope fun Z => Er sl2 (ms ++ [.l acc]) (wE Z elt) fun y => y = f d)) ∧
      R ((items.filter p).map f))
    (hs : ∀ x, foldedSetIterable iter X.env x = pure x := by intro _; rfl) : El sl ms (wE X (.ListComp elt [⟨tg, iter, ifs, 0⟩] scope pos)) R := by
  have main : El sl ms (tLc (wI X tg iter) (fun v σ H Q => ∀ (s : Shared) (H' : Hp) (C : Addr) (cl : List (Str × Addr)) (fp : List Addr), wG (X.blk s H' scope (compEnvC scope cl C X.env) fp) tg v σ H Q)
      (fun σ H Q => ∀ (s : Shared) (H' : Hp) (C : Addr) (cl : List (Str × Addr)) (fp : List Addr), wTs (X.blk s H' scope (compEnvC scope cl C X.env) fp) ifs σ H Q)
      (fun σ H Q => ∀ (s : Shared) (H' : Hp) (C : Addr) (cl : List (Str × Addr)) (fp : List Addr), wE (X.blk s H' scope (compEnvC scope cl C X.env) fp) elt σ H Q) (own.map (·.2))) R := by
    refine el_lcI hv (EiI.mono h fun items ⟨hl, pp, f, step, fin⟩ => ⟨hl, fun i acc => acc = ((items.take i).filter pp).map f, by simp, fun i d acc hd pv => ?_, fun acc e => by rw [e, List.take_length]; exact fin⟩)
    obtain ⟨tv, sl2, g1, g2, g3⟩ := step d acc (List.mem_of_getElem? hd)
    have hn : (items.take (i + 1)).filter pp = (items.take i).filter pp ++ [d].filter pp := by rw [List.take_add_one, hd, List.filter_append]; rfl
    have g0 := g1 X.s_0 X.H_0 0 [] []
    refine ⟨tv, sl2, ⟨g0.len, g0.st, fun ms ho F0 H0 F ps ex σ H v a dv Q k s H' C cl fp => (g1 s H' C cl fp).run ms ho F0 H0 F ps ex σ H v a dv Q k⟩, g2, ?_⟩
    intro ho F0 H0 F ps ex σ H a Q k s H' C cl fp
    refine g3 s H' C cl fp ho F0 H0 F ps ex σ H a Q fun b F' H'' ⟨eb, k1⟩ a' => k b F' H'' ⟨fun e => ?_, fun e => ?_⟩ a'
    · intro ho F0 H0 F ps ex σ H a Q k s H' C cl fp
      refine k1 e s H' C cl fp ho F0 H0 F ps ex σ H a Q fun v y F3 H3 ey a3 => k v y F3 H3 ?_ a3
      show acc ++ [y] = List.map f (List.filter pp (List.take (i + 1) items))
      have pv : acc = List.map f (List.filter pp (List.take i items)) := pv
      rw [hn, pv, ey, List.map_append, show [d].filter pp = [d] by rw [List.filter_cons, if_pos (by rw [← eb]; exact e)]; rfl]; rfl
    · show acc = List.map f (List.filter pp (List.take (i + 1) items))
      have pv : acc = List.map f (List.filter pp (List.take i items)) := pv
      rw [hn, pv, show [d].filter pp = [] by rw [List.filter_cons, if_neg (by rw [← eb, e]; exact Bool.false_ne_true)]; rfl, List.append_nil]
  exact El.of (pe_lc hc hN pi_w ok (fun s H' C cl fp => ⟨fun pins s1 σ H v u Q I r h => h s H' C cl fp pins s1 u I r⟩) (fun s H' C cl fp => ⟨fun pins s1 σ H Q I h => h s H' C cl fp pins s1 I⟩) (fun s H' C cl fp => ⟨fun pins s1 σ H Q I h => h s H' C cl fp pins s1 I⟩) hs) main
/-- what holds is shown of the items of data -/
theorem EiI.data {wi : TI} {fx : Option (Nat × Ob)} {Kx : List Di → Prop} (h : Ei sl ms wi fx fun ds => Kx (ds.map .d)) : EiI sl ms wi fx Kx := EiI.mono h fun is ⟨ds, e, k⟩ => by rw [e]; exact k

/-! ### new lists in a new list -/
/-- [[] for .. in ..]: so many -/
theorem jo_nils {tg iter : Expr} {scope : Scope} {p4 : Pos} (own : List (Str × Nat)) (hc : X.calm = true) (hN : X.N.Nodup) (ok : BlkOk X.N X.env.scope scope own)
    (hv : ∀ j ∈ own.map (·.2), ∀ s, sl[j]? = some s → s = .u)
    (h : Ei sl ms (wI X tg iter) none fun items => items.length < 100000 ∧ (∀ d, d ∈ items → ∃ tv sl2, Blk X scope (fun Y => Eg sl (wG Y tg) d tv sl2) ∧ (∀ j ∈ tv, j ∈ own.map (·.2))) ∧
      Ro (.o ms.length) (ms ++ [.g ((List.range items.length).map fun i => .o (ms.length + 1 + i))] ++ List.replicate items.length (.l [])))
    (hs : ∀ x, foldedSetIterable iter X.env x = pure x := by intro _; rfl) : Eo sl ms (wE X (.ListComp (.List [] p4) [⟨tg, iter, [], 0⟩] scope pos)) Ro := by
  refine Eo.of (pe_lc (g := fun v σ H Q => ∀ (s : Shared) (H' : Hp) (C : Addr) (cl : List (Str × Addr)) (fp : List Addr), wG (X.blk s H' scope (compEnvC scope cl C X.env) fp) tg v σ H Q) hc hN pi_w ok (fun s H' C cl fp => ⟨fun pins s1 σ H v u Q I r h => h s H' C cl fp pins s1 u I r⟩) (fun s H' C cl fp => pts_nil) (fun s H' C cl fp => pe_lst pa_nil) hs) ?_
  intro ho F0 H0 F ps ex σ H a Q q
  refine h.2 ho F0 H0 F ps ex σ H a _ fun J F1 H1 pins is ⟨items, ei, hn, step, fin⟩ a1 wk => ?_
  subst ei
  intro Dd hD
  have aw : ∀ {F ps ms ex σ H}, At ho F0 H0 F ps sl ms ex σ H → At ho F0 H0 F ps sl ms ex (wipe σ (own.map (·.2))) H := fun {F ps ms ex σ H} a => a.other (vs := own.map (·.2)) (wipe_length _ _) hv fun j hj => wipe_out hj
  let M : Nat → List Ob := fun i => ms ++ [.g ((List.range i).map fun i => .o (ms.length + 1 + i))] ++ List.replicate i (.l [])
  have b1 : At ho F0 H0 F1 (ps ++ [Dd]) sl (M 0) (pins ++ ex) (wipe σ (own.map (·.2))) (upd H1 Dd (.lst [])) := by
    have := aw (a1.ownO (p := Dd) (o := .lst []) (ob := .g []) hD ⟨[], rfl, .nil⟩)
    simpa [M] using this
  have hm : ∀ {k : Nat}, (items.map Di.d).length = items.length := fun {k} => List.length_map ..
  refine ⟨fun i m H => m = items.length - i ∧ i ≤ items.length ∧ ∃ F2 qs, At ho F0 H0 F2 (ps ++ [Dd] ++ qs) sl (M i) (pins ++ ex) (wipe σ (own.map (·.2))) H, ⟨_, rfl, Nat.zero_le _, F1, [], by rw [List.append_nil]; exact b1⟩, ?_⟩
  rintro i m H2 ⟨rfl, hi, F2, qs, a2⟩
  obtain ⟨w1, w2⟩ := wk _ F2 H2 a2.fh (fun x hx => a2.pen x (List.mem_append_left _ hx)) (fun k ds e => by cases e)
  by_cases hlt : i < items.length
  · obtain ⟨g1, g2⟩ := w1 i _ (by rw [List.getElem?_map, List.getElem?_eq_getElem hlt]; rfl)
    refine .inr ⟨g1, fun H => ∃ F2 qs, At ho F0 H0 F2 (ps ++ [Dd] ++ qs) sl (M (i + 1)) (pins ++ ex) (wipe σ (own.map (·.2))) H, fun H' p' => ⟨items.length - (i + 1), by omega, rfl, hlt, p'⟩, fun x H3 y => ?_⟩
    obtain ⟨F3, e3, d3⟩ := g2 x H3 y
    obtain ⟨tv, sl2, eg, htv⟩ := step _ (List.getElem_mem hlt)
    have g0 := eg X.s_0 X.H_0 0 [] []
    intro s H' C cl fp
    refine (eg s H' C cl fp).run (M i) ho F0 H0 F3 _ (pins ++ ex) (wipe σ (own.map (·.2))) H3 x (a2.step0 e3) d3 _ fun F4 σ4 H4 e4 a4 k4 => ?_
    have hl4 : σ4.length = (wipe σ (own.map (·.2))).length := by rw [a4.sln, g0.len, a2.sln]
    have back : ∀ {F ps ms ex H}, At ho F0 H0 F ps sl2 ms ex σ4 H → At ho F0 H0 F ps sl ms ex (wipe σ (own.map (·.2))) H := fun {F ps ms ex H} a' =>
      At.other (vs := own.map (·.2)) (a'.less (sl' := sl) ⟨g0.len.symm, fun j s e => by
        by_cases hj : j ∈ own.map (·.2)
        · exact .inl (hv j hj s e)
        · exact .inr (by rw [g0.st j fun z => hj (htv j z)]; exact e)⟩) hl4.symm hv fun j hj => (k4 j fun z => hj (htv j z)).symm
    refine ⟨wipe_same (by rw [hl4, wipe_length]) fun j hj => k4 j fun z => hj (htv j z), ?_⟩
    unfold tYes
    dsimp only
    rw [if_pos rfl]
    refine ⟨by decide, fun z hz => ?_⟩
    have a5 := (back a4).ownO (p := z) (o := .lst []) (ob := .l []) hz ⟨[], rfl, .nil⟩
    have hpk : (ps ++ [Dd] ++ qs ++ [z])[ps.length]? = some Dd := by rw [List.append_assoc, List.append_assoc, List.getElem?_append_right (Nat.le_refl _)]; simp
    have hmk : (M i ++ [.l []])[ps.length]? = some (.g ((List.range i).map fun i => .o (ms.length + 1 + i))) := by
      show (ms ++ [Ob.g _] ++ List.replicate i (Ob.l []) ++ [Ob.l []])[ps.length]? = _
      rw [a.len, List.append_assoc, List.append_assoc, List.getElem?_append_right (Nat.le_refl _)]; simp
    obtain ⟨_, _, _, o, m1, xs, rfl, m2⟩ := a5.mu _ _ _ hpk hmk
    have hql : qs.length = i := by
      have := a2.len
      simp [M] at this
      have := a.len
      omega
    have hz2 : (ps ++ [Dd] ++ qs ++ [z])[ms.length + 1 + i]? = some z := by
      rw [← a.len, List.append_assoc, List.append_assoc, List.getElem?_append_right (by omega), show ps.length + 1 + i - ps.length = i + 1 by omega, List.singleton_append, List.getElem?_cons_succ, List.getElem?_append_right (by omega), hql, Nat.sub_self]
      rfl
    refine ⟨xs, m1, by rw [m2.len, List.length_map, List.length_range]; exact Nat.lt_trans (Nat.lt_trans hlt hn) (by decide), F4, qs ++ [z], ?_⟩
    have a6 := a5.putO (k := ps.length) (p := Dd) (o := .lst (xs ++ [.ref z])) (ob := .g (((List.range i).map fun i => .o (ms.length + 1 + i)) ++ [.o (ms.length + 1 + i)])) hpk ⟨_, rfl, m2.app (.cons (.o hz2) .nil)⟩
    have eM : (M i ++ [Ob.l []]).set ps.length (.g (((List.range i).map fun i => .o (ms.length + 1 + i)) ++ [.o (ms.length + 1 + i)])) = M (i + 1) := by
      show (ms ++ [Ob.g _] ++ List.replicate i (Ob.l []) ++ [Ob.l []]).set ps.length _ = ms ++ [Ob.g _] ++ List.replicate (i + 1) (Ob.l [])
      rw [a.len, List.append_assoc, List.append_assoc, List.set_append_right _ _ (Nat.le_refl _), Nat.sub_self, List.singleton_append, List.set_cons_zero, List.range_succ, List.map_append, List.replicate_succ', List.append_assoc]
      rfl
    rw [eM] at a6
    rw [← List.append_assoc]
    exact a6
  · have e : i = items.length := by omega
    subst e
    refine .inl ⟨by rw [← hm (k := 0)]; exact w2, ?_⟩
    have hpk : (ps ++ ([Dd] ++ qs))[ms.length]? = some Dd := by rw [← a.len, List.getElem?_append_right (Nat.le_refl _)]; simp
    have a3 := At.other (vs := own.map (·.2)) (a2.drop fun _ hx => List.mem_append_right _ hx) (wipe_length _ _).symm hv fun j hj => (wipe_out hj).symm
    rw [List.append_assoc] at a3
    exact q (.ref Dd) (.o ms.length) F2 ([Dd] ++ qs) _ H2 fin (a3.pushI (.o hpk))
end
end E
set_option Elab.async false
set_option linter.all false
set_option maxRecDepth 100000
/-! sorted of a dict's whole numbers, any number of them; list(range(a, b)); not in, == of data; texts of the module. -/
namespace E
open PySem PySem.Spec PyProof.Rows L2
variable [KF]
section
variable {X : Cx} [KonK X.K]
/-- sorted(d), the keys whole numbers, a thousand at most -/
def rSrtD : List V → Hp → VK → Prop := fun xs H Q => ∃ (dAt : Addr) (pairs : List (Key × V)) (nums : List Int), xs = [V.ref dAt] ∧ Rd H dAt (.dK pairs) ∧ pairs.map Prod.fst = nums.map Sum.inl ∧ nums.length ≤ 1000 ∧
  ∀ (outI : List Int) (lAt : Addr), outI.Perm nums → outI.Pairwise (· ≤ ·) → H lAt = none → Q (.ref lAt) (upd H lAt (.lst (outI.map V.int)))
theorem call_srtD (calm : X.calm = true) : CallR X (.builtin "sorted") rSrtD := by
  rintro pins s0 sg HH xs0 us0 Qq inv rel0 ⟨dAt, pairs, nums, rfl, hrd, keysE, small, fin⟩
  obtain ⟨u0, rfl, rx0⟩ := vals1 rel0
  cases rx0
  obtain ⟨zz, low, vals, relD, dOk⟩ := dk_rd inv.hok hrd
  obtain ⟨epo, atD⟩ := dOk.dictAt
  have kE : vals.map Prod.fst = nums.map Sum.inl := relD.keys.symm.trans keysE
  have lenE : vals.length = nums.length := by simpa using congrArg List.length kE
  have fits : vals.length ≤ sizeLine := by rw [lenE, sizeLine_eq]; omega
  refine Calls.call_function_entry kind_sorted plain_sorted entry_sorted (args_sorted1 _) ?_
  unfold Builtin.«sorted»
  refine wpAny_bind (m := checkCount "sorted" 1 1 _) (wpAny_pure ?_)
  refine wpAny_bind (PySem.W.kdu_collect (A := X.A.in1) (PySem.W.kdl_dict (knd := mixKind X.prog X.w) (kvs := vals) (ep := epo) low) (inv.ok.hd calm) atD fits fun hp1 tk1 got keep1 gotE => ?_)
  have gl : got.toList.length = nums.length := by simpa [lenE] using gotE.1
  have gi : IntsAre got.toList nums := ints_each gl fun j v hv => by
    obtain ⟨ky, vv, q1, q2⟩ := gotE.2 j v (by simpa using hv)
    have q3 := congrArg (fun l : List Key => l[j]?) kE
    simp only [List.getElem?_map, q1, Option.map_some] at q3
    cases q4 : nums[j]? with
    | none => simp [q4] at q3
    | some y =>
      simp only [q4, Option.map_some, Option.some.injEq] at q3
      subst q3
      rcases keyIs_shape (show keyIs (Sum.inl y) v = true from q2) with ⟨i, t, w1, w2⟩ | ⟨z, t, w1, w2⟩
      · cases w1
        exact ⟨_, t, rfl, w2⟩
      · cases w1
  have inv1 : Inv X pins sg HH { s0 with heap := hp1, toks := tk1 } := inv.kept keep1
  have gsz : got.toList.length ≤ sizeLine := by rw [gl, sizeLine_eq]; omega
  refine wpAny_bind (wpAny_newList ?_ gsz)
  have newAt : (hp1.push (seqObj "list" got.toList.toArray 0)).get? hp1.objs.size = some (seqObj "list" got.toList.toArray 0) := Heap.get?_push_size _ rfl
  show wpAny _ _ _ _ _ { s0 with heap := hp1.push (seqObj "list" got.toList.toArray 0), toks := tk1 }
  refine wpAny_bind (wpAny_holding (wpAny_call_entry slot_list_sort ⟨_, newAt, rfl⟩ entry_list_sort
    (SrtO.list_sort_ord (s := { s0 with heap := hp1.push (seqObj "list" got.toList.toArray 0), toks := tk1 }) SrtO.swo_int newAt gsz (fun two => SrtO.ints_sortable gi two) fun out so st => ⟨_, rfl, ?_⟩) (args_list_sort _)))
  obtain ⟨o1, o2, o3⟩ := SrtO.ints_out gi so st
  obtain ⟨e1, he1⟩ := sortedHeap_at (vs := got.toList) (out := out.toArray) newAt
  have osz : ((out.map SrtO.iv).map V.int).length ≤ sizeLine := by rw [List.length_map, o2.length_eq, ← gl]; exact gsz
  refine wpAny_pure ⟨_, rfl, .ref hp1.objs.size, upd HH hp1.objs.size (.lst ((out.map SrtO.iv).map V.int)), inv1.laid (t' := tk1) (fun b u hb => ?_) (Nat.le_refl _) (show ObjOk X.prog X.w _ _ _ (.lst ((out.map SrtO.iv).map V.int)) from ⟨osz, out, e1, vals_of_ints o1, he1⟩), rfl, fin _ _ o2 o3 (inv1.hok.fresh (Nat.le_refl _))⟩
  have lt : b < hp1.objs.size := Heap.lt_size hb
  rw [sortedHeap_old (Nat.ne_of_lt lt) (by rw [size_push']; exact Nat.lt_succ_of_lt lt)]
  exact Heap.get?_push_of_some _ hb
end
section
variable {X : Cx} [KonK X.K] {sl sl' : List Sl} {ms : List Ob} {R : D → Prop} {Ro : Di → List Ob → Prop} {B : Bool → Prop} {pos p p2 p3 : Pos} {a b c e oe key val : Expr} {es rest : List Expr} {x y : Str} {d : D} {O : Out} {t : TE}
theorem j_sortedXA (hc : X.calm = true) (hm : X.mg "sorted" = none) (h : Eo sl ms (wE X e) fun i m => m = ms ∧ ∃ (k : Nat) (es : List (Key × Di)) (ns : List Int), i = .o k ∧ ms[k]? = some (.x es) ∧ es.map (·.1) = ns.map Sum.inl ∧ ns.length ≤ 1000 ∧ ∀ ns' : List Int, ns'.Perm ns → ns'.Pairwise (· ≤ ·) → R (.lst (ns'.map D.int)))
    (hg : Gl X "sorted" := by rfl) (he : starEach [e] X.env = (false, eval e X.env) :: starEach [] X.env := by rfl) :
    Er sl ms (wE X (.Call (.Name "sorted" p) [e] [] pos)) R := Er.of (pe_callB (call_srtD hc) hg hm (by decide +kernel) (pa_cons pe_w pa_nil he) (he := he)) fun ho F0 H0 F ps ex σ H a Q q => h ho F0 H0 F ps ex σ H a _ fun v i F1 qs m H1 ⟨em, k, es, ns, ei, hk, hns, hlen, r⟩ a1 => by
  subst em ei
  obtain rfl := qs_nil a a1
  rw [List.append_nil] at a1
  obtain ⟨pa, o, rfl, hp, h4, ks, rfl, h5⟩ := a1.mo a1.topI hk
  exact ⟨pa, ks, ns, rfl, .inl h4, by rw [h5.keys]; exact hns, hlen, fun ys l h1 h2 hl => q _ _ _ _ (r ys h1 h2) ((a1.pop.laid hl).push (.lst upd_same (DnL.of_ints ys)))⟩
/-- the whole numbers a .. b - 1 -/
def rgI (a b : Int) : List Int := (List.range (b - a).toNat).map fun i : Nat => a + ((i : Nat) : Int)
theorem rgI_V (a b : Int) : rgV a b = (rgI a b).map V.int := by unfold rgV rgI; rw [List.map_map]; rfl
theorem mem_rgI {a b x : Int} : x ∈ rgI a b ↔ a ≤ x ∧ x < b := by
  unfold rgI
  rw [List.mem_map]
  constructor
  · rintro ⟨i, hi, rfl⟩
    have := List.mem_range.mp hi
    omega
  · rintro ⟨h1, h2⟩
    exact ⟨(x - a).toNat, List.mem_range.mpr (by omega), by omega⟩
/-- list(range(a, b)) -/
theorem jl_listRg {p4 : Pos} {Rl : List D → Prop} (hc : X.calm = true) (hm : X.mg "list" = none) (hm2 : X.mg "range" = none) (h : Er sl ms (wE X a) fun u => Er sl ms (wE X b) fun v => ∃ i j, u = .int i ∧ v = .int j ∧ 0 ≤ i ∧ i ≤ 100000 ∧ 0 ≤ j ∧ j ≤ 100000 ∧ Rl ((rgI i j).map D.int)) (hg : Gl X "list" := by rfl) (hg2 : Gl X "range" := by rfl)
    (na : starEach [a, b] X.env = (false, eval a X.env) :: starEach [b] X.env := by rfl) (nb : starEach [b] X.env = (false, eval b X.env) :: starEach [] X.env := by rfl) (hp : (backTo p4 (starEach [b] X.env)).any (·.1) = false := by rfl)
    (nr : starEach [.Call (.Name "range" p2) [a, b] [] p4] X.env = (false, eval (.Call (.Name "range" p2) [a, b] [] p4) X.env) :: starEach [] X.env := by rfl) :
    El sl ms (wE X (.Call (.Name "list" p) [.Call (.Name "range" p2) [a, b] [] p4] [] pos)) Rl := El.of (pe_listRg hc hg hm (prg_2 hg2 hm2 pe_w pe_w na nb hp) nr) fun ho F0 H0 F ps ex σ H at0 Q q => h ho F0 H0 F ps ex σ H at0 _ fun u du F1 H1 h1 a1 => h1 ho F0 H0 F1 _ _ σ H1 a1 _ fun v dv F2 H2 ⟨i, j, e1, e2, i0, i1, j0, j1, r⟩ a2 => by
  subst e1 e2
  cases a2.top
  cases a2.pop.top
  refine ⟨i, j, rfl, rfl, RgOk.of_le i0 (by omega) (by omega) j0, fun z hz => ?_⟩
  have : DnL F2 (rgV i j) ((rgI i j).map D.int) := by rw [rgI_V]; exact DnL.of_ints _
  exact q z _ F2 _ r (a2.pop.pop.own hz this)
/-- what stands in the module: a text -/
theorem j_gstr {i : Str} (hm : ∃ u, X.mg x = some u ∧ RelV (.str i) u) (k : R (.str i)) (hg : Gl X x := by rfl) (hd : (x == ("__debug__" : Str)) = false := by decide) : Er sl ms (wE X (.Name x pos)) R :=
  let ⟨_, hm, hr⟩ := hm
  Er.of (pe_glob hg hm hr hd) fun ho F0 H0 F ps ex σ H a Q q => q _ _ F H k (a.push (.str i))
end
end E
set_option Elab.async false
set_option linter.all false
set_option maxRecDepth 100000
/-! range(a, b) walked, of any whole numbers from 0 on. -/
namespace E
open PySem PySem.Spec PyProof.Rows L2
variable [KF]
def iS : D → Bool
  | .str _ => true
  | _ => false
theorem kStr (x : D) : kitB (tyD x) "str" = some (iS x) := by cases x <;> (simp only [tyD, iS]; decide +kernel)
section
variable {X : Cx} [KonK X.K] {sl : List Sl} {ms : List Ob} {R : D → Prop} {a b e : Expr} {pos p p2 : Pos} {x : Str}
theorem rgI_len (i j : Int) : ((rgI i j).map D.int).length = (j - i).toNat := by
  unfold rgI
  rw [List.length_map, List.length_map, List.length_range]
theorem rgI_get {i j : Int} {k : Nat} {d : D} (h : ((rgI i j).map D.int)[k]? = some d) : k < (j - i).toNat ∧ d = .int (i + (k : Int)) := by
  have hk : k < (j - i).toNat := by
    have := (List.getElem?_eq_some_iff.mp h).1
    rwa [rgI_len] at this
  refine ⟨hk, ?_⟩
  unfold rgI at h
  rw [List.getElem?_map, List.getElem?_map, List.getElem?_range hk] at h
  cases h
  rfl
theorem ei_rangeI {ta tb : TE} {K : List D → Prop} (h : Er sl ms ta fun x => Er sl ms tb fun y => ∃ i j : Int, x = .int i ∧ y = .int j ∧ 0 ≤ i ∧ i < 2 ^ 62 ∧ 0 ≤ j ∧ j < 2 ^ 62 ∧ K ((rgI i j).map D.int)) : Ei sl ms (iRng2 (tCons ta (tCons tb tNil))) none K := ⟨nofx, fun ho F0 H0 F ps ex σ H a Rr q =>
  h ho F0 H0 F ps ex σ H a _ fun v d F1 H1 h' a1 => h' ho F0 H0 F1 ps _ σ H1 a1 _ fun v2 d2 F2 H2 ⟨i, j, e, e2, i0, i1, j0, j1, k⟩ a2 => by
    subst e e2
    cases a2.pop.top
    cases a2.top
    refine ⟨i, j, rfl, ⟨by omega, by omega, by omega, by omega⟩, q _ F2 H2 [] _ ⟨_, rfl, k⟩ a2.pop.pop fun ps' F3 H3 e3 _ _ => ⟨fun n d hd => ?_, ?_⟩⟩
    · obtain ⟨d, hw, rfl⟩ := walk_d hd
      obtain ⟨hi, rfl⟩ := rgI_get hw
      refine ⟨hi, fun x H4 hy => ?_⟩
      obtain ⟨rfl, rfl⟩ := hy
      exact ⟨F3, Ext.refl e3, .d (.int _)⟩
    · show (j - i).toNat ≤ (((rgI i j).map D.int).map Di.d).length
      rw [List.length_map, rgI_len]
      exact Nat.le_refl _⟩
theorem ji_rangeI {tg : Expr} {K : List D → Prop} (hm : X.mg "range" = none) (h : Er sl ms (wE X a) fun x => Er sl ms (wE X b) fun y => ∃ i j : Int, x = .int i ∧ y = .int j ∧ 0 ≤ i ∧ i < 2 ^ 62 ∧ 0 ≤ j ∧ j < 2 ^ 62 ∧ K ((rgI i j).map D.int)) (hg : Gl X "range" := by rfl)
    (hs : starEach [a, b] X.env = [(false, eval a X.env), (false, eval b X.env)] := by rfl) (hs2 : starEach [a, b] X.env = (false, eval a X.env) :: starEach [b] X.env := by rfl) (hs3 : starEach [b] X.env = (false, eval b X.env) :: starEach [] X.env := by rfl) (hs4 : starEach [b] X.env = [(false, eval b X.env)] := by rfl) :
    Ei sl ms (wI X tg (.Call (.Name "range" p) [a, b] [] pos)) none K := Ei.of (pi_range2 hg hm (pa_cons pe_w (pa_cons pe_w pa_nil hs3) hs2) hs hs4) (ei_rangeI h)
theorem j_isStr (hm : X.mg "isinstance" = none) (hn : X.mg "str" = none) (h : Er sl ms (wE X e) fun x => R (.bl (iS x))) (hg : Gl X "isinstance" := by rfl) (hg2 : Gl X "str" := by rfl)
    (he : starEach [e, .Name "str" p2] X.env = (false, eval e X.env) :: starEach [.Name "str" p2] X.env := by rfl) (he2 : starEach [.Name "str" p2] X.env = (false, eval (.Name "str" p2) X.env) :: starEach [] X.env := by rfl)
    (hpl : (backTo pos (starEach [.Name "str" p2] X.env)).any (·.1) = false := by rfl) : Er sl ms (wE X (.Call (.Name "isinstance" p) [e, .Name "str" p2] [] pos)) R :=
  j_isi hm hn (by decide +kernel) (h.mono fun x k => ⟨_, kStr x, k⟩) hg hg2 (by decide +kernel) (by decide +kernel) he he2 hpl
end
end E
set_option Elab.async false
set_option linter.all false
set_option maxRecDepth 100000
/-! True and False, compared with whole numbers. -/
namespace E
open PySem PySem.Spec PyProof.Rows L2
variable [KF]
theorem gt_b_i (p : Bool) (b : Int) (u : Tok) : Gives (Builtin.«int.__gt__» ⟨[.bool p, .int b u], []⟩) (.val (.bool (decide ((if p = true then (1 : Int) else 0) > b)))) := .of_eq (by cases p <;> rfl)
def rGtN : L2.R2 := fun x y H Q => ∃ i j, (x = .int i ∨ ∃ b, x = .bl b ∧ i = if b = true then 1 else 0) ∧ y = .int j ∧ Q (.bl (decide (j < i))) H
theorem op_gtN {X : Cx} [KonK X.K] : OpR X (compareOp .Gt) rGtN := by
  intro pins s σ H x y v u Q I rx ry h
  obtain ⟨i, j, hx | ⟨b, rfl, rfl⟩, rfl, q⟩ := h
  · subst hx
    exact op_gt pins s σ H _ _ v u Q I rx ry ⟨i, j, rfl, rfl, q⟩
  · cases rx
    obtain ⟨t', rfl⟩ := ry
    have hop : compareOp .Gt (.bool b) (.int j t') = richCompare .Gt (.bool b) (.int j t') := rfl
    rw [hop]
    refine PySem.SeqAt.rc_left_or rfl (typeIs_int s j t') (by decide) F.sub_int_bool F.slot_bool_gt (call_gives F.slot_bool_gt rfl F.entry_int_gt (F.args_int_gt_2 _ _) (gt_b_i b j t') ⟨nofun, ?_⟩) (.inl rfl)
    exact ⟨.bl _, H, I, rfl, q⟩
section
variable {X : Cx} [KonK X.K] {sl : List Sl} {ms : List Ob} {R : D → Prop} {a b e : Expr} {pos p p2 : Pos} {x : Str}
def numD : D → Option Int
  | .int i => some i
  | .bl b => some (if b = true then 1 else 0)
  | _ => none
theorem j_gtN (h : Er sl ms (wE X a) fun x => Er sl ms (wE X b) fun y => ∃ i j, numD x = some i ∧ y = .int j ∧ R (.bl (decide (j < i)))) (hm : behindInMarks .Gt b = false := by first | exact nobehind _ (by decide) (by decide) | rfl) : Er sl ms (wE X (.Compare a [.Gt] [b] pos)) R :=
  Er.of (pe_cmpR op_gtN pe_w pe_w hm) (er_op' (h.mono fun x h => h.mono fun _ ⟨i, j, e1, e2, k⟩ => by
    subst e2
    intro F H v w eh hv hw Q q
    cases hw
    refine ⟨i, j, ?_, rfl, q _ _ F H k (Ext.refl eh) (.bl _)⟩
    cases x <;> first | (cases hv; cases e1; exact .inl rfl) | (cases hv; cases e1; exact .inr ⟨_, rfl, rfl⟩) | cases e1))
/-- bool != bool, tested -/
theorem jt_neB {B : Bool → Prop} (h : Er sl ms (wE X a) fun x => Er sl ms (wE X b) fun y => ∃ i j : Bool, x = .bl i ∧ y = .bl j ∧ B (!decide (i = j))) (hm : behindInMarks .NotEq b = false := by first | exact nobehind _ (by decide) (by decide) | rfl) : Et sl ms (wT X (.Compare a [.NotEq] [b] pos)) B :=
  Et.of (pt_cmpR op_ne pe_w pe_w hm) (et_test (er_op' (h.mono fun x h => h.mono fun y ⟨i, j, e1, e2, k⟩ => fun F H v w eh hv hw Q q => by
    subst e1 e2
    cases hv; cases hw
    have e : decide (V.bl i = V.bl j) = decide (i = j) := by
      by_cases h : i = j
      · subst h; rw [decide_eq_true rfl, decide_eq_true rfl]
      · rw [decide_eq_false h, decide_eq_false fun z => h (V.bl.inj z)]
    exact ⟨rfl, by rw [e]; exact q _ _ F H ⟨_, rfl, k⟩ (Ext.refl eh) (.bl _)⟩)))
/-- tuple(range(a, b)) -/
theorem j_tupRg2 {p4 : Pos} (hc : X.calm = true) (hm : X.mg "tuple" = none) (hm2 : X.mg "range" = none) (h : Er sl ms (wE X a) fun u => Er sl ms (wE X b) fun v => ∃ i j, u = .int i ∧ v = .int j ∧ 0 ≤ i ∧ i ≤ 100000 ∧ 0 ≤ j ∧ j ≤ 100000 ∧ R (.tup ((rgI i j).map D.int))) (hg : Gl X "tuple" := by rfl) (hg2 : Gl X "range" := by rfl)
    (na : starEach [a, b] X.env = (false, eval a X.env) :: starEach [b] X.env := by rfl) (nb : starEach [b] X.env = (false, eval b X.env) :: starEach [] X.env := by rfl) (hp : (backTo p4 (starEach [b] X.env)).any (·.1) = false := by rfl)
    (nr : starEach [.Call (.Name "range" p2) [a, b] [] p4] X.env = (false, eval (.Call (.Name "range" p2) [a, b] [] p4) X.env) :: starEach [] X.env := by rfl) :
    Er sl ms (wE X (.Call (.Name "tuple" p) [.Call (.Name "range" p2) [a, b] [] p4] [] pos)) R := Er.of (pe_tupRg hc hg hm (prg_2 hg2 hm2 pe_w pe_w na nb hp) nr) fun ho F0 H0 F ps ex σ H at0 Q q => h ho F0 H0 F ps ex σ H at0 _ fun u du F1 H1 h1 a1 => h1 ho F0 H0 F1 _ _ σ H1 a1 _ fun v dv F2 H2 ⟨i, j, e1, e2, i0, i1, j0, j1, r⟩ a2 => by
  subst e1 e2
  cases a2.top
  cases a2.pop.top
  refine ⟨i, j, rfl, rfl, RgOk.of_le i0 (by omega) (by omega) j0, fun z hz => ?_⟩
  have : ∀ G : Hp, DnL G (rgV i j) ((rgI i j).map D.int) := fun G => by rw [rgI_V]; exact DnL.of_ints _
  exact q _ _ _ _ r ((a2.pop.pop.laid hz).push (.tup upd_same (this _)))
end
end E
set_option Elab.async false
set_option linter.all false
set_option maxRecDepth 100000
/-! Defs that may raise, put together of two halves; a call that raises, told back. -/
namespace E
open PySem PySem.Spec PyProof.Rows L2
variable [KF]
section
variable {P : Program} {w : World} {K : PySem.W.Frag} {mg : Str → Option Value} {base : Heap}
/-- where it raises by one walk, where it does not by another -/
theorem FnX.join {f : Addr} {fd : FuncData} {ps : List Str} {k j n : Nat} {Pre1 Pre2 Pre : List D → Prop} {Post1 Post2 Post : List D → D → Prop} {Bad : List D → Value → Prop} (G : FnG P w K mg base j f fd ps (spD n Pre1 Post1)) (hj : j ≤ k) (Z : FnX P w K mg base k f fd ps (spX n Pre2 Post2 Bad))
    (h1 : ∀ ds, Pre ds → (∀ c, ¬ Bad ds c) → Pre1 ds) (h2 : ∀ ds c, Pre ds → Bad ds c → Pre2 ds) (h3 : ∀ ds d, Post1 ds d → Post ds d) : FnX P w K mg base k f fd ps (spX n Pre Post Bad) := by
  refine ⟨fun vs H Q E h => ?_, fun A outer s H args us vs Q E hr e0 hb r h => ?_⟩
  · obtain ⟨F0, ds, e, l, hl, hp, q, qx⟩ := h
    by_cases hc : ∃ c, Bad ds c
    · obtain ⟨c, hc⟩ := hc
      exact Z.len vs H Q E ⟨F0, ds, e, l, hl, h2 ds c hp hc, fun u d F' H' _ nb => absurd hc (nb c), qx⟩
    · have nc : ∀ c, ¬ Bad ds c := fun c z => hc ⟨c, z⟩
      exact G.len vs H Q E ⟨F0, ds, e, l, hl, h1 ds hp nc, fun u d F' H' p x du => q u d F' H' (h3 ds d p) nc x du⟩
  · obtain ⟨F0, ds, e, l, hl, hp, q, qx⟩ := h
    by_cases hc : ∃ c, Bad ds c
    · obtain ⟨c, hc⟩ := hc
      exact Z.runs A outer s H args us vs Q E hr e0 hb r ⟨F0, ds, e, l, hl, h2 ds c hp hc, fun u d F' H' _ nb => absurd hc (nb c), qx⟩
    · have nc : ∀ c, ¬ Bad ds c := fun c z => hc ⟨c, z⟩
      refine codeAny_mono (G.run A outer s H args us vs Q E (hr.mono hj) e0 hb r ⟨F0, ds, e, l, hl, h1 ds hp nc, fun u d F' H' p x du => q u d F' H' (h3 ds d p) nc x du⟩) fun rr s' hq => ?_
      cases rr with
      | error e => exact False.elim hq
      | ok fl => cases fl <;> exact hq
/-- the raising half alone -/
theorem ok_Z {x : Str} {st : Stmt} {f : Addr} {fd : FuncData} {N ps : List Str} {k n m : Nat} {Pre : List D → Prop} {Bad : List D → Value → Prop} (F : Fun K x x st f fd) (S : FnScope N ps (defScope st)) (hn : ps.length = n) (hm : N.length = n + m)
    (hz : ∀ (cdv : Value) (A : Around) (outer : List Env) (s : Shared) (H : Hp) (E : XK) (ds : List D) (c : Value), RoomG k (A.deeper (envOfC x (defScope st) s.heap.objs.size f cdv)) → ds.length = n → Pre ds → Bad ds c →
      SrZ (Zw (fun c d _ H => E c d H) (fun _ _ => True) c) (ds.map .d ++ List.replicate m .u) [] (wSs (cxX P w K mg base N x st f cdv A outer s H E) (defBody st)) { nx := fun _ _ => False, rt := fun _ => False }) :
    FnX P w K mg base (k + 1) f fd ps (spX n (fun ds => Pre ds ∧ ∃ c, Bad ds c) (fun _ _ => False) Bad) :=
  ok_X F S hn hm (fun cdv A outer s H E ds hr hl hp nb => absurd hp.2.choose_spec (nb _)) fun cdv A outer s H E ds c hr hl hp hb => hz cdv A outer s H E ds c hr hl hp.1 hb
end
section
variable {X : Cx} {sl : List Sl} {ms : List Ob} {O : Out} {e : Expr} {es : List Expr} {p pos np : Pos} {x : Str} {W : WX} {Pl : List Sl → List Ob → Prop} {cls : Value}
/-- return f(..), where f raises -/
theorem zs_retX {k j m : Nat} {Pre : List D → Prop} {Post : List D → D → Prop} {Bad : List D → Value → Prop} (c : ClX X.prog X.w X.K X.mg X.base k x (spX m Pre Post Bad))
    (hr : RoomG j X.A) (hk : k ≤ j) (tk : Takes X W) (hp : Pl sl ms) (h : Ea sl ms (wA X (e :: es)) fun ds => ds.length = m ∧ Pre ds ∧ Bad ds cls ∧ ∀ c, Bad ds c → c = cls) (hg : Gl X x := by rfl)
    (hdb : (x == ("__debug__" : Str)) = false := by decide) (he : starEach (e :: es) X.env = (false, eval e X.env) :: starEach es X.env := by rfl) (hpl : (backTo np (starEach es X.env)).any (·.1) = false := by rfl) :
    SrZ (Zw W Pl cls) sl ms (wS X (.Return (some (.Call (.Name x p) (e :: es) [] np)) pos)) O := by
  obtain ⟨f, fd, ps, F, hm, hkp, hb⟩ := c.ex
  exact SrZ.of (ps_ret (pe_callX F (hr.mono hk) hg hm hkp hb (passAt tk) pa_w hdb he hpl)) fun ho F0 H0 ex z F ps σ H a D n r b c =>
    h ho F0 H0 F ps ex σ H a _ fun vs ds F1 H1 ⟨hn, hpr, hbd, hu⟩ a1 l => ⟨F1, ds, a1.fh, l, hn, hpr, fun u d F' H' _ nb => absurd hbd (nb cls), fun c' F' H' hc' x' => by
      rw [hu c' hc']
      exact z sl ms F' ps σ H' hp (a1.step0 x')⟩
end
end E
set_option Elab.async false
set_option linter.all false
set_option maxRecDepth 100000
/-! A call of a def that an expression comes to. -/
namespace E
open PySem PySem.Spec PyProof.Rows L2
variable [KF]
section
variable {X : Cx} {pos : Pos} {fe e : Expr} {es : List Expr} {tf : TE} {t : TA} {Ee : L2.St → XK}
/-- the callee's value is a def's, which is known; then its arguments -/
def tCallF (X : Cx) (Ee : L2.St → XK) (tf : TE) (t : TA) : TE := fun σ H Q => tf σ H fun y H1 => ∃ (f : Addr) (fd : FuncData) (ps : List Str) (k : Nat) (sp : Sp), y = .ref f ∧ FnX X.prog X.w X.K X.mg X.base k f fd ps sp ∧ RoomG k X.A ∧ PySem.W.keepIn X.K (.ref f) = true ∧ Binds X.K fd ps [] ∧ t σ H1 fun vs H2 => sp vs H2 Q (Ee σ)
theorem pe_callF (hf : PE X fe tf) (hx : ∀ σ, PassesAt (L2.CX X.prog X.w) X σ (Ee σ)) (ha : PA X (e :: es) t)
    (ht : eval (.Call fe (e :: es) [] pos) X.env = (do callWith pos (← eval fe X.env) [] (backTo pos (starEach (e :: es) X.env)) (backToKw pos (keywordEach [] X.env))) := by rfl)
    (he : starEach (e :: es) X.env = (false, eval e X.env) :: starEach es X.env := by rfl) (hpl : (backTo pos (starEach es X.env)).any (·.1) = false := by rfl) : PE X (.Call fe (e :: es) [] pos) (tCallF X Ee tf t) := by
  refine ⟨fun pins s σ H Q I h => ?_⟩
  rw [ht]
  refine wpAny_bind (thn (hf.run pins s σ H _ I h) fun u s1 ⟨y, H1, I1, ry, f, fd, ps, k, sp, ey, F, hr, hk, hb, q⟩ => ?_)
  subst ey
  obtain rfl : u = Value.ref f := ry
  refine PySem.W.callWith_K (h₀ := X.base) I1.ok.mod.kin hk (thn (ha.run pos pins s1 σ H1 _ I1 q) fun us s2 ⟨vs, H2, I2, r, q2⟩ => ⟨I2.kIn, ?_⟩) he hpl
  have hl : us.length = ps.length := by rw [← r.length]; exact F.len _ _ _ _ q2
  have hbt := hb s2 us I2.kIn (by rw [List.append_nil]; exact hl)
  rw [List.append_nil] at hbt
  refine wpAny_call (codeAny_mono (F.runs X.A X.stack s2 H2 ⟨us, []⟩ us vs Q (Ee σ) hr I2.env0 hbt r q2) fun r s' hq => ?_)
  cases r with
  | error e => exact hx σ pins H2 s2 e s' I2 hq
  | ok fl =>
    cases fl with
    | ret u => exact I2.after hq
    | next => exact False.elim hq
    | brk => exact False.elim hq
    | cont => exact False.elim hq
end
section
variable {ho : Option Addr} {F0 H0 F H F2 H2 : Hp} {ps ps2 : List Addr} {sl sl2 : List Sl} {ms ms2 : List Ob} {ex ex2 : List (V × Di)} {σ σ2 : L2.St}
/-- what is known from now on -/
theorem At.base (a : At ho F0 H0 F ps sl ms ex σ H) : At ho F H0 F ps sl ms ex σ H := { a with ext := ⟨Ex.refl F, a.ext.fh, a.ext.hh, fun _ h _ => h⟩ }
theorem At.back (a : At ho F0 H0 F ps sl ms ex σ H) (b : At ho F H0 F2 ps2 sl2 ms2 ex2 σ2 H2) : At ho F0 H0 F2 ps2 sl2 ms2 ex2 σ2 H2 := { b with ext := ⟨a.ext.ff.trans b.ext.ff, b.ext.fh, b.ext.hh, fun x h0 h1 => b.ext.dj x (a.ext.dj x h0 h1) h1⟩ }
end
/-- the addresses that written names are -/
inductive Gls (X : Cx) : List Expr → List Addr → Prop
  | nil : Gls X [] []
  | cons {x : Str} {p : Pos} {f : Addr} {es : List Expr} {fs : List Addr} (hm : X.mg x = some (.ref f)) (r : Gls X es fs) (hg : Gl X x := by rfl) (hd : (x == ("__debug__" : Str)) = false := by decide) (he : starEach (.Name x p :: es) X.env = (false, eval (.Name x p) X.env) :: starEach es X.env := by rfl) : Gls X (.Name x p :: es) (f :: fs)
def tGls (fs : List Addr) : TA := fun _ H Q => Q (fs.map V.ref) H
theorem Gls.pa {X : Cx} {es : List Expr} {fs : List Addr} (h : Gls X es fs) : PA X es (tGls fs) := by
  induction h with
  | nil => exact pa_nil
  | cons hm r hg hd he ih => exact pa_cons (pe_glob (v := V.ref _) hg hm rfl hd) ih he
theorem atI_ref {fs : List Addr} {n : Int} {f : Addr} (h : L2.atI fs n = some f) : L2.atI (fs.map V.ref) n = some (V.ref f) := by
  unfold L2.atI at h ⊢
  rw [List.length_map]
  cases q : ixN fs.length n with
  | none => rw [q] at h; cases h
  | some j => rw [q] at h; show (fs.map V.ref)[j]? = _; rw [List.getElem?_map, show fs[j]? = some f from h]; rfl
/-- an expression that comes to a def -/
def Ef (sl : List Sl) (ms : List Ob) (t : TE) (R : Addr → Prop) : Prop :=
  ∀ (ho : Option Addr) (F0 H0 F : Hp) (ps : List Addr) (ex : List (V × Di)) (σ : L2.St) (H : Hp), At ho F0 H0 F ps sl ms ex σ H →
    ∀ Q : VK, (∀ f F' H', R f → At ho F0 H0 F' ps sl ms ex σ H' → Q (.ref f) H') → t σ H Q
/-- a def as its callers reach it by its address -/
structure ClA (X : Cx) (f : Addr) (sp : Sp) : Prop where
  ex : ∃ (fd : FuncData) (ps : List Str) (k : Nat), FnX X.prog X.w X.K X.mg X.base k f fd ps sp ∧ RoomG k X.A ∧ PySem.W.keepIn X.K (.ref f) = true ∧ Binds X.K fd ps []
section
variable {X : Cx} {sl : List Sl} {ms : List Ob} {b fe e : Expr} {es : List Expr} {fs : List Addr} {R : Addr → Prop} {Rd : D → Prop} {pos p np : Pos} {O : Out} {W : WX} {Pl : List Sl → List Ob → Prop} {cls : Value}
theorem Ef.of {t : TE} (h : PE X e t) (q : Ef sl ms t R) : Ef sl ms (wE X e) R := fun ho F0 H0 F ps ex σ H a Q k pins s I => h.run pins s σ H Q I (q ho F0 H0 F ps ex σ H a Q k)
theorem jf_ix (g : Gls X es fs) (hl : fs.length ≤ 1000) (h : Er sl ms (wE X b) fun y => ∃ n f, y = .int n ∧ L2.atI fs n = some f ∧ R f) (hp : PlainIx b := by intro _ _; rfl) : Ef sl ms (wE X (.Subscript (.List es p) b pos)) R :=
  Ef.of (pe_ix ix_list (pe_lst g.pa) pe_w hp) fun ho F0 H0 F ps ex σ H a Q q => ⟨by rw [List.length_map]; exact Nat.le_trans hl (by decide), fun p0 hp0 => by
    have a1 := a.laid (o := .lst (fs.map V.ref)) hp0
    refine h ho _ H0 _ ps ex σ _ a1.base _ fun v d F2 H2 ⟨n, f, e1, e2, r⟩ a2 => ?_
    subst e1
    cases a2.top
    exact ⟨p0, _, n, _, rfl, rfl, .inl (.inl (a2.fh _ _ (a2.ext.ff _ _ upd_same))), atI_ref e2, q f F2 H2 r (a1.back a2.pop)⟩⟩
theorem j_callF (h : Ef sl ms (wE X fe) fun f => ∃ m Pre Post Bad, ClA X f (spX m Pre Post Bad) ∧ Ea sl ms (wA X (e :: es)) fun ds => ds.length = m ∧ Pre ds ∧ (∀ c, ¬ Bad ds c) ∧ ∀ d, Post ds d → Rd d)
    (ht : eval (.Call fe (e :: es) [] pos) X.env = (do callWith pos (← eval fe X.env) [] (backTo pos (starEach (e :: es) X.env)) (backToKw pos (keywordEach [] X.env))) := by rfl)
    (he : starEach (e :: es) X.env = (false, eval e X.env) :: starEach es X.env := by rfl) (hpl : (backTo pos (starEach es X.env)).any (·.1) = false := by rfl) : Er sl ms (wE X (.Call fe (e :: es) [] pos)) Rd :=
  Er.of (pe_callF (Ee := fun _ => E0) pe_w (fun σ pins H s e s' => passL pins σ H s e s') pa_w ht he hpl) fun ho F0 H0 F ps ex σ H a Q q =>
    h ho F0 H0 F ps ex σ H a _ fun f F1 H1 ⟨m, Pre, Post, Bad, c, h2⟩ a1 => by
      obtain ⟨fd, pn, k, Fx, hr, hk, hb⟩ := c.ex
      exact ⟨f, fd, pn, k, _, rfl, Fx, hr, hk, hb, er_callX h2 ho F0 H0 F1 ps ex σ H1 a1 Q q⟩
/-- return f(..), where f raises -/
theorem zs_retF (tk : Takes X W) (hp : Pl sl ms) (h : Ef sl ms (wE X fe) fun f => ∃ m Pre Post Bad, ClA X f (spX m Pre Post Bad) ∧ Ea sl ms (wA X (e :: es)) fun ds => ds.length = m ∧ Pre ds ∧ Bad ds cls ∧ ∀ c, Bad ds c → c = cls)
    (ht : eval (.Call fe (e :: es) [] np) X.env = (do callWith np (← eval fe X.env) [] (backTo np (starEach (e :: es) X.env)) (backToKw np (keywordEach [] X.env))) := by rfl)
    (he : starEach (e :: es) X.env = (false, eval e X.env) :: starEach es X.env := by rfl) (hpl : (backTo np (starEach es X.env)).any (·.1) = false := by rfl) :
    SrZ (Zw W Pl cls) sl ms (wS X (.Return (some (.Call fe (e :: es) [] np)) pos)) O :=
  SrZ.of (ps_ret (pe_callF pe_w (passAt tk) pa_w ht he hpl)) fun ho F0 H0 ex z F ps σ H a D n r b c =>
    h ho F0 H0 F ps ex σ H a _ fun f F1 H1 ⟨m, Pre, Post, Bad, cl, h2⟩ a1 => by
      obtain ⟨fd, pn, k, Fx, hr, hk, hb⟩ := cl.ex
      exact ⟨f, fd, pn, k, _, rfl, Fx, hr, hk, hb, h2 ho F0 H0 F1 ps ex σ H1 a1 _ fun vs ds F2 H2 ⟨hn, hpr, hbd, hu⟩ a2 l => ⟨F2, ds, a2.fh, l, hn, hpr, fun u d F' H' _ nb => absurd hbd (nb cls), fun c' F' H' hc' x' => by
        rw [hu c' hc']
        exact z sl ms F' ps σ H' hp (a2.step0 x')⟩⟩
end
end E
set_option Elab.async false
set_option linter.all false
set_option maxRecDepth 100000
/-! A list of one's own made data behind a block; expressions that raise; list.count, list.index of flags. -/
namespace E
open PySem PySem.Spec PyProof.Rows L2
variable [KF]
/-! ### a block -/
/-- as Sr, where nothing that waits is one's own -/
def SrB (sl : List Sl) (ms : List Ob) (t : TS) (O : Out) : Prop :=
  ∀ (ho : Option Addr) (F0 H0 F : Hp) (ps : List Addr) (ex : List (V × Di)) (σ : L2.St) (H : Hp), At ho F0 H0 F ps sl ms ex σ H → (∀ x ∈ ex, Bd 0 x.2) → ∀ Z : Ends,
    (∀ sl' ms' F' ps' σ' H', O.nx sl' ms' → At ho F0 H0 F' ps' sl' ms' ex σ' H' → Z.nx σ' H') →
    (∀ v F' H', RtOk O.rt O.ro ho F0 H0 ex v F' H' → Z.rt v H') →
    (∀ sl' ms' F' ps' σ' H', O.bk sl' ms' → At ho F0 H0 F' ps' sl' ms' ex σ' H' → Z.bk σ' H') →
    (∀ sl' ms' F' ps' σ' H', O.ct sl' ms' → At ho F0 H0 F' ps' sl' ms' ex σ' H' → Z.ct σ' H') → t Z σ H
section
variable {X : Cx} {sl : List Sl} {ms : List Ob} {t u : TS} {O : Out} {st : Stmt} {rest : List Stmt} {ds : List D}
theorem SrB.start (h : SrB sl [] t O) : Sr sl [] t O := fun ho F0 H0 F ps ex σ H a => h ho F0 H0 F ps ex σ H a fun x hx => by
  have hb := (a.pen x hx).bd
  rw [a.len] at hb
  exact hb
theorem SrB.thaw (h : Sr sl ms t O) : SrB sl ms t O := fun ho F0 H0 F ps ex σ H a _ => h ho F0 H0 F ps ex σ H a
theorem SrB.of (h : PSs X rest t) (q : SrB sl ms t O) : SrB sl ms (wSs X rest) O := fun ho F0 H0 F ps ex σ H a hx D n r b c pins s I => h.run pins s σ H D I (q ho F0 H0 F ps ex σ H a hx D n r b c)
theorem sb_cons (h : Sr sl ms (wS X st) { O with nx := fun s m => SrB s m (wSs X rest) O }) : SrB sl ms (wSs X (st :: rest)) O := SrB.of (pss_cons ps_w pss_w) fun ho F0 H0 F ps ex σ H a hx Z n r b c =>
  h ho F0 H0 F ps ex σ H a { Z with nx := wSs X rest Z } (fun sl' ms' F' ps' σ' H' k a' => k ho F0 H0 F' ps' ex σ' H' a' hx Z n r b c) r b c
def frz : Sl → Sl
  | .m _ => .u
  | s => s
theorem SrB.freeze (i : Nat) (hi : sl[i]? = some (.m 0)) (ho' : ∀ j k, sl[j]? = some (.m k) → j = i) (h : SrB (sl.set i (.d (.lst ds))) [] t O) : SrB sl [.l ds] t O := fun ho F0 H0 F ps ex σ H a hx => by
  obtain ⟨_, q0, p, rfl, hp⟩ := a.slo i _ hi
  have hl := a.len
  obtain rfl : ps = [p] := by
    cases ps with
    | nil => cases hp
    | cons p1 r => cases r with
      | nil => cases hp; rfl
      | cons _ _ => simp at hl
  obtain ⟨m1, m2, m3, xs, m4, m5⟩ := a.muL hp rfl
  have s1 : ∀ (j : Nat) (s : Sl), (sl.map frz)[j]? = some s → ∃ o, σ[j]? = some o ∧ SlOk F [] ho o s := fun j s hj => by
    rw [List.getElem?_map] at hj
    cases hs : sl[j]? with
    | none => rw [hs] at hj; cases hj
    | some s0 =>
      rw [hs] at hj
      cases hj
      obtain ⟨o, e, r⟩ := a.slo j s0 hs
      refine ⟨o, e, ?_⟩
      cases s0 with
      | u => trivial
      | d d => exact r
      | m k => trivial
      | h => exact r
  have a1 : At ho F0 H0 F [] (sl.map frz) [] ex σ H := ⟨a.ext, List.nodup_nil, rfl, fun k p ob h => (by cases h), (by rw [List.length_map]; exact a.sln), s1, fun x hx' => (a.pen x hx').cut (ps := []) (qs := [p]) (hx x hx'), a.hand⟩
  have a2 : At ho F0 H0 F ([] ++ [p]) (sl.map frz) ([] ++ [.l ds]) ex σ H := ⟨a.ext, a.nd, a.len, a.mu, a1.sln, fun j s hj => let ⟨o, e, r⟩ := s1 j s hj; ⟨o, e, r.mono (Ex.refl F) fun k p z => (by cases z)⟩, a.pen, a.hand⟩
  obtain ⟨F', a3⟩ := At.freeze a1 a2
  have s4 : ∀ (j : Nat) (s : Sl), (sl.set i (.d (.lst ds)))[j]? = some s → ∃ o, σ[j]? = some o ∧ SlOk F' [] ho o s := fun j s hj => by
    by_cases hji : j = i
    · subst hji
      have hlt := (List.getElem?_eq_some_iff.mp hi).1
      rw [List.getElem?_set_self hlt] at hj
      cases hj
      exact ⟨_, q0, _, rfl, a3.top⟩
    · rw [List.getElem?_set_ne (Ne.symm hji)] at hj
      have : (sl.map frz)[j]? = some s := by
        rw [List.getElem?_map, hj]
        cases s with
        | m k => exact absurd (ho' j k hj) hji
        | _ => rfl
      exact a3.slo j s this
  have a4 : At ho F0 H0 F' [] (sl.set i (.d (.lst ds))) [] ex σ H := ⟨a3.ext, a3.nd, a3.len, a3.mu, (by rw [List.length_set]; exact a.sln), s4, a3.pop.pen, a3.hand⟩
  exact h ho F0 H0 F' [] ex σ H a4 hx
end
/-! ### expressions that raise -/
def ErZ (Z : Option Addr → Hp → Hp → List (V × Di) → Prop) (sl : List Sl) (ms : List Ob) (t : TE) : Prop :=
  ∀ (ho : Option Addr) (F0 H0 : Hp) (ex : List (V × Di)), Z ho F0 H0 ex → ∀ (F : Hp) (ps : List Addr) (σ : L2.St) (H : Hp), At ho F0 H0 F ps sl ms ex σ H → ∀ Q : VK, t σ H Q
section
variable {X : Cx} {sl : List Sl} {ms : List Ob} {O : Out} {a b c e fe : Expr} {es : List Expr} {p pos np : Pos} {x : Str} {W : WX} {Pl : List Sl → List Ob → Prop} {cls : Value} {Z : Option Addr → Hp → Hp → List (V × Di) → Prop}
theorem ErZ.of {t : TE} (h : PE X e t) (q : ErZ Z sl ms t) : ErZ Z sl ms (wE X e) := fun ho F0 H0 ex z F ps σ H a Q pins s I => h.run pins s σ H Q I (q ho F0 H0 ex z F ps σ H a Q)
theorem ez_ret (h : ErZ Z sl ms (wE X e)) : SrZ Z sl ms (wS X (.Return (some e) pos)) O := SrZ.of (ps_ret pe_w) fun ho F0 H0 ex z F ps σ H a D n r b c => h ho F0 H0 ex z F ps σ H a D.rt
theorem ez_expr (h : ErZ Z sl ms (wE X e)) (hs : swapsWith e none pos.line X.env = pure false := by rfl) : SrZ Z sl ms (wS X (.Expr e pos)) O := SrZ.of (ps_expr pe_w hs) fun ho F0 H0 ex z F ps σ H a D n r b c => h ho F0 H0 ex z F ps σ H a fun _ H1 => D.nx σ H1
theorem ez_if (h : Et sl ms (wT X c) fun t => (t = true → ErZ Z sl ms (wE X a)) ∧ (t = false → ErZ Z sl ms (wE X b))) : ErZ Z sl ms (wE X (.IfExp c a b pos)) := ErZ.of (pe_ifExp pt_w pe_w pe_w) fun ho F0 H0 ex z F ps σ H at0 Q =>
  h ho F0 H0 F ps ex σ H at0 _ fun t F1 H1 ⟨k1, k2⟩ a1 => by
    cases t with
    | true => exact k1 rfl ho F0 H0 ex z F1 ps σ H1 a1 Q
    | false => exact k2 rfl ho F0 H0 ex z F1 ps σ H1 a1 Q
theorem ez_call {k j m : Nat} {Pre : List D → Prop} {Post : List D → D → Prop} {Bad : List D → Value → Prop} (cl : ClX X.prog X.w X.K X.mg X.base k x (spX m Pre Post Bad))
    (hr : RoomG j X.A) (hk : k ≤ j) (tk : Takes X W) (hp : Pl sl ms) (h : Ea sl ms (wA X (e :: es)) fun ds => ds.length = m ∧ Pre ds ∧ Bad ds cls ∧ ∀ c, Bad ds c → c = cls) (hg : Gl X x := by rfl)
    (hdb : (x == ("__debug__" : Str)) = false := by decide) (he : starEach (e :: es) X.env = (false, eval e X.env) :: starEach es X.env := by rfl) (hpl : (backTo np (starEach es X.env)).any (·.1) = false := by rfl) :
    ErZ (Zw W Pl cls) sl ms (wE X (.Call (.Name x p) (e :: es) [] np)) := by
  obtain ⟨f, fd, ps, F, hm, hkp, hb⟩ := cl.ex
  exact ErZ.of (pe_callX F (hr.mono hk) hg hm hkp hb (passAt tk) pa_w hdb he hpl) fun ho F0 H0 ex z F ps σ H a Q =>
    h ho F0 H0 F ps ex σ H a _ fun vs ds F1 H1 ⟨hn, hpr, hbd, hu⟩ a1 l => ⟨F1, ds, a1.fh, l, hn, hpr, fun u d F' H' _ nb => absurd hbd (nb cls), fun c' F' H' hc' x' => by
      rw [hu c' hc']
      exact z sl ms F' ps σ H' hp (a1.step0 x')⟩
theorem ez_callF (tk : Takes X W) (hp : Pl sl ms) (h : Ef sl ms (wE X fe) fun f => ∃ m Pre Post Bad, ClA X f (spX m Pre Post Bad) ∧ Ea sl ms (wA X (e :: es)) fun ds => ds.length = m ∧ Pre ds ∧ Bad ds cls ∧ ∀ c, Bad ds c → c = cls)
    (ht : eval (.Call fe (e :: es) [] np) X.env = (do callWith np (← eval fe X.env) [] (backTo np (starEach (e :: es) X.env)) (backToKw np (keywordEach [] X.env))) := by rfl)
    (he : starEach (e :: es) X.env = (false, eval e X.env) :: starEach es X.env := by rfl) (hpl : (backTo np (starEach es X.env)).any (·.1) = false := by rfl) :
    ErZ (Zw W Pl cls) sl ms (wE X (.Call fe (e :: es) [] np)) :=
  ErZ.of (pe_callF pe_w (passAt tk) pa_w ht he hpl) fun ho F0 H0 ex z F ps σ H a Q =>
    h ho F0 H0 F ps ex σ H a _ fun f F1 H1 ⟨m, Pre, Post, Bad, cl, h2⟩ a1 => by
      obtain ⟨fd, pn, k, Fx, hr, hk, hb⟩ := cl.ex
      exact ⟨f, fd, pn, k, _, rfl, Fx, hr, hk, hb, h2 ho F0 H0 F1 ps ex σ H1 a1 _ fun vs ds F2 H2 ⟨hn, hpr, hbd, hu⟩ a2 l => ⟨F2, ds, a2.fh, l, hn, hpr, fun u d F' H' _ nb => absurd hbd (nb cls), fun c' F' H' hc' x' => by
        rw [hu c' hc']
        exact z sl ms F' ps σ H' hp (a2.step0 x')⟩⟩
end
/-! ### flags -/
def rCntF (K : PySem.W.Frag) : V → List V → Hp → VK → Prop := fun x xs H Q => ∃ (p : Addr) (ys : List V) (y : V), x = .ref p ∧ xs = [y] ∧ SqL K H p ys ∧ flatV y = true ∧ ys.all flatV = true ∧ Q (.int ((ys.countP fun z => eqV z y) : Nat)) H
theorem count_flat {y : V} : ∀ {ys : List V} {us : List Value}, Vals ys us → ys.all flatV = true → us.countP (eqU y) = ys.countP fun z => eqV z y
  | _, _, .nil, _ => rfl
  | _, _, .cons r t, f => by
    rw [List.all_cons, Bool.and_eq_true] at f
    rw [List.countP_cons, List.countP_cons, count_flat t f.2, eqU_of r f.1]
section
variable {X : Cx} {sl : List Sl} {ms : List Ob} {oe e : Expr} {R : D → Prop}
theorem mt_lcountF : MtR X "list.count" (rCntF X.K) := by
  intro pins s σ H x xs v us Q I rx rxs h
  obtain ⟨p, ys, y, rfl, rfl, hs, fy, fys, q⟩ := h
  cases rx
  obtain ⟨u, rfl, ru⟩ := rxs.one
  obtain ⟨its, rv, ⟨⟨cls, dd, data, sl⟩, n, ho, hc, hdn, hd⟩, hlen⟩ := I.list hs
  simp only at hc hd
  subst hc hd
  refine call_meets PySem.F.slot_list_count ⟨_, ho, rfl⟩ PySem.F.entry_list_count (PySem.F.args_list_count_2 _ _)
    (SeqAt.list_countAt p its.toArray n dd sl u (eqU y)) ⟨ho, fun z hz => mem_eqAt ru fy rv fys z (by simpa using hz), ?_⟩
  refine ⟨.int ((ys.countP fun z => eqV z y) : Nat), H, I.tok _, ⟨s.toks, ?_⟩, q⟩
  show Value.int ((its.toArray.toList.countP (eqU y) : Nat) : Int) s.toks = Value.int ((ys.countP fun z => eqV z y : Nat) : Int) s.toks
  rw [show its.toArray.toList = its from rfl, count_flat rv fys]
theorem flat_bls (bs : List Bool) : (bs.map V.bl).all flatV = true := by
  rw [List.all_map]
  exact List.all_eq_true.mpr fun b _ => rfl
/-- oe.count(e), a list of flags -/
theorem j_countB {ap cp : Pos} (h : Er sl ms (wE X oe) fun x => ∃ bs : List Bool, x = .lst (bs.map .bl) ∧ Er sl ms (wE X e) fun y => ∃ b, y = .bl b ∧ R (.int (bs.count b : Nat)))
    (hbase : attributeBase oe "count" X.env (eval oe X.env) = eval oe X.env := by rfl)
    (hfew : ((backTo cp (starEach [e] X.env)).all (fun x => !x.1) && (backToKw cp (keywordEach [] X.env)).all (fun x => x.1.isSome) && decide (([e] : List Expr).length + ([] : List Keyword).length + (if ([] : List Keyword).isEmpty then 0 else 1) < 30)) = true := by rfl)
    (hline : (ap.endLine == cp.line) = true := by rfl) (hse : starEach [e] X.env = (false, eval e X.env) :: starEach [] X.env := by rfl) (hplain : (backTo cp (starEach [] X.env)).any (·.1) = false := by rfl) :
    Er sl ms (wE X (.Call (.Attribute oe "count" ap) [e] [] cp)) R :=
  Er.of (pe_bm PySem.F.plainAttrs_list PySem.F.slot_list_count PySem.F.type_list_count mt_lcountF pe_w (pa_cons pe_w pa_nil hse) hbase hfew hline hse hplain) fun ho F0 H0 F ps ex σ H a Q q =>
  h ho F0 H0 F ps ex σ H a _ fun v d F1 H1 ⟨bs, e1, h1⟩ a1 => by
    subst e1
    obtain ⟨p, xs, rfl, hp, hl⟩ : ∃ p xs, v = .ref p ∧ F1 p = some (.lst xs) ∧ DnL F1 xs (bs.map .bl) := by cases a1.top with | lst ha hl => exact ⟨_, _, rfl, ha, hl⟩
    obtain rfl := DnL.bls bs hl
    refine ⟨.inl ⟨rfl, _, .inl (.inl (a1.fh _ _ hp))⟩, h1 ho F0 H0 F1 ps _ σ H1 a1 _ fun u y F2 H2 ⟨b, e2, r⟩ a2 => ?_⟩
    subst e2
    cases a2.top
    have hp2 : F2 p = some (.lst (bs.map V.bl)) := by
      cases a2.pop.top with
      | lst ha hl2 => rw [ha, DnL.bls bs hl2]
    refine ⟨p, bs.map V.bl, .bl b, rfl, rfl, .inl (.inl (a2.fh _ _ hp2)), rfl, flat_bls bs, ?_⟩
    have ec : ((bs.map V.bl).countP fun z => eqV z (.bl b)) = bs.count b := by
      rw [List.countP_map]
      rfl
    rw [ec]
    exact q _ _ F2 H2 r (a2.pop.pop.push (.int _))
/-- oe.index(e), a list of flags -/
theorem j_indexB {ap cp : Pos} (h : Er sl ms (wE X oe) fun x => ∃ bs : List Bool, x = .lst (bs.map .bl) ∧ Er sl ms (wE X e) fun y => ∃ (b : Bool) (j : Nat), y = .bl b ∧ bs[j]? = some b ∧ (∀ m, m < j → bs[m]? ≠ some b) ∧ R (.int (j : Nat)))
    (hbase : attributeBase oe "index" X.env (eval oe X.env) = eval oe X.env := by rfl)
    (hfew : ((backTo cp (starEach [e] X.env)).all (fun x => !x.1) && (backToKw cp (keywordEach [] X.env)).all (fun x => x.1.isSome) && decide (([e] : List Expr).length + ([] : List Keyword).length + (if ([] : List Keyword).isEmpty then 0 else 1) < 30)) = true := by rfl)
    (hline : (ap.endLine == cp.line) = true := by rfl) (hse : starEach [e] X.env = (false, eval e X.env) :: starEach [] X.env := by rfl) (hplain : (backTo cp (starEach [] X.env)).any (·.1) = false := by rfl) :
    Er sl ms (wE X (.Call (.Attribute oe "index" ap) [e] [] cp)) R :=
  Er.of (pe_bm PySem.F.plainAttrs_list PySem.F.slot_list_index PySem.F.type_list_index mt_index pe_w (pa_cons pe_w pa_nil hse) hbase hfew hline hse hplain) fun ho F0 H0 F ps ex σ H a Q q =>
  h ho F0 H0 F ps ex σ H a _ fun v d F1 H1 ⟨bs, e1, h1⟩ a1 => by
    subst e1
    obtain ⟨p, xs, rfl, hp, hl⟩ : ∃ p xs, v = .ref p ∧ F1 p = some (.lst xs) ∧ DnL F1 xs (bs.map .bl) := by cases a1.top with | lst ha hl => exact ⟨_, _, rfl, ha, hl⟩
    obtain rfl := DnL.bls bs hl
    refine ⟨.inl ⟨rfl, _, .inl (.inl (a1.fh _ _ hp))⟩, h1 ho F0 H0 F1 ps _ σ H1 a1 _ fun u y F2 H2 ⟨b, j, e2, hj, hn, r⟩ a2 => ?_⟩
    subst e2
    cases a2.top
    have hp2 : F2 p = some (.lst (bs.map V.bl)) := by
      cases a2.pop.top with
      | lst ha hl2 => rw [ha, DnL.bls bs hl2]
    refine ⟨p, bs.map V.bl, .bl b, j, .bl b, rfl, rfl, .inl (.inl (a2.fh _ _ hp2)), rfl, flat_bls bs, by rw [List.getElem?_map, hj]; rfl, beq_self_eq_true b, fun m z hm hz => ?_, q _ _ F2 H2 r (a2.pop.pop.push (.int _))⟩
    rw [List.getElem?_map] at hz
    cases hb : bs[m]? with
    | none => rw [hb] at hz; cases hz
    | some b' =>
      rw [hb] at hz
      cases hz
      have ne : b' ≠ b := fun z => hn m hm (by rw [hb, z])
      show (b' == b) = false
      exact beq_eq_false_iff_ne.mpr ne
end
section
variable {X : Cx} {sl : List Sl} {ms : List Ob} {O : Out} {a b : Expr} {pos : Pos} {x y : Str}
/-- a list + a list: a new list of one's own -/
theorem jl_catL {R : List D → Prop} (h : Er sl ms (wE X a) fun x => Er sl ms (wE X b) fun y => ∃ i j, x = .lst i ∧ y = .lst j ∧ i.length + j.length ≤ 100000 ∧ R (i ++ j)) : El sl ms (wE X (.BinOp a .Add b pos)) R :=
  El.of (pe_op op_cat pe_w pe_w) fun ho F0 H0 F ps ex σ H at0 Q q => h ho F0 H0 F ps ex σ H at0 _ fun v d F1 H1 h1 a1 => h1 ho F0 H0 F1 ps _ σ H1 a1 _ fun u e F2 H2 ⟨i, j, e1, e2, hl, r⟩ a2 => by
    subst e1 e2
    obtain ⟨p1, xs, rfl, hp1, hl1⟩ : ∃ p xs, v = .ref p ∧ F2 p = some (.lst xs) ∧ DnL F2 xs i := by cases a2.pop.top with | lst ha hl => exact ⟨_, _, rfl, ha, hl⟩
    obtain ⟨p2, ys, rfl, hp2, hl2⟩ : ∃ p xs, u = .ref p ∧ F2 p = some (.lst xs) ∧ DnL F2 xs j := by cases a2.top with | lst ha hl => exact ⟨_, _, rfl, ha, hl⟩
    exact ⟨p1, p2, xs, ys, rfl, rfl, a2.fh _ _ hp1, a2.fh _ _ hp2, by rw [hl1.len, hl2.len]; exact Nat.le_trans hl (by decide), fun y hy => q y (i ++ j) F2 _ r (a2.pop.pop.own hy (hl1.app hl2))⟩
/-- x, y = [..], e -/
theorem js_parMD {kt k2 pt2 px py pt} (i j : Nat) (hc : X.calm = true) (hN : X.N.Nodup) (hi : X.N[i]? = some x) (hj : X.N[j]? = some y) (hij : i ≠ j) (h : El sl ms (wE X a) fun d => Er sl (ms ++ [.l d]) (wE X b) fun d' => O.nx ((sl.set i (.m ms.length)).set j (.d d')) (ms ++ [.l d]))
    (hx : X.env.scope.names.lookup x = some .local := by rfl) (hy : X.env.scope.names.lookup y = some .local := by rfl) (hw : swappedStores [.Tuple [.Name x px, .Name y py] kt pt] (.Tuple [a, b] k2 pt2) X.env = pure (some [x, y]) := by rfl)
    (hs : swapsWithSole [.Tuple [.Name x px, .Name y py] kt pt] (.Tuple [a, b] k2 pt2) pos.line X.env = pure false := by rfl) (he : starEach [a, b] X.env = (false, eval a X.env) :: starEach [b] X.env := by rfl) (he2 : starEach [b] X.env = (false, eval b X.env) :: starEach [] X.env := by rfl) :
    Sr sl ms (wS X (.Assign [.Tuple [.Name x px, .Name y py] kt pt] (.Tuple [a, b] k2 pt2) pos)) O :=
  Sr.of (ps_par hc hN hi hj hij hx hy (pa_cons pe_w (pa_cons pe_w pa_nil he2) he) hw hs) fun ho F0 H0 F ps ex σ H at0 Z nx rt bk ct => h ho F0 H0 F ps ex σ H at0 _ fun p1 d F1 H1 h1 a1 => h1 ho F0 H0 F1 (ps ++ [p1]) _ σ H1 a1 _ fun v d' F2 H2 k a2 => by
    have e0 := at0.len
    have e1 : (ps ++ [p1])[ms.length]? = some p1 := by rw [← e0, List.getElem?_append_right (Nat.le_refl _)]; simp
    exact ⟨.ref p1, v, rfl, nx _ _ F2 _ _ H2 k ((a2.pop.store (s := .m ms.length) i ⟨p1, rfl, e1⟩).store (s := .d d') j ⟨v, rfl, a2.top⟩)⟩
end
end E
set_option Elab.async false
set_option linter.all false
set_option maxRecDepth 100000
/-! x not in a tuple of tuples of whole numbers and a whole number at its end. -/
namespace E
open PySem PySem.Spec PyProof.Rows L2
variable [KF]
namespace TD
open PySem.SeqAt PySem.MeetsSeq
open PySem.AutoSeq1 (wpAny_loadPart')
theorem sub_di : isSubtype (.type "dict") (.type "int") = pure false := by rw [isSubtype_type]; kernel_rfl
theorem sub_id : isSubtype (.type "int") (.type "dict") = pure false := by rw [isSubtype_type]; kernel_rfl
theorem int_declines (i : Int) (t : Tok) (b : Addr) (k : Nat) (d2 : Option Addr) (es : Array DictEntry) (s2 : Array (Option Value)) :
    Meets (Builtin.«int.__eq__» ⟨[.int i t, .ref b], []⟩) (fun _ R s => s.heap.get? b = some { cls := .type "dict", dict := d2, data := .dict es k, slots := s2 } ∧ R (.ok (.ret .notImplemented)) s) :=
  .of_wp fun prog w A R s h => by
    obtain ⟨hp, g, d, tk, os⟩ := s
    obtain ⟨a2, h⟩ := h
    have f1 := sub_di
    wp_walk using wpAny_loadPart' a2
    exact ⟨_, rfl, h⟩
theorem dict_declines_int (i : Int) (t : Tok) (b : Addr) (k : Nat) (d2 : Option Addr) (es : Array DictEntry) (s2 : Array (Option Value)) :
    Meets (Builtin.«dict.__eq__» ⟨[.ref b, .int i t], []⟩) (fun _ R s => s.heap.get? b = some { cls := .type "dict", dict := d2, data := .dict es k, slots := s2 } ∧ R (.ok (.ret .notImplemented)) s) :=
  .of_wp fun prog w A R s h => by
    obtain ⟨hp, g, d, tk, os⟩ := s
    obtain ⟨a2, h⟩ := h
    have f1 := sub_id
    wp_walk using wpAny_loadPart' a2
    exact ⟨_, rfl, h⟩
theorem eq_id {A : Around} {s : Shared} {i : Int} {t : Tok} {b : Addr} {o : Obj} {es : Array DictEntry} {k : Nat} (h2 : s.heap.get? b = some o) (hc : o.cls = .type "dict") (hd : o.data = .dict es k) (hu : A.units < cLine) : EqAt A s (.int i t) (.ref b) false := by
  obtain ⟨c2, d2, t2, s2⟩ := o
  simp only at hc hd
  subst hc hd
  intro prog w E Q h
  unfold eqBool
  refine wpAny_holding ?_
  refine wpAny_ite_split (fun hab => absurd (eq_of_beq hab) nofun) (fun _ => ?_)
  refine wpAny_bind ?_
  exact rc_eq_decline_or (k := false) (typeIs_int s i t) ⟨_, h2, rfl⟩ (by decide) sub_di F.slot_int_eq F.slot_dict_eq_refl
    (fun _ hq => call_meets F.slot_int_eq (typeIs_int s i t) F.entry_int_eq (F.args_int_eq_2 _ _) (int_declines i t b k d2 es s2) ⟨h2, hq⟩)
    (fun _ hq => call_meets F.slot_dict_eq_refl ⟨_, h2, rfl⟩ F.entry_dict_eq (F.args_dict_eq_2 _ _) (dict_declines_int i t b k d2 es s2) ⟨h2, hq⟩)
    (fun _ hq => wpAny_of_eq (rfl : isSame (.int i t) (.ref b) = pure false) hq) (.inr hu) (wpAny_truthy_bool h)
end TD
/-- x not in a tuple of tuples of whole numbers, a whole number behind them: some flag -/
def rNotInM : L2.R2 := fun x y H Q => ∃ (F : Hp) (d : D) (ls : List (List Int)) (i : Int), Ex F H ∧ Dn F x d ∧ Dn F y (.tup (ls.map tupN ++ [.int i])) ∧ (PyData.canLay0 (toP d) = true ∨ d = .dic) ∧ ∀ b : Bool, Q (.bl b) H
theorem lay_tupsI (i : Int) : ∀ ls : List (List Int), PyData.canLayAll0 (toPs (ls.map tupN ++ [.int i])) = true ∧ PyData.depthAll (toPs (ls.map tupN ++ [.int i])) ≤ 1
  | [] => by simp [toPs, toP, PyData.canLayAll0, PyData.canLay0, PyData.depthAll, PyData.depth]
  | l :: ls => by
    have ⟨h1, h2⟩ := lay_tupsI i ls
    have ⟨h3, h4⟩ := lay_ints l
    rw [List.map_cons, List.cons_append, toPs, toP, PyData.canLayAll0, PyData.canLay0, h1, h3, PyData.depthAll, PyData.depth, h4]
    exact ⟨rfl, by omega⟩
theorem op_notInM {X : Cx} [KonK X.K] (hu : X.A.units + 64 < cLine) : OpR X (compareOp .NotIn) rNotInM := by
  intro pins s σ H x y v u Q I rx ry h
  obtain ⟨F, d, ls, i, ef, hd, he, hcase, q⟩ := h
  obtain ⟨bs, r2⟩ := he.reads I ef ry
  rw [toP] at r2
  rcases hcase with hlay | rfl
  · obtain ⟨as, r1⟩ := hd.reads I ef rx
    exact SeqAt.notIn_tuple_reads r2 r1 (lay_tupsI i ls).1 hlay (by have := (lay_tupsI i ls).2; omega) ⟨.bl _, H, I, rfl, q _⟩
  · cases hd with
    | @dic a ha =>
      cases rx
      obtain ⟨_, o, es, n, k1, k2, k3, _⟩ := dic_at I (ef _ _ ha)
      cases he with
      | @tup b xs _ hb hl =>
        cases ry
        obtain ⟨its, rv, p, _⟩ := I.tuple (sq_t ef hb)
        refine SeqAt.notIn_tupleAt (fun _ => false) (show s.heap.IsTuple b its.toArray from p) (fun z hz => ?_) ⟨.bl _, H, I, rfl, q _⟩
        have hz : z ∈ its := by simpa using hz
        have key : ∀ {xs : List V} {us : List Value} {ls : List (List Int)}, DnL F xs (ls.map tupN ++ [.int i]) → Vals xs us → ∀ z ∈ us, (∃ t js, z = .ref t ∧ s.heap.IsTuple t js) ∨ ∃ t, z = .int i t := by
          intro xs us ls h1
          induction ls generalizing xs us with
          | nil =>
            intro h2 z hz
            cases h1 with
            | cons g1 g2 =>
              cases g2
              cases h2 with
              | cons f1 f2 =>
                cases f2
                cases g1
                obtain ⟨t, rfl⟩ := f1
                rcases List.mem_cons.mp hz with rfl | hz
                · exact .inr ⟨t, rfl⟩
                · cases hz
          | cons l ls ih =>
            intro h2 z hz
            cases h1 with
            | cons g1 g2 =>
              cases h2 with
              | cons f1 f2 =>
                rcases List.mem_cons.mp hz with rfl | hz
                · cases g1 with
                  | @tup t xs _ ht _ =>
                    cases f1
                    obtain ⟨js, _, p, _⟩ := I.tuple (sq_t ef ht)
                    exact .inl ⟨t, _, rfl, p⟩
                · exact ih g2 f2 z hz
        rcases key hl rv z hz with ⟨t, js, rfl, ht⟩ | ⟨t, rfl⟩
        · exact TD.eq_td ht k1 k2 k3 (by show X.A.units + 1 < cLine; omega)
        · exact TD.eq_id k1 k2 k3 (by show X.A.units + 1 < cLine; omega)
section
variable {X : Cx} [KonK X.K] {sl : List Sl} {ms : List Ob} {B : Bool → Prop} {a b : Expr} {pos : Pos}
theorem jt_notInM (hu : X.A.units + 64 < cLine) (h : Er sl ms (wE X a) fun x => Er sl ms (wE X b) fun y => ∃ (ls : List (List Int)) (i : Int), y = .tup (ls.map tupN ++ [.int i]) ∧ (PyData.canLay0 (toP x) = true ∨ x = .dic) ∧ ∀ k : Bool, B k) (hm : behindInMarks .NotIn b = false := by first | exact nobehind _ (by decide) (by decide) | rfl) :
    Et sl ms (wT X (.Compare a [.NotIn] [b] pos)) B :=
  Et.of (pt_cmpR (op_notInM hu) pe_w pe_w hm) (et_test (er_op' (h.mono fun x h => h.mono fun y ⟨ls, i, e, hl, k⟩ => fun F H v w eh hv hw Q q => by
    subst e
    exact ⟨F, x, ls, i, eh, hv, hw, hl, fun c => q _ _ F H ⟨_, rfl, k c⟩ (Ext.refl eh) (.bl _)⟩)))
end
end E
set_option Elab.async false
set_option linter.all false
set_option maxRecDepth 100000
/-! Tuples of the module beside tuples made; x in flat items; sorted of data; list.extend. -/
namespace E
open PySem PySem.Spec PyProof.Rows L2
variable [KF]
theorem dn_strs {F : Hp} : ∀ l : List Str, DnL F (l.map V.str) (l.map D.str)
  | [] => .nil
  | x :: l => .cons (.str x) (dn_strs l)
/-- what is a tuple, by its items -/
theorem Dn.seq {K : PySem.W.Frag} [KonK K] {F : Hp} {v : V} {d : D} {ds : List D} (h : Dn F v d) (e : tupO d = some ds) : ∃ p xs, v = .ref p ∧ (∀ H, Ex F H → SqT K H p xs) ∧ DnL F xs ds := by
  cases h with
  | tup ha hl => cases e; exact ⟨_, _, rfl, fun H x => sq_t x ha, hl⟩
  | kon ha => cases e; exact ⟨_, _, rfl, fun H _ => kon_sq ha, dn_strs _⟩
  | _ => cases e
section
variable {X : Cx} [KonK X.K] {sl : List Sl} {ms : List Ob} {R : D → Prop} {B : Bool → Prop} {pos p p2 : Pos} {a b e : Expr} {x : Str}
/-- a tuple of the module -/
theorem j_gkon {ad : Addr} {l : List Str} (hm : X.mg x = some (.ref ad)) (hk : KF.kon ad l) (k : R (.kon ad l)) (hg : Gl X x := by rfl) (hd : (x == ("__debug__" : Str)) = false := by decide) : Er sl ms (wE X (.Name x pos)) R :=
  Er.of (pe_glob (v := V.ref ad) hg hm rfl hd) fun ho F0 H0 F ps ex σ H a Q q => q _ _ F H k (a.push (.kon hk))
theorem r2_ixO {ds : List D} {i : Int} {x d : D} (e : tupO x = some ds) (h : L2.atI ds i = some d) : R2 (rIxT X.K) x (.int i) (· = d) := fun F H v w eh hv hw Q q => by
  obtain ⟨p, xs, rfl, hs, hl⟩ := hv.seq (K := X.K) e
  cases hw
  obtain ⟨y, e1, e2⟩ := hl.atI h
  exact ⟨_, _, i, y, rfl, rfl, hs H eh, e1, q y d F H rfl (Ext.refl eh) e2⟩
/-- a[b], a a tuple -/
theorem j_ixO (h : Er sl ms (wE X a) fun x => Er sl ms (wE X b) fun y => ∃ ds i d, tupO x = some ds ∧ y = .int i ∧ L2.atI ds i = some d ∧ R d) (hs : PlainIx b := by intro _ _; rfl) : Er sl ms (wE X (.Subscript a b pos)) R :=
  Er.of (pe_ix ix_tup pe_w pe_w hs) (er_op' (h.mono fun _ h => h.mono fun _ ⟨_, _, _, e1, e2, e3, k⟩ => by rw [e2]; exact R2.done (r2_ixO e1 e3) k))
theorem rc_lenO {x : D} {ds : List D} (e : tupO x = some ds) : Rc (fun xs H Q => ∃ p ys, xs = [.ref p] ∧ (SqL X.K H p ys ∨ SqT X.K H p ys) ∧ Q (.int ys.length) H) [x] (· = .int ds.length) := fun F H vs eh hl Q q => by
  cases hl with
  | cons hx hr =>
    cases hr
    obtain ⟨p, xs, rfl, hs, hl⟩ := hx.seq (K := X.K) e
    exact ⟨_, _, rfl, .inr (hs H eh), by rw [hl.len]; exact q _ _ F H rfl (Ext.refl eh) (.int _)⟩
/-- len(e), e a tuple -/
theorem j_lenT (hm : X.mg "len" = none) (h : Er sl ms (wE X e) fun x => ∃ ds, tupO x = some ds ∧ R (.int ds.length)) (hg : Gl X "len" := by rfl) (he : starEach [e] X.env = (false, eval e X.env) :: starEach [] X.env := by rfl) :
    Er sl ms (wE X (.Call (.Name "len" p) [e] [] pos)) R := Er.of (pe_callB call_len_seq hg hm PySem.boot_len (pa_cons pe_w pa_nil he) (he := he)) (er_cb' (ea_cons' (h.mono fun _ ⟨_, e, k⟩ => ea_nil' (Rc.done (rc_lenO e) k))))
theorem ei_tupO {ta : TE} {K : List D → Prop} (h : Er sl ms ta fun x => ∃ ds, tupO x = some ds ∧ K ds) : Ei sl ms (iTup X.K ta) none K := ⟨nofx, fun ho F0 H0 F ps ex σ H a Rr q =>
  h ho F0 H0 F ps ex σ H a _ fun v d F1 H1 ⟨ds, e, k⟩ a1 => by
    obtain ⟨p, xs, rfl, hs, hl⟩ := a1.top.seq (K := X.K) e
    refine ⟨p, rfl, ⟨xs, hs _ a1.fh⟩, q _ F1 H1 [(.ref p, .d d)] _ ⟨ds, rfl, k⟩ a1 fun ps' F2 H2 e2 hp _ => ?_⟩
    cases hp _ (List.mem_singleton.mpr rfl) with
    | d hp =>
      obtain ⟨p', ys, e', hs', hl'⟩ := hp.seq (K := X.K) e
      cases e'
      refine ⟨fun i d hd => ?_, ys, hs' _ e2, by rw [hl'.len, List.length_map]; exact Nat.le_refl _⟩
      obtain ⟨d, hw, rfl⟩ := walk_d hd; have hd := hw
      obtain ⟨x, hx, hxd⟩ := hl'.get i hd
      refine ⟨⟨ys, x, hs' _ e2, hx⟩, fun y H3 hy => ?_⟩
      obtain ⟨rfl, hy⟩ := hy
      have z := hy ys (hs' _ e2)
      rw [hx] at z; cases z
      exact ⟨F2, Ext.refl e2, .d hxd⟩⟩
/-- for .. in e, e a tuple -/
theorem ji_tupO {tg : Expr} {K : List D → Prop} (h : Er sl ms (wE X e) fun x => ∃ ds, tupO x = some ds ∧ K ds) : Ei sl ms (wI X tg e) none K := Ei.of (pi_tup pe_w) (ei_tupO h)
/-! ### x in flat items -/
def flatD : D → Bool
  | .non | .bl _ | .int _ | .str _ => true
  | _ => false
def eqD : D → D → Bool
  | .non, .non => true
  | .bl a, .bl b => a == b
  | .bl a, .int b => (if a then 1 else 0) == b
  | .int a, .bl b => a == (if b then 1 else 0)
  | .int a, .int b => a == b
  | .str a, .str b => a == b
  | _, _ => false
def inD (x : D) (ds : List D) : Bool := ds.any fun y => eqD y x
theorem eq_flat {F : Hp} {v w : V} {x y : D} (hv : Dn F v x) (hw : Dn F w y) (fx : flatD x = true) (fy : flatD y = true) : flatV v = true ∧ eqV w v = eqD y x := by
  cases hv <;> first | exact absurd fx Bool.false_ne_true | (cases hw <;> first | exact absurd fy Bool.false_ne_true | exact ⟨rfl, rfl⟩)
theorem in_flat {F : Hp} {v : V} {x : D} (hv : Dn F v x) (fx : flatD x = true) : ∀ {ws : List V} {ds : List D}, DnL F ws ds → ds.all flatD = true → ws.all flatV = true ∧ inV v ws = inD x ds
  | _, _, .nil, _ => ⟨rfl, rfl⟩
  | _, _, .cons h l, f => by
    rw [List.all_cons, Bool.and_eq_true] at f
    obtain ⟨h1, h2⟩ := in_flat hv fx l f.2
    have h3 := (eq_flat h h f.1 f.1).1
    have h4 := (eq_flat hv h fx f.1).2
    refine ⟨by rw [List.all_cons, h3, h1]; rfl, ?_⟩
    unfold inV inD at h2 ⊢
    rw [List.any_cons, List.any_cons, h2, h4]
/-- the items of a list, a tuple -/
def itemsO : D → Option (List D)
  | .lst l => some l
  | d => tupO d
theorem Dn.items {F : Hp} {v : V} {d : D} {ds : List D} (h : Dn F v d) (e : itemsO d = some ds) : ∃ p xs, v = .ref p ∧ (∀ H, Ex F H → SqL X.K H p xs ∨ SqT X.K H p xs) ∧ DnL F xs ds := by
  cases h with
  | lst ha hl => cases e; exact ⟨_, _, rfl, fun H x => .inl (sq_l x ha), hl⟩
  | tup ha hl => cases e; exact ⟨_, _, rfl, fun H x => .inr (sq_t x ha), hl⟩
  | kon ha => cases e; exact ⟨_, _, rfl, fun H _ => .inr (kon_sq ha), dn_strs _⟩
  | _ => cases e
theorem r2_inD {neg : Bool} {x y : D} {ds : List D} (fx : flatD x = true) (e : itemsO y = some ds) (fs : ds.all flatD = true) : R2 (rIn X.K neg) x y (· = .bl (if neg then !inD x ds else inD x ds)) := fun F H v w eh hv hw Q q => by
  obtain ⟨p, xs, rfl, hs, hl⟩ := Dn.items (X := X) hw e
  obtain ⟨h1, h2⟩ := in_flat hv fx hl fs
  refine ⟨p, xs, rfl, hs H eh, (eq_flat hv hv fx fx).1, h1, ?_⟩
  rw [h2]
  exact q _ _ F H rfl (Ext.refl eh) (.bl _)
theorem j_inD (h : Er sl ms (wE X a) fun x => Er sl ms (wE X b) fun y => ∃ ds, flatD x = true ∧ itemsO y = some ds ∧ ds.all flatD = true ∧ R (.bl (inD x ds))) (hm : behindInMarks .In b = false := by first | exact nobehind _ (by decide) (by decide) | rfl) : Er sl ms (wE X (.Compare a [.In] [b] pos)) R :=
  Er.of (pe_cmpR op_in_seq pe_w pe_w hm) (er_op' (h.mono fun _ h => h.mono fun _ ⟨_, f1, e, f2, k⟩ => R2.done (r2_inD (neg := false) f1 e f2) k))
theorem jt_inD (h : Er sl ms (wE X a) fun x => Er sl ms (wE X b) fun y => ∃ ds, flatD x = true ∧ itemsO y = some ds ∧ ds.all flatD = true ∧ B (inD x ds)) (hm : behindInMarks .In b = false := by first | exact nobehind _ (by decide) (by decide) | rfl) : Et sl ms (wT X (.Compare a [.In] [b] pos)) B :=
  Et.of (pt_cmpR op_in_seq pe_w pe_w hm) (et_test (er_op' (h.mono fun _ h => h.mono fun _ ⟨_, f1, e, f2, k⟩ => R2.done (r2_inD (neg := false) f1 e f2) ⟨_, rfl, k⟩)))
theorem jt_notInD (h : Er sl ms (wE X a) fun x => Er sl ms (wE X b) fun y => ∃ ds, flatD x = true ∧ itemsO y = some ds ∧ ds.all flatD = true ∧ B (!inD x ds)) (hm : behindInMarks .NotIn b = false := by first | exact nobehind _ (by decide) (by decide) | rfl) : Et sl ms (wT X (.Compare a [.NotIn] [b] pos)) B :=
  Et.of (pt_cmpR op_notIn_seq pe_w pe_w hm) (et_test (er_op' (h.mono fun _ h => h.mono fun _ ⟨_, f1, e, f2, k⟩ => R2.done (r2_inD (neg := true) f1 e f2) ⟨_, rfl, k⟩)))
/-- a == b of data, tested -/
theorem jt_eqA (hu : X.A.units + 64 < cLine) (h : Er sl ms (wE X a) fun x => Er sl ms (wE X b) fun y => SeqAt.shaped (toP x) = true ∧ SeqAt.shaped (toP y) = true ∧ B (PyData.eqv (toP x) (toP y))) (hm : behindInMarks .Eq b = false := by first | exact nobehind _ (by decide) (by decide) | rfl) :
    Et sl ms (wT X (.Compare a [.Eq] [b] pos)) B :=
  Et.of (pt_cmpR (op_eqA hu) pe_w pe_w hm) (et_test (er_op' (h.mono fun x h => h.mono fun y ⟨s1, s2, k⟩ => fun F H v w eh hv hw Q q => ⟨F, x, y, eh, hv, hw, s1, s2, q _ _ F H ⟨_, rfl, k⟩ (Ext.refl eh) (.bl _)⟩)))
/-! ### sorted of data -/
/-- as Python sorts it -/
noncomputable def sortD (ds : List D) : List D := ds.mergeSort (PySem.W.dataLe false toP)
structure CanSort (ds : List D) : Prop where
  al : PySem.W.AllAlike (ds.map toP)
  so : PySem.W.Sortable (ds.map toP)
  dp : ∀ d ∈ ds, (toP d).depth ≤ 60
  ln : ds.length ≤ 100000
def rSortD (K : PySem.W.Frag) : List V → Hp → VK → Prop := fun vs H Q => ∃ (F : Hp) (a : Addr) (xs : List V) (ds : List D), vs = [V.ref a] ∧ Ex F H ∧ SqL K H a xs ∧ DnL F xs ds ∧ CanSort ds ∧ ∀ ys p, DnL F ys (sortD ds) → H p = none → Q (.ref p) (upd H p (.lst ys))
theorem each_dn {pins : List (Addr × Obj)} {σ : L2.St} {H F : Hp} {s : Shared} (I : Inv X pins σ H s) (ex : Ex F H) : ∀ {xs : List V} {us : List Value} {ds : List D}, Vals xs us → DnL F xs ds → PySem.W.EachIs (fun u d => ∃ v, RelV v u ∧ Dn F v d) us ds ∧ PySem.W.EachIs (fun u d => ∃ as, Reads s.heap u (toP d) as) us ds
  | _, _, _, .nil, .nil => ⟨.nil, .nil⟩
  | _, _, _, .cons r t, .cons h l => by
    obtain ⟨h1, h2⟩ := each_dn I ex t l
    exact ⟨.cons ⟨_, r, h⟩ h1, .cons (h.reads I ex r) h2⟩
theorem each_back {F : Hp} : ∀ {us : List Value} {ds : List D}, PySem.W.EachIs (fun u d => ∃ v, RelV v u ∧ Dn F v d) us ds → ∃ xs, Vals xs us ∧ DnL F xs ds
  | _, _, .nil => ⟨[], .nil, .nil⟩
  | _, _, .cons ⟨v, r, h⟩ t => by
    obtain ⟨xs, h1, h2⟩ := each_back t
    exact ⟨v :: xs, .cons r h1, .cons h h2⟩
theorem cr_sortD (hu : X.A.units + 100 < cLine) : CallR X (.builtin "sorted") (rSortD X.K) := by
  intro pins s σ H vs us Q I r h
  obtain ⟨F, a, xs, ds, rfl, ex, hs, hl, cs, q⟩ := h
  obtain ⟨its, rv, hl', hz⟩ := I.list hs
  rw [Vals.ref1 r]
  obtain ⟨e1, e2⟩ := each_dn I ex rv hl
  refine PySem.W.sorted_data hl'.isList e1 e2 cs.al cs.so (by rw [← hl.len]; exact hz) (fun d hd => ?_) fun out h1 h2 => ?_
  · have := cs.dp d hd
    show X.A.units + 2 + (toP d).depth < cLine
    omega
  · obtain ⟨ys, g1, g2⟩ := each_back h2
    obtain ⟨ep, he'⟩ := PyProof.Rows.sortedAll_at s.heap its out.toArray
    have hlen : ys.length = xs.length := by
      rw [g2.len, hl.len, List.length_mergeSort]
    exact ⟨.ref _, upd H (s.heap.objs.size + 1) (.lst ys), I.laid (t' := s.toks) (fun _ _ => PyProof.Rows.sortedAll_old) (Nat.le_succ _) ⟨by rw [hlen]; exact hz, out, ep, g1, he'⟩, rfl,
      q ys _ g2 (I.hok.fresh (Nat.le_succ _))⟩
/-- sorted(e), e a list of data -/
theorem j_sortD (hu : X.A.units + 100 < cLine) (hm : X.mg "sorted" = none) (h : Er sl ms (wE X e) fun x => ∃ ds, x = .lst ds ∧ CanSort ds ∧ R (.lst (sortD ds)))
    (hg : Gl X "sorted" := by rfl) (he : starEach [e] X.env = (false, eval e X.env) :: starEach [] X.env := by rfl) : Er sl ms (wE X (.Call (.Name "sorted" p) [e] [] pos)) R :=
  Er.of (pe_callB (cr_sortD hu) hg hm (by decide +kernel) (pa_cons pe_w pa_nil he) (he := he)) fun ho F0 H0 F ps ex σ H a Q q => h ho F0 H0 F ps ex σ H a _ fun v d F1 H1 ⟨ds, e, cs, k⟩ a1 => by
    subst e
    obtain ⟨t, xs, rfl, ha, hd⟩ : ∃ p xs, v = .ref p ∧ F1 p = some (.lst xs) ∧ DnL F1 xs ds := by cases a1.top with | lst ha hl => exact ⟨_, _, rfl, ha, hl⟩
    exact ⟨F1, t, xs, ds, rfl, a1.fh, sq_l a1.fh ha, hd, cs, fun ys z h2 hz => q _ _ _ _ k ((a1.pop.laid (o := .lst ys) hz).push (.lst upd_same (h2.mono (Ex.new (a1.fh.none hz)))))⟩
/-! ### x.extend(e), x a list of one's own -/
theorem js_extend {O : Out} (i : Nat) {k : Nat} {ds : List D} {ap : Pos} (hN : X.N[i]? = some x) (hs : sl[i]? = some (.m k)) (hm : ms[k]? = some (.l ds)) (h : Er sl ms (wE X e) fun d => ∃ es, d = .lst es ∧ ds.length + es.length ≤ 100000 ∧ O.nx sl (ms.set k (.l (ds ++ es))))
    (hv : Vis X.env.scope x := by first | exact Or.inl rfl | exact Or.inr (Or.inl rfl) | exact Or.inr (Or.inr rfl)) (hd : (x == ("__debug__" : Str)) = false := by decide) (hcd : (x == ("__classdict__" : Str)) = false := by decide)
    (hbase : attributeBase (.Name x p) "extend" X.env (eval (.Name x p) X.env) = eval (.Name x p) X.env := by rfl)
    (hfew : ((backTo p2 (starEach [e] X.env)).all (fun x => !x.1) && (backToKw p2 (keywordEach [] X.env)).all (fun x => x.1.isSome) && decide (([e] : List Expr).length + ([] : List Keyword).length + (if ([] : List Keyword).isEmpty then 0 else 1) < 30)) = true := by rfl)
    (hline : (ap.endLine == p2.line) = true := by rfl) (hse : starEach [e] X.env = (false, eval e X.env) :: starEach [] X.env := by rfl) (hplain : (backTo p2 (starEach [] X.env)).any (·.1) = false := by rfl)
    (hsw : swapsWith (.Call (.Attribute (.Name x p) "extend" ap) [e] [] p2) none pos.line X.env = pure false := by rfl) :
    Sr sl ms (wS X (.Expr (.Call (.Attribute (.Name x p) "extend" ap) [e] [] p2) pos)) O :=
  Sr.of (ps_expr (pe_bm PySem.F.plainAttrs_list PySem.F.slot_list_extend PySem.F.type_list_extend mt_extend (pv i hN hv hd hcd) (pa_cons pe_w pa_nil hse) hbase hfew hline hse hplain) hsw) fun ho F0 H0 F ps ex σ H a Z n r b c => by
    obtain ⟨q0, xs, e0, hp, h1, h2⟩ := a.ml hs hm
    refine ⟨_, e0, .inl ⟨rfl, _, .inl (.inl h1)⟩, h ho F0 H0 F ps ex σ H a _ fun v d F' H' ⟨es, ed, hl, k1⟩ a' => ?_⟩
    subst ed
    obtain ⟨p', ys, e', hp', h1', h2'⟩ := a'.ml hs hm
    rw [hp] at hp'; cases hp'
    obtain ⟨pb, zs, rfl, hb, hlb⟩ : ∃ p xs, v = .ref p ∧ F' p = some (.lst xs) ∧ DnL F' xs es := by cases a'.top with | lst ha hl => exact ⟨_, _, rfl, ha, hl⟩
    exact ⟨q0, pb, ys, zs, rfl, rfl, h1', a'.fh _ _ hb, by rw [h2'.len, hlb.len]; exact Nat.le_trans hl (by decide), n _ _ F' ps _ _ k1 (a'.pop.put hp (h2'.app hlb))⟩
end
end E
set_option Elab.async false
set_option linter.all false
set_option maxRecDepth 100000
/-! Texts: their signs, what stands in them. -/
namespace E
open PySem PySem.Spec PyProof.Rows L2
variable [KF]
/-- the signs of a text, each a text -/
def signsD (x : Str) : List D := x.cps.toList.map fun c => D.str ⟨#[c]⟩
/-- a sign in a text -/
def signIn (i j : Str) : Bool := !(Builtin.Str.occurrences j i 0 j.length 1).isEmpty
section
variable {X : Cx} [KonK X.K] {sl : List Sl} {ms : List Ob} {R : D → Prop} {B : Bool → Prop} {pos p p2 : Pos} {a b e : Expr}
theorem j_lenS (hm : X.mg "len" = none) (h : Er sl ms (wE X e) fun x => ∃ z, x = .str z ∧ z.length ≤ 1000 ∧ R (.int z.length)) (hg : Gl X "len" := by rfl) (he : starEach [e] X.env = (false, eval e X.env) :: starEach [] X.env := by rfl) :
    Er sl ms (wE X (.Call (.Name "len" p) [e] [] pos)) R := Er.of (pe_callB call_len_str hg hm PySem.boot_len (pa_cons pe_w pa_nil he) (he := he)) fun ho F0 H0 F ps ex σ H a Q q => h ho F0 H0 F ps ex σ H a _ fun v d F1 H1 ⟨z, e, hz, k⟩ a1 => by
  subst e
  cases a1.top
  exact ⟨z, rfl, Nat.le_trans hz (by decide), q _ _ F1 H1 k (a1.pop.push (.int _))⟩
theorem r2_inS {i j : Str} : R2 (fun x y H Q => ∃ i j, x = .str i ∧ y = .str j ∧ Q (.bl (!(Builtin.Str.occurrences j i 0 j.length 1).isEmpty)) H) (.str i) (.str j) (· = .bl (signIn i j)) := fun F H v w eh hv hw Q q => by
  cases hv
  cases hw
  exact ⟨i, j, rfl, rfl, q _ _ F H rfl (Ext.refl eh) (.bl _)⟩
theorem j_inS (h : Er sl ms (wE X a) fun x => Er sl ms (wE X b) fun y => ∃ i j, x = .str i ∧ y = .str j ∧ R (.bl (signIn i j))) (hm : behindInMarks .In b = false := by first | exact nobehind _ (by decide) (by decide) | rfl) : Er sl ms (wE X (.Compare a [.In] [b] pos)) R :=
  Er.of (pe_cmpR op_in_str pe_w pe_w hm) (er_op' (h.mono fun _ h => h.mono fun _ ⟨_, _, e1, e2, k⟩ => by rw [e1, e2]; exact R2.done r2_inS k))
theorem ji_str {tg : Expr} {K : List D → Prop} (h : Er sl ms (wE X e) fun x => ∃ z, x = .str z ∧ K (signsD z)) : Ei sl ms (wI X tg e) none K := Ei.of (pi_str pe_w) ⟨nofx, fun ho F0 H0 F ps ex σ H a Rr q =>
  h ho F0 H0 F ps ex σ H a _ fun v d F1 H1 ⟨z, e, k⟩ a1 => by
    subst e
    cases a1.top
    refine ⟨z, rfl, q _ F1 H1 [] _ ⟨_, rfl, k⟩ a1.pop fun ps' F2 H2 e2 _ _ => ⟨fun i d hd => ?_, ?_⟩⟩
    · obtain ⟨d, hw, rfl⟩ := walk_d hd
      unfold signsD at hw
      rw [List.getElem?_map, Array.getElem?_toList] at hw
      cases hc : z.cps[i]? with
      | none => rw [hc] at hw; cases hw
      | some c =>
        rw [hc] at hw
        cases hw
        refine ⟨?_, fun x H3 hy => ?_⟩
        · show i < z.cps.size
          exact (Array.getElem?_eq_some_iff.mp hc).1
        · obtain ⟨rfl, c', hc', rfl⟩ := hy
          rw [hc] at hc'
          cases hc'
          exact ⟨F2, Ext.refl e2, .d (.str _)⟩
    · show z.cps.size ≤ _
      unfold signsD
      rw [List.length_map, List.length_map]
      exact Nat.le_of_eq rfl⟩
end
end E
set_option Elab.async false
set_option linter.all false
set_option maxRecDepth 100000
/-! The walk: basics. -/
namespace A
open PySem PySem.Spec PyProof.Rows L2 E
variable [KF]
def top (i : Nat) : Stmt := PySem.Challenge.pw_everyedition_k80_whole_three_editions.main.body.getD i (.Pass ⟨0, 0, 0, 0⟩)
abbrev sc (i : Nat) := defScope (top i)
def gI (mg : Str → Option Value) (x : Str) (i : Int) : Prop := ∃ u, mg x = some u ∧ RelV (.int i) u
def gS (mg : Str → Option Value) (x : Str) (s : Str) : Prop := ∃ u, mg x = some u ∧ RelV (.str s) u
def gK (mg : Str → Option Value) (x : Str) (l : List Str) : Prop := ∃ a, mg x = some (.ref a) ∧ KF.kon a l
theorem own1 {sl : List Sl} {x : Str} {a : Nat} (h : sl[a]? = some .u) : ∀ j ∈ [(x, a)].map (·.2), ∀ s, sl[j]? = some s → s = .u := fun j hj s hs => by
  have e : j = a := by simpa using hj
  rw [e, h] at hs; cases hs; rfl
theorem own2 {sl : List Sl} {x y : Str} {a b : Nat} (h : sl[a]? = some .u) (h' : sl[b]? = some .u) : ∀ j ∈ [(x, a), (y, b)].map (·.2), ∀ s, sl[j]? = some s → s = .u := fun j hj s hs => by
  have e : j = a ∨ j = b := by simpa using hj
  rcases e with e | e
  · rw [e, h] at hs; cases hs; rfl
  · rw [e, h'] at hs; cases hs; rfl
theorem filter_all {α : Type} (l : List α) : l.filter (fun _ => true) = l := by simp
/-! slices -/
theorem cut_from (l : List D) (k : Nat) : cutD l (some (k : Int)) none = l.drop k := by
  unfold E.cutD
  rw [HT.sIx_nat, HT.sIx_none]
  by_cases h : k ≤ l.length
  · rw [Nat.min_eq_left h, List.take_of_length_le (by rw [List.length_drop]; exact Nat.le_refl _)]
  · rw [Nat.min_eq_right (by omega), List.drop_eq_nil_of_le (Nat.le_refl _), List.drop_eq_nil_of_le (by omega), List.take_nil]
theorem cut_to (l : List D) (k : Nat) : cutD l none (some (k : Int)) = l.take k := by
  unfold E.cutD
  rw [HT.sIx_nat, HT.sIx_none]
  by_cases h : k ≤ l.length
  · rw [Nat.min_eq_left h]; rfl
  · rw [Nat.min_eq_right (by omega)]
    show l.take (l.length - 0) = _
    rw [Nat.sub_zero, List.take_of_length_le (Nat.le_refl _), List.take_of_length_le (by omega)]
theorem cut_last (l : List D) (h : 1 ≤ l.length) : cutD l (some (-1)) none = l.drop (l.length - 1) := by
  unfold E.cutD
  rw [HT.sIx_none]
  have e : HT.sIx l.length 0 (some (-1)) = l.length - 1 := by
    unfold HT.sIx
    simp
    omega
  rw [e, List.take_of_length_le (by rw [List.length_drop]; exact Nat.le_refl _)]
theorem cut_1 (l : List D) : cutD l (some 1) none = l.drop 1 := cut_from l 1
/-! items -/
theorem atI_nat {ds : List D} {n : Nat} {d : D} (h : ds[n]? = some d) : L2.atI ds (n : Int) = some d := by
  have hn := (List.getElem?_eq_some_iff.mp h).1
  unfold L2.atI L2.ixN
  rw [if_pos (by omega), if_pos (by omega)]
  exact h
theorem atI_0 {d : D} {ds : List D} : L2.atI (d :: ds) 0 = some d := atI_nat (n := 0) rfl
theorem atI_last {ds : List D} {d : D} (h : ds.getLast? = some d) : L2.atI ds (-1) = some d := by
  have h1 : ds ≠ [] := fun e => by rw [e] at h; cases h
  have hl : 0 < ds.length := List.length_pos_iff.mpr h1
  unfold L2.atI L2.ixN
  rw [if_neg (by omega), if_pos (by omega)]
  show ds[(-1 + (ds.length : Int)).toNat]? = some d
  rw [show (-1 + (ds.length : Int)).toNat = ds.length - 1 by omega, ← List.getLast?_eq_getElem?]
  exact h
theorem ixN_nat {n k : Nat} (h : k < n) : L2.ixN n (k : Int) = some k := by
  unfold L2.ixN
  rw [if_pos (by omega), if_pos (by omega)]
  rfl
theorem j_con {X : Cx} {sl : List Sl} {ms : List Ob} {e : Expr} {es : List Expr} {Rs : List D → Prop} (h : Er sl ms (wE X e) fun d => Ea sl ms (wA X es) fun ds => Rs (d :: ds)) (hs : ∀ (es : List Expr) (env : Env), starEach (e :: es) env = (false, eval e env) :: starEach es env := by intro _ _; rfl) : Ea sl ms (wA X (e :: es)) Rs :=
  j_cons h (hs es X.env)
/-- what the module's names are -/
structure Blt (mg : Str → Option Value) : Prop where
  isi : mg "isinstance" = none
  int : mg "int" = none
  bool : mg "bool" = none
  str : mg "str" = none
  tup : mg "tuple" = none
  len : mg "len" = none
  all : mg "all" = none
  any : mg "any" = none
  enum : mg "enumerate" = none
  max : mg "max" = none
  min : mg "min" = none
  sum : mg "sum" = none
  list : mg "list" = none
  sorted : mg "sorted" = none
  repr : mg "repr" = none
  range : mg "range" = none
  abs : mg "abs" = none
  letters : gS mg "LETTERS" "abcdefghijklmnopqrstuvwxyz"
  DO : gS mg "DO" "do"
  SKIPt : gS mg "SKIP_trees" "skip"
  AGAIN : gS mg "AGAIN" "again"
  ROW : gS mg "ROW" "row"
  PICK : gS mg "PICK" "pick"
  SIDES : gS mg "SIDES" "sides"
  deep : gI mg "MOST_DEEP" 8
  most : gI mg "MOST_DO" 12
  parts : gI mg "MOST_PARTS" 6
def isInt : D → Bool
  | .int _ => true
  | _ => false
def within (x : D) (lo hi : Int) : Bool := match x with
  | .int i => decide (lo ≤ i) && decide (i ≤ hi)
  | _ => false
def sized (x : D) (lo hi : Int) : Bool := match tupO x with
  | some l => decide (lo ≤ (l.length : Int)) && decide ((l.length : Int) ≤ hi)
  | none => false
section
variable {P : Program} {w : World} {K : PySem.W.Frag} [KonK K] {mg : Str → Option Value} {base : Heap}
abbrev sp1 (f : D → D) : Sp := spD 1 (fun _ => True) fun ds d => ∀ x, ds = [x] → d = f x
abbrev sp3i (f : D → Int → Int → D) : Sp := spD 3 (fun ds => ∃ x i j, ds = [x, .int i, .int j]) fun ds d => ∀ x i j, ds = [x, .int i, .int j] → d = f x i j
theorem S_is_integer : FnScope ["thing"] ["thing"] (sc 2) := ⟨rfl, rfl, rfl, by decide +kernel, rfl, by decide +kernel, by decide +kernel⟩
theorem ok_is_integer {f : Addr} {fd : FuncData} (F : Fun K "is_integer" "is_integer" (top 2) f fd) (T : Blt mg) : FnG P w K mg base 1 f fd ["thing"] (sp1 fun x => .bl (isInt x)) := by
  refine ok_D (m := 0) F S_is_integer rfl rfl fun cdv A outer s H E ds hr hl hp => ?_
  match ds, hl with
  | [x], _ =>
  refine jss_one (js_ret (j_and (j_isInt T.isi T.int (j_var 0 rfl rfl ⟨_, rfl, fun e => j_one (j_not (j_isBool T.isi T.bool (j_var 0 rfl rfl ⟨_, rfl, ?_⟩))), fun e => ?_⟩))))
  all_goals
    intro y hy
    cases hy
    cases x <;> first | rfl | cases e
theorem S_is_within : FnScope ["thing", "low", "high"] ["thing", "low", "high"] (sc 3) := ⟨rfl, rfl, rfl, by decide +kernel, rfl, by decide +kernel, by decide +kernel⟩
theorem ok_is_within {f : Addr} {fd : FuncData} (F : Fun K "is_within" "is_within" (top 3) f fd) (T : Blt mg) (c1 : Cl P w K mg base 1 "is_integer" (sp1 fun x => .bl (isInt x))) :
    FnG P w K mg base 2 f fd ["thing", "low", "high"] (sp3i fun x i j => .bl (within x i j)) := by
  refine ok_D (m := 0) F S_is_within rfl rfl fun cdv A outer s H E ds hr hl hp => ?_
  obtain ⟨x, i, j, rfl⟩ := hp
  refine jss_one (js_ret (j_and (j_call c1 hr (by decide) (j_cons (j_var 0 rfl rfl (j_nil ⟨rfl, trivial, fun d hd => ?_⟩))))))
  obtain rfl := hd x rfl
  refine ⟨_, rfl, fun e => j_one (j_chain (j_var 1 rfl rfl (j_var 0 rfl rfl ?_))), fun e => ?_⟩
  · cases x <;> first | cases e | skip
    rename_i z
    refine ⟨_, .le _ _, fun e1 => j_var 2 rfl rfl ⟨_, .le _ _, ?_⟩, fun e1 => ?_⟩
    · intro x i j hy
      cases hy
      show D.bl _ = D.bl (_ && _)
      rw [e1]; rfl
    · intro x i j hy
      cases hy
      show D.bl _ = D.bl (_ && _)
      rw [e1]; rfl
  · intro x i j hy
    cases hy
    cases x <;> first | rfl | cases e
theorem iT_tup {x : D} : iT x = (tupO x).isSome := by cases x <;> rfl
theorem S_is_sized : FnScope ["thing", "low", "high"] ["thing", "low", "high"] (sc 4) := ⟨rfl, rfl, rfl, by decide +kernel, rfl, by decide +kernel, by decide +kernel⟩
theorem ok_is_sized {f : Addr} {fd : FuncData} (F : Fun K "is_sized" "is_sized" (top 4) f fd) (T : Blt mg) :
    FnG P w K mg base 1 f fd ["thing", "low", "high"] (sp3i fun x i j => .bl (sized x i j)) := by
  refine ok_D (m := 0) F S_is_sized rfl rfl fun cdv A outer s H E ds hr hl hp => ?_
  obtain ⟨x, i, j, rfl⟩ := hp
  refine jss_one (js_ret (j_and (j_isTup T.isi T.tup (j_var 0 rfl rfl ⟨_, rfl, fun e => j_one (j_chain (j_var 1 rfl rfl (j_lenT T.len (j_var 0 rfl rfl ?_)))), fun e => ?_⟩))))
  · rw [iT_tup] at e
    cases ht : tupO x with
    | none => rw [ht] at e; cases e
    | some l =>
      have hs : sized x i j = (decide (i ≤ (l.length : Int)) && decide ((l.length : Int) ≤ j)) := by unfold sized; rw [ht]
      refine ⟨l, rfl, _, .le _ _, fun e1 => j_var 2 rfl rfl ⟨_, .le _ _, ?_⟩, fun e1 => ?_⟩
      · intro x i j hy
        cases hy
        show D.bl _ = D.bl (sized _ _ _)
        rw [hs, e1]; rfl
      · intro x i j hy
        cases hy
        show D.bl _ = D.bl (sized _ _ _)
        rw [hs, e1]; rfl
  · intro x' i' j' hy
    cases hy
    rw [iT_tup] at e
    show D.bl _ = D.bl (sized _ _ _)
    have hs : sized x i j = false := by
      unfold sized
      cases ht : tupO x with
      | none => rfl
      | some l => rw [ht] at e; cases e
    rw [hs]
/-- the names that are drawn -/
def Nm (n : Str) : Prop := n = "a" ∨ n = "b" ∨ n = "c" ∨ n = "d" ∨ n = "e"
theorem Nm.ok {n : Str} (h : Nm n) : n.length = 1 ∧ ∃ c, signsD n = [.str c] ∧ signIn c "abcdefghijklmnopqrstuvwxyz" = true := by
  rcases h with rfl | rfl | rfl | rfl | rfl
  all_goals exact ⟨by decide +kernel, _, rfl, by decide +kernel⟩
theorem S_is_name : FnScope ["thing", "sign"] ["thing"] (sc 5) := ⟨rfl, rfl, rfl, by decide +kernel, rfl, by decide +kernel, by decide +kernel⟩
abbrev sp_name : Sp := spD 1 (fun ds => ∃ n, ds = [.str n] ∧ Nm n) fun _ d => d = .bl true
theorem ok_is_name {f : Addr} {fd : FuncData} (F : Fun K "is_name" "is_name" (top 5) f fd) (T : Blt mg) : FnG P w K mg base 1 f fd ["thing"] sp_name := by
  refine ok_D (m := 1) F S_is_name rfl rfl fun cdv A outer s H E ds hr hl hp => ?_
  obtain ⟨n, rfl, hn⟩ := hp
  obtain ⟨h1, c, h2, h3⟩ := hn.ok
  refine jss_one (js_ret (j_and (j_isStr T.isi T.str (j_var 0 rfl rfl ⟨true, rfl, fun _ => ?_, fun e => (by cases e)⟩))))
  refine j_and (j_chain (j_int (j_lenS T.len (j_var 0 rfl rfl ⟨n, rfl, by omega, _, .le _ _, fun e => j_int ⟨_, .le _ _, _, rfl, fun _ => ?_, fun e => ?_⟩, fun e => ?_⟩))))
  · refine j_one (j_all rfl T.all (El.er' (jl_lcF [("sign", 1)] rfl S_is_name.nd (blkOk_by (N := ["thing", "sign"]) (sc := sc 5) (by decide +kernel)) (own1 rfl) (ji_str (j_var 0 rfl rfl ⟨n, rfl, ?_⟩)))))
    rw [h2]
    refine ⟨by simp, fun _ => true, fun d => .bl true, fun d acc hd => ?_, ?_⟩
    · obtain rfl : d = .str c := by simpa using hd
      refine ⟨[1], _, fun s H C cl fp => jg_name 1 S_is_name.nd rfl, fun _ h => h, fun s H C cl fp => jts_nil ⟨rfl, fun _ s H C cl fp => ?_⟩⟩
      exact j_inS (j_var 1 rfl rfl (j_gstr T.letters ⟨_, _, rfl, rfl, by rw [h3]⟩))
    · exact ⟨[true], rfl, rfl⟩
  · rw [h1] at e; cases e
  · rw [h1] at e; cases e
end
end A
set_option Elab.async false
set_option linter.all false
set_option maxRecDepth 100000
/-! Procedures as trees. -/
namespace A
open PySem E
variable [KF]
/-- the words of procedures with parts -/
inductive Wd where
  | row | pick | sides
deriving DecidableEq
def Wd.s : Wd → Str
  | .row => "row"
  | .pick => "pick"
  | .sides => "sides"
inductive Tree where
  | deed (n : Str)
  | skip
  | again (t : Tree)
  | node (w : Wd) (ts : List Tree)
mutual
/-- a thing that is a tree -/
inductive Tr : D → Tree → Prop
  | deed {n : Str} : Nm n → Tr (.tup [.str "do", .str n]) (.deed n)
  | skip : Tr (.tup [.str "skip"]) .skip
  | kon {a : Addr} : KF.kon a ["skip"] → Tr (.kon a ["skip"]) .skip
  | again {d : D} {t : Tree} : Tr d t → Tr (.tup [.str "again", d]) (.again t)
  | node {w : Wd} {ds : List D} {ts : List Tree} : TrL ds ts → 2 ≤ ts.length → Tr (.tup [.str w.s, .tup ds]) (.node w ts)
inductive TrL : List D → List Tree → Prop
  | nil : TrL [] []
  | cons {d : D} {t : Tree} {ds : List D} {ts : List Tree} : Tr d t → TrL ds ts → TrL (d :: ds) (t :: ts)
end
theorem TrL.len : ∀ {ds : List D} {ts : List Tree}, TrL ds ts → ds.length = ts.length
  | _, _, .nil => rfl
  | _, _, .cons _ l => congrArg (· + 1) (TrL.len l)
theorem TrL.get : ∀ {ds : List D} {ts : List Tree} (i : Nat) {t : Tree}, TrL ds ts → ts[i]? = some t → ∃ d, ds[i]? = some d ∧ Tr d t
  | _, _, 0, _, .cons h _, e => by cases e; exact ⟨_, rfl, h⟩
  | _, _, i + 1, _, .cons _ l, e => TrL.get i l (by simpa using e)
theorem TrL.getD : ∀ {ds : List D} {ts : List Tree} (i : Nat) {d : D}, TrL ds ts → ds[i]? = some d → ∃ t, ts[i]? = some t ∧ Tr d t
  | _, _, 0, _, .cons h _, e => by cases e; exact ⟨_, rfl, h⟩
  | _, _, i + 1, _, .cons _ l, e => TrL.getD i l (by simpa using e)
theorem TrL.app : ∀ {ds es : List D} {ts us : List Tree}, TrL ds ts → TrL es us → TrL (ds ++ es) (ts ++ us)
  | _, _, _, _, .nil, s => s
  | _, _, _, _, .cons h l, s => .cons h (TrL.app l s)
theorem TrL.take : ∀ {ds : List D} {ts : List Tree} (n : Nat), TrL ds ts → TrL (ds.take n) (ts.take n)
  | _, _, 0, _ => .nil
  | _, _, _ + 1, .nil => .nil
  | _, _, n + 1, .cons h l => .cons h (TrL.take n l)
theorem TrL.drop : ∀ {ds : List D} {ts : List Tree} (n : Nat), TrL ds ts → TrL (ds.drop n) (ts.drop n)
  | _, _, 0, h => h
  | _, _, _ + 1, .nil => .nil
  | _, _, n + 1, .cons _ l => TrL.drop n l
/-- a tree's word -/
def Tree.word : Tree → Str
  | .deed _ => "do"
  | .skip => "skip"
  | .again _ => "again"
  | .node w _ => w.s
/-- a tree's parts -/
def Tree.kids : Tree → List Tree
  | .again t => [t]
  | .node _ ts => ts
  | _ => []
/-- its items: the word first -/
theorem Tr.items {d : D} {t : Tree} (h : Tr d t) : ∃ r, tupO d = some (.str t.word :: r) ∧ 1 ≤ (D.str t.word :: r).length ∧ (D.str t.word :: r).length ≤ 2 := by
  cases h with
  | deed _ => exact ⟨_, rfl, by simp, by simp⟩
  | skip => exact ⟨_, rfl, by simp, by simp⟩
  | kon _ => exact ⟨[], rfl, by simp, by simp⟩
  | again _ => exact ⟨_, rfl, by simp, by simp⟩
  | node _ _ => exact ⟨_, rfl, by simp, by simp⟩
theorem Tr.word {d : D} {t : Tree} (h : Tr d t) : ∃ ds, tupO d = some ds ∧ L2.atI ds 0 = some (.str t.word) := by
  obtain ⟨r, e, _⟩ := h.items
  exact ⟨_, e, atI_0⟩
mutual
/-- how many deeds, if it is not too deep, and no part too wide -/
def sizeT : Nat → Tree → Option Nat
  | 0, _ => none
  | _ + 1, .deed _ => some 1
  | _ + 1, .skip => some 0
  | k + 1, .again t => sizeT k t
  | k + 1, .node _ ts => if ts.length ≤ 6 then sizeTs k ts else none
def sizeTs : Nat → List Tree → Option Nat
  | _, [] => some 0
  | k, t :: ts => match sizeT k t, sizeTs k ts with
    | some a, some b => some (a + b)
    | _, _ => none
end
/-- as Python has it -/
def optI : Option Nat → D
  | none => .non
  | some n => .int (n : Nat)
/-- what is a procedure -/
def isProc (t : Tree) : Bool := match sizeT 8 t with
  | some n => decide (n ≤ 12)
  | none => false
mutual
def Tree.depth : Tree → Nat
  | .deed _ => 1
  | .skip => 1
  | .again t => t.depth + 1
  | .node _ ts => depths ts + 1
def depths : List Tree → Nat
  | [] => 0
  | t :: ts => max t.depth (depths ts)
end
theorem Wd.inj : ∀ {a b : Wd}, a.s = b.s → a = b := by
  intro a b h
  cases a <;> cases b <;> first | rfl | exact absurd h (by decide +kernel)
theorem Wd.ne (w : Wd) : w.s ≠ "do" ∧ w.s ≠ "skip" ∧ w.s ≠ "again" := by cases w <;> exact ⟨by decide +kernel, by decide +kernel, by decide +kernel⟩
mutual
theorem Tr.uniq : ∀ {d : D} {t u : Tree}, Tr d t → Tr d u → t = u
  | _, _, _, .deed _, h => by
    generalize hd : D.tup [.str "do", .str _] = d at h
    cases h with
    | deed _ => cases hd; rfl
    | skip => first | (injection hd with hd; injection hd with _ hd; cases hd) | cases hd
    | kon _ => cases hd
    | again _ => injection hd with hd; injection hd with hd; injection hd with hd; exact absurd hd (by decide +kernel)
    | @node w _ _ _ _ => injection hd with hd; injection hd with hd; injection hd with hd; exact absurd hd.symm w.ne.1
  | _, _, _, .skip, h => by
    generalize hd : D.tup [.str "skip"] = d at h
    cases h with
    | skip => rfl
    | _ => first | (injection hd with hd; injection hd with _ hd; cases hd) | cases hd
  | _, _, _, .kon _, h => by
    generalize hd : D.kon _ ["skip"] = d at h
    cases h with
    | kon _ => rfl
    | _ => first | (injection hd with hd; injection hd with _ hd; cases hd) | cases hd
  | _, _, _, .again a, h => by
    generalize hd : D.tup [.str "again", _] = d at h
    cases h with
    | deed _ => injection hd with hd; injection hd with hd; injection hd with hd; exact absurd hd (by decide +kernel)
    | skip => first | (injection hd with hd; injection hd with _ hd; cases hd) | cases hd
    | kon _ => cases hd
    | again b => cases hd; rw [Tr.uniq a b]
    | @node w _ _ _ _ => injection hd with hd; injection hd with hd; injection hd with hd; exact absurd hd.symm w.ne.2.2
  | _, _, _, .node (w := w) a _, h => by
    generalize hd : D.tup [.str w.s, .tup _] = d at h
    cases h with
    | deed _ => injection hd with hd; injection hd with hd; injection hd with hd; exact absurd hd w.ne.1
    | skip => first | (injection hd with hd; injection hd with _ hd; cases hd) | cases hd
    | kon _ => cases hd
    | again _ => injection hd with hd; injection hd with hd; injection hd with hd; exact absurd hd w.ne.2.2
    | @node w' _ _ b _ =>
      injection hd with hd
      injection hd with hd hd2
      injection hd with hd
      injection hd2 with hd2
      injection hd2 with hd2
      subst hd2
      rw [Wd.inj hd, TrL.uniq a b]
theorem TrL.uniq : ∀ {ds : List D} {ts us : List Tree}, TrL ds ts → TrL ds us → ts = us
  | _, _, _, .nil, .nil => rfl
  | _, _, _, .cons a l, .cons b m => by rw [Tr.uniq a b, TrL.uniq l m]
end
end A
set_option Elab.async false
set_option linter.all false
set_option maxRecDepth 100000
set_option pp.maxSteps 300
/-! The walk: parts, sizes of procedures. -/
namespace A
open PySem PySem.Spec PyProof.Rows L2 E
variable [KF]
/-! words told apart -/
theorem eqS_word {a b : Str} : decide (a = b) = true ↔ a = b := decide_eq_true_iff
theorem inD_strs {x : Str} : ∀ l : List Str, inD (.str x) (l.map D.str) = decide (x ∈ l)
  | [] => rfl
  | y :: l => by
    have ih := inD_strs (x := x) l
    unfold inD at ih ⊢
    rw [List.map_cons, List.any_cons, ih]
    show ((y == x) || decide (x ∈ l)) = decide (x ∈ y :: l)
    by_cases e : y = x
    · subst e; simp
    · have : ¬ x = y := fun z => e z.symm
      simp [e, this]
theorem flat_strs : ∀ l : List Str, (l.map D.str).all flatD = true
  | [] => rfl
  | _ :: l => by rw [List.map_cons, List.all_cons, flat_strs l]; rfl
theorem Wd.mem (w : Wd) : decide (w.s ∈ (["row", "pick", "sides"] : List Str)) = true := by cases w <;> decide +kernel
section
variable {P : Program} {w : World} {K : PySem.W.Frag} [KonK K] {mg : Str → Option Value} {base : Heap}
abbrev sp_parts : Sp := spD 1 (fun ds => ∃ d t, ds = [d] ∧ Tr d t) fun ds r => ∀ d t, ds = [d] → Tr d t → ∃ es, r = .tup es ∧ TrL es t.kids
theorem S_parts : FnScope ["procedure"] ["procedure"] (sc 21) := ⟨rfl, rfl, rfl, by decide +kernel, rfl, by decide +kernel, by decide +kernel⟩
theorem ok_parts {f : Addr} {fd : FuncData} (F : Fun K "parts_of" "parts_of" (top 21) f fd) (T : Blt mg) : FnG P w K mg base 1 f fd ["procedure"] sp_parts := by
  refine ok_D (m := 0) F S_parts rfl rfl fun cdv A outer s H E ds hr hl hp => ?_
  obtain ⟨d, t, rfl, ht⟩ := hp
  have fin : ∀ r, (∃ es, r = D.tup es ∧ TrL es t.kids) → ∀ d' t', [d] = [d'] → Tr d' t' → ∃ es, r = D.tup es ∧ TrL es t'.kids := fun r h d' t' e h' => by
    cases e
    rw [h'.uniq ht]
    exact h
  obtain ⟨is, e0, e1⟩ := ht.word
  refine jss_cons (js_if (jt_cmp (j_ixO (j_var 0 rfl rfl (j_int ⟨is, _, _, e0, rfl, e1, j_gstr T.AGAIN ⟨_, .eqS _ _, fun e => ?_, fun e => jss_nil ?_⟩⟩)))))
  · have e := of_decide_eq_true e
    cases ht with
    | again h =>
      refine jss_one (js_ret (j_slT (j_var 0 rfl rfl (jo_s (j_int ⟨_, rfl, jo_n ⟨_, rfl, ?_⟩⟩)))))
      rw [cut_1]
      exact fin _ ⟨_, rfl, .cons h .nil⟩
    | deed _ => exact absurd (show ("do" : Str) = "again" from e) (by decide +kernel)
    | skip => exact absurd e (by decide +kernel)
    | kon _ => exact absurd e (by decide +kernel)
    | @node w _ _ _ _ => exact absurd e w.ne.2.2
  · have e := of_decide_eq_false e
    refine jss_one (js_ret (j_if (jt_inD (j_ixO (j_var 0 rfl rfl (j_int ⟨is, _, _, e0, rfl, e1, ?_⟩))))))
    refine j_tup ?_
    refine j_con ?_
    refine j_gstr T.ROW ?_
    refine j_con ?_
    refine j_gstr T.PICK ?_
    refine j_con ?_
    refine j_gstr T.SIDES ?_
    refine j_nil ⟨Nat.le_of_ble_eq_true rfl, _, rfl, rfl, rfl, fun e2 => ?_, fun e2 => ?_⟩
    · have e2 : decide (t.word ∈ (["row", "pick", "sides"] : List Str)) = true := by rw [← inD_strs]; exact e2
      cases ht with
      | @node w es ts l _ => exact j_ixT (j_var 0 rfl rfl (j_int ⟨_, _, _, rfl, rfl, rfl, fin _ ⟨_, rfl, l⟩⟩))
      | deed _ => exact absurd (show decide (("do" : Str) ∈ (["row", "pick", "sides"] : List Str)) = true from e2) (by decide +kernel)
      | skip => exact absurd e2 (by decide +kernel)
      | kon _ => exact absurd e2 (by decide +kernel)
      | again _ => exact absurd rfl e
    · have e2 : decide (t.word ∈ (["row", "pick", "sides"] : List Str)) = false := by rw [← inD_strs]; exact e2
      refine j_tup (j_nil ⟨Nat.le_of_ble_eq_true rfl, fin _ ⟨_, rfl, ?_⟩⟩)
      cases ht with
      | @node w es ts l _ => rw [show decide (Tree.word (.node w ts) ∈ (["row", "pick", "sides"] : List Str)) = true from w.mem] at e2; cases e2
      | deed _ => exact .nil
      | skip => exact .nil
      | kon _ => exact .nil
      | again _ => exact absurd rfl e
abbrev sp_size (n : Nat) : Sp := spD 2 (fun ds => ∃ d t, ∃ k : Nat, ds = [d, .int (k : Nat)] ∧ Tr d t ∧ k ≤ n) fun ds r => ∀ d t (k : Nat), ds = [d, .int (k : Nat)] → Tr d t → r = optI (sizeT k t)
abbrev N_size : List Str := ["thing", "deep", "sizes", "part"]
theorem S_size : FnScope N_size ["thing", "deep"] (sc 23) := ⟨rfl, rfl, rfl, by decide +kernel, rfl, by decide +kernel, by decide +kernel⟩
/-- sizes of parts, in a list -/
theorem sizes_none : ∀ (k : Nat) (ts : List Tree), sizeTs k ts = none ↔ inD .non (ts.map fun t => optI (sizeT k t)) = true
  | k, [] => by rw [sizeTs]; exact ⟨fun h => (by cases h), fun h => (by cases h)⟩
  | k, t :: ts => by
    have ih := sizes_none k ts
    rw [sizeTs]
    unfold inD at ih ⊢
    rw [List.map_cons, List.any_cons]
    cases sizeT k t with
    | none => exact ⟨fun _ => rfl, fun _ => rfl⟩
    | some a =>
      cases h : sizeTs k ts with
      | none => rw [h] at ih; exact ⟨fun _ => by show (false || _) = true; rw [Bool.false_or]; exact ih.mp rfl, fun _ => rfl⟩
      | some b =>
        rw [h] at ih
        refine ⟨fun h => (by cases h), fun h => ?_⟩
        have h : (false || _) = true := h
        rw [Bool.false_or] at h
        exact absurd (ih.mpr h) (by simp)
theorem sizes_some : ∀ (k : Nat) (ts : List Tree) {n : Nat}, sizeTs k ts = some n → ∃ ns : List Int, (ts.map fun t => optI (sizeT k t)) = ns.map D.int ∧ ns.sum = (n : Int)
  | k, [], n, h => by rw [sizeTs] at h; cases h; exact ⟨[], rfl, rfl⟩
  | k, t :: ts, n, h => by
    rw [sizeTs] at h
    cases h1 : sizeT k t with
    | none => rw [h1] at h; cases h
    | some a =>
      cases h2 : sizeTs k ts with
      | none => rw [h1, h2] at h; cases h
      | some b =>
        rw [h1, h2] at h
        cases h
        obtain ⟨ns, e, es⟩ := sizes_some k ts h2
        refine ⟨(a : Int) :: ns, by rw [List.map_cons, List.map_cons, h1, e]; rfl, ?_⟩
        rw [List.sum_cons, es]
        push_cast
        rfl
theorem flat_opts (k : Nat) : ∀ ts : List Tree, (ts.map fun t => optI (sizeT k t)).all flatD = true
  | [] => rfl
  | t :: ts => by
    rw [List.map_cons, List.all_cons, flat_opts k ts]
    cases sizeT k t <;> rfl
/-- the sum over parts -/
theorem size_parts (k : Nat) (t : Tree) (hd : t.word = "again" ∨ ∃ w : Wd, t.word = w.s) : sizeT (k + 1) t = (match t with | .node _ ts => if ts.length ≤ 6 then sizeTs k ts else none | t => sizeTs k t.kids) := by
  cases t with
  | deed n => rcases hd with h | ⟨w, h⟩; exact absurd (show ("do" : Str) = "again" from h) (by decide +kernel); exact absurd (show ("do" : Str) = w.s from h).symm w.ne.1
  | skip => rcases hd with h | ⟨w, h⟩; exact absurd (show ("skip" : Str) = "again" from h) (by decide +kernel); exact absurd (show ("skip" : Str) = w.s from h).symm w.ne.2.1
  | again t =>
    show sizeT k t = sizeTs k [t]
    rw [sizeTs, sizeTs]
    cases sizeT k t <;> rfl
  | node w ts => rw [sizeT]
end
end A
set_option Elab.async false
set_option linter.all false
set_option maxRecDepth 100000
set_option pp.maxSteps 300
/-! The walk: size_of, is_procedure, check_procedure. -/
namespace A
open PySem PySem.Spec PyProof.Rows L2 E
variable [KF]
section
variable {P : Program} {w : World} {K : PySem.W.Frag} [KonK K] {mg : Str → Option Value} {base : Heap}
abbrev spSized : Sp := sp3i fun x i j => .bl (sized x i j)
/-- the sizes of the parts -/
theorem w_sizes {f : Addr} {cdv : Value} {A : Around} {outer : List Env} {s : Shared} {H : Hp} {E : XK} {j m : Nat} {d : D} {t : Tree} {k : Nat} {O : Out} (T : Blt mg) (hr : RoomG j (A.deeper (envOfC "size_of" (defScope (top 23)) s.heap.objs.size f cdv))) (hj : 1 ≤ j) (hm : m ≤ j)
    (cp : Cl P w K mg base 1 "parts_of_trees" sp_parts) {n : Nat} (c : Cl P w K mg base m "size_of" (sp_size n)) (hk : k ≤ n) (ht : Tr d t) (hl : t.kids.length ≤ 1000) (hO : O.rt (optI (sizeTs k t.kids))) :
    Sr [.d d, .d (.int ((k + 1 : Nat) : Int)), .u, .u] [] (wSs (cx P w K mg base N_size "size_of" (top 23) f cdv A outer s H E) ((defBody (top 23)).drop 5)) O := by
  refine jss_cons (js_lc 2 [("part", 3)] rfl S_size.nd rfl (blkOk_by (N := N_size) (sc := sc 23) (by decide +kernel)) (own1 rfl) (ji_tup (j_call cp hr hj (j_cons (j_var 0 rfl rfl (j_nil ⟨rfl, ⟨d, t, rfl, ht⟩, fun r hd => ?_⟩))))))
  obtain ⟨es, rfl, hes⟩ := hd d t rfl ht
  have hel := hes.len
  refine ⟨es, rfl, by omega, fun i acc => acc = (t.kids.take i).map fun t => optI (sizeT k t), rfl, fun i x acc hx hacc => ?_, fun acc hacc => ?_⟩
  · obtain ⟨u, hu, hxu⟩ := hes.getD i hx
    refine ⟨[3], _, fun s H C cl fp => jg_name 3 S_size.nd rfl, fun _ h => h, fun s H C cl fp => jts_nil ⟨fun _ s H C cl fp => ?_, fun z => (by cases z)⟩⟩
    refine j_call c hr hm (j_cons (j_var 3 rfl rfl (j_cons (j_sub (j_var 1 rfl rfl (j_int ⟨_, _, rfl, rfl, ?_⟩))))))
    rw [show ((k + 1 : Nat) : Int) - 1 = (k : Nat) by omega]
    refine j_nil ⟨rfl, ⟨x, u, k, rfl, hxu, hk⟩, fun r hd => ?_⟩
    obtain rfl := hd x u k rfl hxu
    rw [hacc, List.take_add_one, hu, List.map_append]
    rfl
  · rw [hel, List.take_length] at hacc
    subst hacc
    refine jss_one (js_ret (j_if (jt_inD (j_non (j_var 2 rfl rfl ⟨_, rfl, rfl, flat_opts k t.kids, fun e => j_non ?_, fun e => ?_⟩)))))
    · rw [(sizes_none k t.kids).mpr e] at hO
      exact hO
    · cases hs : sizeTs k t.kids with
      | none => rw [(sizes_none k t.kids).mp hs] at e; cases e
      | some v =>
        rw [hs] at hO
        obtain ⟨ns, e1, e2⟩ := sizes_some k t.kids hs
        rw [e1]
        refine j_sum rfl T.sum (j_var 2 rfl rfl ⟨ns, rfl, ?_⟩)
        rw [e2]
        exact hO
theorem ok_size1 {f : Addr} {fd : FuncData} (F : Fun K "size_of" "size_of" (top 23) f fd) (T : Blt mg) (cz : Cl P w K mg base 1 "is_sized" spSized) (cn : Cl P w K mg base 1 "is_name" sp_name) (cp : Cl P w K mg base 1 "parts_of_trees" sp_parts)
    (n : Nat) (c : n = 0 ∨ ∃ n', n = n' + 1 ∧ Cl P w K mg base (n' + 2) "size_of" (sp_size n')) : FnG P w K mg base (n + 2) f fd ["thing", "deep"] (sp_size n) := by
  refine ok_D (m := 2) F S_size rfl rfl fun cdv A outer s H E ds hr hl hp => ?_
  obtain ⟨d, t, k, rfl, ht, hkn⟩ := hp
  have fin : ∀ r, r = optI (sizeT k t) → ∀ d' t' (k' : Nat), [d, .int (k : Nat)] = [d', .int (k' : Nat)] → Tr d' t' → r = optI (sizeT k' t') := fun r h d' t' k' e h' => by
    injection e with e1 e
    injection e with e2 _
    injection e2 with e2
    subst e1
    obtain rfl : k = k' := by omega
    rw [h'.uniq ht]
    exact h
  obtain ⟨r0, e0, hl1, hl2⟩ := ht.items
  refine jss_cons (js_if (jt_w (jw_or (jt_cmp (j_var 1 rfl rfl (j_int ⟨_, .eq _ _, fun e => ?_, fun e => ⟨fun _ => jss_one (js_ret (j_non (fin _ ?_))), fun z => (by cases z)⟩⟩))))))
  rotate_left
  · have e := of_decide_eq_true e
    obtain rfl : k = 0 := by omega
    cases t <;> rfl
  have e := of_decide_eq_false e
  obtain ⟨k, rfl⟩ : ∃ k', k = k' + 1 := ⟨k - 1, by omega⟩
  obtain ⟨n', rfl, cs⟩ := c.resolve_left (by omega)
  refine jw_or (jt_not (jt_val (j_call cz hr (by omega) (j_cons (j_var 0 rfl rfl (j_cons (j_int (j_cons (j_int (j_nil ⟨rfl, ⟨_, _, _, rfl⟩, fun b hd => ?_⟩))))))))))
  obtain rfl := hd _ _ _ rfl
  have hz : sized d 1 2 = true := by
    unfold sized
    rw [e0, Bool.and_eq_true, decide_eq_true_iff, decide_eq_true_iff]
    omega
  refine ⟨true, congrArg D.bl hz, fun _ => ?_, fun z => (by cases z)⟩
  refine jw_or1 (jt_not (jt_val (j_isStr T.isi T.str (j_ixO (j_var 0 rfl rfl (j_int ⟨_, _, _, e0, rfl, atI_0, true, rfl, fun z => (by cases z), fun _ => jss_nil ?_⟩))))))
  refine jss_cons (js_if (jt_cmp (j_lenT T.len (j_var 0 rfl rfl ⟨_, e0, j_int ⟨_, .eq _ _, fun e1 => ?_, fun e1 => jss_nil ?_⟩⟩))))
  · have e1 := of_decide_eq_true e1
    refine jss_one (js_ret (j_if (jt_cmp (j_ixO (j_var 0 rfl rfl (j_int ⟨_, _, _, e0, rfl, atI_0, j_gstr T.SKIPt ⟨_, .eqS _ _, fun e2 => ?_, fun e2 => ?_⟩⟩))))))
    · have e2 := of_decide_eq_true e2
      refine j_int (fin _ ?_)
      cases ht with
      | skip => rfl
      | kon _ => rfl
      | deed _ => exact absurd (show ("do" : Str) = "skip" from e2) (by decide +kernel)
      | again _ => exact absurd (show ("again" : Str) = "skip" from e2) (by decide +kernel)
      | @node w _ _ _ _ => exact absurd e2 w.ne.2.1
    · have e2 := of_decide_eq_false e2
      cases ht with
      | skip => exact absurd rfl e2
      | kon _ => exact absurd rfl e2
      | deed _ => cases e0; simp at e1
      | again _ => cases e0; simp at e1
      | @node w _ _ _ _ => cases e0; simp at e1
  have e1 := of_decide_eq_false e1
  refine jss_cons (js_if (jt_cmp (j_ixO (j_var 0 rfl rfl (j_int ⟨_, _, _, e0, rfl, atI_0, j_gstr T.DO ⟨_, .eqS _ _, fun e2 => ?_, fun e2 => jss_nil ?_⟩⟩)))))
  · have e2 := of_decide_eq_true e2
    cases ht with
    | deed hn =>
      refine jss_one (js_ret (j_if (jt_val (j_call cn hr (by omega) (j_cons (j_ixT (j_var 0 rfl rfl (j_int ⟨_, _, _, rfl, rfl, rfl, j_nil ⟨rfl, ⟨_, rfl, hn⟩, fun b hd => ?_⟩⟩))))))))
      subst hd
      exact ⟨true, rfl, fun _ => j_int (fin _ rfl), fun z => (by cases z)⟩
    | skip => exact absurd (show ("skip" : Str) = "do" from e2) (by decide +kernel)
    | kon _ => exact absurd (show ("skip" : Str) = "do" from e2) (by decide +kernel)
    | again _ => exact absurd (show ("again" : Str) = "do" from e2) (by decide +kernel)
    | @node w _ _ _ _ => exact absurd e2 w.ne.1
  have e2 := of_decide_eq_false e2
  have hw : t.word = "again" ∨ ∃ w : Wd, t.word = w.s := by
    cases ht with
    | deed _ => exact absurd rfl e2
    | skip => cases e0; simp at e1
    | kon _ => cases e0; simp at e1
    | again _ => exact .inl rfl
    | @node w _ _ _ _ => exact .inr ⟨w, rfl⟩
  refine jss_cons (js_if (jt_notInD (j_ixO (j_var 0 rfl rfl (j_int ⟨_, _, _, e0, rfl, atI_0, ?_⟩)))))
  refine j_tup ?_
  refine j_con ?_
  refine j_gstr T.AGAIN ?_
  refine j_con ?_
  refine j_gstr T.ROW ?_
  refine j_con ?_
  refine j_gstr T.PICK ?_
  refine j_con ?_
  refine j_gstr T.SIDES ?_
  have hin : inD (.str t.word) (([("again" : Str), "row", "pick", "sides"] : List Str).map D.str) = true := by
    rw [inD_strs]
    rcases hw with h | ⟨w, h⟩
    · rw [h]; decide +kernel
    · rw [h]; cases w <;> decide +kernel
  refine j_nil ⟨Nat.le_of_ble_eq_true rfl, _, rfl, rfl, rfl, fun e3 => ?_, fun _ => jss_nil ?_⟩
  · have e3 : (!inD (.str t.word) (([("again" : Str), "row", "pick", "sides"] : List Str).map D.str)) = true := e3
    rw [hin] at e3; cases e3
  have hsz := size_parts k t hw
  refine jss_cons (js_if (jt_w (jw_and (jt_cmp (j_ixO (j_var 0 rfl rfl (j_int ⟨_, _, _, e0, rfl, atI_0, j_gstr T.AGAIN ⟨_, .neS _ _, fun e3 => ?_, fun e3 => ⟨fun z => (by cases z), fun _ => jss_nil ?_⟩⟩⟩)))))))
  · have e3 : ¬ t.word = "again" := by simpa using e3
    cases ht with
    | @node w es ts l h2 =>
      refine jw_and1 (jt_not (jt_val (j_call cz hr (by omega) (j_cons (j_ixT (j_var 0 rfl rfl (j_int ⟨_, _, _, rfl, rfl, rfl, j_cons (j_int (j_cons (j_gint T.parts (j_nil ⟨rfl, ⟨_, _, _, rfl⟩, fun b hd => ?_⟩))))⟩)))))))
      obtain rfl := hd _ _ _ rfl
      have hl := l.len
      by_cases h6 : ts.length ≤ 6
      · have hz : sized (.tup es) 2 6 = true := by
          unfold sized
          show (decide ((2 : Int) ≤ (es.length : Int)) && decide ((es.length : Int) ≤ 6)) = true
          rw [Bool.and_eq_true, decide_eq_true_iff, decide_eq_true_iff]
          omega
        refine ⟨true, congrArg D.bl hz, fun z => (by cases z), fun _ => jss_nil (w_sizes T hr (by omega) (by omega) cp cs (by omega) (.node l h2) (by show ts.length ≤ 1000; omega) (fin _ ?_))⟩
        rw [hsz]
        show _ = optI (if ts.length ≤ 6 then sizeTs k ts else none)
        rw [if_pos h6]
        rfl
      · have hz : sized (.tup es) 2 6 = false := by
          unfold sized
          show (decide ((2 : Int) ≤ (es.length : Int)) && decide ((es.length : Int) ≤ 6)) = false
          rw [decide_eq_false (p := (es.length : Int) ≤ 6) (by omega), Bool.and_false]
        refine ⟨false, congrArg D.bl hz, fun _ => jss_one (js_ret (j_non (fin _ ?_))), fun z => (by cases z)⟩
        rw [hsz]
        show _ = optI (if ts.length ≤ 6 then sizeTs k ts else none)
        rw [if_neg h6]
        rfl
    | deed _ => exact absurd rfl e2
    | skip => rcases hw with h | ⟨w, h⟩; exact absurd (show ("skip" : Str) = "again" from h) (by decide +kernel); exact absurd (show ("skip" : Str) = w.s from h).symm w.ne.2.1
    | kon _ => rcases hw with h | ⟨w, h⟩; exact absurd (show ("skip" : Str) = "again" from h) (by decide +kernel); exact absurd (show ("skip" : Str) = w.s from h).symm w.ne.2.1
    | again _ => exact absurd rfl e3
  · have e3 : t.word = "again" := by simpa using e3
    cases ht with
    | again h =>
      refine w_sizes T hr (by omega) (by omega) cp cs (by omega) (.again h) (Nat.le_of_ble_eq_true rfl) (fin _ ?_)
      rw [hsz]
    | deed _ => exact absurd (show ("do" : Str) = "again" from e3) (by decide +kernel)
    | skip => exact absurd (show ("skip" : Str) = "again" from e3) (by decide +kernel)
    | kon _ => exact absurd (show ("skip" : Str) = "again" from e3) (by decide +kernel)
    | @node w _ _ _ _ => exact absurd e3 w.ne.2.2
theorem ok_size {f : Addr} {fd : FuncData} (F : Df K mg "size_of" (top 23) ["thing", "deep"] f fd) (T : Blt mg) (cz : Cl P w K mg base 1 "is_sized" spSized) (cn : Cl P w K mg base 1 "is_name" sp_name) (cp : Cl P w K mg base 1 "parts_of_trees" sp_parts) : ∀ n : Nat, FnG P w K mg base (n + 2) f fd ["thing", "deep"] (sp_size n)
  | 0 => ok_size1 F.fn T cz cn cp 0 (.inl rfl)
  | n + 1 => ok_size1 F.fn T cz cn cp (n + 1) (.inr ⟨n, rfl, F.cl (ok_size F T cz cn cp n)⟩)
abbrev sp_isproc : Sp := spD 1 (fun ds => ∃ d t, ds = [d] ∧ Tr d t) fun ds r => ∀ d t, ds = [d] → Tr d t → r = .bl (isProc t)
theorem S_isproc : FnScope ["thing", "size"] ["thing"] (sc 24) := ⟨rfl, rfl, rfl, by decide +kernel, rfl, by decide +kernel, by decide +kernel⟩
theorem ok_isproc {f : Addr} {fd : FuncData} (F : Fun K "is_procedure" "is_procedure" (top 24) f fd) (T : Blt mg) (cs : Cl P w K mg base 10 "size_of" (sp_size 8)) : FnG P w K mg base 11 f fd ["thing"] sp_isproc := by
  refine ok_D (m := 1) F S_isproc rfl rfl fun cdv A outer s H E ds hr hl hp => ?_
  obtain ⟨d, t, rfl, ht⟩ := hp
  have fin : ∀ r, r = D.bl (isProc t) → ∀ d' t', [d] = [d'] → Tr d' t' → r = .bl (isProc t') := fun r h d' t' e h' => by
    cases e
    rw [h'.uniq ht]
    exact h
  refine jss_cons (js_set 1 S_isproc.nd rfl (j_call cs hr (by decide) (j_cons (j_var 0 rfl rfl (j_cons (j_gint T.deep (j_nil ⟨rfl, ⟨d, t, 8, rfl, ht, by decide⟩, fun r hd => ?_⟩)))))))
  obtain rfl := hd d t 8 rfl ht
  refine jss_one (js_ret (j_and (j_notN (j_var 1 rfl rfl ?_))))
  cases h8 : sizeT 8 t with
  | none => exact ⟨false, rfl, fun z => (by cases z), fun _ => fin _ (by unfold isProc; rw [h8])⟩
  | some n =>
    refine ⟨true, rfl, fun _ => j_one (j_cmp (j_var 1 rfl rfl (j_gint T.most ⟨_, .le _ _, fin _ ?_⟩))), fun z => (by cases z)⟩
    unfold isProc
    rw [h8]
    congr 1
    exact decide_eq_decide.mpr (by omega)
end
end A
set_option Elab.async false
set_option linter.all false
set_option maxRecDepth 100000
set_option pp.maxSteps 300
/-! Paths, parts at paths: plain. -/
namespace A
open PySem E
variable [KF]
mutual
/-- all paths, the tree's own first -/
def pathsT : Tree → List (List Nat)
  | .deed _ => [[]]
  | .skip => [[]]
  | .again t => [] :: (pathsT t).map (0 :: ·)
  | .node _ ts => [] :: pathsFrom 0 ts
def pathsFrom : Nat → List Tree → List (List Nat)
  | _, [] => []
  | k, t :: ts => (pathsT t).map (k :: ·) ++ pathsFrom (k + 1) ts
end
theorem pathsT_kids (t : Tree) : pathsT t = [] :: pathsFrom 0 t.kids := by
  cases t with
  | deed n => rw [pathsT]; rfl
  | skip => rw [pathsT]; rfl
  | again t => rw [pathsT]; show _ = [] :: pathsFrom 0 [t]; rw [pathsFrom, pathsFrom, List.append_nil]
  | node w ts => rw [pathsT]; rfl
abbrev pathD (p : List Nat) : D := .tup (p.map fun i : Nat => D.int ((i : Nat) : Int))
/-- the part at a path -/
def atT : Tree → List Nat → Option Tree
  | t, [] => some t
  | t, i :: p => match t.kids[i]? with
    | some u => atT u p
    | none => none
/-- with other parts -/
def Tree.withKids : Tree → List Tree → Tree
  | .again _, [t] => .again t
  | .node w _, ts => .node w ts
  | t, _ => t
/-- the tree with another part at a path -/
def putT : Tree → List Nat → Tree → Tree
  | _, [], u => u
  | t, i :: p, u => match t.kids[i]? with
    | some v => t.withKids (t.kids.take i ++ [putT v p u] ++ t.kids.drop (i + 1))
    | none => t
theorem depths_mem : ∀ {ts : List Tree} {t : Tree}, t ∈ ts → t.depth ≤ depths ts
  | u :: ts, t, h => by
    rw [depths]
    rcases List.mem_cons.mp h with rfl | h
    · omega
    · have := depths_mem h; omega
theorem kid_depth {t u : Tree} (h : u ∈ t.kids) : u.depth < t.depth := by
  cases t with
  | deed n => cases h
  | skip => cases h
  | again v =>
    obtain rfl : u = v := by simpa [Tree.kids] using h
    rw [Tree.depth]; omega
  | node w ts =>
    have := depths_mem (ts := ts) h
    rw [Tree.depth]; omega
/-- a tree whose parts are wide enough -/
theorem pathsFrom_split (ts : List Tree) : ∀ (k i : Nat) {t : Tree}, ts[i]? = some t → pathsFrom k (ts.take (i + 1)) = pathsFrom k (ts.take i) ++ (pathsT t).map ((k + i) :: ·) := by
  induction ts with
  | nil => intro k i t h; cases h
  | cons u ts ih =>
    intro k i t h
    cases i with
    | zero =>
      obtain rfl : u = t := by simpa using h
      rw [List.take_zero]
      show pathsFrom k [u] = _
      rw [pathsFrom, pathsFrom, pathsFrom, List.append_nil]
      rfl
    | succ i =>
      have := ih (k + 1) i (by simpa using h)
      rw [List.take_succ_cons, List.take_succ_cons, pathsFrom, pathsFrom, this, List.append_assoc, show k + 1 + i = k + (i + 1) by omega]
end A
set_option Elab.async false
set_option linter.all false
set_option maxRecDepth 100000
set_option pp.maxSteps 300
/-! The walk: parts_of (edits), all_paths, part_on, is_path, put_at. -/
namespace A
open PySem PySem.Spec PyProof.Rows L2 E
variable [KF]
theorem word_skip (w : Wd) : ¬ ("skip" : Str) = w.s := fun h => w.ne.2.1 h.symm
theorem word_do (w : Wd) : ¬ ("do" : Str) = w.s := fun h => w.ne.1 h.symm
theorem word_again (w : Wd) : ¬ ("again" : Str) = w.s := fun h => w.ne.2.2 h.symm
/-- the module's tuples of this part -/
structure BltE (mg : Str → Option Value) : Prop where
  lists : gK mg "LISTS_edits" ["row", "pick", "sides"]
  skip : gK mg "SKIP_edits" ["skip"]
mutual
theorem path_len : ∀ {t : Tree} {p : List Nat}, p ∈ pathsT t → p.length < t.depth
  | .deed n, p, h => by rw [pathsT] at h; obtain rfl : p = [] := (by simpa using h); rw [Tree.depth]; exact Nat.zero_lt_one
  | .skip, p, h => by rw [pathsT] at h; obtain rfl : p = [] := (by simpa using h); rw [Tree.depth]; exact Nat.zero_lt_one
  | .again t, p, h => by
    rw [pathsT] at h
    rw [Tree.depth]
    rcases List.mem_cons.mp h with rfl | h
    · exact Nat.succ_pos _
    · obtain ⟨q, hq, rfl⟩ := List.mem_map.mp h
      have := path_len hq
      rw [List.length_cons]; omega
  | .node w ts, p, h => by
    rw [pathsT] at h
    rw [Tree.depth]
    rcases List.mem_cons.mp h with rfl | h
    · exact Nat.succ_pos _
    · have := paths_len h; omega
theorem paths_len : ∀ {k : Nat} {ts : List Tree} {p : List Nat}, p ∈ pathsFrom k ts → p.length ≤ depths ts
  | _, [], p, h => by rw [pathsFrom] at h; cases h
  | k, t :: ts, p, h => by
    rw [pathsFrom] at h
    rw [depths]
    rcases List.mem_append.mp h with h | h
    · obtain ⟨q, hq, rfl⟩ := List.mem_map.mp h
      have := path_len hq
      rw [List.length_cons]; omega
    · have := paths_len h; omega
end
section
variable {P : Program} {w : World} {K : PySem.W.Frag} [KonK K] {mg : Str → Option Value} {base : Heap}
theorem S_partsE : FnScope ["procedure"] ["procedure"] (sc 31) := ⟨rfl, rfl, rfl, by decide +kernel, rfl, by decide +kernel, by decide +kernel⟩
theorem ok_partsE {f : Addr} {fd : FuncData} (F : Fun K "parts_of" "parts_of" (top 31) f fd) (T : Blt mg) (TE : BltE mg) : FnG P w K mg base 1 f fd ["procedure"] sp_parts := by
  refine ok_D (m := 0) F S_partsE rfl rfl fun cdv A outer s H E ds hr hl hp => ?_
  obtain ⟨d, t, rfl, ht⟩ := hp
  have fin : ∀ r, (∃ es, r = D.tup es ∧ TrL es t.kids) → ∀ d' t', [d] = [d'] → Tr d' t' → ∃ es, r = D.tup es ∧ TrL es t'.kids := fun r h d' t' e h' => by
    cases e
    rw [h'.uniq ht]
    exact h
  obtain ⟨la, lm, lk⟩ := TE.lists
  obtain ⟨is, e0, e1⟩ := ht.word
  refine jss_cons (js_if (jt_cmp (j_ixO (j_var 0 rfl rfl (j_int ⟨is, _, _, e0, rfl, e1, j_str ⟨_, .eqS _ _, fun e => ?_, fun e => jss_nil ?_⟩⟩)))))
  · have e := of_decide_eq_true e
    cases ht with
    | again h => exact jss_one (js_ret (j_tup (j_cons (j_ixT (j_var 0 rfl rfl (j_int ⟨_, _, _, rfl, rfl, rfl, j_nil ⟨Nat.le_of_ble_eq_true rfl, fin _ ⟨_, rfl, .cons h .nil⟩⟩⟩))))))
    | deed _ => exact absurd (show ("do" : Str) = "again" from e) (by decide +kernel)
    | skip => exact absurd (show ("skip" : Str) = "again" from e) (by decide +kernel)
    | kon _ => exact absurd (show ("skip" : Str) = "again" from e) (by decide +kernel)
    | @node w _ _ _ _ => exact absurd e w.ne.2.2
  · have e := of_decide_eq_false e
    refine jss_one (js_ret (j_if (jt_inD (j_ixO (j_var 0 rfl rfl (j_int ⟨is, _, _, e0, rfl, e1, j_gkon lm lk ⟨_, rfl, rfl, rfl, fun e2 => ?_, fun e2 => ?_⟩⟩))))))
    · have e2 : decide (t.word ∈ (["row", "pick", "sides"] : List Str)) = true := by rw [← inD_strs]; exact e2
      cases ht with
      | @node w es ts l _ => exact j_ixT (j_var 0 rfl rfl (j_int ⟨_, _, _, rfl, rfl, rfl, fin _ ⟨_, rfl, l⟩⟩))
      | deed _ => exact absurd (show decide (("do" : Str) ∈ (["row", "pick", "sides"] : List Str)) = true from e2) (by decide +kernel)
      | skip => exact absurd (show decide (("skip" : Str) ∈ (["row", "pick", "sides"] : List Str)) = true from e2) (by decide +kernel)
      | kon _ => exact absurd (show decide (("skip" : Str) ∈ (["row", "pick", "sides"] : List Str)) = true from e2) (by decide +kernel)
      | again _ => exact absurd rfl e
    · have e2 : decide (t.word ∈ (["row", "pick", "sides"] : List Str)) = false := by rw [← inD_strs]; exact e2
      refine j_tup (j_nil ⟨Nat.le_of_ble_eq_true rfl, fin _ ⟨_, rfl, ?_⟩⟩)
      cases ht with
      | @node w es ts l _ => rw [show decide (Tree.word (.node w ts) ∈ (["row", "pick", "sides"] : List Str)) = true from w.mem] at e2; cases e2
      | deed _ => exact .nil
      | skip => exact .nil
      | kon _ => exact .nil
      | again _ => exact absurd rfl e
/-! all_paths -/
abbrev sp_paths (n : Nat) : Sp := spD 1 (fun ds => ∃ d t, ds = [d] ∧ Tr d t ∧ t.depth ≤ n ∧ t.depth ≤ 1000 ∧ (pathsT t).length ≤ 1000) fun ds r => ∀ d t, ds = [d] → Tr d t → r = .lst ((pathsT t).map pathD)
abbrev N_paths : List Str := ["procedure", "found", "index", "part", "path"]
theorem S_paths : FnScope N_paths ["procedure"] (sc 33) := ⟨rfl, rfl, rfl, by decide +kernel, rfl, by decide +kernel, by decide +kernel⟩
theorem ok_paths1 {f : Addr} {fd : FuncData} (F : Fun K "all_paths" "all_paths" (top 33) f fd) (T : Blt mg) (cp : Cl P w K mg base 1 "parts_of_edits" sp_parts) (n : Nat) (c : n = 0 ∨ ∃ n', n = n' + 1 ∧ Cl P w K mg base (n' + 2) "all_paths" (sp_paths n')) : FnG P w K mg base (n + 2) f fd ["procedure"] (sp_paths n) := by
  refine ok_D (m := 4) F S_paths rfl rfl fun cdv A outer s H E ds hr hl hp => ?_
  obtain ⟨d, t, rfl, ht, hdp, hdk, hlen⟩ := hp
  have fin : ∀ r, r = D.lst ((pathsT t).map pathD) → ∀ d' t', [d] = [d'] → Tr d' t' → r = .lst ((pathsT t').map pathD) := fun r h d' t' e h' => by
    cases e
    rw [h'.uniq ht]
    exact h
  rw [pathsT_kids, List.length_cons] at hlen
  have hpre : ∀ i, (pathsFrom 0 (t.kids.take i)).length ≤ (pathsFrom 0 t.kids).length := fun i => by
    have : ∀ (k : Nat) (a b : List Tree), pathsFrom k (a ++ b) = pathsFrom k a ++ pathsFrom (k + a.length) b := fun k a b => by
      induction a generalizing k with
      | nil => rw [pathsFrom]; rfl
      | cons u a ih => rw [List.cons_append, pathsFrom, pathsFrom, ih, List.append_assoc, List.length_cons, show k + 1 + a.length = k + (a.length + 1) by omega]
    have h := this 0 (t.kids.take i) (t.kids.drop i)
    rw [List.take_append_drop] at h
    rw [h, List.length_append]; omega
  refine jss_cons (js_setL 1 S_paths.nd rfl (jl_lst (j_cons (j_tup (j_nil ⟨Nat.zero_le _, j_nil ⟨Nat.le_of_ble_eq_true rfl, ?_⟩⟩)))))
  refine jss_cons (js_for PassesOwn.never rfl (ji_enumT T.enum (j_call cp hr (by omega) (j_cons (j_var 0 rfl rfl (j_nil ⟨rfl, ⟨d, t, rfl, ht⟩, fun r hd => ?_⟩))))))
  obtain ⟨es, rfl, hes⟩ := hd d t rfl ht
  have hel := hes.len
  refine ⟨es, rfl, ?_⟩
  refine ⟨fun i sl ms => ∃ t2 t3, sl = [.d d, .m 0, t2, t3, .u] ∧ ms = [.l (([] :: pathsFrom 0 (t.kids.take i)).map pathD)], ⟨.u, .u, rfl, rfl⟩, ?_, ?_⟩
  · rintro i x sl1 ms1 hx ⟨t2, t3, rfl, rfl⟩
    obtain ⟨y, hy, rfl⟩ := enumD_get hx
    obtain ⟨u, hu, hyu⟩ := hes.getD i hy
    have hud := kid_depth (List.mem_of_getElem? hu)
    obtain ⟨n', rfl, cs⟩ := c.resolve_left (by omega)
    have hsp := pathsFrom_split t.kids 0 i hu
    have hli := hpre (i + 1)
    rw [hsp, List.length_append, List.length_map] at hli
    refine ⟨_, _, jg_tup rfl (jgs_cons (jg_name 2 S_paths.nd rfl) (jgs_cons (jg_name 3 S_paths.nd rfl) jgs_nil)), ?_⟩
    refine jss_one (js_extend 1 rfl rfl rfl (El.er' (jl_lcF [("path", 4)] rfl S_paths.nd (blkOk_by (N := N_paths) (sc := sc 33) (by decide +kernel)) (own1 rfl) (ji_lst (j_call cs hr (by omega) (j_cons (j_var 3 rfl rfl (j_nil ⟨rfl, ⟨y, u, rfl, hyu, by omega, by omega, by omega⟩, fun r hd => ?_⟩))))))))
    obtain rfl := hd y u rfl hyu
    refine ⟨_, rfl, by rw [List.length_map]; omega, fun _ => true, fun z => .tup (D.int (i : Nat) :: (match z with | .tup l => l | _ => [])), fun z acc hz => ?_, ?_⟩
    · obtain ⟨p, hp, rfl⟩ := List.mem_map.mp hz
      have hpl := path_len hp
      refine ⟨[4], _, fun s H C cl fp => jg_name 4 S_paths.nd rfl, fun _ h => h, fun s H C cl fp => jts_nil ⟨rfl, fun _ s H C cl fp => ?_⟩⟩
      refine j_cat (j_tup (j_cons (j_var 2 rfl rfl (j_nil ⟨Nat.le_of_ble_eq_true rfl, j_var 4 rfl rfl ⟨_, _, rfl, rfl, ?_, rfl⟩⟩))))
      rw [List.length_map]
      show 1 + p.length ≤ 100000
      omega
    · rw [filter_all, List.map_map]
      have hpl := hpre i
      refine ⟨_, rfl, ?_, _, _, rfl, ?_⟩
      · rw [List.length_map, List.length_map, List.length_cons]; omega
      · rw [hsp]
        show [Ob.l (([] :: pathsFrom 0 (t.kids.take i)).map pathD ++ (pathsT u).map _)] = [Ob.l (([] :: (pathsFrom 0 (t.kids.take i) ++ (pathsT u).map ((0 + i) :: ·))).map pathD)]
        rw [List.map_cons, List.map_cons, List.map_append, List.map_map, List.cons_append, Nat.zero_add]
        rfl
  · rintro sl1 ms1 ⟨t2, t3, rfl, rfl⟩
    rw [enumFrom_len, hel, List.take_length]
    exact jss_one (js_retM 1 rfl rfl rfl (fin _ (by rw [pathsT_kids])))
theorem ok_paths {f : Addr} {fd : FuncData} (F : Df K mg "all_paths" (top 33) ["procedure"] f fd) (T : Blt mg) (cp : Cl P w K mg base 1 "parts_of_edits" sp_parts) : ∀ n : Nat, FnG P w K mg base (n + 2) f fd ["procedure"] (sp_paths n)
  | 0 => ok_paths1 F.fn T cp 0 (.inl rfl)
  | n + 1 => ok_paths1 F.fn T cp (n + 1) (.inr ⟨n, rfl, F.cl (ok_paths F T cp n)⟩)
/-! part_on: the part at a path, None if there is none -/
abbrev intsD (p : List Int) : D := .tup (p.map D.int)
/-- .. at a path of any whole numbers -/
def atI' : Tree → List Int → Option Tree
  | t, [] => some t
  | t, i :: p => if 0 ≤ i then (match t.kids[i.toNat]? with
    | some u => atI' u p
    | none => none) else none
/-- what stands for what may not be -/
def OptTr (r : D) (o : Option Tree) : Prop := match o with
  | some u => Tr r u
  | none => r = .non
abbrev sp_on : Sp := spD 2 (fun ds => ∃ d t p, ds = [d, intsD p] ∧ Tr d t) fun ds r => ∀ d t p, ds = [d, intsD p] → Tr d t → OptTr r (atI' t p)
abbrev N_on : List Str := ["procedure", "path", "index", "parts"]
theorem S_on : FnScope N_on ["procedure", "path"] (sc 34) := ⟨rfl, rfl, rfl, by decide +kernel, rfl, by decide +kernel, by decide +kernel⟩
theorem ints_inj {p q : List Int} (h : intsD p = intsD q) : p = q := by
  injection h with h
  have : ∀ {p q : List Int}, p.map D.int = q.map D.int → p = q := by
    intro p
    induction p with
    | nil => intro q h; cases q with | nil => rfl | cons _ _ => cases h
    | cons a p ih =>
      intro q h
      cases q with
      | nil => cases h
      | cons b q =>
        injection h with h1 h2
        injection h1 with h1
        rw [h1, ih h2]
  exact this h
theorem ok_on {f : Addr} {fd : FuncData} (F : Fun K "part_on" "part_on" (top 34) f fd) (T : Blt mg) (cp : Cl P w K mg base 1 "parts_of_edits" sp_parts) (cw : Cl P w K mg base 2 "is_within" (sp3i fun x i j => .bl (within x i j))) : FnG P w K mg base 3 f fd ["procedure", "path"] sp_on := by
  refine ok_D (m := 2) F S_on rfl rfl fun cdv A outer s H E ds hr hl hp => ?_
  obtain ⟨d, t, p, rfl, ht⟩ := hp
  have fin : ∀ r, OptTr r (atI' t p) → ∀ d' t' p', [d, intsD p] = [d', intsD p'] → Tr d' t' → OptTr r (atI' t' p') := fun r h d' t' p' e h' => by
    injection e with e1 e
    injection e with e2 _
    subst e1
    rw [← ints_inj e2, h'.uniq ht]
    exact h
  refine jss_cons (js_for PassesOwn.never rfl (ji_tup (j_var 1 rfl rfl ⟨p.map D.int, rfl, ?_⟩)))
  refine ⟨fun i sl ms => ∃ e u t2 t3, sl = [.d e, .d (intsD p), t2, t3] ∧ ms = [] ∧ Tr e u ∧ atI' t p = atI' u (p.drop i), ⟨d, t, .u, .u, rfl, rfl, ht, rfl⟩, ?_, ?_⟩
  · rintro i x sl1 ms1 hx ⟨e, u, t2, t3, rfl, rfl, hu, hat⟩
    rw [List.getElem?_map] at hx
    cases hpi : p[i]? with
    | none => rw [hpi] at hx; cases hx
    | some z =>
      rw [hpi] at hx
      cases hx
      have hpl := (List.getElem?_eq_some_iff.mp hpi).1
      have hdr : p.drop i = z :: p.drop (i + 1) := by
        rw [List.drop_eq_getElem_cons hpl]
        congr 1
        rw [List.getElem?_eq_getElem hpl] at hpi
        exact Option.some.inj hpi
      rw [hdr] at hat
      refine ⟨_, _, jg_name 2 S_on.nd rfl, ?_⟩
      refine jss_cons (js_set 3 S_on.nd rfl (j_call cp hr (by decide) (j_cons (j_var 0 rfl rfl (j_nil ⟨rfl, ⟨e, u, rfl, hu⟩, fun r hd => ?_⟩)))))
      obtain ⟨es, rfl, hes⟩ := hd e u rfl hu
      have hel := hes.len
      refine jss_cons (js_if (jt_not (jt_val (j_call cw hr (by decide) (j_cons (j_var 2 rfl rfl (j_cons (j_int (j_cons (j_sub (j_lenT T.len (j_var 3 rfl rfl ⟨es, rfl, j_int ⟨_, _, rfl, rfl, j_nil ⟨rfl, ⟨_, _, _, rfl⟩, fun b hd => ?_⟩⟩⟩))))))))))))
      obtain rfl := hd _ _ _ rfl
      refine ⟨_, rfl, fun e1 => jss_one (js_ret (j_non (fin _ ?_))), fun e1 => jss_nil ?_⟩
      · have e1 : within (.int z) 0 ((es.length : Int) - 1) = false := by simpa using e1
        rw [hat, atI']
        by_cases h0 : 0 ≤ z
        · rw [if_pos h0]
          have : ¬ z ≤ (es.length : Int) - 1 := fun h => by
            have : within (.int z) 0 ((es.length : Int) - 1) = true := by
              show (decide (0 ≤ z) && decide (z ≤ (es.length : Int) - 1)) = true
              rw [decide_eq_true h0, decide_eq_true h]; rfl
            rw [this] at e1; cases e1
          rw [List.getElem?_eq_none (by omega)]
          rfl
        · rw [if_neg h0]; rfl
      · have e1 : within (.int z) 0 ((es.length : Int) - 1) = true := by simpa using e1
        have e1 : (decide (0 ≤ z) && decide (z ≤ (es.length : Int) - 1)) = true := e1
        rw [Bool.and_eq_true, decide_eq_true_iff, decide_eq_true_iff] at e1
        obtain ⟨v, hv, hvt⟩ : ∃ v, es[z.toNat]? = some v ∧ ∃ w, u.kids[z.toNat]? = some w ∧ Tr v w := by
          have hz : z.toNat < es.length := by omega
          exact ⟨_, List.getElem?_eq_getElem hz, hes.getD _ (List.getElem?_eq_getElem hz)⟩
        obtain ⟨w, hw, hvw⟩ := hvt
        refine jss_one (js_set 0 S_on.nd rfl (j_ixT (j_var 3 rfl rfl (j_var 2 rfl rfl ⟨es, z, v, rfl, rfl, ?_, ?_⟩))))
        · have := atI_nat hv
          rwa [show ((z.toNat : Nat) : Int) = z by omega] at this
        · refine ⟨v, w, _, _, rfl, rfl, hvw, ?_⟩
          rw [hat, atI', if_pos e1.1, hw]
  · rintro sl1 ms1 ⟨e, u, t2, t3, rfl, rfl, hu, hat⟩
    rw [List.length_map, List.drop_length, atI'] at hat
    exact jss_one (js_ret (j_var 0 rfl rfl (fin _ (by rw [hat]; exact hu))))
/-! is_path -/
abbrev sp_isp : Sp := spD 2 (fun ds => ∃ d t p, ds = [d, intsD p] ∧ Tr d t) fun ds r => ∀ d t p, ds = [d, intsD p] → Tr d t → r = .bl (atI' t p).isSome
theorem S_isp : FnScope ["procedure", "thing"] ["procedure", "thing"] (sc 35) := ⟨rfl, rfl, rfl, by decide +kernel, rfl, by decide +kernel, by decide +kernel⟩
theorem Tr.notN {d : D} {t : Tree} (h : Tr d t) : E.isN d = false := by cases h <;> rfl
theorem OptTr.isN {r : D} {o : Option Tree} (h : OptTr r o) : E.isN r = !o.isSome := by
  cases o with
  | none => have h : r = .non := h; rw [h]; rfl
  | some u => exact Tr.notN h
theorem ok_isp {f : Addr} {fd : FuncData} (F : Fun K "is_path" "is_path" (top 35) f fd) (T : Blt mg) (co : Cl P w K mg base 3 "part_on" sp_on) : FnG P w K mg base 4 f fd ["procedure", "thing"] sp_isp := by
  refine ok_D (m := 0) F S_isp rfl rfl fun cdv A outer s H E ds hr hl hp => ?_
  obtain ⟨d, t, p, rfl, ht⟩ := hp
  refine jss_one (js_ret (j_and (j_isTup T.isi T.tup (j_var 1 rfl rfl ⟨true, rfl, fun _ => ?_, fun z => (by cases z)⟩))))
  refine j_one (j_notN (j_call co hr (by decide) (j_cons (j_var 0 rfl rfl (j_cons (j_var 1 rfl rfl (j_nil ⟨rfl, ⟨d, t, p, rfl, ht⟩, fun r hd => ?_⟩)))))))
  have h := hd d t p rfl ht
  intro d' t' p' e h'
  injection e with e1 e
  injection e with e2 _
  subst e1
  rw [← ints_inj e2, h'.uniq ht, h.isN, Bool.not_not]
end
end A
set_option Elab.async false
set_option linter.all false
set_option maxRecDepth 100000
set_option pp.maxSteps 300
/-! The walk: put_at; the changes, plain. -/
namespace A
open PySem PySem.Spec PyProof.Rows L2 E
variable [KF]
theorem pathD_ints (p : List Nat) : pathD p = intsD (p.map fun i : Nat => (i : Int)) := by
  show D.tup _ = D.tup _
  rw [List.map_map]
  rfl
theorem atI_path : ∀ (t : Tree) (p : List Nat), atI' t (p.map fun i : Nat => (i : Int)) = atT t p
  | t, [] => rfl
  | t, i :: p => by
    rw [List.map_cons, atI', atT, if_pos (by omega), Int.toNat_natCast]
    cases t.kids[i]? with
    | none => rfl
    | some u => exact atI_path u p
theorem path_inj {p q : List Nat} (h : pathD p = pathD q) : p = q := by
  rw [pathD_ints, pathD_ints] at h
  have h := ints_inj h
  have : ∀ {p q : List Nat}, (p.map fun i : Nat => (i : Int)) = (q.map fun i : Nat => (i : Int)) → p = q := by
    intro p
    induction p with
    | nil => intro q h; cases q with | nil => rfl | cons _ _ => cases h
    | cons a p ih =>
      intro q h
      cases q with
      | nil => cases h
      | cons b q =>
        injection h with h1 h2
        rw [ih h2, show a = b from Int.ofNat.inj h1]
  exact this h
theorem shaped_intsD (p : List Int) : SeqAt.shaped (toP (intsD p)) = true := by
  obtain ⟨h1, h2⟩ := lay_ints p
  simp [SeqAt.shaped, toP, PyData.canLay0, PyData.depth, h1, h2]
theorem eqv_intsD (p q : List Int) : PyData.eqv (toP (intsD p)) (toP (intsD q)) = decide (p = q) := by rw [toP, toP, PyData.eqv, eqv_ints]
/-- no part has too many parts -/
def Wide (t : Tree) : Prop := ∀ q u, atT t q = some u → u.kids.length ≤ 1000
theorem Wide.kid {t v : Tree} {i : Nat} (h : Wide t) (hv : t.kids[i]? = some v) : Wide v := fun q u e => h (i :: q) u (by rw [atT, hv]; exact e)
section
variable {P : Program} {w : World} {K : PySem.W.Frag} [KonK K] {mg : Str → Option Value} {base : Heap}
abbrev sp_put (n : Nat) : Sp := spD 3 (fun ds => ∃ d t p e u, ds = [d, pathD p, e] ∧ Tr d t ∧ Tr e u ∧ p.length ≤ n ∧ (atT t p).isSome ∧ p.length ≤ 1000 ∧ Wide t) fun ds r => ∀ d t p e u, ds = [d, pathD p, e] → Tr d t → Tr e u → Tr r (putT t p u)
theorem hu_of {j : Nat} {A : Around} (hr : RoomG j A) : A.units + 64 < cLine := Nat.lt_of_le_of_lt (Nat.add_le_add_left (by decide) _) (hr.mono (Nat.zero_le j)).rm.un
abbrev N_put : List Str := ["procedure", "path", "part", "parts", "inner"]
theorem S_put : FnScope N_put ["procedure", "path", "part"] (sc 36) := ⟨rfl, rfl, rfl, by decide +kernel, rfl, by decide +kernel, by decide +kernel⟩
theorem eqv_path (p : List Nat) : PyData.eqv (toP (pathD p)) (toP (.tup [])) = decide (p = []) := by
  rw [pathD_ints, show (D.tup [] : D) = intsD [] from rfl, eqv_intsD]
  cases p with
  | nil => rfl
  | cons a p => rfl
theorem ok_put1 {f : Addr} {fd : FuncData} (F : Fun K "put_at" "put_at" (top 36) f fd) (T : Blt mg) (cp : Cl P w K mg base 1 "parts_of_edits" sp_parts) (n : Nat) (c : n = 0 ∨ ∃ n', n = n' + 1 ∧ Cl P w K mg base (n' + 2) "put_at" (sp_put n')) : FnG P w K mg base (n + 2) f fd ["procedure", "path", "part"] (sp_put n) := by
  refine ok_D (m := 2) F S_put rfl rfl fun cdv A outer s H E ds hr hl hp => ?_
  obtain ⟨d, t, p, e, u, rfl, ht, hu, hpn, hat, hpk, htk⟩ := hp
  have fin : ∀ r, Tr r (putT t p u) → ∀ d' t' p' e' u', [d, pathD p, e] = [d', pathD p', e'] → Tr d' t' → Tr e' u' → Tr r (putT t' p' u') := fun r h d' t' p' e' u' q h' hu' => by
    injection q with q1 q
    injection q with q2 q
    injection q with q3 _
    subst q1 q3
    rw [← path_inj q2, h'.uniq ht, hu'.uniq hu]
    exact h
  have hux : (cx P w K mg base N_put "put_at" (top 36) f cdv A outer s H E).A.units + 64 < cLine := hu_of hr
  refine jss_cons (js_if (jt_eqA hux (j_var 1 rfl rfl (j_tup (j_nil ⟨Nat.le_of_ble_eq_true rfl, (by rw [pathD_ints]; exact shaped_intsD _), shaped_intsD [], ?_⟩)))))
  rw [eqv_path]
  refine ⟨fun e1 => ?_, fun e1 => jss_nil ?_⟩
  · have e1 := of_decide_eq_true e1
    subst e1
    exact jss_one (js_ret (j_var 2 rfl rfl (fin _ hu)))
  have e1 := of_decide_eq_false e1
  obtain ⟨i, p, rfl⟩ : ∃ i q, p = i :: q := by
    cases p with
    | nil => exact absurd rfl e1
    | cons i q => exact ⟨i, q, rfl⟩
  rw [atT] at hat
  obtain ⟨v, hv⟩ : ∃ v, t.kids[i]? = some v := by
    cases h : t.kids[i]? with
    | none => rw [h] at hat; cases hat
    | some v => exact ⟨v, rfl⟩
  rw [hv] at hat
  have hit := (List.getElem?_eq_some_iff.mp hv).1
  rw [List.length_cons] at hpn hpk
  obtain ⟨n', rfl, cs⟩ := c.resolve_left (by omega)
  refine jss_cons (js_set 3 S_put.nd rfl (j_call cp hr (by omega) (j_cons (j_var 0 rfl rfl (j_nil ⟨rfl, ⟨d, t, rfl, ht⟩, fun r hd => ?_⟩)))))
  obtain ⟨es, rfl, hes⟩ := hd d t rfl ht
  have hel := hes.len
  obtain ⟨x, hx, hxv⟩ := hes.get i hv
  refine jss_cons (js_set 4 S_put.nd rfl (j_call cs hr (by omega) (j_cons (j_ixT (j_var 3 rfl rfl (j_ixT (j_var 1 rfl rfl (j_int ⟨_, _, .int (i : Nat), rfl, rfl, atI_0, _, _, x, rfl, rfl, atI_nat hx, ?_⟩))))))))
  refine j_cons (j_slT (j_var 1 rfl rfl (jo_s (j_int ⟨_, rfl, jo_n ⟨_, rfl, ?_⟩⟩))))
  rw [cut_1]
  show Ea _ _ _ fun ds => _
  refine j_cons (j_var 2 rfl rfl (j_nil ⟨rfl, ⟨x, v, p, e, u, rfl, hxv, hu, by omega, hat, by omega, htk.kid hv⟩, fun r hd => ?_⟩))
  have hr' := hd x v p e u rfl hxv hu
  obtain ⟨is, e0, e2⟩ := ht.word
  have hput : putT t (i :: p) u = t.withKids (t.kids.take i ++ [putT v p u] ++ t.kids.drop (i + 1)) := by rw [putT, hv]
  refine jss_cons (js_if (jt_cmp (j_ixO (j_var 0 rfl rfl (j_int ⟨is, _, _, e0, rfl, e2, j_str ⟨_, .eqS _ _, fun e3 => ?_, fun e3 => jss_nil ?_⟩⟩)))))
  · have e3 := of_decide_eq_true e3
    refine jss_one (js_ret (j_tup (j_cons (j_str (j_cons (j_var 4 rfl rfl (j_nil ⟨Nat.le_of_ble_eq_true rfl, fin _ ?_⟩)))))))
    rw [hput]
    cases ht with
    | again h =>
      obtain rfl : i = 0 := by
        have : i < 1 := hit
        omega
      exact .again hr'
    | deed _ => cases hv
    | skip => cases hv
    | kon _ => cases hv
    | @node w _ _ _ _ => exact absurd e3 w.ne.2.2
  · have e3 := of_decide_eq_false e3
    cases ht with
    | @node w es' ts l h2 =>
      cases e0
      have hk : ts.length ≤ 1000 := htk [] _ rfl
      have hel : es.length = ts.length := hel
      refine jss_one (js_ret (j_tup (j_cons (j_ixT (j_var 0 rfl rfl (j_int ⟨_, _, _, rfl, rfl, rfl, ?_⟩))))))
      refine j_cons (j_cat (j_cat (j_slT (j_var 3 rfl rfl (jo_n (jo_s (j_ixT (j_var 1 rfl rfl (j_int ⟨_, _, .int (i : Nat), rfl, rfl, atI_0, _, rfl, _, rfl, ?_⟩)))))))))
      rw [cut_to]
      refine j_tup (j_cons (j_var 4 rfl rfl (j_nil ⟨Nat.le_of_ble_eq_true rfl, _, _, rfl, rfl, ?_, ?_⟩)))
      · rw [List.length_take]
        show min i es.length + 1 ≤ 100000
        omega
      refine j_slT (j_var 3 rfl rfl (jo_s (j_add (j_ixT (j_var 1 rfl rfl (j_int ⟨_, _, .int (i : Nat), rfl, rfl, atI_0, j_int ⟨_, _, rfl, rfl, _, rfl, jo_n ⟨es, rfl, _, _, rfl, rfl, ?_, ?_⟩⟩⟩))))))
      · rw [show ((i : Nat) : Int) + 1 = ((i + 1 : Nat) : Int) from rfl, cut_from, List.length_append, List.length_take, List.length_drop]
        show min i es.length + 1 + (es.length - (i + 1)) ≤ 100000
        omega
      rw [show ((i : Nat) : Int) + 1 = ((i + 1 : Nat) : Int) from rfl, cut_from]
      refine j_nil ⟨Nat.le_of_ble_eq_true rfl, fin _ ?_⟩
      rw [hput]
      have hit : i < ts.length := hit
      exact .node (((hes.take i).app (.cons hr' .nil)).app (hes.drop (i + 1))) (by rw [List.length_append, List.length_append, List.length_take, List.length_drop]; show 2 ≤ min i ts.length + 1 + (ts.length - (i + 1)); omega)
    | deed _ => cases hv
    | skip => cases hv
    | kon _ => cases hv
    | again _ => exact absurd rfl e3
theorem ok_put {f : Addr} {fd : FuncData} (F : Df K mg "put_at" (top 36) ["procedure", "path", "part"] f fd) (T : Blt mg) (cp : Cl P w K mg base 1 "parts_of_edits" sp_parts) : ∀ n : Nat, FnG P w K mg base (n + 2) f fd ["procedure", "path", "part"] (sp_put n)
  | 0 => ok_put1 F.fn T cp 0 (.inl rfl)
  | n + 1 => ok_put1 F.fn T cp (n + 1) (.inr ⟨n, rfl, F.cl (ok_put F T cp n)⟩)
end
end A
set_option Elab.async false
set_option linter.all false
set_option maxRecDepth 100000
set_option pp.maxSteps 300
/-! The walk: what changes come to. -/
namespace A
open PySem PySem.Spec PyProof.Rows L2 E
variable [KF]
inductive PW where
  | free | once | order | round | sides
deriving DecidableEq
def PW.s : PW → Str
  | .free => "free" | .once => "once" | .order => "order" | .round => "round" | .sides => "sides"
inductive IW where
  | lose | shut | turn
deriving DecidableEq
def IW.s : IW → Str
  | .lose => "lose" | .shut => "shut" | .turn => "turn"
/-- a change of a kind that is told -/
inductive Chg where
  | pl (w : PW) (q : List Nat)
  | ix (w : IW) (q : List Nat) (k : Nat)
def Chg.path : Chg → List Nat
  | .pl _ q => q
  | .ix _ q _ => q
def chD : Chg → D
  | .pl w p => .tup [.str w.s, pathD p]
  | .ix w p k => .tup [.str w.s, pathD p, .int ((k : Nat) : Int)]
def leftT (ws : List Str) : Tree → Nat → Option Tree
  | .node w ts, k => if w.s ∈ ws ∧ k < ts.length then (match ts.eraseIdx k with
    | [u] => some u
    | r => some (.node w r)) else none
  | _, _ => none
def turnT : Tree → Nat → Option Tree
  | .node .row ts, k => match ts[k]?, ts[k + 1]? with
    | some a, some b => some (.node .row (ts.take k ++ [b, a] ++ ts.drop (k + 2)))
    | _, _ => none
  | _, _ => none
def bareT : PW → Tree → Option Tree
  | .free, t => some (.node .pick [t, .skip])
  | .round, t => some (.again t)
  | .once, .again t => some t
  | .sides, .node .row ts => some (.node .sides ts)
  | .order, .node .sides ts => some (.node .row ts)
  | _, _ => none
def locT (t : Tree) : Chg → Option Tree
  | .pl w _ => bareT w t
  | .ix .shut _ k => leftT ["pick"] t k
  | .ix .lose _ k => leftT ["row", "sides"] t k
  | .ix .turn _ k => turnT t k
/-- what comes of a change, none if it can't be done -/
def outT (t : Tree) (c : Chg) : Option Tree := match atT t c.path with
  | none => none
  | some u => match locT u c with
    | none => none
    | some v => if isProc (putT t c.path v) = true then some (putT t c.path v) else none
theorem OptTr.some {r : D} {u : Tree} (h : Tr r u) : OptTr r (some u) := h
theorem OptTr.none : OptTr .non none := rfl
/-- a word that is none of procedures with parts -/
theorem Tr.two {d : D} {t : Tree} (h : Tr d t) {ws : List Str} (hw : t.word ∈ ws) (hn : ("do" : Str) ∉ ws) (hs : ("skip" : Str) ∉ ws) (ha : ("again" : Str) ∉ ws) : ∃ w es ts, d = .tup [.str (Wd.s w), .tup es] ∧ t = .node w ts ∧ TrL es ts ∧ 2 ≤ ts.length := by
  cases h with
  | deed _ => exact absurd hw hn
  | skip => exact absurd hw hs
  | kon _ => exact absurd hw hs
  | again _ => exact absurd hw ha
  | node l h2 => exact ⟨_, _, _, rfl, rfl, l, h2⟩
section
variable {P : Program} {w : World} {K : PySem.W.Frag} [KonK K] {mg : Str → Option Value} {base : Heap}
abbrev sp_left : Sp := spD 3 (fun ds => ∃ (ws : List Str) (d : D) (t : Tree) (k : Nat), ds = [.tup (ws.map D.str), d, .int (k : Nat)] ∧ Tr d t ∧ t.kids.length ≤ 1000 ∧ ("do" : Str) ∉ ws ∧ ("skip" : Str) ∉ ws ∧ ("again" : Str) ∉ ws) fun ds r => ∀ (ws : List Str) (d : D) (t : Tree) (k : Nat), ds = [.tup (ws.map D.str), d, .int (k : Nat)] → Tr d t → OptTr r (leftT ws t k)
abbrev N_left : List Str := ["told", "here", "index", "parts"]
theorem S_left : FnScope N_left ["told", "here", "index"] (sc 39) := ⟨rfl, rfl, rfl, by decide +kernel, rfl, by decide +kernel, by decide +kernel⟩
theorem strs_inj : ∀ {a b : List Str}, a.map D.str = b.map D.str → a = b
  | [], [], _ => rfl
  | [], _ :: _, h => by cases h
  | _ :: _, [], h => by cases h
  | x :: a, y :: b, h => by
    injection h with h1 h2
    injection h1 with h1
    rw [h1, strs_inj h2]
theorem ok_left {f : Addr} {fd : FuncData} (F : Fun K "left_out" "left_out" (top 39) f fd) (T : Blt mg) (cw : Cl P w K mg base 2 "is_within" (sp3i fun x i j => .bl (within x i j))) : FnG P w K mg base 3 f fd ["told", "here", "index"] sp_left := by
  refine ok_D (m := 1) F S_left rfl rfl fun cdv A outer s H E ds hr hl hp => ?_
  obtain ⟨ws, d, t, k, rfl, ht, hk, n1, n2, n3⟩ := hp
  have fin : ∀ r, OptTr r (leftT ws t k) → ∀ ws' d' t' (k' : Nat), [D.tup (ws.map D.str), d, .int (k : Nat)] = [.tup (ws'.map D.str), d', .int (k' : Nat)] → Tr d' t' → OptTr r (leftT ws' t' k') := fun r h ws' d' t' k' q h' => by
    injection q with q1 q
    injection q with q2 q
    injection q with q3 _
    injection q1 with q1
    injection q3 with q3
    subst q2
    rw [← strs_inj q1, h'.uniq ht, ← Int.ofNat.inj q3]
    exact h
  obtain ⟨is, e0, e1⟩ := ht.word
  refine jss_cons (js_if (jt_w (jw_or (jt_notInD (j_ixO (j_var 1 rfl rfl (j_int ⟨is, _, _, e0, rfl, e1, j_var 0 rfl rfl ⟨_, rfl, rfl, flat_strs ws, ?_⟩⟩)))))))
  rw [inD_strs]
  refine ⟨fun e => ?_, fun e => ⟨fun _ => jss_one (js_ret (j_non (fin _ ?_))), fun z => (by cases z)⟩⟩
  · have hw : t.word ∈ ws := by simpa using e
    obtain ⟨w, es, ts, rfl, rfl, l, h2⟩ := ht.two hw n1 n2 n3
    have hel := l.len
    have hk : ts.length ≤ 1000 := hk
    refine jw_or1 (jt_not (jt_val (j_call cw hr (by decide) (j_cons (j_var 2 rfl rfl (j_cons (j_int (j_cons (j_sub (j_lenT T.len (j_ixT (j_var 1 rfl rfl (j_int ⟨_, _, _, rfl, rfl, rfl, es, rfl, j_int ⟨_, _, rfl, rfl, j_nil ⟨rfl, ⟨_, _, _, rfl⟩, fun b hd => ?_⟩⟩⟩)))))))))))))
    obtain rfl := hd _ _ _ rfl
    by_cases hlt : k < ts.length
    · have hz : within (.int (k : Nat)) 0 ((es.length : Int) - 1) = true := by
        show (decide ((0 : Int) ≤ (k : Nat)) && decide (((k : Nat) : Int) ≤ (es.length : Int) - 1)) = true
        rw [decide_eq_true (by omega), decide_eq_true (by omega)]; rfl
      refine ⟨true, congrArg D.bl hz, fun z => (by cases z), fun _ => jss_nil ?_⟩
      refine jss_cons (js_set 3 S_left.nd rfl (j_cat (j_slT (j_ixT (j_var 1 rfl rfl (j_int ⟨_, _, _, rfl, rfl, rfl, jo_n (jo_s (j_var 2 rfl rfl ⟨_, rfl, es, rfl, ?_⟩))⟩))))))
      rw [cut_to]
      refine j_slT (j_ixT (j_var 1 rfl rfl (j_int ⟨_, _, _, rfl, rfl, rfl, jo_s (j_add (j_var 2 rfl rfl (j_int ⟨_, _, rfl, rfl, _, rfl, jo_n ⟨es, rfl, _, _, rfl, rfl, ?_, ?_⟩⟩)))⟩)))
      · rw [show ((k : Nat) : Int) + 1 = ((k + 1 : Nat) : Int) from rfl, cut_from, List.length_take, List.length_drop]; omega
      rw [show ((k : Nat) : Int) + 1 = ((k + 1 : Nat) : Int) from rfl, cut_from]
      have hlt' : leftT ws (.node w ts) k = (match ts.eraseIdx k with | [u] => some u | r => some (.node w r)) := by
        rw [leftT, if_pos ⟨hw, hlt⟩]
      have her : TrL (es.take k ++ es.drop (k + 1)) (ts.eraseIdx k) := by
        rw [List.eraseIdx_eq_take_drop_succ]
        exact (l.take k).app (l.drop (k + 1))
      have hl1 := her.len
      have hl2 : (ts.eraseIdx k).length = ts.length - 1 := List.length_eraseIdx_of_lt hlt
      refine jss_one (js_ret (j_if (jt_cmp (j_lenT T.len (j_var 3 rfl rfl ⟨_, rfl, j_int ⟨_, .eq _ _, fun e2 => ?_, fun e2 => ?_⟩⟩)))))
      · have e2 := of_decide_eq_true e2
        obtain ⟨u, hu⟩ : ∃ u, ts.eraseIdx k = [u] := List.length_eq_one_iff.mp (by omega)
        rw [hu] at her hlt'
        generalize es.take k ++ es.drop (k + 1) = r at her
        cases her with
        | cons h1 h2 =>
          cases h2
          exact j_ixT (j_var 3 rfl rfl (j_int ⟨_, _, _, rfl, rfl, rfl, fin _ (by rw [hlt']; exact h1)⟩))
      · have e2 := of_decide_eq_false e2
        refine j_tup (j_cons (j_ixT (j_var 1 rfl rfl (j_int ⟨_, _, _, rfl, rfl, rfl, j_cons (j_var 3 rfl rfl (j_nil ⟨Nat.le_of_ble_eq_true rfl, fin _ ?_⟩))⟩))))
        rw [hlt']
        have h3 : 2 ≤ (ts.eraseIdx k).length := by omega
        generalize ts.eraseIdx k = r at her h3
        match r, h3, her with
        | a :: b :: r, _, her => exact .node her (by simp)
    · have hz : within (.int (k : Nat)) 0 ((es.length : Int) - 1) = false := by
        show (decide ((0 : Int) ≤ (k : Nat)) && decide (((k : Nat) : Int) ≤ (es.length : Int) - 1)) = false
        rw [decide_eq_false (p := ((k : Nat) : Int) ≤ (es.length : Int) - 1) (by omega), Bool.and_false]
      refine ⟨false, congrArg D.bl hz, fun _ => jss_one (js_ret (j_non (fin _ ?_))), fun z => (by cases z)⟩
      rw [leftT, if_neg fun h => hlt h.2]
      exact OptTr.none
  · have hw : t.word ∉ ws := by simpa using e
    cases t with
    | node w ts => rw [leftT, if_neg fun h => hw h.1]; exact OptTr.none
    | _ => exact OptTr.none
end
end A
set_option Elab.async false
set_option linter.all false
set_option maxRecDepth 100000
set_option pp.maxSteps 300
/-! The walk: turned_round, bare_change, indexed_change, local_change. -/
namespace A
open PySem PySem.Spec PyProof.Rows L2 E
variable [KF]
section
variable {P : Program} {w : World} {K : PySem.W.Frag} [KonK K] {mg : Str → Option Value} {base : Heap}
abbrev sp_turn : Sp := spD 2 (fun ds => ∃ (d : D) (t : Tree) (k : Nat), ds = [d, .int (k : Nat)] ∧ Tr d t ∧ t.kids.length ≤ 1000) fun ds r => ∀ (d : D) (t : Tree) (k : Nat), ds = [d, .int (k : Nat)] → Tr d t → OptTr r (turnT t k)
theorem S_turn : FnScope ["here", "index", "parts"] ["here", "index"] (sc 40) := ⟨rfl, rfl, rfl, by decide +kernel, rfl, by decide +kernel, by decide +kernel⟩
theorem turn_none {t : Tree} {k : Nat} (h : t.word ≠ "row") : turnT t k = none := by
  cases t with
  | node w ts =>
    cases w with
    | row => exact absurd rfl h
    | _ => rfl
  | _ => rfl
theorem Tr.row {d : D} {t : Tree} (h : Tr d t) (hw : t.word = "row") : ∃ es ts, d = .tup [.str "row", .tup es] ∧ t = .node .row ts ∧ TrL es ts ∧ 2 ≤ ts.length := by
  obtain ⟨w, es, ts, e1, rfl, l, h2⟩ := h.two (ws := ["row"]) (by rw [hw]; exact List.mem_cons_self) (by decide +kernel) (by decide +kernel) (by decide +kernel)
  have : w = .row := Wd.inj (b := .row) hw
  subst this
  exact ⟨es, ts, e1, rfl, l, h2⟩
theorem ok_turn {f : Addr} {fd : FuncData} (F : Fun K "turned_round" "turned_round" (top 40) f fd) (T : Blt mg) (cw : Cl P w K mg base 2 "is_within" (sp3i fun x i j => .bl (within x i j))) : FnG P w K mg base 3 f fd ["here", "index"] sp_turn := by
  refine ok_D (m := 1) F S_turn rfl rfl fun cdv A outer s H E ds hr hl hp => ?_
  obtain ⟨d, t, k, rfl, ht, hk⟩ := hp
  have fin : ∀ r, OptTr r (turnT t k) → ∀ (d' : D) (t' : Tree) (k' : Nat), [d, D.int (k : Nat)] = [d', .int (k' : Nat)] → Tr d' t' → OptTr r (turnT t' k') := fun r h d' t' k' q h' => by
    injection q with q2 q
    injection q with q3 _
    injection q3 with q3
    subst q2
    rw [h'.uniq ht, ← Int.ofNat.inj q3]
    exact h
  obtain ⟨is, e0, e1⟩ := ht.word
  refine jss_cons (js_if (jt_w (jw_or (jt_cmp (j_ixO (j_var 0 rfl rfl (j_int ⟨is, _, _, e0, rfl, e1, j_str ⟨_, .neS _ _, fun e => ?_, fun e => ⟨fun _ => jss_one (js_ret (j_non (fin _ ?_))), fun z => (by cases z)⟩⟩⟩)))))))
  · have hw : t.word = "row" := by simpa using e
    obtain ⟨es, ts, rfl, rfl, l, h2⟩ := ht.row hw
    have hel := l.len
    have hk : ts.length ≤ 1000 := hk
    refine jw_or1 (jt_not (jt_val (j_call cw hr (by decide) (j_cons (j_var 1 rfl rfl (j_cons (j_int (j_cons (j_sub (j_lenT T.len (j_ixT (j_var 0 rfl rfl (j_int ⟨_, _, _, rfl, rfl, rfl, es, rfl, j_int ⟨_, _, rfl, rfl, j_nil ⟨rfl, ⟨_, _, _, rfl⟩, fun b hd => ?_⟩⟩⟩)))))))))))))
    obtain rfl := hd _ _ _ rfl
    by_cases hlt : k + 1 < ts.length
    · have hz : within (.int (k : Nat)) 0 ((es.length : Int) - 2) = true := by
        show (decide ((0 : Int) ≤ (k : Nat)) && decide (((k : Nat) : Int) ≤ (es.length : Int) - 2)) = true
        rw [decide_eq_true (by omega), decide_eq_true (by omega)]; rfl
      refine ⟨true, congrArg D.bl hz, fun z => (by cases z), fun _ => jss_nil ?_⟩
      obtain ⟨a, ha⟩ : ∃ a, es[k]? = some a := ⟨_, List.getElem?_eq_getElem (by omega)⟩
      obtain ⟨b, hb⟩ : ∃ b, es[k + 1]? = some b := ⟨_, List.getElem?_eq_getElem (by omega)⟩
      obtain ⟨ta, hta, hta'⟩ := l.getD k ha
      obtain ⟨tb, htb, htb'⟩ := l.getD (k + 1) hb
      refine jss_cons (js_set 2 S_turn.nd rfl (j_ixT (j_var 0 rfl rfl (j_int ⟨_, _, _, rfl, rfl, rfl, ?_⟩))))
      refine jss_one (js_ret (j_tup (j_cons (j_str (j_cons (j_cat (j_cat (j_slT (j_var 2 rfl rfl (jo_n (jo_s (j_var 1 rfl rfl ⟨_, rfl, es, rfl, ?_⟩))))))))))))
      rw [cut_to]
      refine j_tup (j_cons (j_ixT (j_var 2 rfl rfl (j_add (j_var 1 rfl rfl (j_int ⟨_, _, rfl, rfl, es, _, b, rfl, rfl, ?_, ?_⟩))))))
      · exact atI_nat (n := k + 1) hb
      refine j_cons (j_ixT (j_var 2 rfl rfl (j_var 1 rfl rfl ⟨es, _, a, rfl, rfl, atI_nat ha, ?_⟩)))
      refine j_nil ⟨Nat.le_of_ble_eq_true rfl, _, _, rfl, rfl, ?_, ?_⟩
      · rw [List.length_take]; show min k es.length + 2 ≤ 100000; omega
      refine j_slT (j_var 2 rfl rfl (jo_s (j_add (j_var 1 rfl rfl (j_int ⟨_, _, rfl, rfl, _, rfl, jo_n ⟨es, rfl, _, _, rfl, rfl, ?_, ?_⟩⟩)))))
      · rw [show ((k : Nat) : Int) + 2 = ((k + 2 : Nat) : Int) from rfl, cut_from, List.length_append, List.length_take, List.length_drop]; show min k es.length + 2 + _ ≤ 100000; omega
      rw [show ((k : Nat) : Int) + 2 = ((k + 2 : Nat) : Int) from rfl, cut_from]
      refine j_nil ⟨Nat.le_of_ble_eq_true rfl, fin _ ?_⟩
      have he : turnT (.node .row ts) k = some (.node .row (ts.take k ++ [tb, ta] ++ ts.drop (k + 2))) := by rw [turnT, hta, htb]
      rw [he]
      exact Tr.node (w := .row) (((l.take k).app (.cons htb' (.cons hta' .nil))).app (l.drop (k + 2))) (by rw [List.length_append, List.length_append]; show 2 ≤ _ + 2 + _; omega)
    · have hz : within (.int (k : Nat)) 0 ((es.length : Int) - 2) = false := by
        show (decide ((0 : Int) ≤ (k : Nat)) && decide (((k : Nat) : Int) ≤ (es.length : Int) - 2)) = false
        rw [decide_eq_false (p := ((k : Nat) : Int) ≤ (es.length : Int) - 2) (by omega), Bool.and_false]
      refine ⟨false, congrArg D.bl hz, fun _ => jss_one (js_ret (j_non (fin _ ?_))), fun z => (by cases z)⟩
      have he : turnT (.node .row ts) k = none := by
        rw [turnT, List.getElem?_eq_none (l := ts) (i := k + 1) (by omega)]
        cases ts[k]? <;> rfl
      rw [he]
      exact OptTr.none
  · rw [turn_none (by simpa using e)]
    exact OptTr.none
/-! bare_change -/
abbrev sp_bare : Sp := spD 2 (fun ds => ∃ (d : D) (t : Tree) (v : PW), ds = [d, .str v.s] ∧ Tr d t) fun ds r => ∀ (d : D) (t : Tree) (v : PW), ds = [d, .str v.s] → Tr d t → OptTr r (bareT v t)
theorem S_bare : FnScope ["here", "word"] ["here", "word"] (sc 41) := ⟨rfl, rfl, rfl, by decide +kernel, rfl, by decide +kernel, by decide +kernel⟩
theorem PW.inj : ∀ {a b : PW}, a.s = b.s → a = b := by
  intro a b h
  cases a <;> cases b <;> first | rfl | exact absurd h (by decide +kernel)
theorem IW.inj : ∀ {a b : IW}, a.s = b.s → a = b := by
  intro a b h
  cases a <;> cases b <;> first | rfl | exact absurd h (by decide +kernel)
theorem Tr.side {d : D} {t : Tree} (h : Tr d t) (hw : t.word = "sides") : ∃ es ts, d = .tup [.str "sides", .tup es] ∧ t = .node .sides ts ∧ TrL es ts ∧ 2 ≤ ts.length := by
  obtain ⟨w, es, ts, e1, rfl, l, h2⟩ := h.two (ws := ["sides"]) (by rw [hw]; exact List.mem_cons_self) (by decide +kernel) (by decide +kernel) (by decide +kernel)
  have : w = .sides := Wd.inj (b := .sides) hw
  subst this
  exact ⟨es, ts, e1, rfl, l, h2⟩
theorem ok_bare {f : Addr} {fd : FuncData} (F : Fun K "bare_change" "bare_change" (top 41) f fd) (T : Blt mg) (TE : BltE mg) : FnG P w K mg base 1 f fd ["here", "word"] sp_bare := by
  refine ok_D (m := 0) F S_bare rfl rfl fun cdv A outer s H E ds hr hl hp => ?_
  obtain ⟨d, t, v, rfl, ht⟩ := hp
  have fin : ∀ r, OptTr r (bareT v t) → ∀ (d' : D) (t' : Tree) (v' : PW), [d, D.str v.s] = [d', .str v'.s] → Tr d' t' → OptTr r (bareT v' t') := fun r h d' t' v' q h' => by
    injection q with q2 q
    injection q with q3 _
    injection q3 with q3
    subst q2
    rw [h'.uniq ht, ← PW.inj q3]
    exact h
  obtain ⟨sa, sm, sk⟩ := TE.skip
  obtain ⟨is, e0, e1⟩ := ht.word
  refine jss_cons (js_if (jt_cmp (j_var 1 rfl rfl (j_str ⟨_, .eqS _ _, fun e => ?_, fun e => jss_nil ?_⟩))))
  · obtain rfl : v = .free := PW.inj (of_decide_eq_true e)
    refine jss_one (js_ret (j_tup ?_))
    refine j_con ?_
    refine j_str ?_
    refine j_con ?_
    refine j_tup ?_
    refine j_con ?_
    refine j_var 0 rfl rfl ?_
    refine j_con ?_
    refine j_gkon sm sk ?_
    refine j_nil ⟨Nat.le_of_ble_eq_true rfl, j_nil ⟨Nat.le_of_ble_eq_true rfl, fin _ ?_⟩⟩
    exact Tr.node (w := .pick) (.cons ht (.cons (.kon sk) .nil)) (by simp)
  have n1 : v ≠ .free := fun h => (of_decide_eq_false e) (by rw [h]; rfl)
  refine jss_cons (js_if (jt_cmp (j_var 1 rfl rfl (j_str ⟨_, .eqS _ _, fun e => ?_, fun e => jss_nil ?_⟩))))
  · obtain rfl : v = .round := PW.inj (of_decide_eq_true e)
    exact jss_one (js_ret (j_tup (j_cons (j_str (j_cons (j_var 0 rfl rfl (j_nil ⟨Nat.le_of_ble_eq_true rfl, fin _ (Tr.again ht)⟩)))))))
  have n2 : v ≠ .round := fun h => (of_decide_eq_false e) (by rw [h]; rfl)
  refine jss_cons (js_if (jt_cmp (j_var 1 rfl rfl (j_str ⟨_, .eqS _ _, fun e => ?_, fun e => jss_nil ?_⟩))))
  · obtain rfl : v = .once := PW.inj (of_decide_eq_true e)
    refine jss_one (js_ret (j_if (jt_cmp (j_ixO (j_var 0 rfl rfl (j_int ⟨is, _, _, e0, rfl, e1, j_str ⟨_, .eqS _ _, fun e2 => ?_, fun e2 => j_non (fin _ ?_)⟩⟩))))))
    · have e2 := of_decide_eq_true e2
      cases ht with
      | again h => exact j_ixT (j_var 0 rfl rfl (j_int ⟨_, _, _, rfl, rfl, rfl, fin _ h⟩))
      | deed _ => exact absurd (show ("do" : Str) = "again" from e2) (by decide +kernel)
      | skip => exact absurd (show ("skip" : Str) = "again" from e2) (by decide +kernel)
      | kon _ => exact absurd (show ("skip" : Str) = "again" from e2) (by decide +kernel)
      | @node w _ _ _ _ => exact absurd e2 w.ne.2.2
    · have e2 := of_decide_eq_false e2
      cases t with
      | again u => exact absurd rfl e2
      | _ => exact OptTr.none
  have n3 : v ≠ .once := fun h => (of_decide_eq_false e) (by rw [h]; rfl)
  refine jss_cons (js_if (jt_cmp (j_var 1 rfl rfl (j_str ⟨_, .eqS _ _, fun e => ?_, fun e => jss_nil ?_⟩))))
  · obtain rfl : v = .sides := PW.inj (of_decide_eq_true e)
    refine jss_one (js_ret (j_if (jt_cmp (j_ixO (j_var 0 rfl rfl (j_int ⟨is, _, _, e0, rfl, e1, j_str ⟨_, .eqS _ _, fun e2 => ?_, fun e2 => j_non (fin _ ?_)⟩⟩))))))
    · obtain ⟨es, ts, rfl, rfl, l, h2⟩ := ht.row (of_decide_eq_true e2)
      exact j_tup (j_cons (j_str (j_cons (j_ixT (j_var 0 rfl rfl (j_int ⟨_, _, _, rfl, rfl, rfl, j_nil ⟨Nat.le_of_ble_eq_true rfl, fin _ (Tr.node (w := .sides) l h2)⟩⟩))))))
    · have e2 := of_decide_eq_false e2
      cases t with
      | node w ts =>
        cases w with
        | row => exact absurd rfl e2
        | _ => exact OptTr.none
      | _ => exact OptTr.none
  have n4 : v ≠ .sides := fun h => (of_decide_eq_false e) (by rw [h]; rfl)
  obtain rfl : v = .order := by cases v <;> first | rfl | exact absurd rfl n1 | exact absurd rfl n2 | exact absurd rfl n3 | exact absurd rfl n4
  refine jss_one (js_ret (j_if (jt_cmp (j_ixO (j_var 0 rfl rfl (j_int ⟨is, _, _, e0, rfl, e1, j_str ⟨_, .eqS _ _, fun e2 => ?_, fun e2 => j_non (fin _ ?_)⟩⟩))))))
  · obtain ⟨es, ts, rfl, rfl, l, h2⟩ := ht.side (of_decide_eq_true e2)
    exact j_tup (j_cons (j_str (j_cons (j_ixT (j_var 0 rfl rfl (j_int ⟨_, _, _, rfl, rfl, rfl, j_nil ⟨Nat.le_of_ble_eq_true rfl, fin _ (Tr.node (w := .row) l h2)⟩⟩))))))
  · have e2 := of_decide_eq_false e2
    cases t with
    | node w ts =>
      cases w with
      | sides => exact absurd rfl e2
      | _ => exact OptTr.none
    | _ => exact OptTr.none
/-! indexed_change -/
def idxT (v : IW) (t : Tree) (k : Nat) : Option Tree := match v with
  | .shut => leftT ["pick"] t k
  | .lose => leftT ["row", "sides"] t k
  | .turn => turnT t k
abbrev sp_idx : Sp := spD 3 (fun ds => ∃ (d : D) (t : Tree) (v : IW) (k : Nat), ds = [d, .str v.s, .int (k : Nat)] ∧ Tr d t ∧ t.kids.length ≤ 1000) fun ds r => ∀ (d : D) (t : Tree) (v : IW) (k : Nat), ds = [d, .str v.s, .int (k : Nat)] → Tr d t → OptTr r (idxT v t k)
theorem S_idx : FnScope ["here", "word", "index"] ["here", "word", "index"] (sc 42) := ⟨rfl, rfl, rfl, by decide +kernel, rfl, by decide +kernel, by decide +kernel⟩
theorem ok_idx {f : Addr} {fd : FuncData} (F : Fun K "indexed_change" "indexed_change" (top 42) f fd) (T : Blt mg) (cl : Cl P w K mg base 3 "left_out" sp_left) (ct : Cl P w K mg base 3 "turned_round" sp_turn) : FnG P w K mg base 4 f fd ["here", "word", "index"] sp_idx := by
  refine ok_D (m := 0) F S_idx rfl rfl fun cdv A outer s H E ds hr hl hp => ?_
  obtain ⟨d, t, v, k, rfl, ht, hk⟩ := hp
  have fin : ∀ r, OptTr r (idxT v t k) → ∀ (d' : D) (t' : Tree) (v' : IW) (k' : Nat), [d, D.str v.s, .int (k : Nat)] = [d', .str v'.s, .int (k' : Nat)] → Tr d' t' → OptTr r (idxT v' t' k') := fun r h d' t' v' k' q h' => by
    injection q with q2 q
    injection q with q3 q
    injection q with q4 _
    injection q3 with q3
    injection q4 with q4
    subst q2
    rw [h'.uniq ht, ← IW.inj q3, ← Int.ofNat.inj q4]
    exact h
  refine jss_cons (js_if (jt_cmp (j_var 1 rfl rfl (j_str ⟨_, .eqS _ _, fun e => ?_, fun e => jss_nil ?_⟩))))
  · obtain rfl : v = .shut := IW.inj (of_decide_eq_true e)
    refine jss_one (js_ret (j_call cl hr (by decide) (j_cons (j_tup (j_cons (j_str (j_nil ⟨Nat.le_of_ble_eq_true rfl, j_cons (j_var 0 rfl rfl (j_cons (j_var 2 rfl rfl (j_nil ⟨rfl, ⟨["pick"], d, t, k, rfl, ht, hk, by decide +kernel, by decide +kernel, by decide +kernel⟩, fun r hd => ?_⟩))))⟩)))))))
    exact fin _ (hd ["pick"] d t k rfl ht)
  have n1 : v ≠ .shut := fun h => (of_decide_eq_false e) (by rw [h]; rfl)
  refine jss_cons (js_if (jt_cmp (j_var 1 rfl rfl (j_str ⟨_, .eqS _ _, fun e => ?_, fun e => jss_nil ?_⟩))))
  · obtain rfl : v = .lose := IW.inj (of_decide_eq_true e)
    refine jss_one (js_ret (j_call cl hr (by decide) (j_cons (j_tup (j_cons (j_str (j_cons (j_str (j_nil ⟨Nat.le_of_ble_eq_true rfl, j_cons (j_var 0 rfl rfl (j_cons (j_var 2 rfl rfl (j_nil ⟨rfl, ⟨["row", "sides"], d, t, k, rfl, ht, hk, by decide +kernel, by decide +kernel, by decide +kernel⟩, fun r hd => ?_⟩))))⟩)))))))))
    exact fin _ (hd ["row", "sides"] d t k rfl ht)
  have n2 : v ≠ .lose := fun h => (of_decide_eq_false e) (by rw [h]; rfl)
  obtain rfl : v = .turn := by cases v <;> first | rfl | exact absurd rfl n1 | exact absurd rfl n2
  refine jss_one (js_ret (j_call ct hr (by decide) (j_cons (j_var 0 rfl rfl (j_cons (j_var 2 rfl rfl (j_nil ⟨rfl, ⟨d, t, k, rfl, ht, hk⟩, fun r hd => ?_⟩)))))))
  exact fin _ (hd d t k rfl ht)
end
end A
set_option Elab.async false
set_option linter.all false
set_option maxRecDepth 100000
set_option pp.maxSteps 300
/-! The walk: local_change. -/
namespace A
open PySem PySem.Spec PyProof.Rows L2 E
variable [KF]
theorem chD_inj : ∀ {a b : Chg}, chD a = chD b → a = b := by
  intro a b h
  cases a with
  | pl v p =>
    cases b with
    | pl v' p' =>
      injection h with h
      injection h with h1 h
      injection h with h2 _
      injection h1 with h1
      rw [PW.inj h1, path_inj h2]
    | ix v' p' k' =>
      injection h with h
      injection h with h1 h
      injection h with h2 h
      cases h
  | ix v p k =>
    cases b with
    | pl v' p' =>
      injection h with h
      injection h with h1 h
      injection h with h2 h
      cases h
    | ix v' p' k' =>
      injection h with h
      injection h with h1 h
      injection h with h2 h
      injection h with h3 _
      injection h1 with h1
      injection h3 with h3
      rw [IW.inj h1, path_inj h2, Int.ofNat.inj h3]
theorem PW.mem (v : PW) : inD (.str v.s) ((["free", "round", "sides", "once", "order"] : List Str).map D.str) = true := by
  rw [inD_strs]
  cases v <;> decide +kernel
theorem IW.mem1 (v : IW) : inD (.str v.s) ((["free", "round", "sides", "once", "order"] : List Str).map D.str) = false := by
  rw [inD_strs]
  cases v <;> decide +kernel
theorem IW.mem (v : IW) : inD (.str v.s) ((["shut", "lose", "turn"] : List Str).map D.str) = true := by
  rw [inD_strs]
  cases v <;> decide +kernel
section
variable {P : Program} {w : World} {K : PySem.W.Frag} [KonK K] {mg : Str → Option Value} {base : Heap}
abbrev sp_loc : Sp := spD 2 (fun ds => ∃ (d : D) (t : Tree) (c : Chg), ds = [d, chD c] ∧ Tr d t ∧ t.kids.length ≤ 1000) fun ds r => ∀ (d : D) (t : Tree) (c : Chg), ds = [d, chD c] → Tr d t → OptTr r (locT t c)
abbrev N_loc : List Str := ["here", "change", "word", "many"]
theorem S_loc : FnScope N_loc ["here", "change"] (sc 44) := ⟨rfl, rfl, rfl, by decide +kernel, rfl, by decide +kernel, by decide +kernel⟩
theorem ok_loc {f : Addr} {fd : FuncData} (F : Fun K "local_change" "local_change" (top 44) f fd) (T : Blt mg) (cb : Cl P w K mg base 1 "bare_change" sp_bare) (ci : Cl P w K mg base 4 "indexed_change" sp_idx) : FnG P w K mg base 5 f fd ["here", "change"] sp_loc := by
  refine ok_D (m := 2) F S_loc rfl rfl fun cdv A outer s H E ds hr hl hp => ?_
  obtain ⟨d, t, c, rfl, ht, hk⟩ := hp
  have fin : ∀ r, OptTr r (locT t c) → ∀ (d' : D) (t' : Tree) (c' : Chg), [d, chD c] = [d', chD c'] → Tr d' t' → OptTr r (locT t' c') := fun r h d' t' c' q h' => by
    injection q with q2 q
    injection q with q3 _
    subst q2
    rw [h'.uniq ht, ← chD_inj q3]
    exact h
  cases c with
  | pl v q =>
    refine jss_cons (js_par 2 3 rfl S_loc.nd rfl rfl (by decide) (j_ixT (j_var 1 rfl rfl (j_int ⟨_, _, _, rfl, rfl, rfl, j_lenT T.len (j_var 1 rfl rfl ⟨_, rfl, ?_⟩)⟩))))
    refine jss_cons (js_if (jt_inD (j_var 2 rfl rfl ?_)))
    refine j_tup ?_
    refine j_con ?_
    refine j_str ?_
    refine j_con ?_
    refine j_str ?_
    refine j_con ?_
    refine j_str ?_
    refine j_con ?_
    refine j_str ?_
    refine j_con ?_
    refine j_str ?_
    refine j_nil ⟨Nat.le_of_ble_eq_true rfl, _, rfl, rfl, rfl, fun _ => ?_, fun e => ?_⟩
    · refine jss_one (js_ret (j_if (jt_cmp (j_var 3 rfl rfl (j_int ⟨_, .eq _ _, fun e => ?_, fun e => by cases e⟩)))))
      refine j_call cb hr (by decide) (j_cons (j_var 0 rfl rfl (j_cons (j_var 2 rfl rfl (j_nil ⟨rfl, ⟨d, t, v, rfl, ht⟩, fun r hd => ?_⟩)))))
      exact fin _ (hd d t v rfl ht)
    · have e : inD (.str v.s) ((["free", "round", "sides", "once", "order"] : List Str).map D.str) = false := e
      rw [v.mem] at e; cases e
  | ix v q k =>
    refine jss_cons (js_par 2 3 rfl S_loc.nd rfl rfl (by decide) (j_ixT (j_var 1 rfl rfl (j_int ⟨_, _, _, rfl, rfl, rfl, j_lenT T.len (j_var 1 rfl rfl ⟨_, rfl, ?_⟩)⟩))))
    refine jss_cons (js_if (jt_inD (j_var 2 rfl rfl ?_)))
    refine j_tup ?_
    refine j_con ?_
    refine j_str ?_
    refine j_con ?_
    refine j_str ?_
    refine j_con ?_
    refine j_str ?_
    refine j_con ?_
    refine j_str ?_
    refine j_con ?_
    refine j_str ?_
    refine j_nil ⟨Nat.le_of_ble_eq_true rfl, _, rfl, rfl, rfl, fun e => ?_, fun e => jss_nil ?_⟩
    · have e : inD (.str v.s) ((["free", "round", "sides", "once", "order"] : List Str).map D.str) = true := e
      rw [v.mem1] at e; cases e
    refine jss_cons (js_if (jt_inD (j_var 2 rfl rfl ?_)))
    refine j_tup ?_
    refine j_con ?_
    refine j_str ?_
    refine j_con ?_
    refine j_str ?_
    refine j_con ?_
    refine j_str ?_
    refine j_nil ⟨Nat.le_of_ble_eq_true rfl, _, rfl, rfl, rfl, fun _ => ?_, fun e => ?_⟩
    · refine jss_one (js_ret (j_if (jt_cmp (j_var 3 rfl rfl (j_int ⟨_, .eq _ _, fun e => ?_, fun e => by cases e⟩)))))
      refine j_call ci hr (by decide) (j_cons (j_var 0 rfl rfl (j_cons (j_var 2 rfl rfl (j_cons (j_ixT (j_var 1 rfl rfl (j_int ⟨_, _, _, rfl, rfl, rfl, j_nil ⟨rfl, ⟨d, t, v, k, rfl, ht, hk⟩, fun r hd => ?_⟩⟩))))))))
      have h := hd d t v k rfl ht
      refine fin _ ?_
      cases v <;> exact h
    · have e : inD (.str v.s) ((["shut", "lose", "turn"] : List Str).map D.str) = false := e
      rw [v.mem] at e; cases e
end
end A
set_option Elab.async false
set_option linter.all false
set_option maxRecDepth 100000
set_option pp.maxSteps 300
/-! The walk: outcome, changed_by, changed, check_procedure. -/
namespace A
open PySem PySem.Spec PyProof.Rows L2 E
variable [KF]
theorem sizes_mem : ∀ {k : Nat} {ts : List Tree} {n : Nat} {v : Tree}, sizeTs k ts = some n → v ∈ ts → ∃ m, sizeT k v = some m
  | k, t :: ts, n, v, h, hv => by
    rw [sizeTs] at h
    cases h1 : sizeT k t with
    | none => rw [h1] at h; cases h
    | some a =>
      cases h2 : sizeTs k ts with
      | none => rw [h1, h2] at h; cases h
      | some b =>
        rcases List.mem_cons.mp hv with rfl | hv
        · exact ⟨a, h1⟩
        · exact sizes_mem h2 hv
theorem size_kid {k n : Nat} {t v : Tree} (h : sizeT (k + 1) t = some n) (hv : v ∈ t.kids) : ∃ m, sizeT k v = some m := by
  cases t with
  | deed _ => cases hv
  | skip => cases hv
  | again u =>
    obtain rfl : v = u := by simpa [Tree.kids] using hv
    exact ⟨n, h⟩
  | node w ts =>
    rw [sizeT] at h
    split at h
    · exact sizes_mem h hv
    · cases h
theorem size_kids {k n : Nat} {t : Tree} (h : sizeT k t = some n) : t.kids.length ≤ 6 := by
  cases k with
  | zero => cases t <;> (rw [sizeT] at h; cases h)
  | succ k =>
    cases t with
    | deed _ => exact Nat.zero_le _
    | skip => exact Nat.zero_le _
    | again u => exact Nat.le_of_ble_eq_true rfl
    | node w ts =>
      rw [sizeT] at h
      split at h
      · assumption
      · cases h
theorem size_at : ∀ {q : List Nat} {k n : Nat} {t u : Tree}, sizeT k t = some n → atT t q = some u → u.kids.length ≤ 6 ∧ q.length < k
  | [], k, n, t, u, h, e => by
    rw [atT] at e
    cases e
    refine ⟨size_kids h, ?_⟩
    cases k with
    | zero => cases t <;> (rw [sizeT] at h; cases h)
    | succ k => exact Nat.succ_pos _
  | i :: q, k, n, t, u, h, e => by
    rw [atT] at e
    cases hv : t.kids[i]? with
    | none => rw [hv] at e; cases e
    | some v =>
      rw [hv] at e
      cases k with
      | zero => cases t <;> (rw [sizeT] at h; cases h)
      | succ k =>
        obtain ⟨m, hm⟩ := size_kid h (List.mem_of_getElem? hv)
        have := size_at hm e
        exact ⟨this.1, by rw [List.length_cons]; omega⟩
theorem isProc_size {t : Tree} (h : isProc t = true) : ∃ n, sizeT 8 t = some n := by
  unfold isProc at h
  cases h8 : sizeT 8 t with
  | none => rw [h8] at h; cases h
  | some n => exact ⟨n, rfl⟩
theorem isProc_wide {t : Tree} (h : isProc t = true) : Wide t := fun q u e => by
  obtain ⟨n, hn⟩ := isProc_size h
  have := (size_at hn e).1
  omega
theorem isProc_path {t u : Tree} {q : List Nat} (h : isProc t = true) (e : atT t q = some u) : q.length ≤ 7 := by
  obtain ⟨n, hn⟩ := isProc_size h
  have := (size_at hn e).2
  omega
theorem chD_path (c : Chg) : ∃ ds, chD c = .tup ds ∧ L2.atI ds 1 = some (pathD c.path) := by
  cases c <;> exact ⟨_, rfl, rfl⟩
theorem chD_word (c : Chg) : ∃ ds x, chD c = .tup ds ∧ L2.atI ds 0 = some (.str x) ∧ x ≠ "name" := by
  cases c with
  | pl v q => exact ⟨_, v.s, rfl, rfl, by cases v <;> decide +kernel⟩
  | ix v q k => exact ⟨_, v.s, rfl, rfl, by cases v <;> decide +kernel⟩
theorem chD_sized (c : Chg) : sized (chD c) 2 4 = true := by cases c <;> rfl
section
variable {P : Program} {w : World} {K : PySem.W.Frag} [KonK K] {mg : Str → Option Value} {base : Heap}
abbrev sp_outc : Sp := spD 2 (fun ds => ∃ (d : D) (t : Tree) (c : Chg), ds = [d, chD c] ∧ Tr d t ∧ isProc t = true) fun ds r => ∀ (d : D) (t : Tree) (c : Chg), ds = [d, chD c] → Tr d t → OptTr r (outT t c)
abbrev N_outc : List Str := ["procedure", "change", "inner", "found"]
theorem S_outc : FnScope N_outc ["procedure", "change"] (sc 45) := ⟨rfl, rfl, rfl, by decide +kernel, rfl, by decide +kernel, by decide +kernel⟩
theorem ok_outc {f : Addr} {fd : FuncData} (F : Fun K "outcome" "outcome" (top 45) f fd) (T : Blt mg) (cz : Cl P w K mg base 1 "is_sized" spSized) (cp : Cl P w K mg base 4 "is_path" sp_isp) (co : Cl P w K mg base 3 "part_on" sp_on)
    (cl : Cl P w K mg base 5 "local_change" sp_loc) (cu : Cl P w K mg base 10 "put_at" (sp_put 8)) (ci : Cl P w K mg base 11 "is_procedure" sp_isproc) : FnG P w K mg base 12 f fd ["procedure", "change"] sp_outc := by
  refine ok_D (m := 2) F S_outc rfl rfl fun cdv A outer s H E ds hr hl hp => ?_
  obtain ⟨d, t, c, rfl, ht, hpr⟩ := hp
  have fin : ∀ r, OptTr r (outT t c) → ∀ (d' : D) (t' : Tree) (c' : Chg), [d, chD c] = [d', chD c'] → Tr d' t' → OptTr r (outT t' c') := fun r h d' t' c' q h' => by
    injection q with q2 q
    injection q with q3 _
    subst q2
    rw [h'.uniq ht, ← chD_inj q3]
    exact h
  obtain ⟨cs, x, ec, ex, xn⟩ := chD_word c
  obtain ⟨cs', ec', ep⟩ := chD_path c
  obtain rfl : cs' = cs := by rw [ec] at ec'; injection ec' with e; exact e.symm
  refine jss_cons (js_if (jt_w (jw_or (jt_not (jt_val (j_call cz hr (by decide) (j_cons (j_var 1 rfl rfl (j_cons (j_int (j_cons (j_int (j_nil ⟨rfl, ⟨_, _, _, rfl⟩, fun b hd => ?_⟩)))))))))))))
  obtain rfl := hd _ _ _ rfl
  refine ⟨true, congrArg D.bl (chD_sized c), fun _ => ?_, fun z => (by cases z)⟩
  refine jw_or1 (jt_not (jt_val (j_isStr T.isi T.str (j_ixT (j_var 1 rfl rfl (j_int ⟨cs', _, _, ec, rfl, ex, true, rfl, fun z => (by cases z), fun _ => jss_nil ?_⟩))))))
  refine jss_cons (js_if (jt_cmp (j_ixT (j_var 1 rfl rfl (j_int ⟨cs', _, _, ec, rfl, ex, j_str ⟨_, .eqS _ _, fun e => ?_, fun e => jss_nil ?_⟩⟩)))))
  · exact absurd (of_decide_eq_true e) xn
  refine jss_cons (js_if (jt_not (jt_val (j_call cp hr (by decide) (j_cons (j_var 0 rfl rfl (j_cons (j_ixT (j_var 1 rfl rfl (j_int ⟨cs', _, _, ec, rfl, ep, j_nil ⟨rfl, ⟨d, t, (c.path.map fun i : Nat => (i : Int)), (by rw [pathD_ints]), ht⟩, fun r hd => ?_⟩⟩))))))))))
  obtain rfl := hd d t _ (by rw [pathD_ints]) ht
  rw [atI_path]
  cases hat : atT t c.path with
  | none =>
    refine ⟨false, rfl, fun _ => jss_one (js_ret (j_non (fin _ ?_))), fun z => (by cases z)⟩
    unfold outT
    rw [hat]
    exact OptTr.none
  | some u =>
    refine ⟨true, rfl, fun z => (by cases z), fun _ => jss_nil ?_⟩
    have hw := isProc_wide hpr
    have hq := isProc_path hpr hat
    refine jss_cons (js_set 2 S_outc.nd rfl (j_call cl hr (by decide) (j_cons (j_call co hr (by decide) (j_cons (j_var 0 rfl rfl (j_cons (j_ixT (j_var 1 rfl rfl (j_int ⟨cs', _, _, ec, rfl, ep, j_nil ⟨rfl, ⟨d, t, (c.path.map fun i : Nat => (i : Int)), (by rw [pathD_ints]), ht⟩, fun r hd => ?_⟩⟩))))))))))
    have hr1 := hd d t _ (by rw [pathD_ints]) ht
    rw [atI_path, hat] at hr1
    have hr1 : Tr r u := hr1
    refine j_cons (j_var 1 rfl rfl (j_nil ⟨rfl, ⟨r, u, c, rfl, hr1, hw _ _ hat⟩, fun r2 hd2 => ?_⟩))
    have hr2 := hd2 r u c rfl hr1
    refine jss_cons (js_set 3 S_outc.nd rfl (j_if (jt_isN (j_var 2 rfl rfl ?_))))
    rw [hr2.isN]
    have ho : outT t c = match locT u c with
      | none => none
      | some v => if isProc (putT t c.path v) = true then some (putT t c.path v) else none := by
      unfold outT
      rw [hat]
      try rfl
    cases hloc : locT u c with
    | none =>
      refine ⟨fun _ => j_non ?_, fun z => (by cases z)⟩
      refine jss_one (js_ret (j_if (jt_w (jw_and (jt_notN (j_var 3 rfl rfl ⟨fun z => (by cases z), fun _ => ⟨fun z => (by cases z), fun _ => j_non (fin _ ?_)⟩⟩))))))
      rw [ho, hloc]
      exact OptTr.none
    | some v =>
      rw [hloc] at hr2
      have hr2 : Tr r2 v := hr2
      refine ⟨fun z => (by cases z), fun _ => ?_⟩
      refine j_call cu hr (by decide) (j_cons (j_var 0 rfl rfl (j_cons (j_ixT (j_var 1 rfl rfl (j_int ⟨cs', _, _, ec, rfl, ep, ?_⟩))))))
      refine j_cons (j_var 2 rfl rfl (j_nil ⟨rfl, ⟨d, t, c.path, r2, v, rfl, ht, hr2, by omega, (by rw [hat]; rfl), by omega, hw⟩, fun r3 hd3 => ?_⟩))
      have hr3 := hd3 d t c.path r2 v rfl ht hr2
      refine jss_one (js_ret (j_if (jt_w (jw_and (jt_notN (j_var 3 rfl rfl ?_))))))
      rw [Tr.notN hr3]
      refine ⟨fun _ => ?_, fun z => (by cases z)⟩
      refine jw_and1 (jt_val (j_call ci hr (by decide) (j_cons (j_var 3 rfl rfl (j_nil ⟨rfl, ⟨r3, _, rfl, hr3⟩, fun b hd4 => ?_⟩)))))
      obtain rfl := hd4 r3 _ rfl hr3
      refine ⟨_, rfl, fun e => j_var 3 rfl rfl (fin _ ?_), fun e => j_non (fin _ ?_)⟩
      · rw [ho, hloc]
        show OptTr r3 (if _ then _ else _)
        rw [if_pos e]
        exact hr3
      · rw [ho, hloc]
        show OptTr .non (if _ then _ else _)
        rw [if_neg (by rw [e]; decide)]
        exact OptTr.none
/-! check_procedure, changed_by, changed: with what may be -/
abbrev sp_check : Sp := spD 1 (fun ds => ∃ (d : D) (t : Tree), ds = [d] ∧ Tr d t ∧ isProc t = true) fun _ _ => True
theorem S_check : FnScope ["thing"] ["thing"] (sc 25) := ⟨rfl, rfl, rfl, by decide +kernel, rfl, by decide +kernel, by decide +kernel⟩
theorem ok_check {f : Addr} {fd : FuncData} (F : Fun K "check_procedure" "check_procedure" (top 25) f fd) (T : Blt mg) (ci : Cl P w K mg base 11 "is_procedure" sp_isproc) : FnG P w K mg base 12 f fd ["thing"] sp_check := by
  refine ok_D (m := 0) F S_check rfl rfl fun cdv A outer s H E ds hr hl hp => ?_
  obtain ⟨d, t, rfl, ht, hpr⟩ := hp
  refine jss_one (js_if (jt_not (jt_val (j_call ci hr (by decide) (j_cons (j_var 0 rfl rfl (j_nil ⟨rfl, ⟨d, t, rfl, ht⟩, fun b hd => ?_⟩)))))))
  obtain rfl := hd d t rfl ht
  exact ⟨true, congrArg D.bl hpr, fun z => (by cases z), fun _ => jss_nil trivial⟩
abbrev sp_by : Sp := spD 2 (fun ds => ∃ (d : D) (t u : Tree) (c : Chg), ds = [d, chD c] ∧ Tr d t ∧ isProc t = true ∧ outT t c = some u) fun ds r => ∀ (d : D) (t u : Tree) (c : Chg), ds = [d, chD c] → Tr d t → outT t c = some u → Tr r u
abbrev N_by : List Str := ["procedure", "change", "found"]
theorem S_by : FnScope N_by ["procedure", "change"] (sc 46) := ⟨rfl, rfl, rfl, by decide +kernel, rfl, by decide +kernel, by decide +kernel⟩
theorem ok_by {f : Addr} {fd : FuncData} (F : Fun K "changed_by" "changed_by" (top 46) f fd) (T : Blt mg) (cc : Cl P w K mg base 12 "check_procedure" sp_check) (co : Cl P w K mg base 12 "outcome" sp_outc) : FnG P w K mg base 13 f fd ["procedure", "change"] sp_by := by
  refine ok_D (m := 1) F S_by rfl rfl fun cdv A outer s H E ds hr hl hp => ?_
  obtain ⟨d, t, u, c, rfl, ht, hpr, ho⟩ := hp
  refine jss_cons (js_expr (j_call cc hr (by decide) (j_cons (j_var 0 rfl rfl (j_nil ⟨rfl, ⟨d, t, rfl, ht, hpr⟩, fun b hd => ?_⟩)))))
  refine jss_cons (js_set 2 S_by.nd rfl (j_call co hr (by decide) (j_cons (j_var 0 rfl rfl (j_cons (j_var 1 rfl rfl (j_nil ⟨rfl, ⟨d, t, c, rfl, ht, hpr⟩, fun r hd => ?_⟩)))))))
  have h := hd d t c rfl ht
  rw [ho] at h
  have h : Tr r u := h
  refine jss_cons (js_if (jt_isN (j_var 2 rfl rfl ?_)))
  rw [Tr.notN h]
  refine ⟨fun z => (by cases z), fun _ => jss_nil (jss_one (js_ret (j_var 2 rfl rfl ?_)))⟩
  intro d' t' u' c' q h' ho'
  injection q with q2 q
  injection q with q3 _
  subst q2
  rw [h'.uniq ht, ← chD_inj q3, ho] at ho'
  cases ho'
  exact h
theorem S_changed : FnScope ["procedure", "change"] ["procedure", "change"] (sc 47) := ⟨rfl, rfl, rfl, by decide +kernel, rfl, by decide +kernel, by decide +kernel⟩
theorem ok_changed {f : Addr} {fd : FuncData} (F : Fun K "changed" "changed" (top 47) f fd) (T : Blt mg) (cb : Cl P w K mg base 13 "changed_by" sp_by) : FnG P w K mg base 14 f fd ["procedure", "change"] sp_by := by
  refine ok_D (m := 0) F S_changed rfl rfl fun cdv A outer s H E ds hr hl hp => ?_
  obtain ⟨d, t, u, c, rfl, ht, hpr, ho⟩ := hp
  refine jss_one (js_ret (j_call cb hr (by decide) (j_cons (j_var 0 rfl rfl (j_cons (j_var 1 rfl rfl (j_nil ⟨rfl, ⟨d, t, u, c, rfl, ht, hpr, ho⟩, fun r hd => hd⟩)))))))
end
end A
set_option Elab.async false
set_option linter.all false
set_option maxRecDepth 100000
set_option pp.maxSteps 300
/-! Trees and changes as Python's data: their order, what they are shown as. Plain. -/
namespace A
open PySem PySem.Spec PyProof.Rows L2 E
variable [KF]
mutual
def treeP : Tree → PyData
  | .deed n => .tuple [.str "do", .str n]
  | .skip => .tuple [.str "skip"]
  | .again t => .tuple [.str "again", treeP t]
  | .node w ts => .tuple [.str w.s, .tuple (treesP ts)]
def treesP : List Tree → List PyData
  | [] => []
  | t :: ts => treeP t :: treesP ts
end
mutual
theorem Tr.toP : ∀ {d : D} {t : Tree}, Tr d t → toP d = treeP t
  | _, _, .deed _ => by rw [treeP]; rfl
  | _, _, .skip => by rw [treeP]; rfl
  | _, _, .kon _ => by rw [treeP]; rfl
  | _, _, .again h => by rw [treeP, E.toP, toPs, toPs, Tr.toP h, toPs, E.toP]
  | _, _, .node h _ => by rw [treeP, E.toP, toPs, toPs, toPs, E.toP, E.toP, TrL.toP h]
theorem TrL.toP : ∀ {ds : List D} {ts : List Tree}, TrL ds ts → toPs ds = treesP ts
  | _, _, .nil => by rw [treesP, toPs]
  | _, _, .cons h l => by rw [treesP, toPs, Tr.toP h, TrL.toP l]
end
theorem Nm.str {n : Str} (h : Nm n) : PyData.canLay0 (.str n) = true := by
  rcases h with rfl | rfl | rfl | rfl | rfl <;> decide +kernel
theorem lay_do : PyData.canLay0 (.str "do") = true := by decide +kernel
theorem lay_skip : PyData.canLay0 (.str "skip") = true := by decide +kernel
theorem lay_again : PyData.canLay0 (.str "again") = true := by decide +kernel
theorem lay_wd (w : Wd) : PyData.canLay0 (.str w.s) = true := by cases w <;> decide +kernel
mutual
theorem Tr.lay : ∀ {d : D} {t : Tree}, Tr d t → (treeP t).canLay0 = true ∧ (treeP t).depth ≤ 2 * t.depth
  | _, _, .deed h => by
    rw [treeP, PyData.canLay0, PyData.canLayAll0, PyData.canLayAll0, h.str, lay_do]
    exact ⟨rfl, by rw [Tree.depth]; simp [PyData.depth, PyData.depthAll]⟩
  | _, _, .skip => by rw [treeP, Tree.depth, PyData.canLay0, PyData.canLayAll0, lay_skip]; exact ⟨rfl, by simp [PyData.depth, PyData.depthAll]⟩
  | _, _, .kon _ => by rw [treeP, Tree.depth, PyData.canLay0, PyData.canLayAll0, lay_skip]; exact ⟨rfl, by simp [PyData.depth, PyData.depthAll]⟩
  | _, _, .again h => by
    have ⟨h1, h2⟩ := Tr.lay h
    rw [treeP, PyData.canLay0, PyData.canLayAll0, PyData.canLayAll0, h1, Tree.depth, lay_again]
    refine ⟨rfl, ?_⟩
    simp only [PyData.depth, PyData.depthAll]
    omega
  | _, _, .node (w := w) h _ => by
    have ⟨h1, h2⟩ := TrL.lay h
    rw [treeP, PyData.canLay0, PyData.canLayAll0, PyData.canLayAll0, lay_wd, PyData.canLay0, h1, Tree.depth]
    refine ⟨rfl, ?_⟩
    simp only [PyData.depth, PyData.depthAll]
    omega
theorem TrL.lay : ∀ {ds : List D} {ts : List Tree}, TrL ds ts → PyData.canLayAll0 (treesP ts) = true ∧ PyData.depthAll (treesP ts) ≤ 2 * depths ts
  | _, _, .nil => by rw [treesP]; exact ⟨rfl, Nat.zero_le _⟩
  | _, _, .cons h l => by
    have ⟨h1, h2⟩ := Tr.lay h
    have ⟨h3, h4⟩ := TrL.lay l
    rw [treesP, PyData.canLayAll0, h1, h3, depths]
    refine ⟨rfl, ?_⟩
    simp only [PyData.depthAll]
    omega
end
theorem size_depth : ∀ {k n : Nat} {t : Tree}, sizeT k t = some n → t.depth ≤ k
  | 0, n, t, h => by cases t <;> (rw [sizeT] at h; cases h)
  | k + 1, n, .deed _, h => by rw [Tree.depth]; omega
  | k + 1, n, .skip, h => by rw [Tree.depth]; omega
  | k + 1, n, .again t, h => by
    rw [sizeT] at h
    have := size_depth h
    rw [Tree.depth]; omega
  | k + 1, n, .node w ts, h => by
    rw [sizeT] at h
    split at h
    · rw [Tree.depth]
      have : ∀ {ts : List Tree} {m : Nat}, sizeTs k ts = some m → depths ts ≤ k := by
        intro ts
        induction ts with
        | nil => intro m _; rw [depths]; omega
        | cons t ts ih =>
          intro m h
          rw [sizeTs] at h
          cases h1 : sizeT k t with
          | none => rw [h1] at h; cases h
          | some a =>
            cases h2 : sizeTs k ts with
            | none => rw [h1, h2] at h; cases h
            | some b =>
              have := size_depth h1
              have := ih h2
              rw [depths]; omega
      have := this h
      omega
    · cases h
theorem isProc_depth {t : Tree} (h : isProc t = true) : t.depth ≤ 8 := by
  obtain ⟨n, hn⟩ := isProc_size h
  exact size_depth hn
theorem Tr.shaped {d : D} {t : Tree} (h : Tr d t) (hp : isProc t = true) : SeqAt.shaped (E.toP d) = true := by
  have ⟨h1, h2⟩ := h.lay
  have := isProc_depth hp
  rw [h.toP]
  unfold SeqAt.shaped
  rw [h1, Bool.true_and, decide_eq_true_iff]
  omega
theorem shaped_non : SeqAt.shaped (E.toP .non) = true := rfl
/-! changes -/
theorem chD_alike : ∀ a b : Chg, PySem.W.alike (E.toP (chD a)) (E.toP (chD b)) = true := by
  have hp : ∀ p q : List Nat, PySem.W.alikeAll (toPs (p.map fun i : Nat => D.int (i : Int))) (toPs (q.map fun i : Nat => D.int (i : Int))) = true := by
    intro p
    induction p with
    | nil => intro q; cases q <;> simp [toPs, PySem.W.alikeAll]
    | cons i p ih =>
      intro q
      cases q with
      | nil => simp [toPs, PySem.W.alikeAll]
      | cons j q => simp [toPs, E.toP, PySem.W.alikeAll, PySem.W.alike, ih q]
  intro a b
  cases a <;> cases b <;> simp [chD, E.toP, toPs, PySem.W.alike, PySem.W.alikeAll, hp]
theorem depth_ints : ∀ p : List Nat, PyData.depthAll (toPs (p.map fun i : Nat => D.int (i : Int))) = 0
  | [] => rfl
  | i :: p => by
    have := depth_ints p
    simp only [List.map_cons, toPs, E.toP, PyData.depthAll, PyData.depth] at this ⊢
    omega
theorem chD_depth (a : Chg) : (E.toP (chD a)).depth ≤ 2 := by
  cases a <;> (simp only [chD, E.toP, toPs, PyData.depth, PyData.depthAll, depth_ints]; omega)
theorem ints_toks : ∀ (p q : List Nat) (a b : List (Int ⊕ List Nat)), PySem.W.keyToksAll (toPs (p.map fun i : Nat => D.int (i : Int))) ++ a = PySem.W.keyToksAll (toPs (q.map fun i : Nat => D.int (i : Int))) ++ b → p = q ∧ a = b
  | [], [], a, b, h => by
    simp [toPs, PySem.W.keyToksAll] at h
    exact ⟨rfl, h⟩
  | [], j :: q, a, b, h => by simp [toPs, E.toP, PySem.W.keyToksAll] at h
  | i :: p, [], a, b, h => by simp [toPs, E.toP, PySem.W.keyToksAll] at h
  | i :: p, j :: q, a, b, h => by
    simp only [List.map_cons, toPs, E.toP, PySem.W.keyToksAll, PySem.W.keyToks, List.cons_append, List.nil_append, List.cons.injEq, Sum.inl.injEq, true_and] at h
    obtain ⟨h1, h2⟩ := h
    obtain ⟨h3, h4⟩ := ints_toks p q a b h2
    exact ⟨by rw [h3, Int.ofNat.inj h1], h4⟩
theorem chD_toks {a b : Chg} (h : PySem.W.keyToks (E.toP (chD a)) = PySem.W.keyToks (E.toP (chD b))) : a = b := by
  cases a with
  | pl v p =>
    cases b with
    | pl v' q =>
      simp only [chD, E.toP, toPs, PySem.W.keyToks, PySem.W.keyToksAll, List.cons_append, List.nil_append, List.cons.injEq, Sum.inr.injEq, true_and] at h
      obtain ⟨h1, h2⟩ := h
      rw [PW.inj (PySem.W.str_of_cps h1), (ints_toks _ _ _ _ h2).1]
    | ix v' q k =>
      simp only [chD, E.toP, toPs, PySem.W.keyToks, PySem.W.keyToksAll, List.cons_append, List.nil_append, List.cons.injEq, Sum.inr.injEq, true_and] at h
      have := (ints_toks _ _ _ _ h.2).2
      cases this
  | ix v p k =>
    cases b with
    | pl v' q =>
      simp only [chD, E.toP, toPs, PySem.W.keyToks, PySem.W.keyToksAll, List.cons_append, List.nil_append, List.cons.injEq, Sum.inr.injEq, true_and] at h
      have := (ints_toks _ _ _ _ h.2).2
      cases this
    | ix v' q k' =>
      simp only [chD, E.toP, toPs, PySem.W.keyToks, PySem.W.keyToksAll, List.cons_append, List.nil_append, List.cons.injEq, Sum.inr.injEq, true_and] at h
      obtain ⟨h1, h2⟩ := h
      have h3 := ints_toks _ _ _ _ h2
      have h4 := h3.2
      injection h4 with _ h4
      injection h4 with h4 _
      injection h4 with h4
      rw [IW.inj (PySem.W.str_of_cps h1), h3.1, Int.ofNat.inj h4]
noncomputable def leC (a b : Chg) : Bool := PySem.W.dataLe false E.toP (chD a) (chD b)
noncomputable def sortC (cs : List Chg) : List Chg := cs.mergeSort leC
theorem leC_total : PySem.W.TotalLe leC where
  trans a b c h1 h2 := (PySem.W.sortLe_total (PyProof.Rows.listOrd PyProof.Rows.itemOrd) false (fun b : D => PySem.W.keyToks (E.toP b))).trans (chD a) (chD b) (chD c) h1 h2
  total a b := (PySem.W.sortLe_total (PyProof.Rows.listOrd PyProof.Rows.itemOrd) false (fun b : D => PySem.W.keyToks (E.toP b))).total (chD a) (chD b)
theorem leC_anti {a b : Chg} (h1 : leC a b = true) (h2 : leC b a = true) : a = b := by
  have h1 : (!PyProof.Rows.lexLt PyProof.Rows.itemOrd (PySem.W.keyToks (E.toP (chD b))) (PySem.W.keyToks (E.toP (chD a)))) = true := h1
  have h2 : (!PyProof.Rows.lexLt PyProof.Rows.itemOrd (PySem.W.keyToks (E.toP (chD a))) (PySem.W.keyToks (E.toP (chD b)))) = true := h2
  rw [Bool.not_eq_true'] at h1 h2
  exact chD_toks (PyProof.Rows.lex_total (O := PyProof.Rows.itemOrd) _ _ h2 h1)
theorem sortD_map (cs : List Chg) : sortD (cs.map chD) = (sortC cs).map chD := by
  unfold sortD sortC
  exact (PySem.W.sort_maps chD (r := leC) (fun _ _ _ _ => rfl)).symm
theorem sortC_perm {a b : List Chg} (h : a.Perm b) : sortC a = sortC b := by
  unfold sortC
  refine List.Perm.eq_of_pairwise (le := fun a b => leC a b = true) (fun x y _ _ h1 h2 => leC_anti h1 h2) ?_ ?_ (((List.mergeSort_perm a leC).trans h).trans (List.mergeSort_perm b leC).symm)
  · exact PySem.W.sort_pairwise leC_total a
  · exact PySem.W.sort_pairwise leC_total b
theorem sortC_mem {cs : List Chg} {c : Chg} : c ∈ sortC cs ↔ c ∈ cs := List.mem_mergeSort
theorem sortC_len (cs : List Chg) : (sortC cs).length = cs.length := List.length_mergeSort _
theorem canSort (cs : List Chg) (h : cs.length ≤ 100000) : CanSort (cs.map chD) where
  al d hd d' hd' := by
    rw [List.map_map] at hd hd'
    obtain ⟨a, _, rfl⟩ := List.mem_map.mp hd
    obtain ⟨b, _, rfl⟩ := List.mem_map.mp hd'
    exact chD_alike a b
  so := .inl fun d hd => by
    rw [List.map_map] at hd
    obtain ⟨a, _, rfl⟩ := List.mem_map.mp hd
    cases a <;> exact ⟨_, _, by simp [chD, E.toP, toPs]; exact ⟨rfl, rfl⟩⟩
  dp d hd := by
    obtain ⟨a, _, rfl⟩ := List.mem_map.mp hd
    exact Nat.le_trans (chD_depth a) (by decide)
  ln := by rw [List.length_map]; exact h
/-! rows of changes -/
abbrev rowD (r : List Chg) : D := .tup (r.map chD)
theorem chP_inj {a b : Chg} (h : E.toP (chD a) = E.toP (chD b)) : a = b := chD_toks (by rw [h])
theorem rowP_inj : ∀ {r s : List Chg}, E.toP (rowD r) = E.toP (rowD s) → r = s := by
  have : ∀ {r s : List Chg}, toPs (r.map chD) = toPs (s.map chD) → r = s := by
    intro r
    induction r with
    | nil => intro s h; cases s with | nil => rfl | cons a s => rw [List.map_cons, toPs] at h; cases h
    | cons a r ih =>
      intro s h
      cases s with
      | nil => rw [List.map_cons, toPs] at h; cases h
      | cons b s =>
        rw [List.map_cons, List.map_cons, toPs, toPs] at h
        injection h with h1 h2
        rw [chP_inj h1, ih h2]
  intro r s h
  rw [E.toP, E.toP] at h
  injection h with h
  exact this h
theorem rows_alike : ∀ r s : List Chg, PySem.W.alike (E.toP (rowD r)) (E.toP (rowD s)) = true := by
  have : ∀ r s : List Chg, PySem.W.alikeAll (toPs (r.map chD)) (toPs (s.map chD)) = true := by
    intro r
    induction r with
    | nil => intro s; cases s <;> simp [toPs, PySem.W.alikeAll]
    | cons a r ih =>
      intro s
      cases s with
      | nil => simp [toPs, PySem.W.alikeAll]
      | cons b s => rw [List.map_cons, List.map_cons, toPs, toPs, PySem.W.alikeAll, chD_alike, ih s]; rfl
  intro r s
  rw [E.toP, E.toP, PySem.W.alike]
  exact this r s
theorem rows_depth : ∀ r : List Chg, PyData.depthAll (toPs (r.map chD)) ≤ 2
  | [] => by simp [toPs, PyData.depthAll]
  | a :: r => by
    have := rows_depth r
    have := chD_depth a
    simp only [List.map_cons, toPs, PyData.depthAll]
    omega
theorem rowsD_depth : ∀ rs : List (List Chg), PyData.depthAll (toPs (rs.map rowD)) ≤ 3
  | [] => by simp [toPs, PyData.depthAll]
  | r :: rs => by
    have := rowsD_depth rs
    have := rows_depth r
    simp only [List.map_cons, toPs, PyData.depthAll, E.toP, PyData.depth]
    omega
theorem rowsD_alike (rs : List (List Chg)) : PySem.W.AlikeAll (toPs (rs.map rowD)) := by
  rw [toPs_map, List.map_map]
  refine ⟨fun x hx y hy => ?_, fun x hx => ?_⟩
  · obtain ⟨q, _, rfl⟩ := List.mem_map.mp hx
    obtain ⟨r, _, rfl⟩ := List.mem_map.mp hy
    exact rows_alike q r
  · obtain ⟨q, _, rfl⟩ := List.mem_map.mp hx
    show E.toP (rowD q) ≠ _
    rw [E.toP]
    exact fun h => by cases h
/-- the least row -/
def minR (r : List Chg) (rs : List (List Chg)) : List Chg := rs.foldl (fun a y => if PySem.W.dataLt (E.toP (rowD y)) (E.toP (rowD a)) then y else a) r
theorem minR_is : ∀ (rs : List (List Chg)) (r : List Chg), PySem.W.minD (E.toP (rowD r)) (toPs (rs.map rowD)) = E.toP (rowD (minR r rs))
  | [], r => rfl
  | s :: rs, r => by
    have ih := fun q => minR_is rs q
    unfold minR PySem.W.minD at ih ⊢
    rw [List.map_cons, toPs, List.foldl_cons, List.foldl_cons]
    split
    · exact ih s
    · exact ih r
theorem minR_mem : ∀ (rs : List (List Chg)) (r : List Chg), minR r rs ∈ r :: rs
  | [], r => List.mem_cons_self
  | s :: rs, r => by
    have ih := fun q => minR_mem rs q
    unfold minR at ih ⊢
    rw [List.foldl_cons]
    split
    · rcases List.mem_cons.mp (ih s) with h | h
      · exact List.mem_cons_of_mem _ (by rw [h]; exact List.mem_cons_self)
      · exact List.mem_cons_of_mem _ (List.mem_cons_of_mem _ h)
    · rcases List.mem_cons.mp (ih r) with h | h
      · rw [h]; exact List.mem_cons_self
      · exact List.mem_cons_of_mem _ (List.mem_cons_of_mem _ h)
end A
set_option Elab.async false
set_option linter.all false
set_option maxRecDepth 100000
/-! {a: b, c: d}: a dict of two keys, data. -/
namespace E
open PySem PySem.Spec PyProof.Rows L2
variable [KF]
section
variable {X : Cx} {sl : List Sl} {ms : List Ob} {a b c d : Expr} {pos : Pos} {Ro : Di → List Ob → Prop}
theorem jo_dic2 (h : Er sl (ms ++ [.x []]) (wE X a) fun x => Er sl (ms ++ [.x []]) (wE X b) fun y => Er sl (ms ++ [.x []]) (wE X c) fun z => Er sl (ms ++ [.x []]) (wE X d) fun u =>
    ∃ q1 q2 : Key, x = kD q1 ∧ z = kD q2 ∧ Ro (.o ms.length) (ms ++ [.x (putG (putG [] q1 (.d y)) q2 (.d u))])) : Eo sl ms (wE X (.Dict [some a, some c] [b, d] pos)) Ro :=
  Eo.of (pe_disp (pps_cons pe_w pe_w (pps_cons pe_w pe_w pps_nil)) rfl rfl (by simp) (Nat.le_of_ble_eq_true rfl)) fun ho F0 H0 F ps ex σ H at0 Q q p hp => by
    have at1 := at0.ownO (ob := .x []) hp ⟨[], rfl, .nil⟩
    refine h ho F0 H0 F _ _ σ _ at1 _ fun x dx F1 H1 h1 a1 => h1 ho F0 H0 F1 _ _ σ H1 a1 _ fun y dy F2 H2 h2 a2 => h2 ho F0 H0 F2 _ _ σ H2 a2 _ fun z dz F3 H3 h3 a3 => h3 ho F0 H0 F3 _ _ σ H3 a3 _ fun u du F4 H4 ⟨q1, q2, e1, e2, r⟩ a4 => ?_
    subst e1 e2
    have hpl : (ps ++ [p])[ms.length]? = some p := by rw [← at0.len, List.getElem?_append_right (Nat.le_refl _)]; simp
    obtain ⟨_, _, _, o, g1, g2⟩ := a4.mu ms.length p (.x []) hpl (by rw [List.getElem?_append_right (Nat.le_refl _)]; simp)
    obtain ⟨ks, rfl, g3⟩ := g2
    cases g3
    have k1 := a4.pop.pop.pop.top.key
    have k2 := a4.pop.top.key
    subst k1 k2
    refine ⟨g1, [(q1, y), (q2, u)], rfl, by simp, ?_⟩
    have hn : IvE F4 (ps ++ [p]) (putK (putK [] q1 y) q2 u) (putG (putG [] q1 (.d dy)) q2 (.d du)) := (IvE.nil.put (.d a4.pop.pop.top)).put (.d a4.top)
    have a5 := (a4.putO (ob := .x (putG (putG [] q1 (.d dy)) q2 (.d du))) hpl ⟨_, rfl, hn⟩).pop.pop.pop.pop
    rw [List.set_append_right _ _ (Nat.le_refl _), Nat.sub_self] at a5
    exact q _ _ F4 [p] _ _ r (a5.pushI (.o hpl))
theorem boot_intB : bootBuiltins "int" = some (.type "int") := by decide +kernel
/-- int(e) of a flag -/
theorem j_intB {e : Expr} {p : Pos} {R : D → Prop} (hm : X.mg "int" = none) (h : Er sl ms (wE X e) fun x => ∃ t, x = .bl t ∧ R (.int (if t then 1 else 0))) (hg : Gl X "int" := by rfl) (he : starEach [e] X.env = (false, eval e X.env) :: starEach [] X.env := by rfl) :
    Er sl ms (wE X (.Call (.Name "int" p) [e] [] pos)) R := Er.of (pe_callTy call_int1 hg hm boot_intB (pa_cons pe_w pa_nil he) (he := he)) fun ho F0 H0 F ps ex σ H a Q q => h ho F0 H0 F ps ex σ H a _ fun v d F1 H1 ⟨t, e, k⟩ a1 => by
  subst e
  cases a1.top with
  | bl _ => exact .inr ⟨t, rfl, q _ _ F1 H1 k (a1.pop.push (.int _))⟩
/-- name = [.. for ..]: a list of one's own -/
theorem js_lcO {O : Out} {x : Str} {p p2 : Pos} {elt tg iter : Expr} {ifs : List Expr} {scope : Scope} (i : Nat) (own : List (Str × Nat)) {fx : Option (Nat × Ob)} (hc : X.calm = true) (hN : X.N.Nodup) (hi : X.N[i]? = some x) (ok : BlkOk X.N X.env.scope scope own)
    (hv : ∀ j ∈ own.map (·.2), ∀ s, sl[j]? = some s → s = .u)
    (h : Ei sl ms (wI X tg iter) fx fun items => items.length < 100000 ∧ ∃ (p : D → Bool) (f : D → D),
      (∀ d acc, d ∈ items → ∃ tv sl2, Blk X scope (fun Y => Eg sl (wG Y tg) d tv sl2) ∧ (∀ j ∈ tv, j ∈ own.map (·.2)) ∧
        Blk X scope fun Y => Et sl2 (ms ++ [.l acc]) (wTs Y ifs) fun b => b = p d ∧ (b = true → Blk X scope fun Z => Er sl2 (ms ++ [.l acc]) (wE Z elt) fun y => y = f d)) ∧
      O.nx (sl.set i (.m ms.length)) (ms ++ [.l ((items.filter p).map f)]))
    (hl : X.env.scope.names.lookup x = some .local := by rfl) (hsw : swapsWith (.ListComp elt [⟨tg, iter, ifs, 0⟩] scope p2) (some (.Name x p)) pos.line X.env = pure true := by rfl)
    (hs : ∀ x, foldedSetIterable iter X.env x = pure x := by intro _; rfl) : Sr sl ms (wS X (.Assign [.Name x p] (.ListComp elt [⟨tg, iter, ifs, 0⟩] scope p2) pos)) O := by
  have key : El sl ms (tLc (wI X tg iter) (fun v σ H Q => ∀ (s : Shared) (H' : Hp) (C : Addr) (cl : List (Str × Addr)) (fp : List Addr), wG (X.blk s H' scope (compEnvC scope cl C X.env) fp) tg v σ H Q)
      (fun σ H Q => ∀ (s : Shared) (H' : Hp) (C : Addr) (cl : List (Str × Addr)) (fp : List Addr), wTs (X.blk s H' scope (compEnvC scope cl C X.env) fp) ifs σ H Q)
      (fun σ H Q => ∀ (s : Shared) (H' : Hp) (C : Addr) (cl : List (Str × Addr)) (fp : List Addr), wE (X.blk s H' scope (compEnvC scope cl C X.env) fp) elt σ H Q) (own.map (·.2))) fun acc => O.nx (sl.set i (.m ms.length)) (ms ++ [.l acc]) := by
    refine el_lc' hv (Ei.mono h fun items ⟨hl, pp, f, step, fin⟩ => ⟨hl, fun i acc => acc = ((items.take i).filter pp).map f, by simp, fun i d acc hd pv => ?_, fun acc e => by rw [e, List.take_length]; exact fin⟩)
    obtain ⟨tv, sl2, g1, g2, g3⟩ := step d acc (List.mem_of_getElem? hd)
    have hn : (items.take (i + 1)).filter pp = (items.take i).filter pp ++ [d].filter pp := by rw [List.take_add_one, hd, List.filter_append]; rfl
    have g0 := g1 X.s_0 X.H_0 0 [] []
    refine ⟨tv, sl2, ⟨g0.len, g0.st, fun ms ho F0 H0 F ps ex σ H v a dv Q k s H' C cl fp => (g1 s H' C cl fp).run ms ho F0 H0 F ps ex σ H v a dv Q k⟩, g2, ?_⟩
    intro ho F0 H0 F ps ex σ H a Q k s H' C cl fp
    refine g3 s H' C cl fp ho F0 H0 F ps ex σ H a Q fun b F' H'' ⟨eb, k1⟩ a' => k b F' H'' ⟨fun e => ?_, fun e => ?_⟩ a'
    · intro ho F0 H0 F ps ex σ H a Q k s H' C cl fp
      refine k1 e s H' C cl fp ho F0 H0 F ps ex σ H a Q fun v y F3 H3 ey a3 => k v y F3 H3 ?_ a3
      show acc ++ [y] = List.map f (List.filter pp (List.take (i + 1) items))
      have pv : acc = List.map f (List.filter pp (List.take i items)) := pv
      rw [hn, pv, ey, List.map_append, show [d].filter pp = [d] by rw [List.filter_cons, if_pos (by rw [← eb]; exact e)]; rfl]; rfl
    · show acc = List.map f (List.filter pp (List.take (i + 1) items))
      have pv : acc = List.map f (List.filter pp (List.take i items)) := pv
      rw [hn, pv, show [d].filter pp = [] by rw [List.filter_cons, if_neg (by rw [← eb, e]; exact Bool.false_ne_true)]; rfl, List.append_nil]
  exact Sr.of (ps_setLc hc hN hi hl hsw pi_w ok (fun s H' C cl fp => ⟨fun pins s1 σ H v u Q I r h => h s H' C cl fp pins s1 u I r⟩) (fun s H' C cl fp => ⟨fun pins s1 σ H Q I h => h s H' C cl fp pins s1 I⟩) (fun s H' C cl fp => ⟨fun pins s1 σ H Q I h => h s H' C cl fp pins s1 I⟩) hs) (sr_setL' key)
/-- a if c else b, what may be one's own -/
theorem jo_if (h : Et sl ms (wT X c) fun t => (t = true → Eo sl ms (wE X a) Ro) ∧ (t = false → Eo sl ms (wE X b) Ro)) : Eo sl ms (wE X (.IfExp c a b pos)) Ro :=
  Eo.of (pe_ifExp pt_w pe_w pe_w) fun ho F0 H0 F ps ex σ H at0 Q q => h ho F0 H0 F ps ex σ H at0 _ fun t F' H' ⟨k1, k2⟩ a' => by
    cases t with
    | true => exact k1 rfl ho F0 H0 F' ps ex σ H' a' Q q
    | false => exact k2 rfl ho F0 H0 F' ps ex σ H' a' Q q
/-- the items of a list of one's own, data -/
theorem ji_ownD {e tg : Expr} {k : Nat} {ds : List D} {Kx : List D → Prop} (hk : ms[k]? = some (.l ds)) (h : Eo sl ms (wE X e) fun i m => m = ms ∧ i = .o k) (hK : Kx ds) : Ei sl ms (wI X tg e) (some (k, .l ds)) Kx :=
  ji_own hk rfl h ⟨ds, rfl, hK⟩
/-- for .. in a list that stays -/
theorem js_forD {O : Out} {tg iter : Expr} {body : List Stmt} {k : Nat} {ob : Ob} (hp : PassesOwn (model X.prog X.w) X.A X.env X.xe) (hc : X.calm = true) (h : Ei sl ms (wI X tg iter) (some (k, ob)) fun items => ∃ Pv : Nat → List Sl → List Ob → Prop, Pv 0 sl ms ∧
    (∀ i sl1 ms1, Pv i sl1 ms1 → ms1[k]? = some ob) ∧
    (∀ i d sl1 ms1, items[i]? = some d → Pv i sl1 ms1 → ∃ tv sl2, Eg sl1 (wG X tg) d tv sl2 ∧ Sr sl2 ms1 (wSs X body) { nx := Pv (i + 1), rt := O.rt, ro := O.ro, bk := O.nx, ct := Pv (i + 1) }) ∧
    ∀ sl1 ms1, Pv items.length sl1 ms1 → O.nx sl1 ms1) (hs : ∀ x, foldedSetIterable iter X.env x = pure x := by intro _; rfl) : Sr sl ms (wS X (.For tg iter body [] pos)) O :=
  Sr.of (ps_for hp hc pi_w pg_w pss_w hs) (sr_forI (EiI.mono h fun is ⟨ds, e, Pv, p0, pf, step, fin⟩ => by
    subst e
    refine ⟨Pv, p0, fun i sl1 ms1 pv k ob z => (by cases z; exact pf i sl1 ms1 pv), fun i d sl1 ms1 hd pv => ?_, fun sl1 ms1 pv => fin sl1 ms1 (by rw [List.length_map] at pv; exact pv)⟩
    obtain ⟨x, hx, rfl⟩ := walk_d hd
    exact step i x sl1 ms1 hx pv))
/-- sorted(x), x a list of one's own, data -/
theorem j_sortDM [KonK X.K] {x : Str} {p p2 : Pos} {R : D → Prop} (i : Nat) {k : Nat} {ds : List D} (hu : X.A.units + 100 < cLine) (hN : X.N[i]? = some x) (hs : sl[i]? = some (.m k)) (hk : ms[k]? = some (.l ds)) (hm : X.mg "sorted" = none) (cs : CanSort ds) (q : R (.lst (sortD ds)))
    (hg : Gl X "sorted" := by rfl) (he : starEach [.Name x p2] X.env = (false, eval (.Name x p2) X.env) :: starEach [] X.env := by rfl)
    (hv : Vis X.env.scope x := by first | exact Or.inl rfl | exact Or.inr (Or.inl rfl) | exact Or.inr (Or.inr rfl)) (hd : (x == ("__debug__" : Str)) = false := by decide) (hcd : (x == ("__classdict__" : Str)) = false := by decide) :
    Er sl ms (wE X (.Call (.Name "sorted" p) [.Name x p2] [] pos)) R :=
  Er.of (pe_callB (cr_sortD hu) hg hm (by decide +kernel) (pa_cons (pv i hN hv hd hcd) pa_nil he) (he := he)) fun ho F0 H0 F ps ex σ H a Q qq => by
    obtain ⟨t, xs, e, hp, ha, hdl⟩ := a.ml hs hk
    refine ⟨_, e, F, t, xs, ds, rfl, a.fh, .inl (.inl ha), hdl, cs, fun ys z h2 hz => ?_⟩
    have a2 := a.laid (o := .lst ys) hz
    exact qq _ _ _ _ q (a2.push (.lst upd_same (h2.mono (Ex.new (a.fh.none hz)))))
end
end E
set_option Elab.async false
set_option linter.all false
set_option maxRecDepth 100000
set_option pp.maxSteps 300
/-! The walk: path_in_list, path_below. -/
namespace A
open PySem PySem.Spec PyProof.Rows L2 E
variable [KF]
def inListT (n : Nat) (v : IW) (k : Nat) : List Nat → Option (List Nat)
  | [] => if v ≠ .turn ∧ n = 2 then none else some []
  | f :: m => if v = .turn then some ((if f = k then k + 1 else if f = k + 1 then k else f) :: m)
    else if f = k then none else if n = 2 then some m else some ((if k < f then f - 1 else f) :: m)
/-- what stands for a path that may not be -/
def OptP (r : D) (o : Option (List Nat)) : Prop := match o with
  | some p => r = pathD p
  | none => r = .non
theorem OptP.some {p : List Nat} : OptP (pathD p) (some p) := rfl
theorem OptP.none : OptP .non none := rfl
section
variable {P : Program} {w : World} {K : PySem.W.Frag} [KonK K] {mg : Str → Option Value} {base : Heap}
abbrev sp_inl : Sp := spD 3 (fun ds => ∃ (d : D) (t : Tree) (v : IW) (q : List Nat) (k : Nat) (p : List Nat), ds = [d, chD (.ix v q k), pathD p] ∧ Tr d t ∧ t.kids.length ≤ 1000 ∧ p.length ≤ 1000 ∧ (v ≠ .turn → ∃ w ts, t = .node w ts)) fun ds r => ∀ (d : D) (t : Tree) (v : IW) (q : List Nat) (k : Nat) (p : List Nat), ds = [d, chD (.ix v q k), pathD p] → Tr d t → OptP r (inListT t.kids.length v k p)
abbrev N_inl : List Str := ["here", "change", "rest", "word", "index", "gone", "first", "more", "turned"]
theorem S_inl : FnScope N_inl ["here", "change", "rest"] (sc 56) := ⟨rfl, rfl, rfl, by decide +kernel, rfl, by decide +kernel, by decide +kernel⟩
theorem IW.memSL (v : IW) : inD (.str v.s) ((["shut", "lose"] : List Str).map D.str) = decide (v ≠ .turn) := by
  rw [inD_strs]
  cases v <;> decide +kernel
theorem IW.memBP (v : IW) : inD (.str v.s) ((["branch", "put"] : List Str).map D.str) = false := by
  rw [inD_strs]
  cases v <;> decide +kernel
theorem Tr.node_is {d : D} {w : Wd} {ts : List Tree} (h : Tr d (.node w ts)) : ∃ es, d = .tup [.str w.s, .tup es] ∧ TrL es ts ∧ 2 ≤ ts.length := by
  cases h with
  | node l h2 => exact ⟨_, rfl, l, h2⟩
theorem turned_get (k g : Nat) : valG (putG (putG [] (Sum.inl ((k : Nat) : Int) : Key) (Di.d (.int (((k : Nat) : Int) + 1)))) (Sum.inl (((k : Nat) : Int) + 1) : Key) (Di.d (.int ((k : Nat) : Int)))) (Sum.inl ((g : Nat) : Int) : Key) = if g = k then some (.d (.int (((k : Nat) : Int) + 1))) else if g = k + 1 then some (.d (.int ((k : Nat) : Int))) else none := by
  have hne : ¬ (Sum.inl ((k : Nat) : Int) : Key) = Sum.inl (((k : Nat) : Int) + 1) := fun h => by injection h with h; omega
  have hp : putG (putG [] (Sum.inl ((k : Nat) : Int) : Key) (Di.d (.int (((k : Nat) : Int) + 1)))) (Sum.inl (((k : Nat) : Int) + 1) : Key) (Di.d (.int ((k : Nat) : Int))) = [(Sum.inl ((k : Nat) : Int), Di.d (.int (((k : Nat) : Int) + 1))), (Sum.inl (((k : Nat) : Int) + 1), Di.d (.int ((k : Nat) : Int)))] := by
    unfold putG
    simp only [List.any_nil, Bool.false_eq_true, if_false, List.nil_append, List.any_cons, Bool.or_false]
    rw [decide_eq_false hne, if_neg Bool.false_ne_true]
    rfl
  rw [hp]
  by_cases h1 : g = k
  · subst h1
    rw [if_pos rfl]
    exact valG_pos rfl
  · rw [if_neg h1, valG_neg (fun h => h1 (by injection h with h; omega))]
    by_cases h2 : g = k + 1
    · subst h2
      rw [if_pos rfl]
      exact valG_pos rfl
    · rw [if_neg h2, valG_neg (fun h => h2 (by injection h with h; omega))]
      rfl
theorem ok_inl {f : Addr} {fd : FuncData} (F : Fun K "path_in_list" "path_in_list" (top 56) f fd) (T : Blt mg) : FnG P w K mg base 1 f fd ["here", "change", "rest"] sp_inl := by
  refine ok_D (m := 6) F S_inl rfl rfl fun cdv A outer s H E ds hr hl hp => ?_
  obtain ⟨d, t, v, q, k, p, rfl, ht, hk, hpl, hn⟩ := hp
  have hux : (cx P w K mg base N_inl "path_in_list" (top 56) f cdv A outer s H E).A.units + 64 < cLine := hu_of hr
  have fin : ∀ r, OptP r (inListT t.kids.length v k p) → ∀ (d' : D) (t' : Tree) (v' : IW) (q' : List Nat) (k' : Nat) (p' : List Nat), [d, chD (.ix v q k), pathD p] = [d', chD (.ix v' q' k'), pathD p'] → Tr d' t' → OptP r (inListT t'.kids.length v' k' p') := fun r h d' t' v' q' k' p' e h' => by
    injection e with e1 e
    injection e with e2 e
    injection e with e3 _
    subst e1
    have e2 := chD_inj e2
    injection e2 with e2 e4 e5
    rw [h'.uniq ht, ← path_inj e3, ← e2, ← e5]
    exact h
  refine jss_cons (js_par 3 4 rfl S_inl.nd rfl rfl (by decide) (j_ixT (j_var 1 rfl rfl (j_int ⟨_, _, _, rfl, rfl, rfl, j_ixT (j_var 1 rfl rfl (j_int ⟨_, _, _, rfl, rfl, rfl, ?_⟩))⟩))))
  refine jss_cons (js_if (jt_eqA hux (j_var 2 rfl rfl (j_tup (j_nil ⟨Nat.le_of_ble_eq_true rfl, (by rw [pathD_ints]; exact shaped_intsD _), shaped_intsD [], ?_⟩)))))
  rw [eqv_path]
  refine ⟨fun e1 => ?_, fun e1 => jss_nil ?_⟩
  · have e1 := of_decide_eq_true e1
    subst e1
    refine jss_cons (js_set 5 S_inl.nd rfl (j_and (j_inD (j_var 3 rfl rfl ?_))))
    refine j_tup ?_
    refine j_con ?_
    refine j_str ?_
    refine j_con ?_
    refine j_str ?_
    refine j_nil ⟨Nat.le_of_ble_eq_true rfl, _, rfl, rfl, rfl, _, rfl, fun e => ?_, fun e => ?_⟩
    · have e : inD (.str v.s) ((["shut", "lose"] : List Str).map D.str) = true := e
      rw [v.memSL] at e
      have e := of_decide_eq_true e
      obtain ⟨w, ts, rfl⟩ := hn e
      obtain ⟨es, rfl, l, h2⟩ := ht.node_is
      have hel := l.len
      have hk : ts.length ≤ 1000 := hk
      refine j_one (j_cmp (j_lenT T.len (j_ixT (j_var 0 rfl rfl (j_int ⟨_, _, _, rfl, rfl, rfl, es, rfl, j_int ⟨_, .eq _ _, ?_⟩⟩)))))
      by_cases h : ts.length = 2
      · rw [decide_eq_true (show (es.length : Int) = 2 by omega)]
        refine jss_one (js_ret (j_if (jt_val (j_var 5 rfl rfl ⟨true, rfl, fun _ => j_non (fin _ ?_), fun z => (by cases z)⟩))))
        rw [inListT, if_pos ⟨e, h⟩]
        exact OptP.none
      · rw [decide_eq_false (show ¬ (es.length : Int) = 2 by omega)]
        refine jss_one (js_ret (j_if (jt_val (j_var 5 rfl rfl ⟨false, rfl, fun z => (by cases z), fun _ => j_tup (j_nil ⟨Nat.le_of_ble_eq_true rfl, fin _ ?_⟩)⟩))))
        rw [inListT, if_neg fun z => h z.2]
        exact OptP.some (p := [])
    · have e : inD (.str v.s) ((["shut", "lose"] : List Str).map D.str) = false := e
      rw [v.memSL] at e
      have e := of_decide_eq_false e
      refine jss_one (js_ret (j_if (jt_val (j_var 5 rfl rfl ⟨false, rfl, fun z => (by cases z), fun _ => j_tup (j_nil ⟨Nat.le_of_ble_eq_true rfl, fin _ ?_⟩)⟩))))
      rw [inListT, if_neg fun z => e z.1]
      exact OptP.some (p := [])
  have e1 := of_decide_eq_false e1
  obtain ⟨g, p, rfl⟩ : ∃ g q, p = g :: q := by
    cases p with
    | nil => exact absurd rfl e1
    | cons i q => exact ⟨i, q, rfl⟩
  rw [List.length_cons] at hpl
  refine jss_cons (js_par 6 7 rfl S_inl.nd rfl rfl (by decide) (j_ixT (j_var 2 rfl rfl (j_int ⟨_, _, .int (g : Nat), rfl, rfl, atI_0, j_slT (j_var 2 rfl rfl (jo_s (j_int ⟨_, rfl, jo_n ⟨_, rfl, ?_⟩⟩)))⟩))))
  rw [cut_1, show List.drop 1 ((g :: p).map fun i : Nat => D.int (i : Int)) = p.map (fun i : Nat => D.int (i : Int)) from rfl]
  refine jss_cons (js_if (jt_inD (j_var 3 rfl rfl ?_)))
  refine j_tup ?_
  refine j_con ?_
  refine j_str ?_
  refine j_con ?_
  refine j_str ?_
  refine j_nil ⟨Nat.le_of_ble_eq_true rfl, _, rfl, rfl, rfl, fun e => ?_, fun _ => jss_nil ?_⟩
  · have e : inD (.str v.s) ((["branch", "put"] : List Str).map D.str) = true := e
    rw [v.memBP] at e; cases e
  refine jss_cons (js_if (jt_cmp (j_var 3 rfl rfl (j_str ⟨_, .eqS _ _, fun e => ?_, fun e => jss_nil ?_⟩))))
  · obtain rfl : v = .turn := IW.inj (of_decide_eq_true e)
    refine jss_cons (js_setO 8 S_inl.nd rfl (jo_dic2 (j_var 4 rfl rfl (j_add (j_var 4 rfl rfl (j_int ⟨_, _, rfl, rfl, j_add (j_var 4 rfl rfl (j_int ⟨_, _, rfl, rfl, j_var 4 rfl rfl ⟨.inl (k : Nat), .inl ((k : Nat) + 1), rfl, rfl, ?_⟩⟩))⟩))))))
    refine jss_one (js_ret (j_cat (j_tup (j_cons (Eo.r (jo_dget2 (Nat.lt_of_le_of_lt (by omega) hux) (jo_var 8 rfl rfl ⟨_, _, rfl, rfl, j_var 6 rfl rfl (Er.o (j_var 6 rfl rfl ⟨_, .inl (g : Nat), rfl, rfl, fun w hw => ?_, fun hw => ?_⟩))⟩)))))))
    · rw [turned_get] at hw
      refine ⟨rfl, ?_⟩
      by_cases h1 : g = k
      · rw [if_pos h1] at hw
        cases hw
        refine ⟨_, rfl, j_nil ⟨Nat.le_of_ble_eq_true rfl, j_var 7 rfl rfl ⟨_, _, rfl, rfl, by rw [List.length_map]; show 1 + p.length ≤ 100000; omega, fin _ ?_⟩⟩⟩
        rw [inListT, if_pos rfl, if_pos h1]
        exact OptP.some (p := (k + 1) :: p)
      · rw [if_neg h1] at hw
        by_cases h2 : g = k + 1
        · rw [if_pos h2] at hw
          cases hw
          refine ⟨_, rfl, j_nil ⟨Nat.le_of_ble_eq_true rfl, j_var 7 rfl rfl ⟨_, _, rfl, rfl, by rw [List.length_map]; show 1 + p.length ≤ 100000; omega, fin _ ?_⟩⟩⟩
          rw [inListT, if_pos rfl, if_neg h1, if_pos h2]
          exact OptP.some (p := k :: p)
        · rw [if_neg h2] at hw
          cases hw
    · rw [turned_get] at hw
      refine ⟨rfl, _, rfl, j_nil ⟨Nat.le_of_ble_eq_true rfl, j_var 7 rfl rfl ⟨_, _, rfl, rfl, by rw [List.length_map]; show 1 + p.length ≤ 100000; omega, fin _ ?_⟩⟩⟩
      by_cases h1 : g = k
      · rw [if_pos h1] at hw; cases hw
      · rw [if_neg h1] at hw
        by_cases h2 : g = k + 1
        · rw [if_pos h2] at hw; cases hw
        · rw [inListT, if_pos rfl, if_neg h1, if_neg h2]
          exact OptP.some (p := g :: p)
  have hv : v ≠ .turn := fun h => (of_decide_eq_false e) (by rw [h]; rfl)
  obtain ⟨w, ts, rfl⟩ := hn hv
  obtain ⟨es, rfl, l, h2⟩ := ht.node_is
  have hel := l.len
  have hk : ts.length ≤ 1000 := hk
  refine jss_cons (js_if (jt_cmp (j_var 6 rfl rfl (j_var 4 rfl rfl ⟨_, .eq _ _, fun e => ?_, fun e => jss_nil ?_⟩))))
  · have e := of_decide_eq_true e
    refine jss_one (js_ret (j_non (fin _ ?_)))
    rw [inListT, if_neg hv, if_pos (by omega)]
    exact OptP.none
  have e := of_decide_eq_false e
  have ng : ¬ g = k := fun h => e (by rw [h])
  refine jss_cons (js_if (jt_cmp (j_lenT T.len (j_ixT (j_var 0 rfl rfl (j_int ⟨_, _, _, rfl, rfl, rfl, es, rfl, j_int ⟨_, .eq _ _, fun e => ?_, fun e => jss_nil ?_⟩⟩))))))
  · have e := of_decide_eq_true e
    have h : ts.length = 2 := by omega
    refine jss_one (js_ret (j_var 7 rfl rfl (fin _ ?_)))
    rw [inListT, if_neg hv, if_neg ng, if_pos (show (Tree.node w ts).kids.length = 2 from h)]
    exact OptP.some (p := p)
  have e := of_decide_eq_false e
  have h : ¬ ts.length = 2 := by omega
  refine jss_one (js_ret (j_cat (j_tup (j_cons (j_sub (j_var 6 rfl rfl (j_intB T.int (j_cmp (j_var 6 rfl rfl (j_var 4 rfl rfl ⟨_, .gt _ _, _, rfl, _, _, rfl, rfl, ?_⟩))))))))))
  refine j_nil ⟨Nat.le_of_ble_eq_true rfl, j_var 7 rfl rfl ⟨_, _, rfl, rfl, by rw [List.length_map]; show 1 + p.length ≤ 100000; omega, fin _ ?_⟩⟩
  rw [inListT, if_neg hv, if_neg ng, if_neg (show ¬ (Tree.node w ts).kids.length = 2 from h)]
  by_cases hg : k < g
  · rw [decide_eq_true (show ((k : Nat) : Int) < (g : Nat) by omega), if_pos rfl, if_pos hg]
    show D.tup _ = D.tup _
    rw [show ((g : Nat) : Int) - 1 = ((g - 1 : Nat) : Int) by omega]
    rfl
  · rw [decide_eq_false (show ¬ ((k : Nat) : Int) < (g : Nat) by omega), if_neg Bool.false_ne_true, if_neg hg, Int.sub_zero]
    exact OptP.some (p := g :: p)
end
end A
set_option Elab.async false
set_option linter.all false
set_option maxRecDepth 100000
set_option pp.maxSteps 300
/-! The walk: path_below, moved_path, index_now. -/
namespace A
open PySem PySem.Spec PyProof.Rows L2 E
variable [KF]
abbrev natD (i : Nat) : D := .int ((i : Nat) : Int)
theorem cutP_to (p : List Nat) (n : Nat) : cutD (p.map natD) none (some (n : Int)) = (p.take n).map natD := by rw [cut_to, List.map_take]
theorem cutP_from (p : List Nat) (n : Nat) : cutD (p.map natD) (some (n : Int)) none = (p.drop n).map natD := by rw [cut_from, List.map_drop]
theorem path_dec (p q : List Nat) : decide ((p.map fun i : Nat => (i : Int)) = q.map fun i : Nat => (i : Int)) = decide (p = q) := decide_eq_decide.mpr ⟨fun h => path_inj (p := p) (q := q) (by rw [pathD_ints, pathD_ints, h]), fun h => by rw [h]⟩
section
variable {X : Cx} [KonK X.K] {sl : List Sl} {ms : List Ob} {a b : Expr} {pos : Pos} {B : Bool → Prop}
theorem jt_neP (hu : X.A.units + 64 < cLine) (h : Er sl ms (wE X a) fun x => Er sl ms (wE X b) fun y => ∃ p q : List Nat, x = pathD p ∧ y = pathD q ∧ B (!decide (p = q))) : Et sl ms (wT X (.Compare a [.NotEq] [b] pos)) B :=
  jt_neT hu (h.mono fun _ h => h.mono fun _ ⟨p, q, e1, e2, k⟩ => ⟨_, _, e1.trans (pathD_ints p), e2.trans (pathD_ints q), by rw [path_dec]; exact k⟩)
end
def belowT (t : Tree) : Chg → List Nat → Option (List Nat)
  | .pl .sides _, p => some p
  | .pl .order _, p => some p
  | .pl .free _, p => some (0 :: p)
  | .pl .round _, p => some (0 :: p)
  | .pl .once _, [] => none
  | .pl .once _, _ :: p => some p
  | .ix v _ k, p => inListT t.kids.length v k p
theorem loc_node {t : Tree} {v : IW} {q : List Nat} {k : Nat} (h : (locT t (.ix v q k)).isSome) (hv : v ≠ .turn) : ∃ w ts, t = .node w ts := by
  cases t with
  | node w ts => exact ⟨w, ts, rfl⟩
  | _ => cases v <;> first | exact absurd rfl hv | (cases h)
theorem inl_len {n : Nat} {v : IW} {k : Nat} : ∀ {p r : List Nat}, inListT n v k p = some r → r.length ≤ p.length
  | [], r, h => by
    rw [inListT] at h
    split at h
    · cases h
    · cases h; exact Nat.le_refl _
  | f :: m, r, h => by
    rw [inListT] at h
    split at h
    · cases h; exact Nat.le_refl _
    · split at h
      · cases h
      · split at h
        · cases h; exact Nat.le_succ _
        · cases h; exact Nat.le_refl _
theorem below_len {t : Tree} {c : Chg} {p r : List Nat} (h : belowT t c p = some r) : r.length ≤ p.length + 1 := by
  cases c with
  | pl v q =>
    cases v with
    | once =>
      cases p with
      | nil => cases h
      | cons a p => cases h; exact Nat.le_succ_of_le (Nat.le_succ _)
    | free => cases h; exact Nat.le_refl _
    | round => cases h; exact Nat.le_refl _
    | sides => cases h; exact Nat.le_succ _
    | order => cases h; exact Nat.le_succ _
  | ix v q k => exact Nat.le_succ_of_le (inl_len h)
section
variable {P : Program} {w : World} {K : PySem.W.Frag} [KonK K] {mg : Str → Option Value} {base : Heap}
abbrev sp_below : Sp := spD 3 (fun ds => ∃ (d : D) (t : Tree) (c : Chg) (p : List Nat), ds = [d, chD c, pathD p] ∧ Tr d t ∧ t.kids.length ≤ 1000 ∧ p.length ≤ 1000 ∧ (locT t c).isSome) fun ds r => ∀ (d : D) (t : Tree) (c : Chg) (p : List Nat), ds = [d, chD c, pathD p] → Tr d t → OptP r (belowT t c p)
abbrev N_below : List Str := ["here", "change", "rest", "word"]
theorem S_below : FnScope N_below ["here", "change", "rest"] (sc 57) := ⟨rfl, rfl, rfl, by decide +kernel, rfl, by decide +kernel, by decide +kernel⟩
theorem PW.memSO (v : PW) : inD (.str v.s) ((["sides", "order"] : List Str).map D.str) = decide (v = .sides ∨ v = .order) := by
  rw [inD_strs]
  cases v <;> decide +kernel
theorem PW.memFR (v : PW) : inD (.str v.s) ((["free", "round"] : List Str).map D.str) = decide (v = .free ∨ v = .round) := by
  rw [inD_strs]
  cases v <;> decide +kernel
theorem IW.memSO (v : IW) : inD (.str v.s) ((["sides", "order"] : List Str).map D.str) = false := by
  rw [inD_strs]
  cases v <;> decide +kernel
theorem IW.memFR (v : IW) : inD (.str v.s) ((["free", "round"] : List Str).map D.str) = false := by
  rw [inD_strs]
  cases v <;> decide +kernel
theorem IW.once (v : IW) : decide (v.s = ("once" : Str)) = false := by cases v <;> decide +kernel
theorem ok_below {f : Addr} {fd : FuncData} (F : Fun K "path_below" "path_below" (top 57) f fd) (T : Blt mg) (ci : Cl P w K mg base 1 "path_in_list" sp_inl) : FnG P w K mg base 2 f fd ["here", "change", "rest"] sp_below := by
  refine ok_D (m := 1) F S_below rfl rfl fun cdv A outer s H E ds hr hl hp => ?_
  obtain ⟨d, t, c, p, rfl, ht, hk, hpl, hloc⟩ := hp
  have hux : (cx P w K mg base N_below "path_below" (top 57) f cdv A outer s H E).A.units + 64 < cLine := hu_of hr
  have fin : ∀ r, OptP r (belowT t c p) → ∀ (d' : D) (t' : Tree) (c' : Chg) (p' : List Nat), [d, chD c, pathD p] = [d', chD c', pathD p'] → Tr d' t' → OptP r (belowT t' c' p') := fun r h d' t' c' p' e h' => by
    injection e with e1 e
    injection e with e2 e
    injection e with e3 _
    subst e1
    rw [h'.uniq ht, ← path_inj e3, ← chD_inj e2]
    exact h
  cases c with
  | pl v q =>
    refine jss_cons (js_set 3 S_below.nd rfl (j_ixT (j_var 1 rfl rfl (j_int ⟨_, _, _, rfl, rfl, rfl, ?_⟩))))
    refine jss_cons (js_if (jt_inD (j_var 3 rfl rfl ?_)))
    refine j_tup ?_
    refine j_con ?_
    refine j_str ?_
    refine j_con ?_
    refine j_str ?_
    refine j_nil ⟨Nat.le_of_ble_eq_true rfl, _, rfl, rfl, rfl, fun e => ?_, fun e => jss_nil ?_⟩
    · have e : inD (.str v.s) ((["sides", "order"] : List Str).map D.str) = true := e
      rw [v.memSO] at e
      refine jss_one (js_ret (j_var 2 rfl rfl (fin _ ?_)))
      rcases of_decide_eq_true e with rfl | rfl <;> exact OptP.some
    have e : inD (.str v.s) ((["sides", "order"] : List Str).map D.str) = false := e
    rw [v.memSO] at e
    have n1 := of_decide_eq_false e
    refine jss_cons (js_if (jt_inD (j_var 3 rfl rfl ?_)))
    refine j_tup ?_
    refine j_con ?_
    refine j_str ?_
    refine j_con ?_
    refine j_str ?_
    refine j_nil ⟨Nat.le_of_ble_eq_true rfl, _, rfl, rfl, rfl, fun e => ?_, fun e => jss_nil ?_⟩
    · have e : inD (.str v.s) ((["free", "round"] : List Str).map D.str) = true := e
      rw [v.memFR] at e
      refine jss_one (js_ret (j_cat (j_tup (j_cons (j_int (j_nil ⟨Nat.le_of_ble_eq_true rfl, j_var 2 rfl rfl ⟨_, _, rfl, rfl, by rw [List.length_map]; show 1 + p.length ≤ 100000; omega, fin _ ?_⟩⟩))))))
      rcases of_decide_eq_true e with rfl | rfl <;> exact OptP.some (p := 0 :: p)
    have e : inD (.str v.s) ((["free", "round"] : List Str).map D.str) = false := e
    rw [v.memFR] at e
    have n2 := of_decide_eq_false e
    obtain rfl : v = .once := by cases v <;> first | rfl | exact absurd (Or.inl rfl) n1 | exact absurd (Or.inr rfl) n1 | exact absurd (Or.inl rfl) n2 | exact absurd (Or.inr rfl) n2
    refine jss_cons (js_if (jt_cmp (j_var 3 rfl rfl (j_str ⟨_, .eqS _ _, fun _ => ?_, fun e => ?_⟩))))
    · refine jss_one (js_ret (j_if (jt_eqA hux (j_var 2 rfl rfl (j_tup (j_nil ⟨Nat.le_of_ble_eq_true rfl, (by rw [pathD_ints]; exact shaped_intsD _), shaped_intsD [], ?_⟩))))))
      rw [eqv_path]
      refine ⟨fun e1 => j_non (fin _ ?_), fun e1 => j_slT (j_var 2 rfl rfl (jo_s (j_int ⟨_, rfl, jo_n ⟨_, rfl, fin _ ?_⟩⟩)))⟩
      · have e1 := of_decide_eq_true e1
        subst e1
        exact OptP.none
      · have e1 := of_decide_eq_false e1
        cases p with
        | nil => exact absurd rfl e1
        | cons a p =>
          rw [cut_1]
          exact OptP.some
    · exact absurd rfl (of_decide_eq_false e)
  | ix v q k =>
    refine jss_cons (js_set 3 S_below.nd rfl (j_ixT (j_var 1 rfl rfl (j_int ⟨_, _, _, rfl, rfl, rfl, ?_⟩))))
    refine jss_cons (js_if (jt_inD (j_var 3 rfl rfl ?_)))
    refine j_tup ?_
    refine j_con ?_
    refine j_str ?_
    refine j_con ?_
    refine j_str ?_
    refine j_nil ⟨Nat.le_of_ble_eq_true rfl, _, rfl, rfl, rfl, fun e => ?_, fun e => jss_nil ?_⟩
    · have e : inD (.str v.s) ((["sides", "order"] : List Str).map D.str) = true := e
      rw [v.memSO] at e; cases e
    refine jss_cons (js_if (jt_inD (j_var 3 rfl rfl ?_)))
    refine j_tup ?_
    refine j_con ?_
    refine j_str ?_
    refine j_con ?_
    refine j_str ?_
    refine j_nil ⟨Nat.le_of_ble_eq_true rfl, _, rfl, rfl, rfl, fun e => ?_, fun e => jss_nil ?_⟩
    · have e : inD (.str v.s) ((["free", "round"] : List Str).map D.str) = true := e
      rw [v.memFR] at e; cases e
    refine jss_cons (js_if (jt_cmp (j_var 3 rfl rfl (j_str ⟨_, .eqS _ _, fun e => ?_, fun e => jss_nil ?_⟩))))
    · rw [v.once] at e; cases e
    refine jss_cons (js_if (jt_w (jw_and (jt_inD (j_var 3 rfl rfl ?_)))))
    refine j_tup ?_
    refine j_con ?_
    refine j_str ?_
    refine j_con ?_
    refine j_str ?_
    refine j_nil ⟨Nat.le_of_ble_eq_true rfl, _, rfl, rfl, rfl, fun e => ?_, fun e => ⟨fun z => (by cases z), fun _ => jss_nil ?_⟩⟩
    · have e : inD (.str v.s) ((["branch", "put"] : List Str).map D.str) = true := e
      rw [v.memBP] at e; cases e
    refine jss_one (js_ret (j_call ci hr (by decide) (j_cons (j_var 0 rfl rfl (j_cons (j_var 1 rfl rfl (j_cons (j_var 2 rfl rfl (j_nil ⟨rfl, ⟨d, t, v, q, k, p, rfl, ht, hk, hpl, fun hv => loc_node hloc hv⟩, fun r hd => ?_⟩)))))))))
    exact fin _ (hd d t v q k p rfl ht)
/-! moved_path -/
def movedT (t : Tree) (c : Chg) (p : List Nat) : Option (List Nat) := if p.take c.path.length ≠ c.path then some p else match atT t c.path with
  | none => none
  | some u => match belowT u c (p.drop c.path.length) with
    | none => none
    | some r => some (c.path ++ r)
/-- a change that can be done -/
def Can (t : Tree) (c : Chg) : Prop := ∃ u v, outT t c = some u ∧ atT t c.path = some v ∧ (locT v c).isSome
theorem can_of {t u : Tree} {c : Chg} (h : outT t c = some u) : Can t c ∧ isProc u = true := by
  have h0 := h
  unfold outT at h
  cases hat : atT t c.path with
  | none => rw [hat] at h; cases h
  | some v =>
    rw [hat] at h
    cases hl : locT v c with
    | none => simp only [hl] at h; cases h
    | some x =>
      simp only [hl] at h
      split at h
      · cases h
        exact ⟨⟨_, v, h0, hat, by rw [hl]; rfl⟩, by assumption⟩
      · cases h
theorem moved_len {t : Tree} {c : Chg} {p r : List Nat} (h : movedT t c p = some r) : r.length ≤ p.length + c.path.length + 1 := by
  unfold movedT at h
  split at h
  · cases h; omega
  · split at h
    · cases h
    · split at h
      · cases h
      · rename_i e
        cases h
        have := below_len e
        rw [List.length_append]
        rw [List.length_drop] at this
        omega
abbrev sp_moved : Sp := spD 3 (fun ds => ∃ (d : D) (t : Tree) (c : Chg) (p : List Nat), ds = [d, chD c, pathD p] ∧ Tr d t ∧ isProc t = true ∧ Can t c ∧ p.length ≤ 1000) fun ds r => ∀ (d : D) (t : Tree) (c : Chg) (p : List Nat), ds = [d, chD c, pathD p] → Tr d t → OptP r (movedT t c p)
abbrev N_moved : List Str := ["procedure", "change", "path", "begin", "told"]
theorem S_moved : FnScope N_moved ["procedure", "change", "path"] (sc 58) := ⟨rfl, rfl, rfl, by decide +kernel, rfl, by decide +kernel, by decide +kernel⟩
theorem ok_moved {f : Addr} {fd : FuncData} (F : Fun K "moved_path" "moved_path" (top 58) f fd) (T : Blt mg) (cb : Cl P w K mg base 2 "path_below" sp_below) (co : Cl P w K mg base 3 "part_on" sp_on) : FnG P w K mg base 4 f fd ["procedure", "change", "path"] sp_moved := by
  refine ok_D (m := 2) F S_moved rfl rfl fun cdv A outer s H E ds hr hl hp => ?_
  obtain ⟨d, t, c, p, rfl, ht, hpr, ⟨u0, v, ho, hat, hloc⟩, hpl⟩ := hp
  have hux : (cx P w K mg base N_moved "moved_path" (top 58) f cdv A outer s H E).A.units + 64 < cLine := hu_of hr
  have fin : ∀ r, OptP r (movedT t c p) → ∀ (d' : D) (t' : Tree) (c' : Chg) (p' : List Nat), [d, chD c, pathD p] = [d', chD c', pathD p'] → Tr d' t' → OptP r (movedT t' c' p') := fun r h d' t' c' p' e h' => by
    injection e with e1 e
    injection e with e2 e
    injection e with e3 _
    subst e1
    rw [h'.uniq ht, ← path_inj e3, ← chD_inj e2]
    exact h
  have hq := isProc_path hpr hat
  have hw := isProc_wide hpr _ _ hat
  obtain ⟨cs, x, ec, ex, xn⟩ := chD_word c
  obtain ⟨cs', ec', ep⟩ := chD_path c
  obtain rfl : cs' = cs := by rw [ec] at ec'; injection ec' with e; exact e.symm
  refine jss_cons (js_if (jt_cmp (j_ixT (j_var 1 rfl rfl (j_int ⟨cs', _, _, ec, rfl, ex, j_str ⟨_, .eqS _ _, fun e => ?_, fun e => jss_nil ?_⟩⟩)))))
  · exact absurd (of_decide_eq_true e) xn
  refine jss_cons (js_set 3 S_moved.nd rfl (j_ixT (j_var 1 rfl rfl (j_int ⟨cs', _, _, ec, rfl, ep, ?_⟩))))
  refine jss_cons (js_if (jt_neP hux (j_slT (j_var 2 rfl rfl (jo_n (jo_s (j_lenT T.len (j_var 3 rfl rfl ⟨_, rfl, _, rfl, _, rfl, j_var 3 rfl rfl ⟨p.take c.path.length, c.path, ?_, rfl, fun e => ?_, fun e => jss_nil ?_⟩⟩))))))))
  · rw [List.length_map]
    exact congrArg D.tup (cutP_to p c.path.length)
  · have e : ¬ p.take c.path.length = c.path := by simpa using e
    refine jss_one (js_ret (j_var 2 rfl rfl (fin _ ?_)))
    unfold movedT
    rw [if_pos e]
    exact OptP.some
  have e : p.take c.path.length = c.path := by simpa using e
  have hm : movedT t c p = match belowT v c (p.drop c.path.length) with
    | none => none
    | some r => some (c.path ++ r) := by
    unfold movedT
    rw [if_neg fun h => h e, hat]
  refine jss_cons (js_set 4 S_moved.nd rfl (j_call cb hr (by decide) (j_cons (j_call co hr (by decide) (j_cons (j_var 0 rfl rfl (j_cons (j_var 3 rfl rfl (j_nil ⟨rfl, ⟨d, t, (c.path.map fun i : Nat => (i : Int)), (by rw [pathD_ints]), ht⟩, fun r hd => ?_⟩)))))))))
  have hr1 := hd d t _ (by rw [pathD_ints]) ht
  rw [atI_path, hat] at hr1
  have hr1 : Tr r v := hr1
  refine j_cons (j_var 1 rfl rfl (j_cons (j_slT (j_var 2 rfl rfl (jo_s (j_lenT T.len (j_var 3 rfl rfl ⟨_, rfl, _, rfl, jo_n ⟨_, rfl, ?_⟩⟩)))))))
  rw [List.length_map, cutP_from]
  refine j_nil ⟨rfl, ⟨r, v, c, p.drop c.path.length, rfl, hr1, hw, by rw [List.length_drop]; omega, hloc⟩, fun r2 hd2 => ?_⟩
  have h2 := hd2 r v c _ rfl hr1
  refine jss_one (js_ret (j_if (jt_isN (j_var 4 rfl rfl ?_))))
  cases hb : belowT v c (p.drop c.path.length) with
  | none =>
    rw [hb] at h2
    have h2 : r2 = .non := h2
    subst h2
    refine ⟨fun _ => j_non (fin _ ?_), fun z => (by cases z)⟩
    rw [hm, hb]
    exact OptP.none
  | some r3 =>
    rw [hb] at h2
    have h2 : r2 = pathD r3 := h2
    subst h2
    have hbl := below_len hb
    rw [List.length_drop] at hbl
    refine ⟨fun z => (by cases z), fun _ => j_cat (j_var 3 rfl rfl (j_var 4 rfl rfl ⟨_, _, rfl, rfl, ?_, fin _ ?_⟩))⟩
    · rw [List.length_map, List.length_map]; omega
    · rw [hm, hb, ← List.map_append]
      exact OptP.some
end
end A
set_option Elab.async false
set_option linter.all false
set_option maxRecDepth 100000
set_option pp.maxSteps 300
/-! The walk: index_now, shift. -/
namespace A
open PySem PySem.Spec PyProof.Rows L2 E
variable [KF]
structure BltM (mg : Str → Option Value) : Prop where
  plain : gK mg "PLAIN" ["free", "once", "order", "round", "sides"]
  indexed : gK mg "INDEXED" ["lose", "shut", "turn"]
  lists : gK mg "LISTS_mergers" ["row", "pick", "sides"]
  merged : gS mg "MERGED" "merged"
  clash : gS mg "CLASH" "clash"
  told : gI mg "MOST_TOLD" 2
def indexT (t : Tree) (c : Chg) (p now : List Nat) (k : Nat) : Option Nat := match movedT t c (p ++ [k]) with
  | none => none
  | some th => if th.length < now.length + 1 ∨ th.take now.length ≠ now then none else th[now.length]?
def optN : Option Nat → D
  | none => .non
  | some n => natD n
theorem path_snoc (p : List Nat) (k : Nat) : pathD (p ++ [k]) = .tup (p.map natD ++ [natD k]) := by
  show D.tup _ = _
  rw [List.map_append]
  rfl
theorem OptP.isN {r : D} {o : Option (List Nat)} (h : OptP r o) : E.isN r = !o.isSome := by
  cases o with
  | none => have h : r = .non := h; rw [h]; rfl
  | some u => have h : r = pathD u := h; rw [h]; rfl
section
variable {P : Program} {w : World} {K : PySem.W.Frag} [KonK K] {mg : Str → Option Value} {base : Heap}
abbrev sp_inow : Sp := spD 5 (fun ds => ∃ (d : D) (t : Tree) (c : Chg) (p now : List Nat) (k : Nat), ds = [d, chD c, pathD p, pathD now, natD k] ∧ Tr d t ∧ isProc t = true ∧ Can t c ∧ p.length ≤ 900 ∧ now.length ≤ 1000) fun ds r => ∀ (d : D) (t : Tree) (c : Chg) (p now : List Nat) (k : Nat), ds = [d, chD c, pathD p, pathD now, natD k] → Tr d t → r = optN (indexT t c p now k)
abbrev N_inow : List Str := ["procedure", "change", "path", "now", "index", "there"]
theorem S_inow : FnScope N_inow ["procedure", "change", "path", "now", "index"] (sc 59) := ⟨rfl, rfl, rfl, by decide +kernel, rfl, by decide +kernel, by decide +kernel⟩
theorem ok_inow {f : Addr} {fd : FuncData} (F : Fun K "index_now" "index_now" (top 59) f fd) (T : Blt mg) (cm : Cl P w K mg base 4 "moved_path" sp_moved) : FnG P w K mg base 5 f fd ["procedure", "change", "path", "now", "index"] sp_inow := by
  refine ok_D (m := 1) F S_inow rfl rfl fun cdv A outer s H E ds hr hl hp => ?_
  obtain ⟨d, t, c, p, now, k, rfl, ht, hpr, hc, hpl, hnl⟩ := hp
  have hux : (cx P w K mg base N_inow "index_now" (top 59) f cdv A outer s H E).A.units + 64 < cLine := hu_of hr
  have fin : ∀ r, r = optN (indexT t c p now k) → ∀ (d' : D) (t' : Tree) (c' : Chg) (p' now' : List Nat) (k' : Nat), [d, chD c, pathD p, pathD now, natD k] = [d', chD c', pathD p', pathD now', natD k'] → Tr d' t' → r = optN (indexT t' c' p' now' k') := fun r h d' t' c' p' now' k' e h' => by
    injection e with e1 e
    injection e with e2 e
    injection e with e3 e
    injection e with e4 e
    injection e with e5 _
    injection e5 with e5
    subst e1
    rw [h'.uniq ht, ← path_inj e3, ← chD_inj e2, ← path_inj e4, ← Int.ofNat.inj e5]
    exact h
  have hcl : c.path.length ≤ 7 := let ⟨_, _, _, h, _⟩ := hc; isProc_path hpr h
  refine jss_cons (js_set 5 S_inow.nd rfl (j_call cm hr (by decide) (j_cons (j_var 0 rfl rfl (j_cons (j_var 1 rfl rfl (j_cons (j_cat (j_var 2 rfl rfl (j_tup (j_cons (j_var 4 rfl rfl (j_nil ⟨Nat.le_of_ble_eq_true rfl, _, _, rfl, rfl, ?_, ?_⟩)))))))))))))
  · rw [List.length_map]; show p.length + 1 ≤ 100000; omega
  refine j_nil ⟨rfl, ⟨d, t, c, p ++ [k], (by rw [path_snoc]), ht, hpr, hc, (by rw [List.length_append]; show p.length + 1 ≤ 1000; omega)⟩, fun r hd => ?_⟩
  have h := hd d t c (p ++ [k]) (by rw [path_snoc]) ht
  refine jss_cons (js_if (jt_w (jw_or (jt_isN (j_var 5 rfl rfl ?_)))))
  rw [h.isN]
  cases hm : movedT t c (p ++ [k]) with
  | none =>
    refine ⟨fun z => (by cases z), fun _ => ⟨fun _ => jss_one (js_ret (j_non (fin _ ?_))), fun z => (by cases z)⟩⟩
    unfold indexT
    rw [hm]
    rfl
  | some th =>
    rw [hm] at h
    have h : r = pathD th := h
    subst h
    have hl := moved_len hm
    rw [List.length_append] at hl
    have hl : th.length ≤ p.length + 1 + c.path.length + 1 := hl
    refine ⟨fun _ => ?_, fun z => (by cases z)⟩
    refine jw_or (jt_cmp (j_lenT T.len (j_var 5 rfl rfl ⟨_, rfl, j_add (j_lenT T.len (j_var 3 rfl rfl ⟨_, rfl, j_int ⟨_, _, rfl, rfl, _, .lt _ _, fun e => ?_, fun e => ⟨fun _ => jss_one (js_ret (j_non (fin _ ?_))), fun z => (by cases z)⟩⟩⟩))⟩)))
    rotate_left
    · have e := of_decide_eq_true e
      rw [List.length_map, List.length_map] at e
      unfold indexT
      rw [hm]
      show D.non = optN (if _ then _ else _)
      rw [if_pos (.inl (by omega))]
      rfl
    have e := of_decide_eq_false e
    rw [List.length_map, List.length_map] at e
    refine jw_or1 (jt_neP hux (j_slT (j_var 5 rfl rfl (jo_n (jo_s (j_lenT T.len (j_var 3 rfl rfl ⟨_, rfl, _, rfl, _, rfl, j_var 3 rfl rfl ⟨th.take now.length, now, ?_, rfl, fun e2 => jss_one (js_ret (j_non (fin _ ?_))), fun e2 => jss_nil ?_⟩⟩)))))))
    · rw [List.length_map]
      exact congrArg D.tup (cutP_to th now.length)
    · have e2 : ¬ th.take now.length = now := by simpa using e2
      unfold indexT
      rw [hm]
      show D.non = optN (if _ then _ else _)
      rw [if_pos (.inr e2)]
      rfl
    · have e2 : th.take now.length = now := by simpa using e2
      obtain ⟨x, hx⟩ : ∃ x, th[now.length]? = some x := ⟨_, List.getElem?_eq_getElem (by omega)⟩
      refine jss_one (js_ret (j_ixT (j_var 5 rfl rfl (j_lenT T.len (j_var 3 rfl rfl ⟨_, rfl, _, _, natD x, rfl, rfl, ?_, fin _ ?_⟩)))))
      · rw [List.length_map]
        refine atI_nat ?_
        rw [List.getElem?_map, hx]
        rfl
      · unfold indexT
        rw [hm]
        show natD x = optN (if _ then _ else _)
        rw [if_neg (fun z => z.elim (fun z => e (by omega)) (fun z => z e2)), hx]
        rfl
/-! shift -/
def shiftT (t : Tree) (c o : Chg) : Option Chg := match outT t c, movedT t c o.path with
  | some n, some now => match o with
    | .pl v _ => if (outT n (.pl v now)).isSome then some (.pl v now) else none
    | .ix v q k => match indexT t c q now k with
      | none => none
      | some i => if v = .turn ∧ indexT t c q now (k + 1) ≠ some (i + 1) then none else if (outT n (.ix v now i)).isSome then some (.ix v now i) else none
  | _, _ => none
def OptC (r : D) (o : Option Chg) : Prop := match o with
  | some c => r = chD c
  | none => r = .non
theorem OptC.none : OptC .non none := rfl
theorem OptC.some {c : Chg} : OptC (chD c) (some c) := rfl
theorem PW.memP (v : PW) : inD (.str v.s) ((["free", "once", "order", "round", "sides"] : List Str).map D.str) = true := by
  rw [inD_strs]
  cases v <;> decide +kernel
theorem IW.memP (v : IW) : inD (.str v.s) ((["free", "once", "order", "round", "sides"] : List Str).map D.str) = false := by
  rw [inD_strs]
  cases v <;> decide +kernel
theorem IW.memI (v : IW) : inD (.str v.s) ((["lose", "shut", "turn"] : List Str).map D.str) = true := by
  rw [inD_strs]
  cases v <;> decide +kernel
theorem optN_shaped (o : Option Nat) : SeqAt.shaped (E.toP (optN o)) = true := by cases o <;> rfl
theorem optN_eqv (o : Option Nat) (n : Nat) : PyData.eqv (E.toP (optN o)) (E.toP (.int (((n : Nat) : Int) + 1))) = decide (o = some (n + 1)) := by
  cases o with
  | none => rfl
  | some m =>
    simp only [optN, E.toP, PyData.eqv]
    by_cases h : m = n + 1
    · subst h; simp
    · have : ¬ ((m : Nat) : Int) = (n : Int) + 1 := by omega
      simp [h, this]
end
end A
set_option Elab.async false
set_option linter.all false
set_option maxRecDepth 100000
set_option pp.maxSteps 300
/-! The walk: shift, check_change, done_after. -/
namespace A
open PySem PySem.Spec PyProof.Rows L2 E
variable [KF]
section
variable {P : Program} {w : World} {K : PySem.W.Frag} [KonK K] {mg : Str → Option Value} {base : Heap}
abbrev sp_shift : Sp := spD 3 (fun ds => ∃ (d : D) (t : Tree) (c o : Chg), ds = [d, chD c, chD o] ∧ Tr d t ∧ isProc t = true ∧ Can t c ∧ Can t o) fun ds r => ∀ (d : D) (t : Tree) (c o : Chg), ds = [d, chD c, chD o] → Tr d t → OptC r (shiftT t c o)
abbrev N_shift : List Str := ["procedure", "change", "other", "newer", "now", "found", "index"]
theorem S_shift : FnScope N_shift ["procedure", "change", "other"] (sc 61) := ⟨rfl, rfl, rfl, by decide +kernel, rfl, by decide +kernel, by decide +kernel⟩
theorem Can.len {t : Tree} {c : Chg} (hp : isProc t = true) (h : Can t c) : c.path.length ≤ 7 := let ⟨_, _, _, h, _⟩ := h; isProc_path hp h
theorem IW.isTurn (v : IW) : decide (v.s = ("turn" : Str)) = decide (v = .turn) := by cases v <;> decide +kernel
theorem ok_shift {f : Addr} {fd : FuncData} (F : Fun K "shift" "shift" (top 61) f fd) (T : Blt mg) (TM : BltM mg) (co : Cl P w K mg base 12 "outcome" sp_outc) (cm : Cl P w K mg base 4 "moved_path" sp_moved) (ci : Cl P w K mg base 5 "index_now" sp_inow) : FnG P w K mg base 13 f fd ["procedure", "change", "other"] sp_shift := by
  refine ok_D (m := 4) F S_shift rfl rfl fun cdv A outer s H E ds hr hl hp => ?_
  obtain ⟨d, t, c, o, rfl, ht, hpr, hc, ho⟩ := hp
  have fin : ∀ r, OptC r (shiftT t c o) → ∀ (d' : D) (t' : Tree) (c' o' : Chg), [d, chD c, chD o] = [d', chD c', chD o'] → Tr d' t' → OptC r (shiftT t' c' o') := fun r h d' t' c' o' e h' => by
    injection e with e1 e
    injection e with e2 e
    injection e with e3 _
    subst e1
    rw [h'.uniq ht, ← chD_inj e2, ← chD_inj e3]
    exact h
  have hcl := hc.len hpr
  have hol := ho.len hpr
  obtain ⟨pm, pm1, pk⟩ := TM.plain
  obtain ⟨im, im1, ik⟩ := TM.indexed
  obtain ⟨n, v0, hn, _, _⟩ := id hc
  have hnp := (can_of hn).2
  refine jss_cons (js_set 3 S_shift.nd rfl (j_call co hr (by decide) (j_cons (j_var 0 rfl rfl (j_cons (j_var 1 rfl rfl (j_nil ⟨rfl, ⟨d, t, c, rfl, ht, hpr⟩, fun rn hd => ?_⟩)))))))
  have hrn := hd d t c rfl ht
  rw [hn] at hrn
  have hrn : Tr rn n := hrn
  obtain ⟨cs, x, ec, ex, xn⟩ := chD_word o
  obtain ⟨cs', ec', ep⟩ := chD_path o
  obtain rfl : cs' = cs := by rw [ec] at ec'; injection ec' with e; exact e.symm
  refine jss_cons (js_if (jt_cmp (j_ixT (j_var 2 rfl rfl (j_int ⟨cs', _, _, ec, rfl, ex, j_str ⟨_, .eqS _ _, fun e => ?_, fun e => jss_nil ?_⟩⟩)))))
  · exact absurd (of_decide_eq_true e) xn
  refine jss_cons (js_set 4 S_shift.nd rfl (j_call cm hr (by decide) (j_cons (j_var 0 rfl rfl (j_cons (j_var 1 rfl rfl (j_cons (j_ixT (j_var 2 rfl rfl (j_int ⟨cs', _, _, ec, rfl, ep, j_nil ⟨rfl, ⟨d, t, c, o.path, rfl, ht, hpr, hc, by omega⟩, fun rm hd2 => ?_⟩⟩))))))))))
  have hrm := hd2 d t c o.path rfl ht
  refine jss_cons (js_if (jt_isN (j_var 4 rfl rfl ?_)))
  rw [hrm.isN]
  cases hm : movedT t c o.path with
  | none =>
    refine ⟨fun _ => jss_one (js_ret (j_non (fin _ ?_))), fun z => (by cases z)⟩
    unfold shiftT
    rw [hn, hm]
    exact OptC.none
  | some now =>
    rw [hm] at hrm
    have hrm : rm = pathD now := hrm
    subst hrm
    have hnl := moved_len hm
    refine ⟨fun z => (by cases z), fun _ => jss_nil ?_⟩
    cases o with
    | pl v q =>
      cases ec
      have hs : shiftT t c (.pl v q) = if (outT n (.pl v now)).isSome then some (.pl v now) else none := by
        unfold shiftT
        rw [hn, hm]
      refine jss_cons (js_if (jt_inD (j_ixT (j_var 2 rfl rfl (j_int ⟨_, _, _, rfl, rfl, rfl, j_gkon pm1 pk ⟨_, rfl, rfl, rfl, fun _ => ?_, fun e => ?_⟩⟩)))))
      · refine jss_one (js_set 5 S_shift.nd rfl (j_tup (j_cons (j_ixT (j_var 2 rfl rfl (j_int ⟨_, _, _, rfl, rfl, rfl, j_cons (j_var 4 rfl rfl (j_nil ⟨Nat.le_of_ble_eq_true rfl, ?_⟩))⟩))))))
        refine jss_one (js_ret (j_if (jt_notN (j_call co hr (by decide) (j_cons (j_var 3 rfl rfl (j_cons (j_var 5 rfl rfl (j_nil ⟨rfl, ⟨rn, n, .pl v now, rfl, hrn, hnp⟩, fun r3 hd3 => ?_⟩)))))))))
        have h3 := hd3 rn n (.pl v now) rfl hrn
        rw [h3.isN, Bool.not_not]
        refine ⟨fun e => j_var 5 rfl rfl (fin _ ?_), fun e => j_non (fin _ ?_)⟩
        · rw [hs, if_pos e]; exact OptC.some (c := .pl v now)
        · rw [hs, if_neg (by rw [e]; decide)]; exact OptC.none
      · have e : inD (.str v.s) ((["free", "once", "order", "round", "sides"] : List Str).map D.str) = false := e
        rw [v.memP] at e; cases e
    | ix v q k =>
      cases ec
      refine jss_cons (js_if (jt_inD (j_ixT (j_var 2 rfl rfl (j_int ⟨_, _, _, rfl, rfl, rfl, j_gkon pm1 pk ⟨_, rfl, rfl, rfl, fun e => ?_, fun _ => ?_⟩⟩)))))
      · have e : inD (.str v.s) ((["free", "once", "order", "round", "sides"] : List Str).map D.str) = true := e
        rw [v.memP] at e; cases e
      refine jss_one (js_if (jt_inD (j_ixT (j_var 2 rfl rfl (j_int ⟨_, _, _, rfl, rfl, rfl, j_gkon im1 ik ⟨_, rfl, rfl, rfl, fun _ => ?_, fun e => ?_⟩⟩)))))
      rotate_left
      · have e : inD (.str v.s) ((["lose", "shut", "turn"] : List Str).map D.str) = false := e
        rw [v.memI] at e; cases e
      have hol : q.length ≤ 7 := hol
      have hnl : now.length ≤ q.length + c.path.length + 1 := hnl
      refine jss_cons (js_set 6 S_shift.nd rfl (j_call ci hr (by decide) (j_cons (j_var 0 rfl rfl (j_cons (j_var 1 rfl rfl (j_cons (j_ixT (j_var 2 rfl rfl (j_int ⟨_, _, _, rfl, rfl, rfl, j_cons (j_var 4 rfl rfl (j_cons (j_ixT (j_var 2 rfl rfl (j_int ⟨_, _, _, rfl, rfl, rfl, j_nil ⟨rfl, ⟨d, t, c, q, now, k, rfl, ht, hpr, hc, by omega, by omega⟩, fun ri hd3 => ?_⟩⟩)))))⟩))))))))))
      have hri := hd3 d t c q now k rfl ht
      subst hri
      refine jss_cons (js_if (jt_isN (j_var 6 rfl rfl ?_)))
      cases hi : indexT t c q now k with
      | none =>
        refine ⟨fun _ => jss_one (js_ret (j_non (fin _ ?_))), fun z => (by cases z)⟩
        unfold shiftT
        rw [hn, hm]
        simp only [hi]
        exact OptC.none
      | some i =>
        have hs : shiftT t c (.ix v q k) = if v = .turn ∧ indexT t c q now (k + 1) ≠ some (i + 1) then none else if (outT n (.ix v now i)).isSome then some (.ix v now i) else none := by
          unfold shiftT
          rw [hn, hm]
          simp only [hi]
        refine ⟨fun z => (by cases z), fun _ => jss_nil ?_⟩
        have tail : ¬ (v = .turn ∧ indexT t c q now (k + 1) ≠ some (i + 1)) → ∀ {O : Out} {st : Stmt} {rest : List Stmt}, True := fun _ _ _ _ => trivial
        refine jss_cons (js_if (jt_w (jw_and (jt_cmp (j_ixT (j_var 2 rfl rfl (j_int ⟨_, _, _, rfl, rfl, rfl, j_str ⟨_, .eqS _ _, ?_⟩⟩)))))))
        rw [v.isTurn]
        refine ⟨fun e => ?_, fun e => ⟨fun z => (by cases z), fun _ => jss_nil ?_⟩⟩
        · have e := of_decide_eq_true e
          refine jw_and1 (jt_neA (hr.mono (Nat.zero_le _)) (j_call ci hr (by decide) (j_cons (j_var 0 rfl rfl (j_cons (j_var 1 rfl rfl (j_cons (j_ixT (j_var 2 rfl rfl (j_int ⟨_, _, _, rfl, rfl, rfl, j_cons (j_var 4 rfl rfl (j_cons (j_add (j_ixT (j_var 2 rfl rfl (j_int ⟨_, _, _, rfl, rfl, rfl, j_int ⟨_, _, rfl, rfl, j_nil ⟨rfl, ⟨d, t, c, q, now, k + 1, rfl, ht, hpr, hc, by omega, by omega⟩, fun rj hd4 => ?_⟩⟩⟩))))))⟩))))))))))
          have hrj := hd4 d t c q now (k + 1) rfl ht
          subst hrj
          refine j_add (j_var 6 rfl rfl (j_int ⟨_, _, rfl, rfl, optN_shaped _, rfl, ?_⟩))
          rw [optN_eqv]
          refine ⟨fun e2 => ?_, fun e2 => jss_nil ?_⟩
          · have e2 : ¬ indexT t c q now (k + 1) = some (i + 1) := by simpa using e2
            refine jss_one (js_ret (j_non (fin _ ?_)))
            rw [hs, if_pos ⟨e, e2⟩]
            exact OptC.none
          · have e2 : indexT t c q now (k + 1) = some (i + 1) := by simpa using e2
            refine jss_one (js_set 5 S_shift.nd rfl (j_tup (j_cons (j_ixT (j_var 2 rfl rfl (j_int ⟨_, _, _, rfl, rfl, rfl, j_cons (j_var 4 rfl rfl (j_cons (j_var 6 rfl rfl (j_nil ⟨Nat.le_of_ble_eq_true rfl, ?_⟩))))⟩))))))
            refine jss_one (js_ret (j_if (jt_notN (j_call co hr (by decide) (j_cons (j_var 3 rfl rfl (j_cons (j_var 5 rfl rfl (j_nil ⟨rfl, ⟨rn, n, .ix v now i, rfl, hrn, hnp⟩, fun r3 hd3 => ?_⟩)))))))))
            have h3 := hd3 rn n (.ix v now i) rfl hrn
            rw [h3.isN, Bool.not_not]
            refine ⟨fun e => j_var 5 rfl rfl (fin _ ?_), fun e => j_non (fin _ ?_)⟩
            · rw [hs, if_neg (fun z => z.2 e2), if_pos e]; exact OptC.some (c := .ix v now i)
            · rw [hs, if_neg (fun z => z.2 e2), if_neg (by rw [e]; decide)]; exact OptC.none
        · have ev := of_decide_eq_false e
          refine jss_one (js_set 5 S_shift.nd rfl (j_tup (j_cons (j_ixT (j_var 2 rfl rfl (j_int ⟨_, _, _, rfl, rfl, rfl, j_cons (j_var 4 rfl rfl (j_cons (j_var 6 rfl rfl (j_nil ⟨Nat.le_of_ble_eq_true rfl, ?_⟩))))⟩))))))
          refine jss_one (js_ret (j_if (jt_notN (j_call co hr (by decide) (j_cons (j_var 3 rfl rfl (j_cons (j_var 5 rfl rfl (j_nil ⟨rfl, ⟨rn, n, .ix v now i, rfl, hrn, hnp⟩, fun r3 hd3 => ?_⟩)))))))))
          have h3 := hd3 rn n (.ix v now i) rfl hrn
          rw [h3.isN, Bool.not_not]
          refine ⟨fun e => j_var 5 rfl rfl (fin _ ?_), fun e => j_non (fin _ ?_)⟩
          · rw [hs, if_neg (fun z => ev z.1), if_pos e]; exact OptC.some (c := .ix v now i)
          · rw [hs, if_neg (fun z => ev z.1), if_neg (by rw [e]; decide)]; exact OptC.none
/-! check_change -/
abbrev sp_cch : Sp := spD 2 (fun ds => ∃ (d : D) (t : Tree) (c : Chg), ds = [d, chD c] ∧ Tr d t ∧ isProc t = true ∧ Can t c) fun _ _ => True
theorem S_cch : FnScope ["procedure", "change"] ["procedure", "change"] (sc 62) := ⟨rfl, rfl, rfl, by decide +kernel, rfl, by decide +kernel, by decide +kernel⟩
theorem ok_cch {f : Addr} {fd : FuncData} (F : Fun K "check_change" "check_change" (top 62) f fd) (T : Blt mg) (co : Cl P w K mg base 12 "outcome" sp_outc) : FnG P w K mg base 13 f fd ["procedure", "change"] sp_cch := by
  refine ok_D (m := 0) F S_cch rfl rfl fun cdv A outer s H E ds hr hl hp => ?_
  obtain ⟨d, t, c, rfl, ht, hpr, n, v0, hn, _, _⟩ := hp
  refine jss_one (js_if (jt_isN (j_call co hr (by decide) (j_cons (j_var 0 rfl rfl (j_cons (j_var 1 rfl rfl (j_nil ⟨rfl, ⟨d, t, c, rfl, ht, hpr⟩, fun r hd => ?_⟩))))))))
  have h := hd d t c rfl ht
  rw [hn] at h
  rw [h.isN]
  exact ⟨fun z => (by cases z), fun _ => jss_nil trivial⟩
/-! done_after -/
def doneT (t : Tree) (c o : Chg) : Option Tree := match shiftT t c o, outT t c with
  | some f, some n => outT n f
  | _, _ => none
abbrev sp_done : Sp := spD 3 (fun ds => ∃ (d : D) (t : Tree) (c o : Chg), ds = [d, chD c, chD o] ∧ Tr d t ∧ isProc t = true ∧ Can t c ∧ Can t o) fun ds r => ∀ (d : D) (t : Tree) (c o : Chg), ds = [d, chD c, chD o] → Tr d t → OptTr r (doneT t c o)
abbrev N_done : List Str := ["procedure", "change", "other", "told"]
theorem S_done : FnScope N_done ["procedure", "change", "other"] (sc 63) := ⟨rfl, rfl, rfl, by decide +kernel, rfl, by decide +kernel, by decide +kernel⟩
theorem ok_done {f : Addr} {fd : FuncData} (F : Fun K "done_after" "done_after" (top 63) f fd) (T : Blt mg) (cs : Cl P w K mg base 13 "shift" sp_shift) (co : Cl P w K mg base 12 "outcome" sp_outc) : FnG P w K mg base 14 f fd ["procedure", "change", "other"] sp_done := by
  refine ok_D (m := 1) F S_done rfl rfl fun cdv A outer s H E ds hr hl hp => ?_
  obtain ⟨d, t, c, o, rfl, ht, hpr, hc, ho⟩ := hp
  have fin : ∀ r, OptTr r (doneT t c o) → ∀ (d' : D) (t' : Tree) (c' o' : Chg), [d, chD c, chD o] = [d', chD c', chD o'] → Tr d' t' → OptTr r (doneT t' c' o') := fun r h d' t' c' o' e h' => by
    injection e with e1 e
    injection e with e2 e
    injection e with e3 _
    subst e1
    rw [h'.uniq ht, ← chD_inj e2, ← chD_inj e3]
    exact h
  obtain ⟨n, v0, hn, _, _⟩ := id hc
  have hnp := (can_of hn).2
  refine jss_cons (js_set 3 S_done.nd rfl (j_call cs hr (by decide) (j_cons (j_var 0 rfl rfl (j_cons (j_var 1 rfl rfl (j_cons (j_var 2 rfl rfl (j_nil ⟨rfl, ⟨d, t, c, o, rfl, ht, hpr, hc, ho⟩, fun r hd => ?_⟩)))))))))
  have h := hd d t c o rfl ht
  refine jss_one (js_ret (j_if (jt_isN (j_var 3 rfl rfl ?_))))
  cases hs : shiftT t c o with
  | none =>
    rw [hs] at h
    have h : r = .non := h
    subst h
    refine ⟨fun _ => j_non (fin _ ?_), fun z => (by cases z)⟩
    unfold doneT
    rw [hs]
    exact OptTr.none
  | some g =>
    rw [hs] at h
    have h : r = chD g := h
    subst h
    refine ⟨fun z => (by cases g <;> cases z), fun _ => ?_⟩
    refine j_call co hr (by decide) (j_cons (j_call co hr (by decide) (j_cons (j_var 0 rfl rfl (j_cons (j_var 1 rfl rfl (j_nil ⟨rfl, ⟨d, t, c, rfl, ht, hpr⟩, fun rn hd2 => ?_⟩)))))))
    have hrn := hd2 d t c rfl ht
    rw [hn] at hrn
    have hrn : Tr rn n := hrn
    refine j_cons (j_var 3 rfl rfl (j_nil ⟨rfl, ⟨rn, n, g, rfl, hrn, hnp⟩, fun r2 hd3 => fin _ ?_⟩))
    have h3 := hd3 rn n g rfl hrn
    unfold doneT
    rw [hs, hn]
    exact h3
end
end A
set_option Elab.async false
set_option linter.all false
set_option maxRecDepth 100000
set_option pp.maxSteps 300
/-! How great trees are, how long their texts. Plain. -/
namespace A
open PySem PySem.Spec PyProof.Rows L2 E
variable [KF]
mutual
def cntT : Tree → Nat
  | .deed _ => 1
  | .skip => 1
  | .again t => cntT t + 1
  | .node _ ts => cntTs ts + 1
def cntTs : List Tree → Nat
  | [] => 0
  | t :: ts => cntT t + cntTs ts
end
mutual
theorem cnt_paths : ∀ t : Tree, (pathsT t).length = cntT t
  | .deed _ => by rw [pathsT, cntT]; rfl
  | .skip => by rw [pathsT, cntT]; rfl
  | .again t => by rw [pathsT, cntT, List.length_cons, List.length_map, cnt_paths t]
  | .node w ts => by rw [pathsT, cntT, List.length_cons, cnt_from 0 ts]
theorem cnt_from : ∀ (k : Nat) (ts : List Tree), (pathsFrom k ts).length = cntTs ts
  | k, [] => by rw [pathsFrom, cntTs]; rfl
  | k, t :: ts => by rw [pathsFrom, cntTs, List.length_append, List.length_map, cnt_paths t, cnt_from (k + 1) ts]
end
theorem cnt_kids (t : Tree) : cntT t = cntTs t.kids + 1 := by
  cases t with
  | deed n => rw [cntT]; rfl
  | skip => rw [cntT]; rfl
  | again t => rw [cntT]; show _ = cntTs [t] + 1; rw [cntTs, cntTs]
  | node w ts => rw [cntT]; rfl
theorem cntTs_app : ∀ a b : List Tree, cntTs (a ++ b) = cntTs a + cntTs b
  | [], b => by rw [cntTs, List.nil_append, Nat.zero_add]
  | t :: a, b => by rw [List.cons_append, cntTs, cntTs, cntTs_app a b]; omega
theorem cnt_pos (t : Tree) : 1 ≤ cntT t := by rw [cnt_kids]; omega
theorem cntTs_len : ∀ ts : List Tree, ts.length ≤ cntTs ts
  | [] => Nat.zero_le _
  | t :: ts => by
    have := cntTs_len ts
    have := cnt_pos t
    rw [cntTs, List.length_cons]; omega
theorem split_at {ts : List Tree} {i : Nat} {v : Tree} (h : ts[i]? = some v) : ts = ts.take i ++ [v] ++ ts.drop (i + 1) := by
  have hi := (List.getElem?_eq_some_iff.mp h).1
  have he := (List.getElem?_eq_some_iff.mp h).2
  rw [List.append_assoc, ← he, List.singleton_append, ← List.drop_eq_getElem_cons hi, List.take_append_drop]
theorem withKids_cnt {t : Tree} {i : Nat} {v x : Tree} (h : t.kids[i]? = some v) : cntT (t.withKids (t.kids.take i ++ [x] ++ t.kids.drop (i + 1))) + cntT v = cntT t + cntT x := by
  cases t with
  | deed n => cases h
  | skip => cases h
  | again u =>
    have hi : i < 1 := (List.getElem?_eq_some_iff.mp h).1
    obtain rfl : i = 0 := by omega
    obtain rfl : u = v := by simpa [Tree.kids] using h
    show cntT (Tree.again x) + cntT u = cntT (Tree.again u) + cntT x
    rw [cntT, cntT]; omega
  | node w ts =>
    have e := congrArg cntTs (split_at (ts := ts) h)
    rw [cntTs_app, cntTs_app, cntTs, cntTs] at e
    show cntT (Tree.node w (ts.take i ++ [x] ++ ts.drop (i + 1))) + cntT v = _
    rw [cntT, cntT, cntTs_app, cntTs_app, cntTs, cntTs]
    omega
theorem put_cnt : ∀ {p : List Nat} {t u x : Tree}, atT t p = some u → cntT (putT t p x) + cntT u = cntT t + cntT x
  | [], t, u, x, h => by
    rw [atT] at h
    cases h
    rw [putT]; omega
  | i :: p, t, u, x, h => by
    rw [atT] at h
    cases hv : t.kids[i]? with
    | none => rw [hv] at h; cases h
    | some v =>
      rw [hv] at h
      have ih := put_cnt (x := x) h
      have h2 := withKids_cnt (x := putT v p x) hv
      rw [putT]
      simp only [hv]
      omega
theorem erase_cnt {ts : List Tree} {k : Nat} : cntTs (ts.eraseIdx k) ≤ cntTs ts := by
  rw [List.eraseIdx_eq_take_drop_succ, cntTs_app]
  by_cases hk : k < ts.length
  · have e := congrArg cntTs (split_at (ts := ts) (i := k) (List.getElem?_eq_getElem hk))
    rw [cntTs_app, cntTs_app] at e
    omega
  · have e := congrArg cntTs (List.take_append_drop k ts)
    rw [cntTs_app] at e
    rw [List.drop_eq_nil_of_le (show ts.length ≤ k + 1 by omega), cntTs]
    omega
theorem left_cnt {ws : List Str} {t u : Tree} {k : Nat} (h : leftT ws t k = some u) : cntT u ≤ cntT t := by
  cases t with
  | node w ts =>
    rw [leftT] at h
    have he := erase_cnt (ts := ts) (k := k)
    split at h
    · rw [cntT]
      split at h
      · rename_i e
        cases h
        rw [e, cntTs, cntTs] at he
        omega
      · cases h
        rw [cntT]; omega
    · cases h
  | _ => cases h
theorem turn_cnt {t u : Tree} {k : Nat} (h : turnT t k = some u) : cntT u ≤ cntT t := by
  cases t with
  | node w ts =>
    cases w with
    | row =>
      rw [turnT] at h
      split at h
      · rename_i a b ha hb
        cases h
        have e1 := congrArg cntTs (split_at ha)
        have hd : (ts.drop (k + 1))[0]? = some b := by rw [List.getElem?_drop]; exact hb
        have e2 := congrArg cntTs (split_at hd)
        rw [cntTs_app, cntTs_app, cntTs, cntTs] at e1 e2
        rw [cntT, cntT, cntTs_app, cntTs_app, cntTs, cntTs, cntTs]
        rw [List.take_zero, cntTs, List.drop_drop, show k + 1 + (0 + 1) = k + 2 by omega] at e2
        omega
      · cases h
    | _ => cases h
  | _ => cases h
theorem loc_cnt {t u : Tree} {c : Chg} (h : locT t c = some u) : cntT u ≤ cntT t + 2 := by
  cases c with
  | pl v q =>
    cases v with
    | free => cases h; rw [cntT, cntTs, cntTs, cntTs, cntT]; omega
    | round => cases h; rw [cntT]; omega
    | once =>
      cases t with
      | again t => cases h; rw [cntT]; omega
      | _ => cases h
    | sides =>
      cases t with
      | node w ts =>
        cases w with
        | row => cases h; rw [cntT, cntT]; omega
        | _ => cases h
      | _ => cases h
    | order =>
      cases t with
      | node w ts =>
        cases w with
        | sides => cases h; rw [cntT, cntT]; omega
        | _ => cases h
      | _ => cases h
  | ix v q k =>
    cases v with
    | shut => have := left_cnt h; omega
    | lose => have := left_cnt h; omega
    | turn => have := turn_cnt h; omega
theorem out_cnt {t u : Tree} {c : Chg} (h : outT t c = some u) : cntT u ≤ cntT t + 2 := by
  unfold outT at h
  cases hat : atT t c.path with
  | none => rw [hat] at h; cases h
  | some v =>
    rw [hat] at h
    cases hl : locT v c with
    | none => simp only [hl] at h; cases h
    | some x =>
      simp only [hl] at h
      split at h
      · cases h
        have := put_cnt (x := x) hat
        have := loc_cnt hl
        omega
      · cases h
/-! texts -/
theorem piled_cons (t : Str) (ts : List Str) : piled (t :: ts) = t.length + 2 + piled ts := by simp [piled]
theorem tuple_le (ts : List Str) : (tupleText ts).length ≤ 3 + piled ts := by
  unfold tupleText
  rw [strLen_append, strLen_append]
  have h1 : (("(" : Str)).length = 1 := by decide +kernel
  have h2 : ((((if ts.length == 1 then ",)" else ")") : String) : Str)).length ≤ 2 := by split <;> decide +kernel
  by_cases h : ts = []
  · subst h
    have h3 : (Str.join ", " []).length = 0 := by decide +kernel
    omega
  · have := join_length_add ts h
    omega
/-- a text's length, with two more -/
abbrev tl (d : PyData) : Nat := d.shown.length + 2
def tls : List PyData → Nat
  | [] => 0
  | d :: l => tl d + tls l
theorem piled_tls : ∀ l : List PyData, piled (PyData.shownAll l) = tls l
  | [] => by rw [PyData.shownAll, tls]; rfl
  | d :: l => by rw [PyData.shownAll, piled_cons, tls, piled_tls l]
theorem tl_tup (l : List PyData) : tl (.tuple l) ≤ 5 + tls l := by
  unfold tl
  rw [PyData.shown]
  have := tuple_le (PyData.shownAll l)
  rw [piled_tls] at this
  omega
theorem Nm.tl {n : Str} (h : Nm n) : tl (.str n) = 5 := by rcases h with rfl | rfl | rfl | rfl | rfl <;> decide +kernel
theorem Wd.tl (w : Wd) : tl (.str w.s) ≤ 9 := by cases w <;> decide +kernel
theorem tl_do : tl (.str "do") = 6 := by decide +kernel
theorem tl_skip : tl (.str "skip") = 8 := by decide +kernel
theorem tl_again : tl (.str "again") = 9 := by decide +kernel
mutual
theorem Tr.tl : ∀ {d : D} {t : Tree}, Tr d t → tl (treeP t) ≤ 40 * cntT t ∧ (treeP t).showable = true
  | _, _, .deed (n := n) h => by
    rw [treeP, cntT, PyData.showable, PyData.showableAll]
    have := tl_tup [.str "do", .str n]
    rw [tls, tls, tls, tl_do, h.tl] at this
    exact ⟨by omega, rfl⟩
  | _, _, .skip => by
    rw [treeP, cntT, PyData.showable, PyData.showableAll]
    have := tl_tup [.str "skip"]
    rw [tls, tls, tl_skip] at this
    exact ⟨by omega, rfl⟩
  | _, _, .kon _ => by
    rw [treeP, cntT, PyData.showable, PyData.showableAll]
    have := tl_tup [.str "skip"]
    rw [tls, tls, tl_skip] at this
    exact ⟨by omega, rfl⟩
  | _, _, .again (t := t) h => by
    have ⟨h1, h2⟩ := Tr.tl h
    rw [treeP, cntT, PyData.showable, PyData.showableAll, PyData.showableAll, h2]
    have := tl_tup [.str "again", treeP t]
    rw [tls, tls, tls, tl_again] at this
    exact ⟨by omega, rfl⟩
  | _, _, .node (w := w) (ts := ts) h _ => by
    have ⟨h1, h2⟩ := TrL.tl h
    rw [treeP, cntT, PyData.showable, PyData.showableAll, PyData.showableAll, PyData.showable, PyData.showable, h2]
    have h3 := tl_tup [.str w.s, .tuple (treesP ts)]
    have h4 := tl_tup (treesP ts)
    rw [tls, tls, tls] at h3
    have h5 := w.tl
    exact ⟨Nat.le_trans h3 (by omega), rfl⟩
theorem TrL.tl : ∀ {ds : List D} {ts : List Tree}, TrL ds ts → tls (treesP ts) ≤ 40 * cntTs ts ∧ PyData.showableAll (treesP ts) = true
  | _, _, .nil => by rw [treesP, tls, cntTs]; exact ⟨Nat.le_refl _, rfl⟩
  | _, _, .cons h l => by
    have ⟨h1, h2⟩ := Tr.tl h
    have ⟨h3, h4⟩ := TrL.tl l
    rw [treesP, tls, cntTs, PyData.showableAll, h2, h4]
    exact ⟨by omega, rfl⟩
end
end A
set_option Elab.async false
set_option linter.all false
set_option maxRecDepth 100000
set_option pp.maxSteps 300
/-! The walk: merge_of, merged. -/
namespace A
open PySem PySem.Spec PyProof.Rows L2 E
variable [KF]
def optP' : Option Tree → PyData
  | none => .none
  | some t => treeP t
theorem OptTr.toP {r : D} {o : Option Tree} (h : OptTr r o) : E.toP r = optP' o := by
  cases o with
  | none => have h : r = .non := h; rw [h]; rfl
  | some u => exact Tr.toP h
def mergeP (t : Tree) (a b : Chg) : PyData := if (doneT t a b).isSome ∧ PyData.eqv (optP' (doneT t a b)) (optP' (doneT t b a)) = true then .tuple [.str "merged", optP' (doneT t a b)] else .tuple [.str "clash", optP' (doneT t a b), optP' (doneT t b a)]
theorem done_is {t u : Tree} {a b : Chg} (h : doneT t a b = some u) : isProc u = true ∧ cntT u ≤ cntT t + 4 := by
  unfold doneT at h
  split at h
  · rename_i n e1 e2
    have := out_cnt h
    have := out_cnt e2
    exact ⟨(can_of h).2, by omega⟩
  · cases h
theorem OptTr.shaped {r : D} {t : Tree} {a b : Chg} (h : OptTr r (doneT t a b)) : SeqAt.shaped (E.toP r) = true := by
  cases ho : doneT t a b with
  | none =>
    rw [ho] at h
    have h : r = .non := h
    rw [h]; exact shaped_non
  | some u =>
    rw [ho] at h
    exact Tr.shaped h (done_is ho).1
theorem OptTr.tl {r : D} {t : Tree} {a b : Chg} (h : OptTr r (doneT t a b)) : tl (E.toP r) ≤ 40 * cntT t + 160 ∧ (E.toP r).showable = true ∧ (E.toP r).depth ≤ 16 := by
  cases ho : doneT t a b with
  | none =>
    rw [ho] at h
    have h : r = .non := h
    rw [h]
    exact ⟨Nat.le_trans (show A.tl (E.toP .non) ≤ 160 by decide +kernel) (Nat.le_add_left _ _), rfl, by decide⟩
  | some u =>
    rw [ho] at h
    have h : Tr r u := h
    have h1 := h.tl
    have h2 := done_is ho
    have h3 := h.lay.2
    have h4 := isProc_depth h2.1
    rw [h.toP]
    exact ⟨by omega, h1.2, by omega⟩
section
variable {P : Program} {w : World} {K : PySem.W.Frag} [KonK K] {mg : Str → Option Value} {base : Heap}
abbrev sp_merge : Sp := spD 3 (fun ds => ∃ (d : D) (t : Tree) (c o : Chg), ds = [d, chD c, chD o] ∧ Tr d t ∧ isProc t = true ∧ Can t c ∧ Can t o ∧ cntT t ≤ 1000) fun ds r => ∀ (d : D) (t : Tree) (c o : Chg), ds = [d, chD c, chD o] → Tr d t → E.toP r = mergeP t c o ∧ Shw r
abbrev N_merge : List Str := ["procedure", "one", "other", "first", "second"]
theorem S_merge : FnScope N_merge ["procedure", "one", "other"] (sc 64) := ⟨rfl, rfl, rfl, by decide +kernel, rfl, by decide +kernel, by decide +kernel⟩
theorem ok_merge {f : Addr} {fd : FuncData} (F : Fun K "merge_of" "merge_of" (top 64) f fd) (T : Blt mg) (TM : BltM mg) (cd : Cl P w K mg base 14 "done_after" sp_done) : FnG P w K mg base 15 f fd ["procedure", "one", "other"] sp_merge := by
  refine ok_D (m := 2) F S_merge rfl rfl fun cdv A outer s H E ds hr hl hp => ?_
  obtain ⟨d, t, c, o, rfl, ht, hpr, hc, ho, hct⟩ := hp
  have fin : ∀ r, _root_.E.toP r = mergeP t c o ∧ Shw r → ∀ (d' : D) (t' : Tree) (c' o' : Chg), [d, chD c, chD o] = [d', chD c', chD o'] → Tr d' t' → _root_.E.toP r = mergeP t' c' o' ∧ Shw r := fun r h d' t' c' o' e h' => by
    injection e with e1 e
    injection e with e2 e
    injection e with e3 _
    subst e1
    rw [h'.uniq ht, ← chD_inj e2, ← chD_inj e3]
    exact h
  have hux : (cx P w K mg base N_merge "merge_of" (top 64) f cdv A outer s H E).A.units + 64 < cLine := hu_of hr
  refine jss_cons (js_par 3 4 rfl S_merge.nd rfl rfl (by decide) (j_call cd hr (by decide) (j_cons (j_var 0 rfl rfl (j_cons (j_var 1 rfl rfl (j_cons (j_var 2 rfl rfl (j_nil ⟨rfl, ⟨d, t, c, o, rfl, ht, hpr, hc, ho⟩, fun r1 hd1 => ?_⟩)))))))))
  have h1 := hd1 d t c o rfl ht
  refine j_call cd hr (by decide) (j_cons (j_var 0 rfl rfl (j_cons (j_var 2 rfl rfl (j_cons (j_var 1 rfl rfl (j_nil ⟨rfl, ⟨d, t, o, c, rfl, ht, hpr, ho, hc⟩, fun r2 hd2 => ?_⟩)))))))
  have h2 := hd2 d t o c rfl ht
  have ⟨w1, s1, p1⟩ := h1.tl
  have ⟨w2, s2, p2⟩ := h2.tl
  have clash : ∀ {O : Out}, (∀ r, _root_.E.toP r = mergeP t c o ∧ Shw r → O.rt r) → ¬ ((doneT t c o).isSome ∧ PyData.eqv (optP' (doneT t c o)) (optP' (doneT t o c)) = true) → Sr [.d d, .d (chD c), .d (chD o), .d r1, .d r2] [] (wSs (cx P w K mg base N_merge "merge_of" (top 64) f cdv A outer s H E) ((defBody (top 64)).drop 2)) O := fun {O} fin hn => by
    refine jss_one (js_ret (j_tup ?_))
    refine j_con ?_
    refine j_gstr TM.clash ?_
    refine j_con ?_
    refine j_var 3 rfl rfl ?_
    refine j_con ?_
    refine j_var 4 rfl rfl ?_
    refine j_nil ⟨Nat.le_of_ble_eq_true rfl, fin _ ?_⟩
    have e : _root_.E.toP (.tup [.str "clash", r1, r2]) = .tuple [.str "clash", _root_.E.toP r1, _root_.E.toP r2] := by rw [_root_.E.toP, toPs, toPs, toPs, toPs, _root_.E.toP]
    refine ⟨?_, ?_, ?_, ?_⟩
    · unfold mergeP
      rw [if_neg hn, e, h1.toP, h2.toP]
    · rw [e, PyData.showable, PyData.showableAll, PyData.showableAll, PyData.showableAll, s1, s2]; rfl
    · rw [e]
      have := tl_tup [.str "clash", _root_.E.toP r1, _root_.E.toP r2]
      rw [tls, tls, tls, tls, show tl (.str "clash") = 9 by decide +kernel] at this
      have hz : 100000 ≤ sizeLine := by decide
      simp only [tl] at this w1 w2
      omega
    · rw [e, PyData.depth, PyData.depthAll, PyData.depthAll, PyData.depthAll]
      simp only [PyData.depth, PyData.depthAll]
      omega
  refine jss_cons (js_if (jt_w (jw_and (jt_notN (j_var 3 rfl rfl ?_)))))
  rw [h1.isN, Bool.not_not]
  refine ⟨fun e1 => ?_, fun e1 => ⟨fun z => (by cases z), fun _ => jss_nil ?_⟩⟩
  · refine jw_and1 (jt_eqA hux (j_var 3 rfl rfl (j_var 4 rfl rfl ⟨h1.shaped, h2.shaped, ?_⟩)))
    rw [h1.toP, h2.toP]
    refine ⟨fun e2 => ?_, fun e2 => jss_nil ?_⟩
    · refine jss_one (js_ret (j_tup ?_))
      refine j_con ?_
      refine j_gstr TM.merged ?_
      refine j_con ?_
      refine j_var 3 rfl rfl ?_
      refine j_nil ⟨Nat.le_of_ble_eq_true rfl, fin _ ?_⟩
      have e : _root_.E.toP (.tup [.str "merged", r1]) = .tuple [.str "merged", _root_.E.toP r1] := by rw [_root_.E.toP, toPs, toPs, toPs, _root_.E.toP]
      refine ⟨?_, ?_, ?_, ?_⟩
      · unfold mergeP
        rw [if_pos ⟨e1, e2⟩, e, h1.toP]
      · rw [e, PyData.showable, PyData.showableAll, PyData.showableAll, s1]; rfl
      · rw [e]
        have := tl_tup [.str "merged", _root_.E.toP r1]
        rw [tls, tls, tls, show tl (.str "merged") = 10 by decide +kernel] at this
        have hz : 100000 ≤ sizeLine := by decide
        simp only [tl] at this w1
        omega
      · rw [e]
        simp only [PyData.depth, PyData.depthAll]
        omega
    · exact clash fin fun z => by rw [e2] at z; exact absurd z.2 Bool.false_ne_true
  · exact clash fin fun z => by rw [e1] at z; exact absurd z.1 Bool.false_ne_true
theorem S_merged : FnScope ["procedure", "one", "other"] ["procedure", "one", "other"] (sc 65) := ⟨rfl, rfl, rfl, by decide +kernel, rfl, by decide +kernel, by decide +kernel⟩
theorem ok_merged {f : Addr} {fd : FuncData} (F : Fun K "merged" "merged" (top 65) f fd) (T : Blt mg) (cp : Cl P w K mg base 12 "check_procedure" sp_check) (cc : Cl P w K mg base 13 "check_change" sp_cch) (cm : Cl P w K mg base 15 "merge_of" sp_merge) : FnG P w K mg base 16 f fd ["procedure", "one", "other"] sp_merge := by
  refine ok_D (m := 0) F S_merged rfl rfl fun cdv A outer s H E ds hr hl hp => ?_
  obtain ⟨d, t, c, o, rfl, ht, hpr, hc, ho, hct⟩ := hp
  refine jss_cons (js_expr (j_call cp hr (by decide) (j_cons (j_var 0 rfl rfl (j_nil ⟨rfl, ⟨d, t, rfl, ht, hpr⟩, fun b hd => ?_⟩)))))
  refine jss_cons (js_expr (j_call cc hr (by decide) (j_cons (j_var 0 rfl rfl (j_cons (j_var 1 rfl rfl (j_nil ⟨rfl, ⟨d, t, c, rfl, ht, hpr, hc⟩, fun b hd => ?_⟩)))))))
  refine jss_cons (js_expr (j_call cc hr (by decide) (j_cons (j_var 0 rfl rfl (j_cons (j_var 2 rfl rfl (j_nil ⟨rfl, ⟨d, t, o, rfl, ht, hpr, ho⟩, fun b hd => ?_⟩)))))))
  exact jss_one (js_ret (j_call cm hr (by decide) (j_cons (j_var 0 rfl rfl (j_cons (j_var 1 rfl rfl (j_cons (j_var 2 rfl rfl (j_nil ⟨rfl, ⟨d, t, c, o, rfl, ht, hpr, hc, ho, hct⟩, fun r hd => hd⟩)))))))))
end
end A
set_option Elab.async false
set_option linter.all false
set_option maxRecDepth 100000
set_option pp.maxSteps 300
/-! The walk: plain_changes. -/
namespace A
open PySem PySem.Spec PyProof.Rows L2 E
variable [KF]
theorem Less.nil : Less [] [] := ⟨rfl, fun i s h => by cases h⟩
theorem Less.keep {s : Sl} {l' l : List Sl} (h : Less l' l) : Less (s :: l') (s :: l) := ⟨congrArg (· + 1) h.1, fun i t e => by
  cases i with
  | zero => exact .inr e
  | succ i => exact h.2 i t (by simpa using e)⟩
theorem Less.drop {s : Sl} {l' l : List Sl} (h : Less l' l) : Less (.u :: l') (s :: l) := ⟨congrArg (· + 1) h.1, fun i t e => by
  cases i with
  | zero => left; cases e; rfl
  | succ i => exact h.2 i t (by simpa using e)⟩
def PW5 : List PW := [.free, .once, .order, .round, .sides]
def IW3 : List IW := [.lose, .shut, .turn]
def bareAt (p : List Nat) : List Chg := PW5.map fun v => .pl v p
def ixsAt (p : List Nat) (n : Nat) (v : IW) : List Chg := (List.range n).map fun k => .ix v p k
def someAt (t : Tree) (p : List Nat) : List Chg := match atT t p with
  | some (.node w ts) => bareAt p ++ IW3.flatMap (ixsAt p ts.length)
  | _ => bareAt p
def goodAt (t : Tree) (p : List Nat) : List Chg := (someAt t p).filter fun c => (outT t c).isSome
def foundT (t : Tree) : List Chg := (pathsT t).flatMap (goodAt t)
noncomputable def plainC (t : Tree) : List Chg := sortC (foundT t)
theorem paths_at : ∀ {t : Tree} {p : List Nat}, p ∈ pathsT t → ∃ u, atT t p = some u := by
  have key : ∀ (n : Nat) {t : Tree} {p : List Nat}, t.depth ≤ n → p ∈ pathsT t → ∃ u, atT t p = some u := by
    intro n
    induction n with
    | zero =>
      intro t p h
      cases t <;> (rw [Tree.depth] at h; omega)
    | succ n ih =>
      intro t p h hp
      rw [pathsT_kids] at hp
      rcases List.mem_cons.mp hp with rfl | hp
      · exact ⟨t, rfl⟩
      · have : ∀ (ts : List Tree) (k : Nat), p ∈ pathsFrom k ts → ∃ i u q, ts[i]? = some u ∧ p = (k + i) :: q ∧ q ∈ pathsT u := by
          intro ts
          induction ts with
          | nil => intro k h; rw [pathsFrom] at h; cases h
          | cons u ts ih2 =>
            intro k h
            rw [pathsFrom] at h
            rcases List.mem_append.mp h with h | h
            · obtain ⟨q, hq, rfl⟩ := List.mem_map.mp h
              exact ⟨0, u, q, rfl, rfl, hq⟩
            · obtain ⟨i, v, q, h1, h2, h3⟩ := ih2 (k + 1) h
              exact ⟨i + 1, v, q, h1, by rw [h2, show k + 1 + i = k + (i + 1) by omega], h3⟩
        obtain ⟨i, u, q, h1, h2, h3⟩ := this _ _ hp
        rw [Nat.zero_add] at h2
        subst h2
        have hd := kid_depth (List.mem_of_getElem? h1)
        obtain ⟨v, hv⟩ := ih (by omega) h3
        exact ⟨v, by rw [atT, h1]; exact hv⟩
  exact fun {t p} h => key t.depth (Nat.le_refl _) h
theorem some_len {t : Tree} {p : List Nat} (h : isProc t = true) : (someAt t p).length ≤ 23 := by
  unfold someAt
  split
  · rename_i w ts e
    obtain ⟨n, hn⟩ := isProc_size h
    have h6 : ts.length ≤ 6 := (size_at hn e).1
    have : (IW3.flatMap (ixsAt p ts.length)).length = 3 * ts.length := by
      show (ixsAt p ts.length .lose ++ (ixsAt p ts.length .shut ++ (ixsAt p ts.length .turn ++ []))).length = _
      simp only [ixsAt, List.length_append, List.length_map, List.length_range, List.length_nil]
      omega
    rw [List.length_append, this]
    show 5 + _ ≤ _
    omega
  · show 5 ≤ 23
    decide
theorem good_len {t : Tree} {p : List Nat} (h : isProc t = true) : (goodAt t p).length ≤ 23 := Nat.le_trans (List.length_filter_le _ _) (some_len h)
theorem flat_len {t : Tree} (h : isProc t = true) : ∀ ps : List (List Nat), (ps.flatMap (goodAt t)).length ≤ 23 * ps.length
  | [] => Nat.le_refl _
  | p :: ps => by
    have := flat_len h ps
    have := good_len (p := p) h
    rw [List.flatMap_cons, List.length_append, List.length_cons]
    omega
theorem found_len {t : Tree} (h : isProc t = true) : (foundT t).length ≤ 23 * cntT t := by rw [← cnt_paths]; exact flat_len h _
theorem flat_take {α β : Type} {l : List α} {i : Nat} {x : α} {f : α → List β} (h : l[i]? = some x) : (l.take (i + 1)).flatMap f = (l.take i).flatMap f ++ f x := by
  rw [List.take_add_one, h, List.flatMap_append]
  simp
open Classical in
noncomputable def goodP (t : Tree) : Di → Bool := fun z => decide (∃ c, z = .d (chD c) ∧ (outT t c).isSome)
open Classical in
theorem goodP_is (t : Tree) (c : Chg) : goodP t (.d (chD c)) = (outT t c).isSome := by
  unfold goodP
  rcases h : (outT t c).isSome with _ | _
  · refine decide_eq_false fun ⟨c', e, k⟩ => ?_
    injection e with e
    rw [← chD_inj e, h] at k
    cases k
  · exact decide_eq_true ⟨c, rfl, h⟩
def unD : Di → D
  | .d x => x
  | _ => .non
theorem good_map (t : Tree) : ∀ L : List Chg, ((((L.map chD).map Di.d).filter (goodP t)).map unD) = (L.filter fun c => (outT t c).isSome).map chD
  | [] => rfl
  | c :: L => by
    rw [List.map_cons, List.map_cons, List.filter_cons, List.filter_cons, goodP_is]
    split
    · rw [List.map_cons, List.map_cons, good_map t L]; rfl
    · exact good_map t L
section
variable {P : Program} {w : World} {K : PySem.W.Frag} [KonK K] {mg : Str → Option Value} {base : Heap}
abbrev sp_pc : Sp := spD 1 (fun ds => ∃ (d : D) (t : Tree), ds = [d] ∧ Tr d t ∧ isProc t = true ∧ cntT t ≤ 100) fun ds r => ∀ (d : D) (t : Tree), ds = [d] → Tr d t → r = .lst ((plainC t).map chD)
abbrev N_pc : List Str := ["procedure", "found", "path", "some", "word", "here", "index", "change"]
theorem S_pc : FnScope N_pc ["procedure"] (sc 66) := ⟨rfl, rfl, rfl, by decide +kernel, rfl, by decide +kernel, by decide +kernel⟩
/-- the changes that can be done, of those at a path -/
theorem w_good {f : Addr} {cdv : Value} {A : Around} {outer : List Env} {s : Shared} {H : Hp} {E : XK} {j : Nat} {d : D} {t : Tree} {p : List Nat} {L G : List Chg} {js : List Ob} {s4 s5 s6 : Sl} {O : Out} (T : Blt mg)
    (hr : RoomG j (A.deeper (envOfC "plain_changes" (defScope (top 66)) s.heap.objs.size f cdv))) (hj : 12 ≤ j) (co : Cl P w K mg base 12 "outcome" sp_outc) (ht : Tr d t) (hpr : isProc t = true) (hL : L.length ≤ 1000) (hG : G.length ≤ 90000)
    (hO : ∀ sl, O.nx sl (.l ((G ++ L.filter fun c => (outT t c).isSome).map chD) :: js ++ [.l (L.map chD)])) :
    ∀ st, st ∈ ((match ((defBody (top 66)).drop 1).head? with | some (.For _ _ b _ _) => b.drop 3 | _ => [])) →
    Sr [.d d, .m 0, .d (pathD p), .m (js.length + 1), s4, s5, s6, .u] (.l (G.map chD) :: js ++ [.l (L.map chD)]) (wS (cx P w K mg base N_pc "plain_changes" (top 66) f cdv A outer s H E) st) O := by
  intro st hst
  obtain rfl := List.mem_singleton.mp hst
  refine js_extend 1 rfl rfl rfl (El.er' (jl_lcI [("change", 7)] rfl S_pc.nd (blkOk_by (N := N_pc) (sc := sc 66) (by decide +kernel)) (own1 rfl) (ji_own (k := js.length + 1) (ob := .l (L.map chD)) ?_ rfl (jo_var 3 rfl rfl ⟨rfl, rfl⟩) ⟨?_, goodP t, unD, fun z acc hz => ?_, ?_⟩)))
  · rw [List.cons_append, List.getElem?_cons_succ, List.getElem?_append_right (Nat.le_refl _)]; simp
  · rw [List.length_map, List.length_map]; omega
  · obtain ⟨y, hy, rfl⟩ := List.mem_map.mp hz
    obtain ⟨c, hc, rfl⟩ := List.mem_map.mp hy
    refine ⟨[7], _, fun s H C cl fp => jg_name 7 S_pc.nd rfl, fun _ h => h, fun s H C cl fp => jts_one (jt_notN (j_call co hr hj (j_cons (j_var 0 rfl rfl (j_cons (j_var 7 rfl rfl (j_nil ⟨rfl, ⟨d, t, c, rfl, ht, hpr⟩, fun r hd => ?_⟩)))))))⟩
    have h := hd d t c rfl ht
    rw [h.isN, Bool.not_not, goodP_is]
    exact ⟨rfl, fun _ s H C cl fp => j_var 7 rfl rfl rfl⟩
  · rw [good_map]
    refine ⟨_, rfl, ?_, ?_⟩
    · have := List.length_filter_le (fun c => (outT t c).isSome) L
      rw [List.length_map, List.length_map]; omega
    · have := hO [.d d, .m 0, .d (pathD p), .m (js.length + 1), s4, s5, s6, .u]
      rw [List.map_append] at this
      exact this
end
end A
set_option Elab.async false
set_option linter.all false
set_option maxRecDepth 100000
set_option pp.maxSteps 300
/-! The walk: plain_changes. -/
namespace A
open PySem PySem.Spec PyProof.Rows L2 E
variable [KF]
section
variable {P : Program} {w : World} {K : PySem.W.Frag} [KonK K] {mg : Str → Option Value} {base : Heap}
theorem hu100 {j : Nat} {A : Around} (hr : RoomG j A) : A.units + 100 < cLine := Nat.lt_of_le_of_lt (Nat.add_le_add_left (by decide) _) (hr.mono (Nat.zero_le j)).rm.un
theorem some_node {t : Tree} {p : List Nat} {w : Wd} {ts : List Tree} (h : atT t p = some (.node w ts)) : someAt t p = bareAt p ++ IW3.flatMap (ixsAt p ts.length) := by
  unfold someAt
  rw [h]
theorem some_bare {t u : Tree} {p : List Nat} (h : atT t p = some u) (hn : ∀ w ts, u ≠ .node w ts) : someAt t p = bareAt p := by
  unfold someAt
  rw [h]
  cases u with
  | node w ts => exact absurd rfl (hn w ts)
  | _ => rfl
theorem ok_pc {f : Addr} {fd : FuncData} (F : Fun K "plain_changes" "plain_changes" (top 66) f fd) (T : Blt mg) (TM : BltM mg) (ca : Cl P w K mg base 10 "all_paths" (sp_paths 8)) (cp : Cl P w K mg base 3 "part_on" sp_on) (co : Cl P w K mg base 12 "outcome" sp_outc) : FnG P w K mg base 13 f fd ["procedure"] sp_pc := by
  refine ok_D (m := 7) F S_pc rfl rfl fun cdv A outer s H E ds hr hl hp => ?_
  obtain ⟨d, t, rfl, ht, hpr, hct⟩ := hp
  have fin : ∀ r, r = D.lst ((plainC t).map chD) → ∀ (d' : D) (t' : Tree), [d] = [d'] → Tr d' t' → r = .lst ((plainC t').map chD) := fun r h d' t' e h' => by
    injection e with e1 _
    subst e1
    rw [h'.uniq ht]
    exact h
  obtain ⟨pm, pm1, pk⟩ := TM.plain
  obtain ⟨im, im1, ik⟩ := TM.indexed
  obtain ⟨lm, lm1, lk⟩ := TM.lists
  have hdp := isProc_depth hpr
  refine jss_cons (js_setL 1 S_pc.nd rfl (jl_lst (j_nil ⟨Nat.zero_le _, ?_⟩)))
  refine jss_cons (js_for PassesOwn.never rfl (ji_lst (j_call ca hr (by decide) (j_cons (j_var 0 rfl rfl (j_nil ⟨rfl, ⟨d, t, rfl, ht, hdp, by omega, by rw [cnt_paths]; omega⟩, fun r hd => ?_⟩))))))
  obtain rfl := hd d t rfl ht
  refine ⟨_, rfl, ?_⟩
  refine ⟨fun i sl ms => ∃ t2 t3 t4 t5 t6 js, sl = [.d d, .m 0, t2, t3, t4, t5, t6, .u] ∧ ms = .l ((((pathsT t).take i).flatMap (goodAt t)).map chD) :: js, ⟨.u, .u, .u, .u, .u, [], rfl, rfl⟩, ?_, ?_⟩
  · rintro i x sl1 ms1 hx ⟨t2, t3, t4, t5, t6, js, rfl, rfl⟩
    rw [List.getElem?_map] at hx
    cases hpi : (pathsT t)[i]? with
    | none => rw [hpi] at hx; cases hx
    | some p =>
      rw [hpi] at hx
      obtain rfl : pathD p = x := Option.some.inj hx
      have hpm := List.mem_of_getElem? hpi
      obtain ⟨u, hu⟩ := paths_at hpm
      have hG : (((pathsT t).take i).flatMap (goodAt t)).length ≤ 90000 := by
        have h1 := flat_len hpr ((pathsT t).take i)
        have h2 : ((pathsT t).take i).length ≤ cntT t := by rw [List.length_take, cnt_paths]; omega
        omega
      have hft := flat_take (f := goodAt t) hpi
      refine ⟨_, _, jg_name 2 S_pc.nd rfl, ?_⟩
      refine Sr.less (sl' := [.d d, .m 0, .d (pathD p), .u, .u, .u, .u, .u]) ?_ (Less.keep (Less.keep (Less.keep (Less.drop (Less.drop (Less.drop (Less.drop (Less.keep Less.nil))))))))
      generalize hGd : ((pathsT t).take i).flatMap (goodAt t) = G at hG hft
      refine jss_cons (js_lcO 3 [("word", 4)] rfl S_pc.nd rfl (blkOk_by (N := N_pc) (sc := sc 66) (by decide +kernel)) (own1 rfl) (ji_tupO (j_gkon pm1 pk ⟨_, rfl, Nat.lt_of_lt_of_le (by decide +kernel : (([("free" : Str), "once", "order", "round", "sides"] : List Str).map D.str).length < 100) (by decide), fun _ => true, fun z => .tup [z, pathD p], fun z acc hz => ?_, ?_⟩)))
      · exact ⟨[4], _, fun s H C cl fp => jg_name 4 S_pc.nd rfl, fun _ h => h, fun s H C cl fp => jts_nil ⟨rfl, fun _ s H C cl fp => j_tup (j_cons (j_var 4 rfl rfl (j_cons (j_var 2 rfl rfl (j_nil ⟨Nat.le_of_ble_eq_true rfl, rfl⟩)))))⟩⟩
      rw [filter_all, show (([("free" : Str), "once", "order", "round", "sides"] : List Str).map D.str).map (fun z => D.tup [z, pathD p]) = (bareAt p).map chD from rfl]
      refine jss_cons (js_set 5 S_pc.nd rfl (j_call cp hr (by decide) (j_cons (j_var 0 rfl rfl (j_cons (j_var 2 rfl rfl (j_nil ⟨rfl, ⟨d, t, (p.map fun i : Nat => (i : Int)), (by rw [pathD_ints]), ht⟩, fun r hd => ?_⟩)))))))
      have hr1 := hd d t _ (by rw [pathD_ints]) ht
      rw [atI_path, hu] at hr1
      have hr1 : Tr r u := hr1
      obtain ⟨is, e0, e1⟩ := hr1.word
      have last : ∀ {L : List Chg} {s4 s6 : Sl} {O : Out}, (∀ sl, (∃ t3 t4 t5 t6, sl = [.d d, .m 0, .d (pathD p), t3, t4, t5, t6, .u]) → ∀ js', O.nx sl (.l ((((pathsT t).take (i + 1)).flatMap (goodAt t)).map chD) :: js')) → L = someAt t p →
          Sr [.d d, .m 0, .d (pathD p), .m (js.length + 1), s4, .d r, s6, .u] (.l (G.map chD) :: js ++ [.l (L.map chD)]) (wSs (cx P w K mg base N_pc "plain_changes" (top 66) f cdv A outer s H E) ((match ((defBody (top 66)).drop 1).head? with | some (.For _ _ b _ _) => b.drop 3 | _ => []))) O := fun {L s4 s6 O} hO hL => by
        subst hL
        have hsl := some_len (p := p) hpr
        refine jss_one (js_extend 1 rfl rfl rfl (El.er' (jl_lcI [("change", 7)] rfl S_pc.nd (blkOk_by (N := N_pc) (sc := sc 66) (by decide +kernel)) (own1 rfl) (ji_own (k := js.length + 1) (ob := .l ((someAt t p).map chD)) ?_ rfl (jo_var 3 rfl rfl ⟨rfl, rfl⟩) ⟨?_, goodP t, unD, fun z acc hz => ?_, ?_⟩))))
        · rw [List.cons_append, List.getElem?_cons_succ, List.getElem?_append_right (Nat.le_refl _)]; simp
        · rw [List.length_map, List.length_map]; omega
        · obtain ⟨y, hy, rfl⟩ := List.mem_map.mp hz
          obtain ⟨c, hc, rfl⟩ := List.mem_map.mp hy
          refine ⟨[7], _, fun s H C cl fp => jg_name 7 S_pc.nd rfl, fun _ h => h, fun s H C cl fp => jts_one (jt_notN (j_call co hr (by decide) (j_cons (j_var 0 rfl rfl (j_cons (j_var 7 rfl rfl (j_nil ⟨rfl, ⟨d, t, c, rfl, ht, hpr⟩, fun r hd => ?_⟩)))))))⟩
          have h := hd d t c rfl ht
          rw [h.isN, Bool.not_not, goodP_is]
          exact ⟨rfl, fun _ s H C cl fp => j_var 7 rfl rfl rfl⟩
        · rw [good_map]
          refine ⟨_, rfl, ?_, ?_⟩
          · have := good_len (p := p) hpr
            rw [List.length_map, List.length_map]
            show G.length + (goodAt t p).length ≤ 100000
            omega
          · have := hO [.d d, .m 0, .d (pathD p), .m (js.length + 1), s4, .d r, s6, .u] ⟨_, _, _, _, rfl⟩ (js ++ [.l ((someAt t p).map chD)])
            rw [hft, List.map_append] at this
            exact this
      refine jss_cons (js_if (jt_inD (j_ixO (j_var 5 rfl rfl (j_int ⟨is, _, _, e0, rfl, e1, j_gkon lm1 lk ⟨_, rfl, rfl, rfl, fun e2 => ?_, fun e2 => jss_nil ?_⟩⟩)))))
      · have e2 : decide (u.word ∈ (["row", "pick", "sides"] : List Str)) = true := by rw [← inD_strs]; exact e2
        obtain ⟨w, es, ts, rfl, rfl, l, h2⟩ := hr1.two (of_decide_eq_true e2) (by decide +kernel) (by decide +kernel) (by decide +kernel)
        have hel := l.len
        have h6 : ts.length ≤ 1000 := isProc_wide hpr _ _ hu
        refine jss_one (js_for PassesOwn.never rfl (ji_tupO (j_gkon im1 ik ⟨_, rfl, ?_⟩)))
        refine ⟨fun n sl ms => ∃ t4 , sl = [.d d, .m 0, .d (pathD p), .m (js.length + 1), t4, .d (.tup [.str w.s, .tup es]), .u, .u] ∧ ms = .l (G.map chD) :: js ++ [.l ((bareAt p ++ (IW3.take n).flatMap (ixsAt p ts.length)).map chD)], ⟨.u, rfl, by rw [List.take_zero, List.flatMap_nil, List.append_nil]⟩, ?_, ?_⟩
        · rintro n x sl1 ms1 hx ⟨t4, rfl, rfl⟩
          have hx : (IW3.map fun v => D.str v.s)[n]? = some x := hx
          rw [List.getElem?_map] at hx
          cases hv : IW3[n]? with
          | none => rw [hv] at hx; cases hx
          | some v =>
            rw [hv] at hx
            obtain rfl : D.str v.s = x := Option.some.inj hx
            refine ⟨_, _, jg_name 4 S_pc.nd rfl, ?_⟩
            refine jss_one (js_extend 3 rfl rfl (k := js.length + 1) (ds := (bareAt p ++ (IW3.take n).flatMap (ixsAt p ts.length)).map chD) ?_ (El.er' (jl_lcF [("index", 6)] rfl S_pc.nd (blkOk_by (N := N_pc) (sc := sc 66) (by decide +kernel)) (own1 rfl) (ji_range T.range (j_lenT T.len (j_ixT (j_var 5 rfl rfl (j_int ⟨_, _, _, rfl, rfl, rfl, es, rfl, es.length, rfl, by omega, ?_, fun _ => true, fun z => .tup [.str v.s, pathD p, z], fun z acc hz => ?_, ?_⟩))))))))
            · rw [List.cons_append, List.getElem?_cons_succ, List.getElem?_append_right (Nat.le_refl _)]; simp
            · have : (numbers es.length).length = es.length := by unfold numbers; simp
              rw [this]; omega
            · exact ⟨[6], _, fun s H C cl fp => jg_name 6 S_pc.nd rfl, fun _ h => h, fun s H C cl fp => jts_nil ⟨rfl, fun _ s H C cl fp => j_tup (j_cons (j_var 4 rfl rfl (j_cons (j_var 2 rfl rfl (j_cons (j_var 6 rfl rfl (j_nil ⟨Nat.le_of_ble_eq_true rfl, rfl⟩)))))))⟩⟩
            · rw [filter_all]
              have hm : (numbers es.length).map (fun z => D.tup [.str v.s, pathD p, z]) = (ixsAt p ts.length v).map chD := by
                rw [hel]
                unfold numbers ixsAt
                rw [List.map_map, List.map_map]
                rfl
              rw [hm]
              refine ⟨_, rfl, ?_, _, rfl, ?_⟩
              · have h7 : ts.length ≤ 6 := by
                  obtain ⟨m, hm⟩ := isProc_size hpr
                  exact (size_at hm hu).1
                have hle : ((IW3.take n).flatMap (ixsAt p ts.length)).length ≤ 3 * ts.length := by
                  match n with
                  | 0 => exact Nat.zero_le _
                  | 1 => show (ixsAt p ts.length .lose ++ []).length ≤ _; simp only [ixsAt, List.length_append, List.length_map, List.length_range, List.length_nil]; omega
                  | 2 => show (ixsAt p ts.length .lose ++ (ixsAt p ts.length .shut ++ [])).length ≤ _; simp only [ixsAt, List.length_append, List.length_map, List.length_range, List.length_nil]; omega
                  | n + 3 => cases hv
                rw [List.length_map, List.length_map, List.length_append]
                show 5 + _ + _ ≤ _
                have : (ixsAt p ts.length v).length = ts.length := by unfold ixsAt; simp
                omega
              · rw [flat_take hv, ← List.append_assoc, List.map_append (l₂ := ixsAt p ts.length v), List.set_append_right _ _ (by simp)]
                simp
        · rintro sl1 ms1 ⟨t4, rfl, rfl⟩
          refine last (fun sl ⟨t3, t4, t5, t6, e⟩ js' => ⟨_, _, _, _, _, _, e, rfl⟩) ?_
          rw [some_node hu]
          rfl
      · have e2 : decide (u.word ∈ (["row", "pick", "sides"] : List Str)) = false := by rw [← inD_strs]; exact e2
        refine last (fun sl ⟨t3, t4, t5, t6, e⟩ js' => ⟨_, _, _, _, _, _, e, rfl⟩) ?_
        rw [some_bare hu fun w ts e => (of_decide_eq_false e2) (by rw [e]; exact of_decide_eq_true w.mem)]
  · rintro sl1 ms1 ⟨t2, t3, t4, t5, t6, js, rfl, rfl⟩
    rw [List.length_map, List.take_length]
    refine jss_one (js_ret (j_sortDM 1 (hu100 hr) rfl rfl rfl T.sorted (canSort _ ?_) (fin _ ?_)))
    · have := found_len hpr
      exact Nat.le_trans this (by omega)
    · rw [sortD_map]; rfl
end
end A
set_option Elab.async false
set_option linter.all false
set_option maxRecDepth 100000
set_option pp.maxSteps 300
/-! Rows of changes from one tree to another: plain. -/
namespace A
open PySem E
variable [KF]
abbrev Row := List Chg
/-- one more change, everywhere -/
noncomputable def stepA (x : Tree × Row) : List (Tree × Row) := (plainC x.1).map fun c => ((outT x.1 c).getD .skip, x.2 ++ [c])
noncomputable def stepF (fr : List (Tree × Row)) : List (Tree × Row) := fr.flatMap stepA
/-- the rows that came to it -/
def hitsF (n : Tree) (fr : List (Tree × Row)) : List Row := (fr.filter fun x => PyData.eqv (treeP x.1) (treeP n)).map (·.2)
noncomputable def toldT (n : Tree) : Nat → List (Tree × Row) → Option Row
  | 0, fr => match hitsF n fr with
    | r :: rs => some (minR r rs)
    | [] => none
  | k + 1, fr => match hitsF n fr with
    | r :: rs => some (minR r rs)
    | [] => toldT n k (stepF fr)
theorem told_hit {n : Tree} {k : Nat} {fr : List (Tree × Row)} {r : Row} {rs : List Row} (h : hitsF n fr = r :: rs) : toldT n k fr = some (minR r rs) := by
  cases k <;> (rw [toldT, h])
theorem told_end {n : Tree} {fr : List (Tree × Row)} (h : hitsF n fr = []) : toldT n 0 fr = none := by rw [toldT, h]
theorem told_on {n : Tree} {k : Nat} {fr : List (Tree × Row)} (h : hitsF n fr = []) : toldT n (k + 1) fr = toldT n k (stepF fr) := by rw [toldT, h]
/-- the least of the shortest -/
noncomputable def changesT (e n : Tree) (most : Nat) : Option Row := toldT n most [(e, [])]
/-- a row is gone through from e to t -/
inductive Led (e : Tree) : Tree → Row → Prop
  | nil : Led e e []
  | step {t u : Tree} {r : Row} {c : Chg} : Led e t r → outT t c = some u → Led e u (r ++ [c])
/-- where the rows of a front stand -/
structure FrOk (e : Tree) (i : Nat) (x : Tree × Row) : Prop where
  led : Led e x.1 x.2
  len : x.2.length = i
  pr : isProc x.1 = true
  cnt : cntT x.1 ≤ cntT e + 2 * i
theorem plain_out {t : Tree} {c : Chg} (h : c ∈ plainC t) : ∃ u, outT t c = some u := by
  have h : c ∈ foundT t := sortC_mem.mp h
  obtain ⟨p, _, h⟩ := List.mem_flatMap.mp h
  have := (List.mem_filter.mp h).2
  cases ho : outT t c with
  | none => rw [ho] at this; cases this
  | some u => exact ⟨u, rfl⟩
theorem step_ok {e : Tree} {i : Nat} {x y : Tree × Row} (h : FrOk e i x) (hy : y ∈ stepA x) : FrOk e (i + 1) y := by
  obtain ⟨c, hc, rfl⟩ := List.mem_map.mp hy
  obtain ⟨u, hu⟩ := plain_out hc
  have hcn := out_cnt hu
  have := h.cnt
  rw [hu]
  exact ⟨.step h.led hu, by rw [List.length_append, h.len]; rfl, (can_of hu).2, by show cntT u ≤ _; omega⟩
theorem stepF_ok {e : Tree} {i : Nat} {fr : List (Tree × Row)} (h : ∀ x ∈ fr, FrOk e i x) : ∀ y ∈ stepF fr, FrOk e (i + 1) y := fun y hy => by
  obtain ⟨x, hx, hy⟩ := List.mem_flatMap.mp hy
  exact step_ok (h x hx) hy
theorem plainC_len {t : Tree} (h : isProc t = true) : (plainC t).length ≤ 23 * cntT t := by
  unfold plainC
  rw [sortC_len]
  exact found_len h
theorem stepA_len {e : Tree} {i : Nat} {x : Tree × Row} (h : FrOk e i x) : (stepA x).length ≤ 23 * (cntT e + 2 * i) := by
  unfold stepA
  rw [List.length_map]
  have := plainC_len h.pr
  have := h.cnt
  omega
theorem stepF_len {e : Tree} {i : Nat} : ∀ {fr : List (Tree × Row)}, (∀ x ∈ fr, FrOk e i x) → (stepF fr).length ≤ 23 * (cntT e + 2 * i) * fr.length
  | [], _ => Nat.le_refl _
  | x :: fr, h => by
    have h1 := stepA_len (h x List.mem_cons_self)
    have h2 := stepF_len (fr := fr) fun y hy => h y (List.mem_cons_of_mem _ hy)
    unfold stepF at h2 ⊢
    rw [List.flatMap_cons, List.length_append, List.length_cons, Nat.mul_add, Nat.mul_one]
    omega
/-- what bounds a front -/
def frB : Nat → Nat
  | 0 => 1
  | 1 => 138
  | _ => 30000
theorem stepF_B {e : Tree} {i : Nat} {fr : List (Tree × Row)} (he : cntT e ≤ 6) (hi : i ≤ 1) (h : ∀ x ∈ fr, FrOk e i x) (hl : fr.length ≤ frB i) : (stepF fr).length ≤ frB (i + 1) := by
  have h1 := stepF_len h
  match i, hi with
  | 0, _ =>
    show _ ≤ 138
    have hl : fr.length ≤ 1 := hl
    have h2 : 23 * (cntT e + 2 * 0) * fr.length ≤ 138 * 1 := Nat.mul_le_mul (by omega) hl
    omega
  | 1, _ =>
    show _ ≤ 30000
    have hl : fr.length ≤ 138 := hl
    have h2 : 23 * (cntT e + 2 * 1) * fr.length ≤ 184 * 138 := Nat.mul_le_mul (by omega) hl
    omega
theorem hits_mem {e n : Tree} {i : Nat} {fr : List (Tree × Row)} (h : ∀ x ∈ fr, FrOk e i x) {r : Row} (hr : r ∈ hitsF n fr) : ∃ u, Led e u r ∧ r.length = i ∧ PyData.eqv (treeP u) (treeP n) = true := by
  obtain ⟨x, hx, rfl⟩ := List.mem_map.mp hr
  obtain ⟨h1, h2⟩ := List.mem_filter.mp hx
  exact ⟨x.1, (h x h1).led, (h x h1).len, h2⟩
theorem told_led {e n : Tree} : ∀ {k i : Nat} {fr : List (Tree × Row)} {r : Row}, (∀ x ∈ fr, FrOk e i x) → toldT n k fr = some r → ∃ u, Led e u r ∧ r.length ≤ i + k ∧ PyData.eqv (treeP u) (treeP n) = true := by
  intro k
  induction k with
  | zero =>
    intro i fr r h ht
    cases hh : hitsF n fr with
    | nil => rw [told_end hh] at ht; cases ht
    | cons r0 rs =>
      rw [told_hit hh] at ht
      cases ht
      obtain ⟨u, h1, h2, h3⟩ := hits_mem h (r := minR r0 rs) (by rw [hh]; exact minR_mem rs r0)
      exact ⟨u, h1, by omega, h3⟩
  | succ k ih =>
    intro i fr r h ht
    cases hh : hitsF n fr with
    | nil =>
      rw [told_on hh] at ht
      obtain ⟨u, h1, h2, h3⟩ := ih (stepF_ok h) ht
      exact ⟨u, h1, by omega, h3⟩
    | cons r0 rs =>
      rw [told_hit hh] at ht
      cases ht
      obtain ⟨u, h1, h2, h3⟩ := hits_mem h (r := minR r0 rs) (by rw [hh]; exact minR_mem rs r0)
      exact ⟨u, h1, by omega, h3⟩
/-- the fronts as data -/
inductive FrD : List D → List (Tree × Row) → Prop
  | nil : FrD [] []
  | cons {d : D} {t : Tree} {r : Row} {ds : List D} {fr : List (Tree × Row)} : Tr d t → FrD ds fr → FrD (.tup [d, rowD r] :: ds) ((t, r) :: fr)
theorem FrD.len : ∀ {ds : List D} {fr : List (Tree × Row)}, FrD ds fr → ds.length = fr.length
  | _, _, .nil => rfl
  | _, _, .cons _ l => congrArg (· + 1) (FrD.len l)
theorem FrD.app : ∀ {ds es : List D} {fr gr : List (Tree × Row)}, FrD ds fr → FrD es gr → FrD (ds ++ es) (fr ++ gr)
  | _, _, _, _, .nil, s => s
  | _, _, _, _, .cons h l, s => .cons h (FrD.app l s)
theorem FrD.get : ∀ {ds : List D} {fr : List (Tree × Row)} (i : Nat) {x : D}, FrD ds fr → ds[i]? = some x → ∃ d t r, fr[i]? = some (t, r) ∧ x = .tup [d, rowD r] ∧ Tr d t
  | _, _, 0, _, .cons h _, e => by cases e; exact ⟨_, _, _, rfl, rfl, h⟩
  | _, _, i + 1, _, .cons _ l, e => FrD.get i l (by simpa using e)
def hitP (n : PyData) : D → Bool
  | .tup [d, _] => PyData.eqv (toP d) n
  | _ => false
def rowO : D → D
  | .tup [_, r] => r
  | _ => .non
theorem FrD.hits {n : Tree} : ∀ {ds : List D} {fr : List (Tree × Row)}, FrD ds fr → (ds.filter (hitP (treeP n))).map rowO = (hitsF n fr).map rowD
  | _, _, .nil => rfl
  | _, _, .cons (d := d) (t := t) (r := r) (ds := ds) (fr := fr) h l => by
    have ih := FrD.hits (n := n) l
    have e : hitP (treeP n) (.tup [d, rowD r]) = PyData.eqv (treeP t) (treeP n) := by show PyData.eqv (toP d) _ = _; rw [h.toP]
    unfold hitsF at ih ⊢
    rw [List.filter_cons, List.filter_cons, e]
    split
    · rw [List.map_cons, List.map_cons, List.map_cons, ih]; rfl
    · exact ih
end A
set_option Elab.async false
set_option linter.all false
set_option maxRecDepth 100000
set_option pp.maxSteps 300
/-! The walk: changes_to. -/
namespace A
open PySem PySem.Spec PyProof.Rows L2 E
variable [KF]
def OptR (r : D) (o : Option Row) : Prop := match o with
  | some x => r = rowD x
  | none => r = .non
theorem OptR.none : OptR .non none := rfl
theorem OptR.some {x : Row} : OptR (rowD x) (some x) := rfl
theorem toPs_rows (rs : List Row) : toPs (rs.map rowD) = rs.map fun r => E.toP (rowD r) := by rw [toPs_map, List.map_map]; rfl
section
variable {P : Program} {w : World} {K : PySem.W.Frag} [KonK K] {mg : Str → Option Value} {base : Heap}
abbrev sp_to : Sp := spD 3 (fun ds => ∃ (d d' : D) (t n : Tree) (m : Nat), ds = [d, d', natD m] ∧ Tr d t ∧ Tr d' n ∧ isProc t = true ∧ isProc n = true ∧ cntT t ≤ 6 ∧ m ≤ 2) fun ds r => ∀ (d d' : D) (t n : Tree) (m : Nat), ds = [d, d', natD m] → Tr d t → Tr d' n → OptR r (changesT t n m)
abbrev N_to : List Str := ["elder", "newer", "most", "front", "turn", "some", "here", "row", "later", "change"]
theorem S_to : FnScope N_to ["elder", "newer", "most"] (sc 67) := ⟨rfl, rfl, rfl, by decide +kernel, rfl, by decide +kernel, by decide +kernel⟩
theorem ok_to {f : Addr} {fd : FuncData} (F : Fun K "changes_to" "changes_to" (top 67) f fd) (T : Blt mg) (cp : Cl P w K mg base 13 "plain_changes" sp_pc) (co : Cl P w K mg base 12 "outcome" sp_outc) : FnG P w K mg base 14 f fd ["elder", "newer", "most"] sp_to := by
  refine ok_D (m := 7) F S_to rfl rfl fun cdv A outer s H E ds hr hl hp => ?_
  obtain ⟨d, d', t, n, m, rfl, ht, hn, hpt, hpn, hct, hm⟩ := hp
  have fin : ∀ r, OptR r (changesT t n m) → ∀ (d1 d2 : D) (t' n' : Tree) (m' : Nat), [d, d', natD m] = [d1, d2, natD m'] → Tr d1 t' → Tr d2 n' → OptR r (changesT t' n' m') := fun r h d1 d2 t' n' m' e h1 h2 => by
    injection e with e1 e
    injection e with e2 e
    injection e with e3 _
    injection e3 with e3
    subst e1 e2
    rw [h1.uniq ht, h2.uniq hn, ← Int.ofNat.inj e3]
    exact h
  have hux : (cx P w K mg base N_to "changes_to" (top 67) f cdv A outer s H E).A.units + 64 < cLine := hu_of hr
  refine jss_cons (js_setL 3 S_to.nd rfl (jl_lst (j_cons (j_tup (j_cons (j_var 0 rfl rfl (j_cons (j_tup (j_nil ⟨Nat.zero_le _, j_nil ⟨Nat.le_of_ble_eq_true rfl, j_nil ⟨Nat.le_of_ble_eq_true rfl, ?_⟩⟩⟩)))))))))
  refine jss_cons (js_for PassesOwn.never rfl (ji_range T.range (j_add (j_var 2 rfl rfl (j_int ⟨_, _, rfl, rfl, m + 1, rfl, by omega, ?_⟩)))))
  refine ⟨fun i sl ms => ∃ t4 t5 t6 t7 t8 js ds, sl = [.d d, .d d', .d (natD m), .m js.length, t4, t5, t6, t7, t8, .u] ∧ ms = js ++ [.l ds] ∧
    ((i ≤ m ∧ ∃ fr, FrD ds fr ∧ (∀ x ∈ fr, FrOk t i x) ∧ fr.length ≤ frB i ∧ changesT t n m = toldT n (m - i) fr) ∨ (i = m + 1 ∧ changesT t n m = none)),
    ⟨.u, .u, .u, .u, .u, [], _, rfl, rfl, .inl ⟨Nat.zero_le _, [(t, [])], .cons (r := []) ht .nil, fun x hx => ?_, Nat.le_refl 1, rfl⟩⟩, ?_, ?_⟩
  · obtain rfl : x = (t, []) := by simpa using hx
    exact ⟨.nil, rfl, hpt, Nat.le_refl _⟩
  · rintro i x sl1 ms1 hx ⟨t4, t5, t6, t7, t8, js, ds, rfl, rfl, hst⟩
    have hnl : (numbers (m + 1)).length = m + 1 := by unfold numbers; simp
    have him : i < m + 1 := by rw [← hnl]; exact (List.getElem?_eq_some_iff.mp hx).1
    obtain rfl : natD i = x := by
      unfold numbers at hx
      rw [List.getElem?_map, List.getElem?_range him] at hx
      exact Option.some.inj hx
    obtain ⟨hi, fr, hfd, hok, hfl, hch⟩ := hst.resolve_right (fun z => by omega)
    have hdl := hfd.len
    have hfl2 : fr.length ≤ 30000 := Nat.le_trans hfl (by
      match i with
      | 0 => decide
      | 1 => decide
      | i + 2 => exact Nat.le_refl _)
    refine ⟨_, _, jg_name 4 S_to.nd rfl, ?_⟩
    refine Sr.less (sl' := [.d d, .d d', .d (natD m), .m js.length, .d (natD i), .u, .u, .u, .u, .u]) ?_ (Less.keep (Less.keep (Less.keep (Less.keep (Less.keep (Less.drop (Less.drop (Less.drop (Less.drop (Less.keep Less.nil))))))))))
    have hk : (js ++ [Ob.l ds])[js.length]? = some (.l ds) := by rw [List.getElem?_append_right (Nat.le_refl _)]; simp
    refine jss_cons (js_lcF 5 [("here", 6), ("row", 7)] rfl S_to.nd rfl (blkOk_by (N := N_to) (sc := sc 67) (by decide +kernel)) (own2 rfl rfl) (ji_ownD (k := js.length) (ds := ds) hk (jo_var 3 rfl rfl ⟨rfl, rfl⟩) ⟨by omega, hitP (treeP n), rowO, fun z acc hz => ?_, ?_⟩))
    · obtain ⟨a, ha⟩ := List.getElem?_of_mem hz
      obtain ⟨y, u, r, h1, rfl, h2⟩ := hfd.get a ha
      have hfo := hok _ (List.mem_of_getElem? h1)
      refine ⟨_, _, fun s H C cl fp => jg_tup rfl (jgs_cons (jg_name 6 S_to.nd rfl) (jgs_cons (jg_name 7 S_to.nd rfl) jgs_nil)), fun _ h => h, fun s H C cl fp => jts_one (jt_eqA hux (j_var 6 rfl rfl (j_var 1 rfl rfl ⟨h2.shaped hfo.pr, hn.shaped hpn, ?_⟩)))⟩
      refine ⟨?_, fun _ s H C cl fp => j_var 7 rfl rfl rfl⟩
      show _ = PyData.eqv (_root_.E.toP y) (treeP n)
      rw [hn.toP]
    rw [hfd.hits]
    cases hh : hitsF n fr with
    | cons r0 rs =>
      rw [told_hit hh] at hch
      refine jss_cons (js_if (jt_cmp (j_len T.len (j_var 5 rfl rfl ⟨_, .inr ⟨_, rfl, rfl⟩, j_int ⟨_, .gt _ _, fun _ => ?_, fun e => ?_⟩⟩))))
      · refine jss_one (js_ret (j_minD (hr.mono (Nat.zero_le _)) rfl T.min (j_var 5 rfl rfl ⟨rowD r0, rs.map rowD, rfl, rowsD_alike (r0 :: rs), Nat.le_trans (rowsD_depth (r0 :: rs)) (by decide), fun a z hz hd => fin _ ?_⟩)))
        have hm : z ∈ (r0 :: rs).map rowD := List.mem_of_getElem? hz
        obtain ⟨r1, h1, rfl⟩ := List.mem_map.mp hm
        have : r1 = minR r0 rs := rowP_inj (hd.trans (minR_is rs r0))
        rw [hch, this]
        exact OptR.some
      · exact absurd (of_decide_eq_false e) (by rw [List.length_map, List.length_cons]; omega)
    | nil =>
      refine jss_cons (js_if (jt_cmp (j_len T.len (j_var 5 rfl rfl ⟨_, .inr ⟨_, rfl, rfl⟩, j_int ⟨_, .gt _ _, fun e => ?_, fun _ => jss_nil ?_⟩⟩))))
      · exact absurd (of_decide_eq_true e) (by decide)
      refine jss_cons (js_setL 8 S_to.nd rfl (jl_lst (j_nil ⟨Nat.zero_le _, ?_⟩)))
      rw [List.length_append]
      show Sr [.d d, .d d', .d (natD m), .m js.length, .d (natD i), .d (.lst []), .u, .u, .m (js.length + 1), .u] _ _ _
      have hk2 : ∀ es : List D, (js ++ [Ob.l ds] ++ [Ob.l es])[js.length]? = some (.l ds) := fun es => by rw [List.append_assoc, List.getElem?_append_right (Nat.le_refl _)]; simp
      have hk3 : ∀ es : List D, (js ++ [Ob.l ds] ++ [Ob.l es])[js.length + 1]? = some (.l es) := fun es => by rw [List.getElem?_append_right (by simp)]; simp
      by_cases hlt : i < m
      · refine jss_cons (js_forD (k := js.length) (ob := .l ds) PassesOwn.never rfl (ji_ownD (hk2 []) (jo_if (jt_cmp (j_var 4 rfl rfl (j_var 2 rfl rfl ⟨_, .lt _ _, fun _ => jo_var 3 rfl rfl ⟨rfl, rfl⟩, fun e => absurd (of_decide_eq_false e) (by omega)⟩)))) ?_))
        refine ⟨fun a sl ms => ∃ t6 t7 es, sl = [.d d, .d d', .d (natD m), .m js.length, .d (natD i), .d (.lst []), t6, t7, .m (js.length + 1), .u] ∧ ms = js ++ [.l ds] ++ [.l es] ∧ FrD es (stepF (fr.take a)), ⟨.u, .u, [], rfl, rfl, .nil⟩, ?_, ?_, ?_⟩
        · rintro a sl1 ms1 ⟨t6, t7, es, rfl, rfl, _⟩
          exact hk2 es
        · rintro a x sl1 ms1 hx ⟨t6, t7, es, rfl, rfl, hes⟩
          obtain ⟨y, u, r, h1, rfl, h2⟩ := hfd.get a hx
          have hfo := hok _ (List.mem_of_getElem? h1)
          have hcu : cntT u ≤ cntT t + 2 * i := hfo.cnt
          have hpl : (plainC u).length ≤ 23 * cntT u := plainC_len hfo.pr
          refine ⟨_, _, jg_tup rfl (jgs_cons (jg_name 6 S_to.nd rfl) (jgs_cons (jg_name 7 S_to.nd rfl) jgs_nil)), ?_⟩
          refine jss_one (js_extend 8 rfl rfl (hk3 es) (El.er' (jl_lc [("change", 9)] rfl S_to.nd (blkOk_by (N := N_to) (sc := sc 67) (by decide +kernel)) (own1 rfl) (ji_lst (j_call cp hr (by decide) (j_cons (j_var 6 rfl rfl (j_nil ⟨rfl, ⟨y, u, rfl, h2, hfo.pr, by omega⟩, fun r1 hd1 => ?_⟩))))))))
          obtain rfl := hd1 y u rfl h2
          refine ⟨_, rfl, by rw [List.length_map]; omega, fun b acc => FrD acc (((plainC u).take b).map fun c => ((outT u c).getD .skip, r ++ [c])), .nil, fun b z acc hz hacc => ?_, fun acc hacc => ?_⟩
          · rw [List.getElem?_map] at hz
            cases hc : (plainC u)[b]? with
            | none => rw [hc] at hz; cases hz
            | some c =>
              rw [hc] at hz
              obtain rfl : chD c = z := Option.some.inj hz
              obtain ⟨v, hv⟩ := plain_out (List.mem_of_getElem? hc)
              refine ⟨[9], _, fun s H C cl fp => jg_name 9 S_to.nd rfl, fun _ h => h, fun s H C cl fp => jts_nil ⟨fun _ s H C cl fp => ?_, fun z => (by cases z)⟩⟩
              refine j_tup (j_cons (j_call co hr (by decide) (j_cons (j_var 6 rfl rfl (j_cons (j_var 9 rfl rfl (j_nil ⟨rfl, ⟨y, u, c, rfl, h2, hfo.pr⟩, fun r2 hd2 => ?_⟩)))))))
              have hr2 := hd2 y u c rfl h2
              rw [hv] at hr2
              have hr2 : Tr r2 v := hr2
              refine j_cons (j_cat (j_var 7 rfl rfl (j_tup (j_cons (j_var 9 rfl rfl (j_nil ⟨Nat.le_of_ble_eq_true rfl, _, _, rfl, rfl, ?_, ?_⟩))))))
              · have := hfo.len
                rw [List.length_map]
                show r.length + 1 ≤ 100000
                have : r.length = i := this
                omega
              refine j_nil ⟨Nat.le_of_ble_eq_true rfl, ?_⟩
              show FrD (acc ++ [_]) (((plainC u).take (b + 1)).map _)
              rw [List.take_add_one, hc, List.map_append]
              refine FrD.app hacc ?_
              show FrD _ [((outT u c).getD .skip, r ++ [c])]
              rw [hv, show (r.map chD) ++ [chD c] = (r ++ [c]).map chD by rw [List.map_append]; rfl]
              exact .cons hr2 .nil
          · rw [List.length_map, List.take_length] at hacc
            have hal := hacc.len
            rw [List.length_map] at hal
            have hsl : (stepF (fr.take a)).length ≤ 30000 := by
              have h1 := stepF_B hct (by omega) (fun x hx => hok x (List.mem_of_mem_take hx)) (Nat.le_trans (by rw [List.length_take]; exact Nat.min_le_right _ _) hfl) (fr := fr.take a)
              exact Nat.le_trans h1 (by
                match i with
                | 0 => decide
                | i + 1 => exact Nat.le_refl _)
            have hel := hes.len
            have hcu' : cntT u ≤ 10 := by omega
            have hpl : (plainC u).length ≤ 23 * cntT u := hpl
            refine ⟨acc, rfl, by omega, _, _, es ++ acc, rfl, ?_, ?_⟩
            · rw [List.set_append_right _ _ (by simp)]
              simp
            · unfold stepF
              rw [flat_take h1]
              exact hes.app hacc
        · rintro sl1 ms1 ⟨t6, t7, es, rfl, rfl, hes⟩
          rw [hdl, List.take_length] at hes
          refine jss_one (js_setO 3 S_to.nd rfl (jo_var 8 rfl rfl ⟨.d (natD i), .d (.lst []), t6, t7, .m (js.length + 1), js ++ [.l ds], es, by rw [List.length_append]; rfl, rfl, .inl ⟨hlt, stepF fr, hes, stepF_ok hok, stepF_B hct (by omega) hok hfl, ?_⟩⟩))
          rw [hch, show m - i = (m - (i + 1)) + 1 by omega, told_on hh]
      · obtain rfl : i = m := by omega
        refine jss_cons (js_for PassesOwn.never rfl (ji_lst (j_if (jt_cmp (j_var 4 rfl rfl (j_var 2 rfl rfl ⟨_, .lt _ _, fun e => absurd (of_decide_eq_true e) (by omega), fun _ => j_lst (j_nil ⟨Nat.zero_le _, [], rfl, ?_⟩)⟩))))))
        refine ⟨fun _ sl ms => sl = [.d d, .d d', .d (natD i), .m js.length, .d (natD i), .d (.lst []), .u, .u, .m (js.length + 1), .u] ∧ ms = js ++ [.l ds] ++ [.l []], ⟨rfl, rfl⟩, fun a x sl1 ms1 hx _ => (by cases hx), ?_⟩
        rintro sl1 ms1 ⟨rfl, rfl⟩
        refine jss_one (js_setO 3 S_to.nd rfl (jo_var 8 rfl rfl ⟨.d (natD i), .d (.lst []), .u, .u, .m (js.length + 1), js ++ [.l ds], [], by rw [List.length_append]; rfl, rfl, .inr ⟨rfl, ?_⟩⟩))
        rw [hch, Nat.sub_self, told_end hh]
  · rintro sl1 ms1 ⟨t4, t5, t6, t7, t8, js, ds, rfl, rfl, hst⟩
    have hnl : (numbers (m + 1)).length = m + 1 := by unfold numbers; simp
    rw [hnl] at hst
    have hc := (hst.resolve_left fun z => by omega).2
    refine jss_one (js_ret (j_non (fin _ ?_)))
    rw [hc]
    exact OptR.none
end
end A
set_option Elab.async false
set_option linter.all false
set_option maxRecDepth 100000
set_option pp.maxSteps 300
/-! The walk: told_changes, put_together. -/
namespace A
open PySem PySem.Spec PyProof.Rows L2 E
variable [KF]
structure Exs (K : PySem.W.Frag) (mg : Str → Option Value) (x : Str) (C : Addr) : Prop where
  g : mg x = some (.ref C)
  q : PySem.W.excIn K C [.type "ValueError", .type "Exception", .type "BaseException", .type "object"] "ValueError.__new__" = true
  k : PySem.W.keepIn K (.ref C) = true
  b : PySem.W.subIn K (.ref C) (.type "BaseException") = some true
  t : PySem.W.typeIn K (.ref C) = some (.type "type")
theorem led_nil {e u : Tree} {r : Row} (h : Led e u r) (hr : r = []) : u = e := by
  cases h with
  | nil => rfl
  | step h ho => simp at hr
theorem led_one {e u : Tree} {r : Row} {c : Chg} (h : Led e u r) (hr : r = [c]) : outT e c = some u := by
  cases h with
  | nil => cases hr
  | @step t u r c' h ho =>
    have hl := congrArg List.length hr
    rw [List.length_append] at hl
    have h0 : r = [] := List.eq_nil_of_length_eq_zero (by simpa using hl)
    subst h0
    obtain rfl := led_nil h rfl
    injection hr with hr _
    rw [← hr]
    exact ho
theorem fr0 {t : Tree} (h : isProc t = true) : ∀ x ∈ [(t, ([] : Row))], FrOk t 0 x := fun x hx => by
  obtain rfl : x = (t, []) := by simpa using hx
  exact ⟨.nil, rfl, h, Nat.le_refl _⟩
theorem changes_led {t n : Tree} {m : Nat} {r : Row} (hp : isProc t = true) (h : changesT t n m = some r) : ∃ u, Led t u r ∧ r.length ≤ m ∧ PyData.eqv (treeP u) (treeP n) = true := by
  obtain ⟨u, h1, h2, h3⟩ := told_led (fr0 hp) h
  exact ⟨u, h1, by omega, h3⟩
theorem changes_can {t n : Tree} {m : Nat} {c : Chg} (hp : isProc t = true) (h : changesT t n m = some [c]) : Can t c := by
  obtain ⟨u, h1, _, _⟩ := changes_led hp h
  exact (can_of (led_one h1 rfl)).1
theorem within_02 {x : D} (h : within x 0 2 = true) : ∃ m : Nat, x = natD m ∧ m ≤ 2 := by
  cases x <;> first | cases h | skip
  rename_i i
  have h : (decide ((0 : Int) ≤ i) && decide (i ≤ 2)) = true := h
  rw [Bool.and_eq_true, decide_eq_true_iff, decide_eq_true_iff] at h
  exact ⟨i.toNat, by show D.int i = D.int _; congr 1; omega, by omega⟩
noncomputable def putP (t a b : Tree) : PyData := match changesT t a 1, changesT t b 1 with
  | some [c], some [o] => mergeP t c o
  | _, _ => .none
section
variable {P : Program} {w : World} {K : PySem.W.Frag} [KonK K] {mg : Str → Option Value} {base : Heap} {NN : Addr}
abbrev sp_told (NN : Addr) : Sp := spX 3 (fun ds => ∃ (d d' x : D) (t n : Tree), ds = [d, d', x] ∧ Tr d t ∧ Tr d' n ∧ isProc t = true ∧ isProc n = true ∧ cntT t ≤ 6) (fun ds r => ∀ (d d' : D) (t n : Tree) (m : Nat), ds = [d, d', natD m] → Tr d t → Tr d' n → OptR r (changesT t n m))
  fun ds c => c = .ref NN ∧ ∃ d d' x, ds = [d, d', x] ∧ within x 0 2 = false
theorem S_told : FnScope ["elder", "newer", "most"] ["elder", "newer", "most"] (sc 68) := ⟨rfl, rfl, rfl, by decide +kernel, rfl, by decide +kernel, by decide +kernel⟩
theorem ok_told {f : Addr} {fd : FuncData} (F : Fun K "told_changes" "told_changes" (top 68) f fd) (TM : BltM mg) (xn : Exs K mg "NoNumber" NN) (cp : Cl P w K mg base 12 "check_procedure" sp_check) (cw : Cl P w K mg base 2 "is_within" (sp3i fun x i j => .bl (within x i j))) (ct : Cl P w K mg base 14 "changes_to" sp_to) :
    FnX P w K mg base 15 f fd ["elder", "newer", "most"] (sp_told NN) := by
  refine ok_X (m := 0) F S_told rfl rfl (fun cdv A outer s H E ds hr hl hp nb => ?_) (fun cdv A outer s H E ds c hr hl hp hb => ?_)
  · obtain ⟨d, d', x, t, n, rfl, ht, hn, hpt, hpn, hct⟩ := hp
    have hx : within x 0 2 = true := by
      cases h : within x 0 2 with
      | true => rfl
      | false => exact absurd ⟨rfl, d, d', x, rfl, h⟩ (nb (.ref NN))
    obtain ⟨m, rfl, hm⟩ := within_02 hx
    refine jss_cons (js_expr (j_call cp hr (by decide) (j_cons (j_var 0 rfl rfl (j_nil ⟨rfl, ⟨d, t, rfl, ht, hpt⟩, fun b hd => ?_⟩)))))
    refine jss_cons (js_expr (j_call cp hr (by decide) (j_cons (j_var 1 rfl rfl (j_nil ⟨rfl, ⟨d', n, rfl, hn, hpn⟩, fun b hd => ?_⟩)))))
    refine jss_cons (js_if (jt_not (jt_val (j_call cw hr (by decide) (j_cons (j_var 2 rfl rfl (j_cons (j_int (j_cons (j_gint TM.told (j_nil ⟨rfl, ⟨_, _, _, rfl⟩, fun b hd => ?_⟩)))))))))))
    obtain rfl := hd _ _ _ rfl
    refine ⟨true, congrArg D.bl hx, fun z => (by cases z), fun _ => jss_nil ?_⟩
    refine jss_one (js_ret (j_call ct hr (by decide) (j_cons (j_var 0 rfl rfl (j_cons (j_var 1 rfl rfl (j_cons (j_var 2 rfl rfl (j_nil ⟨rfl, ⟨d, d', t, n, m, rfl, ht, hn, hpt, hpn, hct, hm⟩, fun r hd => hd⟩)))))))))
  · obtain ⟨d, d', x, t, n, rfl, ht, hn, hpt, hpn, hct⟩ := hp
    obtain ⟨rfl, d1, d2, x1, e, hx⟩ := hb
    injection e with e1 e
    injection e with e2 e
    injection e with e3 _
    subst e1 e2 e3
    refine zss_cons (js_expr (j_call cp hr (by decide) (j_cons (j_var 0 rfl rfl (j_nil ⟨rfl, ⟨d, t, rfl, ht, hpt⟩, fun b hd => ?_⟩)))))
    refine zss_cons (js_expr (j_call cp hr (by decide) (j_cons (j_var 1 rfl rfl (j_nil ⟨rfl, ⟨d', n, rfl, hn, hpn⟩, fun b hd => ?_⟩)))))
    refine zss_consZ (zs_if (jt_not (jt_val (j_call cw hr (by decide) (j_cons (j_var 2 rfl rfl (j_cons (j_int (j_cons (j_gint TM.told (j_nil ⟨rfl, ⟨_, _, _, rfl⟩, fun b hd => ?_⟩)))))))))))
    obtain rfl := hd _ _ _ rfl
    exact ⟨false, congrArg D.bl hx, fun _ => zss_one (zs_raise rfl (takes_of rfl rfl rfl rfl) PySem.F.excBase_ValueError xn.q xn.g xn.k xn.b xn.t trivial), fun e => (by cases e)⟩
/-! put_together -/
abbrev sp_put2 : Sp := spD 3 (fun ds => ∃ (d d1 d2 : D) (t a b : Tree), ds = [d, d1, d2] ∧ Tr d t ∧ Tr d1 a ∧ Tr d2 b ∧ isProc t = true ∧ isProc a = true ∧ isProc b = true ∧ cntT t ≤ 6) fun ds r => ∀ (d d1 d2 : D) (t a b : Tree), ds = [d, d1, d2] → Tr d t → Tr d1 a → Tr d2 b → _root_.E.toP r = putP t a b ∧ Shw r
abbrev N_put2 : List Str := ["elder", "one", "other", "first", "second"]
theorem S_put2 : FnScope N_put2 ["elder", "one", "other"] (sc 69) := ⟨rfl, rfl, rfl, by decide +kernel, rfl, by decide +kernel, by decide +kernel⟩
theorem non_shw : Shw .non := ⟨rfl, by decide +kernel, by decide +kernel⟩
theorem OptR.isN {r : D} {o : Option Row} (h : OptR r o) : E.isN r = !o.isSome := by
  cases o with
  | none => have h : r = .non := h; rw [h]; rfl
  | some u => have h : r = rowD u := h; rw [h]; rfl
theorem ok_put2 {f : Addr} {fd : FuncData} (F : Fun K "put_together" "put_together" (top 69) f fd) (T : Blt mg) (cp : Cl P w K mg base 12 "check_procedure" sp_check) (ct : Cl P w K mg base 14 "changes_to" sp_to) (cm : Cl P w K mg base 15 "merge_of" sp_merge) : FnG P w K mg base 16 f fd ["elder", "one", "other"] sp_put2 := by
  refine ok_D (m := 2) F S_put2 rfl rfl fun cdv A outer s H E ds hr hl hp => ?_
  obtain ⟨d, d1, d2, t, a, b, rfl, ht, ha, hb, hpt, hpa, hpb, hct⟩ := hp
  have fin : ∀ r, _root_.E.toP r = putP t a b ∧ Shw r → ∀ (e0 e1 e2 : D) (t' a' b' : Tree), [d, d1, d2] = [e0, e1, e2] → Tr e0 t' → Tr e1 a' → Tr e2 b' → _root_.E.toP r = putP t' a' b' ∧ Shw r := fun r h e0 e1 e2 t' a' b' e h1 h2 h3 => by
    injection e with q1 e
    injection e with q2 e
    injection e with q3 _
    subst q1 q2 q3
    rw [h1.uniq ht, h2.uniq ha, h3.uniq hb]
    exact h
  refine jss_cons (js_expr (j_call cp hr (by decide) (j_cons (j_var 0 rfl rfl (j_nil ⟨rfl, ⟨d, t, rfl, ht, hpt⟩, fun z0 hd => ?_⟩)))))
  refine jss_cons (js_expr (j_call cp hr (by decide) (j_cons (j_var 1 rfl rfl (j_nil ⟨rfl, ⟨d1, a, rfl, ha, hpa⟩, fun z0 hd => ?_⟩)))))
  refine jss_cons (js_expr (j_call cp hr (by decide) (j_cons (j_var 2 rfl rfl (j_nil ⟨rfl, ⟨d2, b, rfl, hb, hpb⟩, fun z0 hd => ?_⟩)))))
  refine jss_cons (js_par 3 4 rfl S_put2.nd rfl rfl (by decide) (j_call ct hr (by decide) (j_cons (j_var 0 rfl rfl (j_cons (j_var 1 rfl rfl (j_cons (j_int (j_nil ⟨rfl, ⟨d, d1, t, a, 1, rfl, ht, ha, hpt, hpa, hct, by decide⟩, fun r1 hd1 => ?_⟩)))))))))
  have h1 := hd1 d d1 t a 1 rfl ht ha
  refine j_call ct hr (by decide) (j_cons (j_var 0 rfl rfl (j_cons (j_var 2 rfl rfl (j_cons (j_int (j_nil ⟨rfl, ⟨d, d2, t, b, 1, rfl, ht, hb, hpt, hpb, hct, by decide⟩, fun r2 hd2 => ?_⟩)))))))
  have h2 := hd2 d d2 t b 1 rfl ht hb
  have none : (∀ c o, changesT t a 1 = some [c] → changesT t b 1 = some [o] → False) → ∀ {O : Out}, O.rt = (fun r => ∀ (e0 e1 e2 : D) (t' a' b' : Tree), [d, d1, d2] = [e0, e1, e2] → Tr e0 t' → Tr e1 a' → Tr e2 b' → _root_.E.toP r = putP t' a' b' ∧ Shw r) → O.rt .non := fun h O e => by
    rw [e]
    refine fin _ ⟨?_, non_shw⟩
    unfold putP
    split
    · rename_i c o q1 q2
      exact (h c o q1 q2).elim
    · rfl
  refine jss_cons (js_if (jt_w (jw_or (jt_isN (j_var 3 rfl rfl ?_)))))
  rw [h1.isN]
  cases q1 : changesT t a 1 with
  | none => exact ⟨fun z => (by cases z), fun _ => ⟨fun _ => jss_one (js_ret (j_non (none (fun c o z1 _ => by rw [q1] at z1; cases z1) rfl))), fun z => (by cases z)⟩⟩
  | some u1 =>
    rw [q1] at h1
    have h1 : r1 = rowD u1 := h1
    subst h1
    refine ⟨fun _ => ?_, fun z => (by cases z)⟩
    refine jw_or (jt_isN (j_var 4 rfl rfl ?_))
    rw [h2.isN]
    cases q2 : changesT t b 1 with
    | none => exact ⟨fun z => (by cases z), fun _ => ⟨fun _ => jss_one (js_ret (j_non (none (fun c o _ z2 => by rw [q2] at z2; cases z2) rfl))), fun z => (by cases z)⟩⟩
    | some u2 =>
      rw [q2] at h2
      have h2 : r2 = rowD u2 := h2
      subst h2
      refine ⟨fun _ => ?_, fun z => (by cases z)⟩
      refine jw_or (jt_cmp (j_lenT T.len (j_var 3 rfl rfl ⟨_, rfl, j_int ⟨_, .ne _ _, fun e => ?_, fun e => ⟨fun _ => jss_one (js_ret (j_non (none (fun c o z1 _ => ?_) rfl))), fun z => (by cases z)⟩⟩⟩)))
      rotate_left
      · rw [q1] at z1
        cases z1
        simp at e
      have e : u1.length = 1 := by
        rw [List.length_map] at e
        have e : ((u1.length : Nat) : Int) = 1 := by simpa using e
        omega
      refine jw_or1 (jt_cmp (j_lenT T.len (j_var 4 rfl rfl ⟨_, rfl, j_int ⟨_, .ne _ _, fun e2 => jss_one (js_ret (j_non (none (fun c o _ z2 => ?_) rfl))), fun e2 => jss_nil ?_⟩⟩)))
      · rw [q2] at z2
        cases z2
        simp at e2
      have e2 : u2.length = 1 := by
        rw [List.length_map] at e2
        have e2 : ((u2.length : Nat) : Int) = 1 := by simpa using e2
        omega
      obtain ⟨c, rfl⟩ := List.length_eq_one_iff.mp e
      obtain ⟨o, rfl⟩ := List.length_eq_one_iff.mp e2
      refine jss_one (js_ret (j_call cm hr (by decide) (j_cons (j_var 0 rfl rfl (j_cons (j_ixT (j_var 3 rfl rfl (j_int ⟨_, _, _, rfl, rfl, rfl, j_cons (j_ixT (j_var 4 rfl rfl (j_int ⟨_, _, _, rfl, rfl, rfl, j_nil ⟨rfl, ⟨d, t, c, o, rfl, ht, hpt, changes_can hpt q1, changes_can hpt q2, by omega⟩, fun r hd => fin _ ?_⟩⟩)))⟩))))))))
      have h := hd d t c o rfl ht
      unfold putP
      rw [q1, q2]
      exact h
end
end A
set_option Elab.async false
set_option linter.all false
set_option maxRecDepth 100000
/-! The hand: a list of numbers, and some numbers of its own behind it, none below 0. -/
namespace E
open PySem PySem.Spec PyProof.Rows L2
variable [KF]
class HandN (n : Nat) : Prop where
  ok : ∀ cs is : List Int, KF.hand cs is ↔ is.length = n ∧ (∀ i ∈ is, (0 : Int) ≤ i) ∧ cs.length ≤ 63 ∧ (n = 4 → ∀ c ∈ cs, (0 : Int) ≤ c)
theorem dn_ints {F : Hp} : ∀ cs : List Int, DnL F (cs.map V.int) (cs.map D.int)
  | [] => .nil
  | c :: cs => .cons (.int c) (dn_ints cs)
section
variable {n : Nat} [hn : HandN n] {X : Cx} {sl : List Sl} {ms : List Ob} {x : Str} {R : D → Prop} {p p2 pos : Pos} {e : Expr} {O : Out}
/-- hand[k], one of the numbers behind -/
theorem j_hd (i : Nat) {k : Nat} {j} (hN : X.N[i]? = some x) (hs : sl[i]? = some .h) (hk : k < n) (q : ∀ z : Int, 0 ≤ z → R (.int z))
    (hv : Vis X.env.scope x := by first | exact Or.inl rfl | exact Or.inr (Or.inl rfl) | exact Or.inr (Or.inr rfl)) (hd : (x == ("__debug__" : Str)) = false := by decide) (hcd : (x == ("__classdict__" : Str)) = false := by decide)
    (hp : PlainIx (.Constant (.int ((k + 1 : Nat) : Int)) j p2) := by intro _ _; rfl) : Er sl ms (wE X (.Subscript (.Name x p) (.Constant (.int ((k + 1 : Nat) : Int)) j p2) pos)) R :=
  Er.of (pe_ix ix_list (pv i hN hv hd hcd) pe_int hp) fun ho F0 H0 F ps ex σ H a Q qq => by
    obtain ⟨o, eo, h, hh, rfl⟩ := a.slo i _ hs
    obtain ⟨c, cs, is, hH, hF, hok⟩ := (a.hand h hh).ex
    obtain ⟨hl, hz, h63, hc4⟩ := (hn.ok cs is).mp hok
    have hki : k < is.length := by omega
    refine ⟨_, eo, h, _, ((k + 1 : Nat) : Int), .int is[k], rfl, rfl, .inl (.inl hH), ?_, qq _ (.int is[k]) F H (q _ (hz _ (List.getElem_mem hki))) (a.push (.int _))⟩
    unfold L2.atI L2.ixN
    rw [List.length_cons, List.length_map, if_pos (by omega), if_pos (by omega), Int.toNat_natCast]
    show (is.map V.int)[k]? = _
    rw [List.getElem?_map, List.getElem?_eq_getElem hki]
    rfl
/-- hand[0], the cells -/
theorem j_hd0 (i : Nat) {j} (hN : X.N[i]? = some x) (hs : sl[i]? = some .h) (q : ∀ cs : List Int, (n = 4 → ∀ c ∈ cs, (0 : Int) ≤ c) → cs.length ≤ 63 → R (.lst (cs.map D.int)))
    (hv : Vis X.env.scope x := by first | exact Or.inl rfl | exact Or.inr (Or.inl rfl) | exact Or.inr (Or.inr rfl)) (hd : (x == ("__debug__" : Str)) = false := by decide) (hcd : (x == ("__classdict__" : Str)) = false := by decide)
    (hp : PlainIx (.Constant (.int 0) j p2) := by intro _ _; rfl) : Er sl ms (wE X (.Subscript (.Name x p) (.Constant (.int 0) j p2) pos)) R :=
  Er.of (pe_ix ix_list (pv i hN hv hd hcd) pe_int hp) fun ho F0 H0 F ps ex σ H a Q qq => by
    obtain ⟨o, eo, h, hh, rfl⟩ := a.slo i _ hs
    obtain ⟨c, cs, is, hH, hF, hok⟩ := (a.hand h hh).ex
    obtain ⟨hl, hz, h63, hc4⟩ := (hn.ok cs is).mp hok
    refine ⟨_, eo, h, _, 0, .ref c, rfl, rfl, .inl (.inl hH), (by unfold L2.atI L2.ixN; rw [if_pos (by omega), if_pos (by rw [List.length_cons]; omega)]; rfl), qq _ (.lst (cs.map D.int)) F H (q cs hc4 h63) (a.push (.lst hF (dn_ints cs)))⟩
/-- hand[k] = e -/
theorem js_hput (i : Nat) {k : Nat} {j} (hN : X.N[i]? = some x) (hs : sl[i]? = some .h) (hk : k < n) (h : Er sl ms (wE X e) fun d => ∃ z : Int, d = .int z ∧ 0 ≤ z ∧ O.nx sl ms)
    (hv : Vis X.env.scope x := by first | exact Or.inl rfl | exact Or.inr (Or.inl rfl) | exact Or.inr (Or.inr rfl)) (hd : (x == ("__debug__" : Str)) = false := by decide) (hcd : (x == ("__classdict__" : Str)) = false := by decide)
    (ha : ∀ v, assign (.Subscript (.Name x p) (.Constant (.int ((k + 1 : Nat) : Int)) j p2) pos) X.env v = (do
      let ov ← holding [v] (eval (.Name x p) X.env)
      let iv ← holding [v, ov] (eval (.Constant (.int ((k + 1 : Nat) : Int)) j p2) X.env)
      standAt pos
      holding [v, ov, iv] (setItem ov iv v)
      release [v, ov, iv] []) := by intro _; rfl) {spos : Pos}
    (hsw : swapsWithSole [.Subscript (.Name x p) (.Constant (.int ((k + 1 : Nat) : Int)) j p2) pos] e spos.line X.env = pure false := by rfl) (hw : swappedStores [.Subscript (.Name x p) (.Constant (.int ((k + 1 : Nat) : Int)) j p2) pos] e X.env = pure none := by rfl)
    (h1 : (assignEach [.Subscript (.Name x p) (.Constant (.int ((k + 1 : Nat) : Int)) j p2) pos] X.env).map (·.2) = [assign (.Subscript (.Name x p) (.Constant (.int ((k + 1 : Nat) : Int)) j p2) pos) X.env] := by rfl) :
    Sr sl ms (wS X (.Assign [.Subscript (.Name x p) (.Constant (.int ((k + 1 : Nat) : Int)) j p2) pos] e spos)) O :=
  Sr.of (ps_asg pe_w (pg_sub (pv i hN hv hd hcd) pe_int set_list ha) hsw hw h1) fun ho F0 H0 F ps ex σ H a Z nx rt bk ct => h ho F0 H0 F ps ex σ H a _ fun v d F1 H1 ⟨z, ez, z0, k1⟩ a1 => by
    subst ez
    have e1 : v = .int z := by cases a1.top; rfl
    subst e1
    obtain ⟨o, eo, h, hh, rfl⟩ := a1.slo i _ hs
    have hnd := a1.hand h hh
    obtain ⟨c, cs, is, hH, hF, hok⟩ := hnd.ex
    obtain ⟨hl, hz, h63, hc4⟩ := (hn.ok cs is).mp hok
    have hki : k < is.length := by omega
    refine ⟨_, eo, h, _, ((k + 1 : Nat) : Int), k + 1, rfl, rfl, hH, ?_, nx _ _ F1 ps σ _ k1 (a1.pop.step ⟨Ex.refl F1, fun b o hb => ?_, fun b o hb hq => ?_, fun _ z _ => z⟩ fun h' e' => ?_)⟩
    · unfold L2.ixN
      rw [List.length_cons, List.length_map, if_pos (by omega), if_pos (by omega)]
      rfl
    · rw [upd_ne fun z => by subst z; rw [hnd.fr] at hb; cases hb]; exact a1.fh b o hb
    · rw [upd_ne fun z => hb (by rw [z]; exact hh)]; exact hq
    · rw [hh] at e'
      cases e'
      refine ⟨hnd.fr, c, cs, is.set k z, ?_, hF, (hn.ok _ _).mpr ⟨by rw [List.length_set]; exact hl, fun y hy => ?_, h63, hc4⟩⟩
      · rw [upd_same, List.set_cons_succ, List.map_set]
      · rcases List.mem_or_eq_of_mem_set hy with hy | rfl
        · exact hz y hy
        · exact z0
/-- int(e) of a whole number -/
theorem j_intI (hm : X.mg "int" = none) (h : Er sl ms (wE X e) fun x => ∃ i, x = .int i ∧ R (.int i)) (hg : Gl X "int" := by rfl) (he : starEach [e] X.env = (false, eval e X.env) :: starEach [] X.env := by rfl) :
    Er sl ms (wE X (.Call (.Name "int" p) [e] [] pos)) R := Er.of (pe_callTy call_int1 hg hm boot_intB (pa_cons pe_w pa_nil he) (he := he)) fun ho F0 H0 F ps ex σ H a Q q => h ho F0 H0 F ps ex σ H a _ fun v d F1 H1 ⟨t, e, k⟩ a1 => by
  subst e
  cases a1.top with
  | int _ => exact .inl ⟨t, rfl, q _ _ F1 H1 k (a1.pop.push (.int _))⟩
def absI (z : Int) : Int := if z < 0 then -z else z
theorem absI_nn (z : Int) : 0 ≤ absI z := by unfold absI; split <;> omega
/-- abs(e) -/
theorem j_abs (hm : X.mg "abs" = none) (h : Er sl ms (wE X e) fun x => ∃ i, x = .int i ∧ R (.int (absI i))) (hg : Gl X "abs" := by rfl) (he : starEach [e] X.env = (false, eval e X.env) :: starEach [] X.env := by rfl) :
    Er sl ms (wE X (.Call (.Name "abs" p) [e] [] pos)) R := Er.of (pe_callB call_abs hg hm (by decide +kernel) (pa_cons pe_w pa_nil he) (he := he)) fun ho F0 H0 F ps ex σ H a Q q => h ho F0 H0 F ps ex σ H a _ fun v d F1 H1 ⟨t, e, k⟩ a1 => by
  subst e
  cases a1.top with
  | int _ => exact ⟨t, rfl, q _ _ F1 H1 k (a1.pop.push (.int _))⟩
end
end E
set_option Elab.async false
set_option linter.all false
set_option maxRecDepth 100000
set_option pp.maxSteps 300
/-! The law's draws. -/
namespace A
open PySem PySem.Spec PyProof.Rows L2 E
variable [KF] [HandN 3]
section
variable {P : Program} {w : World} {K : PySem.W.Frag} [KonK K] {mg : Str → Option Value} {base : Heap}
abbrev sp_mixed : Sp := spD 2 (fun ds => ∃ c t : Int, ds = [.int c, .int t]) fun _ d => ∃ i : Int, d = .int i ∧ 0 ≤ i
abbrev N_mixed : List Str := ["cell", "turn", "number"]
theorem S_mixed : FnScope N_mixed ["cell", "turn"] (sc 72) := ⟨rfl, rfl, rfl, by decide +kernel, rfl, by decide +kernel, by decide +kernel⟩
theorem ok_mixed {f : Addr} {fd : FuncData} (F : Fun K "_law_mixed" "_law_mixed" (top 72) f fd) (T : Blt mg) : FnG P w K mg base 1 f fd ["cell", "turn"] sp_mixed := by
  refine ok_D (m := 1) F S_mixed rfl rfl fun cdv A outer s H E ds hr hl hp => ?_
  obtain ⟨c, t, rfl⟩ := hp
  refine jss_cons (js_set 2 S_mixed.nd rfl (j_mod (j_intI T.int (j_mul (j_add (j_add (j_mod (j_intI T.int (j_var 0 rfl rfl ⟨_, rfl, j_int ⟨_, _, rfl, rfl, by decide, j_mul (j_int (j_var 1 rfl rfl ⟨_, _, rfl, rfl, .inl ⟨by decide, by decide⟩, _, _, rfl, rfl, j_int ⟨_, _, rfl, rfl, j_int ⟨_, _, rfl, rfl, .inr ⟨by decide, by decide⟩, _, rfl, j_int ⟨_, _, rfl, rfl, by decide, ?_⟩⟩⟩⟩))⟩⟩)))))))))
  generalize hz : (_ : Int) % 2147483647 = z
  have z0 : 0 ≤ z := by rw [← hz]; exact Int.emod_nonneg _ (by decide)
  have z1 : z < 2147483647 := by rw [← hz]; exact Int.emod_lt_of_pos _ (by decide)
  refine jss_cons (js_set 2 S_mixed.nd rfl (j_mod (j_intI T.int (j_mul (j_var 2 rfl rfl (j_add (j_div (j_var 2 rfl rfl (j_int ⟨_, _, rfl, rfl, ⟨by decide, by decide⟩, j_int ⟨_, _, rfl, rfl, _, _, rfl, rfl, .inl ⟨by omega, by omega⟩, _, rfl, j_int ⟨_, _, rfl, rfl, by decide, ?_⟩⟩⟩)))))))))
  generalize hy : (_ : Int) % 2147483647 = y
  have y0 : 0 ≤ y := by rw [← hy]; exact Int.emod_nonneg _ (by decide)
  have y1 : y < 2147483647 := by rw [← hy]; exact Int.emod_lt_of_pos _ (by decide)
  refine jss_one (js_ret (j_div (j_mod (j_intI T.int (j_mul (j_var 2 rfl rfl (j_add (j_div (j_var 2 rfl rfl (j_int ⟨_, _, rfl, rfl, ⟨by decide, by decide⟩, j_int ⟨_, _, rfl, rfl, _, _, rfl, rfl, .inl ⟨by omega, by omega⟩, _, rfl, j_int ⟨_, _, rfl, rfl, by decide, j_int ⟨_, _, rfl, rfl, ⟨by decide, by decide⟩, ?_⟩⟩⟩⟩))))))))))
  exact ⟨_, rfl, Int.ediv_nonneg (Int.emod_nonneg _ (by decide)) (by decide)⟩
/-- a number below many -/
abbrev sp_draw : Sp := spH 1 (fun ds => ∃ m : Nat, ds = [.int m] ∧ 1 ≤ m ∧ m < 1073741824) fun ds d => ∀ m : Nat, ds = [.int m] → ∃ i : Nat, d = .int i ∧ i < m
abbrev N_draw : List Str := ["hand", "many", "found", "cells", "at", "cell"]
theorem S_draw : FnScope N_draw ["hand", "many"] (sc 73) := ⟨rfl, rfl, rfl, by decide +kernel, rfl, by decide +kernel, by decide +kernel⟩
theorem ok_draw {f : Addr} {fd : FuncData} (F : Fun K "_law_draw" "_law_draw" (top 73) f fd) (T : Blt mg) (cm : Cl P w K mg base 1 "_law_mixed" sp_mixed) : FnG P w K mg base 2 f fd ["hand", "many"] sp_draw := by
  refine ok_H (m := 4) F S_draw rfl rfl fun cdv A outer s H E ds hr hl hp => ?_
  obtain ⟨m, rfl, hm1, hm2⟩ := hp
  have fin : ∀ {d : Int} (m' : Nat), [D.int (m : Nat)] = [D.int (m' : Nat)] → ∃ i : Nat, D.int (d % ((m : Nat) : Int)) = .int i ∧ i < m' := fun {d} m' hm' => by
    have hnn := Int.emod_nonneg d (show (m : Int) ≠ 0 by omega)
    have hlt := Int.emod_lt_of_pos d (show (0 : Int) < m by omega)
    injection hm' with hm' _
    injection hm' with hm'
    have : m = m' := by omega
    subst this
    exact ⟨(d % (m : Int)).toNat, by rw [Int.toNat_of_nonneg hnn], by omega⟩
  refine jss_cons (js_hput 0 (k := 2) (n := 3) rfl rfl (by decide) (j_add (j_hd 0 (k := 2) (n := 3) rfl rfl (by decide) fun z3 h3 => j_int ⟨_, _, rfl, rfl, _, rfl, by omega, ?_⟩)))
  refine jss_cons (js_if (jt_cmp (j_hd 0 (k := 1) (n := 3) rfl rfl (by decide) fun z2 h2 => j_int ⟨_, .gt _ _, fun _ => ?_, fun _ => jss_nil ?_⟩)))
  · refine jss_cons (js_set 2 S_draw.nd rfl (j_mod (j_intI T.int (j_hd 0 (k := 1) (n := 3) rfl rfl (by decide) fun z4 h4 => ⟨_, rfl, j_var 1 rfl rfl ⟨_, _, rfl, rfl, by omega, ?_⟩⟩))))
    refine jss_cons (js_hput 0 (k := 1) (n := 3) rfl rfl (by decide) (j_div (j_hd 0 (k := 1) (n := 3) rfl rfl (by decide) fun z5 h5 => j_var 1 rfl rfl ⟨_, _, rfl, rfl, ⟨by omega, by omega⟩, _, rfl, Int.ediv_nonneg h5 (by omega), ?_⟩)))
    exact jss_one (js_ret (j_var 2 rfl rfl fin))
  refine jss_cons (js_par 3 4 rfl S_draw.nd rfl rfl (by decide) (j_hd0 (n := 3) 0 rfl rfl fun cs _ _ => j_hd 0 (k := 0) (n := 3) rfl rfl (by decide) fun at_ hat => ?_))
  refine jss_cons (js_hput 0 (k := 0) (n := 3) rfl rfl (by decide) (j_add (j_var 4 rfl rfl (j_int ⟨_, _, rfl, rfl, _, rfl, by omega, ?_⟩))))
  refine jss_cons (js_if (jt_cmp (j_len T.len (j_var 3 rfl rfl ⟨_, .inr ⟨_, rfl, rfl⟩, j_int ⟨_, .eq _ _, fun e => ?_, fun e => jss_nil ?_⟩⟩))))
  · refine jss_one (js_ret (j_mod (j_intI T.int (j_call cm hr (by decide) (j_cons (j_int (j_cons (j_hd 0 (k := 2) (n := 3) rfl rfl (by decide) fun z6 h6 => j_nil ⟨rfl, ⟨_, _, rfl⟩, fun d hd => ?_⟩))))))))
    obtain ⟨i, rfl, _⟩ := hd
    exact ⟨_, rfl, j_var 1 rfl rfl ⟨_, _, rfl, rfl, by omega, fin⟩⟩
  have e := of_decide_eq_false e
  rw [List.length_map] at e
  have hcl : 0 < cs.length := by omega
  have hnn := Int.emod_nonneg at_ (show ((cs.length : Nat) : Int) ≠ 0 by omega)
  have hlt := Int.emod_lt_of_pos at_ (show (0 : Int) < (cs.length : Nat) by omega)
  obtain ⟨q, hq⟩ : ∃ q : Nat, at_ % ((cs.length : Nat) : Int) = q := ⟨(at_ % ((cs.length : Nat) : Int)).toNat, by rw [Int.toNat_of_nonneg hnn]⟩
  obtain ⟨cell, hcell⟩ : ∃ cell, cs[q]? = some cell := ⟨_, List.getElem?_eq_getElem (by omega)⟩
  refine jss_cons (js_set 5 S_draw.nd rfl (j_ixL (j_var 3 rfl rfl (j_mod (j_intI T.int (j_var 4 rfl rfl ⟨_, rfl, j_len T.len (j_var 3 rfl rfl ⟨_, .inr ⟨_, rfl, rfl⟩, _, _, rfl, rfl, by rw [List.length_map]; omega, _, _, .int cell, rfl, rfl, ?_, ?_⟩)⟩))))))
  · rw [List.length_map, hq]
    exact atI_nat (by rw [List.getElem?_map, hcell]; rfl)
  have tail : ∀ {O : Out}, O.rt = (fun d => ∀ m' : Nat, [D.int (m : Nat)] = [D.int (m' : Nat)] → ∃ i : Nat, d = .int i ∧ i < m') →
      Sr [.h, .d (.int (m : Nat)), .u, .d (.lst (cs.map D.int)), .d (.int at_), .d (.int cell)] [] (wSs (cx P w K mg base N_draw "_law_draw" (top 73) f cdv A outer s H E) ((defBody (top 73)).drop 7)) O := fun {O} eO => by
    refine jss_one (js_ret (j_mod (j_intI T.int (j_call cm hr (by decide) (j_cons (j_var 5 rfl rfl (j_cons (j_hd 0 (k := 2) (n := 3) rfl rfl (by decide) fun z6 h6 => j_nil ⟨rfl, ⟨_, _, rfl⟩, fun d hd => ?_⟩))))))))
    obtain ⟨i, rfl, _⟩ := hd
    refine ⟨_, rfl, j_var 1 rfl rfl ⟨_, _, rfl, rfl, by omega, ?_⟩⟩
    rw [eO]
    exact fin
  refine jss_cons (js_if (jt_w (jw_and (jt_cmp (j_var 4 rfl rfl (j_len T.len (j_var 3 rfl rfl ⟨_, .inr ⟨_, rfl, rfl⟩, _, .lt _ _, fun _ => ?_, fun _ => ⟨fun z => (by cases z), fun _ => jss_nil (tail rfl)⟩⟩)))))))
  refine jw_and1 (jt_cmp (j_abs T.abs (j_var 5 rfl rfl ⟨_, rfl, j_pow (j_int (j_int ⟨_, _, rfl, rfl, ⟨by decide, by decide, by decide⟩, _, .ge _ _, fun _ => ?_, fun _ => jss_nil (tail rfl)⟩))⟩)))
  refine jss_cons (js_hput 0 (k := 1) (n := 3) rfl rfl (by decide) (j_div (j_abs T.abs (j_var 5 rfl rfl ⟨_, rfl, j_var 1 rfl rfl ⟨_, _, rfl, rfl, ⟨by omega, by omega⟩, _, rfl, Int.ediv_nonneg (absI_nn _) (by omega), ?_⟩⟩))))
  exact jss_one (js_ret (j_mod (j_intI T.int (j_abs T.abs (j_var 5 rfl rfl ⟨_, rfl, _, rfl, j_var 1 rfl rfl ⟨_, _, rfl, rfl, by omega, fin⟩⟩)))))
abbrev sp_any : Sp := spH 1 (fun ds => ∃ l, ds = [.lst l] ∧ 1 ≤ l.length ∧ l.length < 100000) fun ds d => ∀ l, ds = [.lst l] → d ∈ l
theorem S_any : FnScope ["hand", "some"] ["hand", "some"] (sc 74) := ⟨rfl, rfl, rfl, by decide +kernel, rfl, by decide +kernel, by decide +kernel⟩
theorem ok_any {f : Addr} {fd : FuncData} (F : Fun K "_law_any" "_law_any" (top 74) f fd) (T : Blt mg) (d1 : Cl P w K mg base 2 "_law_draw" sp_draw) : FnG P w K mg base 3 f fd ["hand", "some"] sp_any := by
  refine ok_H (m := 0) F S_any rfl rfl fun cdv A outer s H E ds hr hl hp => ?_
  obtain ⟨l, rfl, h1, h2⟩ := hp
  refine jss_one (js_ret (j_ixL (j_var 1 rfl rfl (j_callH 0 d1 hr (by decide) rfl rfl (j_cons (j_len T.len (j_var 1 rfl rfl ⟨_, .inr ⟨_, rfl, rfl⟩, j_nil ⟨rfl, ⟨_, rfl, h1, by omega⟩, fun d hd => ?_⟩⟩)))))))
  obtain ⟨i, rfl, hi⟩ := hd _ rfl
  refine ⟨_, _, l[i], rfl, rfl, atI_nat (List.getElem?_eq_getElem hi), fun l' hy => ?_⟩
  injection hy with hy _
  injection hy with hy
  subst hy
  exact List.getElem_mem hi
end
end A
set_option Elab.async false
set_option linter.all false
set_option maxRecDepth 100000
set_option pp.maxSteps 300
/-! The law's procedures. -/
namespace A
open PySem PySem.Spec PyProof.Rows L2 E
variable [KF] [HandN 3]
/-- drawn, at most so deep -/
inductive Drawn : Nat → Tree → Prop
  | deed {k : Nat} {n : Str} : Drawn k (.deed n)
  | skip {k : Nat} : Drawn k .skip
  | again {k : Nat} {t : Tree} : Drawn k t → Drawn (k + 1) (.again t)
  | node {k : Nat} {w : Wd} {ts : List Tree} : ts.length ≤ 3 → (∀ t ∈ ts, Drawn k t) → Drawn (k + 1) (.node w ts)
theorem drawn_size : ∀ (k : Nat) {t : Tree} (j : Nat), Drawn k t → ∃ n, sizeT (k + 1 + j) t = some n ∧ n ≤ 3 ^ k := by
  intro k
  induction k with
  | zero =>
    intro t j h
    cases h with
    | deed => exact ⟨1, by rw [show 0 + 1 + j = j + 1 by omega, sizeT], by decide⟩
    | skip => exact ⟨0, by rw [show 0 + 1 + j = j + 1 by omega, sizeT], by decide⟩
  | succ k ih =>
    intro t j h
    have hp : 1 ≤ 3 ^ k := Nat.one_le_pow _ _ (by decide)
    rw [show k + 1 + 1 + j = (k + 1 + j) + 1 by omega, Nat.pow_succ]
    cases h with
    | deed => exact ⟨1, by rw [sizeT], by omega⟩
    | skip => exact ⟨0, by rw [sizeT], by omega⟩
    | again h =>
      obtain ⟨n, h1, h2⟩ := ih j h
      exact ⟨n, by rw [sizeT]; exact h1, by omega⟩
    | @node _ w ts h3 h =>
      have key : ∀ ts : List Tree, (∀ t ∈ ts, Drawn k t) → ∃ n, sizeTs (k + 1 + j) ts = some n ∧ n ≤ ts.length * 3 ^ k := by
        intro ts
        induction ts with
        | nil => intro _; exact ⟨0, by rw [sizeTs], Nat.zero_le _⟩
        | cons t ts ih2 =>
          intro h
          obtain ⟨a, a1, a2⟩ := ih j (h t List.mem_cons_self)
          obtain ⟨b, b1, b2⟩ := ih2 fun t ht => h t (List.mem_cons_of_mem _ ht)
          exact ⟨a + b, by rw [sizeTs, a1, b1], by rw [List.length_cons, Nat.succ_mul]; omega⟩
      obtain ⟨n, h1, h2⟩ := key ts h
      refine ⟨n, by rw [sizeT, if_pos (by omega)]; exact h1, ?_⟩
      have : ts.length * 3 ^ k ≤ 3 * 3 ^ k := Nat.mul_le_mul_right _ h3
      omega
theorem drawn_proc {t : Tree} (h : Drawn 2 t) : isProc t = true := by
  obtain ⟨n, h1, h2⟩ := drawn_size 2 5 h
  have h1 : sizeT 8 t = some n := h1
  have h2 : n ≤ 9 := h2
  unfold isProc
  rw [h1]
  exact decide_eq_true (by omega)
section
variable {P : Program} {w : World} {K : PySem.W.Frag} [KonK K] {mg : Str → Option Value} {base : Heap}
abbrev sp_proc (n : Nat) : Sp := spH 1 (fun ds => ∃ k : Nat, ds = [.int (k : Nat)] ∧ k ≤ n) fun ds d => ∀ k : Nat, ds = [.int (k : Nat)] → ∃ t, Tr d t ∧ Drawn k t
abbrev N_proc : List Str := ["hand", "deep", "kind", "many", "part"]
theorem S_proc : FnScope N_proc ["hand", "deep"] (sc 75) := ⟨rfl, rfl, rfl, by decide +kernel, rfl, by decide +kernel, by decide +kernel⟩
theorem ok_proc1 {f : Addr} {fd : FuncData} (F : Fun K "_law_procedure" "_law_procedure" (top 75) f fd) (T : Blt mg) (d1 : Cl P w K mg base 2 "_law_draw" sp_draw) (d2 : Cl P w K mg base 3 "_law_any" sp_any) (n : Nat) (c : n = 0 ∨ ∃ n', n = n' + 1 ∧ Cl P w K mg base (n' + 4) "_law_procedure" (sp_proc n')) :
    FnG P w K mg base (n + 4) f fd ["hand", "deep"] (sp_proc n) := by
  refine ok_H (m := 3) F S_proc rfl rfl fun cdv A outer s H E ds hr hl hp => ?_
  obtain ⟨k, rfl, hkn⟩ := hp
  have fin : ∀ r, (∃ t, Tr r t ∧ Drawn k t) → ∀ k' : Nat, [D.int (k : Nat)] = [D.int (k' : Nat)] → ∃ t, Tr r t ∧ Drawn k' t := fun r h k' e => by
    injection e with e _
    injection e with e
    obtain rfl : k = k' := by omega
    exact h
  -- behind the draw of the kind
  have rest : ∀ (i : Nat), i < 7 → (k = 0 → i < 2) → ∀ {O : Out}, O.rt = (fun r => ∀ k' : Nat, [D.int (k : Nat)] = [D.int (k' : Nat)] → ∃ t, Tr r t ∧ Drawn k' t) → Sr [.h, .d (.int (k : Nat)), .d (.int (i : Nat)), .u, .u] [] (wSs (cx P w K mg base N_proc "_law_procedure" (top 75) f cdv A outer s H E) ((defBody (top 75)).drop 1)) O := fun i hi hk0 {O} hO => by
    have noskip : ∀ {O : Out}, O.rt = (fun r => ∀ k' : Nat, [D.int (k : Nat)] = [D.int (k' : Nat)] → ∃ t, Tr r t ∧ Drawn k' t) → Sr [.h, .d (.int (k : Nat)), .d (.int (i : Nat)), .u, .u] [] (wSs (cx P w K mg base N_proc "_law_procedure" (top 75) f cdv A outer s H E) ((defBody (top 75)).drop 2)) O := fun {O} hO => by
      refine jss_cons (js_if (jt_cmp (j_var 2 rfl rfl (j_int ⟨_, .lt _ _, fun e => ?_, fun e => jss_nil ?_⟩))))
      · refine jss_one (js_ret (j_tup ?_))
        refine j_con ?_
        refine j_str ?_
        refine j_con ?_
        refine j_callH 0 d2 hr (by omega) rfl rfl ?_
        refine j_con ?_
        refine j_lst ?_
        refine j_con ?_
        refine j_str ?_
        refine j_con ?_
        refine j_str ?_
        refine j_con ?_
        refine j_str ?_
        refine j_con ?_
        refine j_str ?_
        refine j_nil ⟨Nat.le_of_ble_eq_true rfl, ?_⟩
        refine j_nil ⟨rfl, ⟨_, rfl, Nat.le_of_ble_eq_true rfl, Nat.lt_of_lt_of_le (show 4 < 5 by decide) (by decide)⟩, fun d hd => ?_⟩
        have hm := hd _ rfl
        refine j_nil ⟨Nat.le_of_ble_eq_true rfl, ?_⟩
        rw [hO]
        have hd4 : d = .str "a" ∨ d = .str "b" ∨ d = .str "c" ∨ d = .str "d" := by simpa using hm
        rcases hd4 with rfl | rfl | rfl | rfl
        · exact fin _ ⟨_, .deed (.inl rfl), .deed⟩
        · exact fin _ ⟨_, .deed (.inr (.inl rfl)), .deed⟩
        · exact fin _ ⟨_, .deed (.inr (.inr (.inl rfl))), .deed⟩
        · exact fin _ ⟨_, .deed (.inr (.inr (.inr (.inl rfl)))), .deed⟩
      have e := of_decide_eq_false e
      have hk1 : k ≠ 0 := fun z => e (by have := hk0 z; omega)
      obtain ⟨k0, rfl⟩ : ∃ k0, k = k0 + 1 := ⟨k - 1, by omega⟩
      obtain ⟨n', rfl, cs⟩ := c.resolve_left (by omega)
      have hsub : (((k0 + 1 : Nat) : Int) - 1) = ((k0 : Nat) : Int) := by omega
      refine jss_cons (js_if (jt_cmp (j_var 2 rfl rfl (j_int ⟨_, .eq _ _, fun e2 => ?_, fun e2 => jss_nil ?_⟩))))
      · refine jss_one (js_ret (j_tup (j_cons (j_str (j_cons (j_callH 0 cs hr (by omega) rfl rfl (j_cons (j_sub (j_var 1 rfl rfl (j_int ⟨_, _, rfl, rfl, ?_⟩))))))))))
        rw [hsub]
        refine j_nil ⟨rfl, ⟨k0, rfl, by omega⟩, fun d hd => ?_⟩
        obtain ⟨t, h1, h2⟩ := hd k0 rfl
        refine j_nil ⟨Nat.le_of_ble_eq_true rfl, ?_⟩
        rw [hO]
        exact fin _ ⟨_, .again h1, .again h2⟩
      refine jss_cons (js_set 3 S_proc.nd rfl (j_callH 0 d2 hr (by omega) rfl rfl ?_))
      refine j_con ?_
      refine j_lst ?_
      refine j_con ?_
      refine j_int ?_
      refine j_con ?_
      refine j_int ?_
      refine j_con ?_
      refine j_int ?_
      refine j_con ?_
      refine j_int ?_
      refine j_nil ⟨Nat.le_of_ble_eq_true rfl, ?_⟩
      refine j_nil ⟨rfl, ⟨_, rfl, Nat.le_of_ble_eq_true rfl, Nat.lt_of_lt_of_le (show 4 < 5 by decide) (by decide)⟩, fun d hd => ?_⟩
      have hm := hd _ rfl
      obtain ⟨m, rfl, hm2, hm3⟩ : ∃ m : Nat, d = natD m ∧ 2 ≤ m ∧ m ≤ 3 := by
        have hm : d = .int 2 ∨ d = .int 3 := by simpa using hm
        rcases hm with rfl | rfl
        · exact ⟨2, rfl, by decide, by decide⟩
        · exact ⟨3, rfl, by decide, by decide⟩
      refine jss_one (js_ret (j_tup ?_))
      refine j_con ?_
      refine j_callH 0 d2 hr (by omega) rfl rfl ?_
      refine j_con ?_
      refine j_lst ?_
      refine j_con ?_
      refine j_str ?_
      refine j_con ?_
      refine j_str ?_
      refine j_con ?_
      refine j_str ?_
      refine j_nil ⟨Nat.le_of_ble_eq_true rfl, ?_⟩
      refine j_nil ⟨rfl, ⟨_, rfl, Nat.le_of_ble_eq_true rfl, Nat.lt_of_lt_of_le (show 3 < 5 by decide) (by decide)⟩, fun d hd => ?_⟩
      have hw := hd _ rfl
      obtain ⟨v, rfl⟩ : ∃ v : Wd, d = .str v.s := by
        have hw : d = .str "row" ∨ d = .str "pick" ∨ d = .str "sides" := by simpa using hw
        rcases hw with rfl | rfl | rfl
        · exact ⟨.row, rfl⟩
        · exact ⟨.pick, rfl⟩
        · exact ⟨.sides, rfl⟩
      refine j_con ?_
      refine j_tupleL T.tup (El.er' (jl_lc [("part", 4)] rfl S_proc.nd (blkOk_by (N := N_proc) (sc := sc 75) (by decide +kernel)) (own1 rfl) (ji_range T.range (j_var 3 rfl rfl ⟨m, rfl, by omega, ?_⟩))))
      have hnl : (numbers m).length = m := by unfold numbers; simp
      refine ⟨by omega, fun a acc => ∃ ts, TrL acc ts ∧ ts.length = a ∧ ∀ t ∈ ts, Drawn k0 t, ⟨[], .nil, rfl, fun t ht => (by cases ht)⟩, fun a z acc hz hacc => ?_, fun acc hacc => ?_⟩
      · obtain ⟨ts, a1, a2, a3⟩ := hacc
        refine ⟨[4], _, fun s H C cl fp => jg_name 4 S_proc.nd rfl, fun _ h => h, fun s H C cl fp => jts_nil ⟨fun _ s H C cl fp => ?_, fun z => (by cases z)⟩⟩
        refine j_callH 0 cs hr (by omega) rfl rfl (j_cons (j_sub (j_var 1 rfl rfl (j_int ⟨_, _, rfl, rfl, ?_⟩))))
        rw [hsub]
        refine j_nil ⟨rfl, ⟨k0, rfl, by omega⟩, fun d hd => ?_⟩
        obtain ⟨t, h1, h2⟩ := hd k0 rfl
        refine ⟨ts ++ [t], a1.app (.cons h1 .nil), by rw [List.length_append, a2]; rfl, fun x hx => ?_⟩
        rcases List.mem_append.mp hx with hx | hx
        · exact a3 x hx
        · obtain rfl : x = t := by simpa using hx
          exact h2
      · obtain ⟨ts, a1, a2, a3⟩ := hacc
        rw [hnl] at a2
        refine ⟨acc, rfl, j_nil ⟨Nat.le_of_ble_eq_true rfl, ?_⟩⟩
        rw [hO]
        exact fin _ ⟨_, .node a1 (by omega), .node (by omega) a3⟩
    refine jss_cons (js_if (jt_w (jw_and (jt_cmp (j_var 2 rfl rfl (j_int ⟨_, .eq _ _, fun e => ?_, fun e => ⟨fun z => (by cases z), fun _ => jss_nil (noskip hO)⟩⟩))))))
    refine jw_and1 (jt_cmp (j_callH 0 d1 hr (by omega) rfl rfl (j_cons (j_int (j_nil ⟨rfl, ⟨3, rfl, by decide, by decide⟩, fun d hd => ?_⟩)))))
    obtain ⟨i', rfl, _⟩ := hd 3 rfl
    refine j_int ⟨_, .eq _ _, fun e2 => ?_, fun e2 => jss_nil (noskip hO)⟩
    refine jss_one (js_ret (j_tup (j_cons (j_str (j_nil ⟨Nat.le_of_ble_eq_true rfl, ?_⟩)))))
    rw [hO]
    exact fin _ ⟨_, .skip, .skip⟩
  refine jss_cons (js_set 2 S_proc.nd rfl (j_if (jt_cmp (j_var 1 rfl rfl (j_int ⟨_, .gt _ _, fun e => ?_, fun e => ?_⟩)))))
  · have e := of_decide_eq_true e
    refine j_callH 0 d1 hr (by omega) rfl rfl (j_cons (j_int (j_nil ⟨rfl, ⟨7, rfl, by decide, by decide⟩, fun d hd => ?_⟩)))
    obtain ⟨i, rfl, hi⟩ := hd 7 rfl
    exact rest i hi (fun z => by omega) rfl
  · have e := of_decide_eq_false e
    refine j_callH 0 d1 hr (by omega) rfl rfl (j_cons (j_int (j_nil ⟨rfl, ⟨2, rfl, by decide, by decide⟩, fun d hd => ?_⟩)))
    obtain ⟨i, rfl, hi⟩ := hd 2 rfl
    exact rest i (by omega) (fun _ => hi) rfl
theorem ok_proc {f : Addr} {fd : FuncData} (F : Df K mg "_law_procedure" (top 75) ["hand", "deep"] f fd) (T : Blt mg) (d1 : Cl P w K mg base 2 "_law_draw" sp_draw) (d2 : Cl P w K mg base 3 "_law_any" sp_any) : ∀ n : Nat, FnG P w K mg base (n + 4) f fd ["hand", "deep"] (sp_proc n)
  | 0 => ok_proc1 F.fn T d1 d2 0 (.inl rfl)
  | n + 1 => ok_proc1 F.fn T d1 d2 (n + 1) (.inr ⟨n, rfl, F.cl (ok_proc F T d1 d2 n)⟩)
end
end A
set_option Elab.async false
set_option linter.all false
set_option maxRecDepth 100000
set_option pp.maxSteps 300
/-! The law's own parts, paths. -/
namespace A
open PySem PySem.Spec PyProof.Rows L2 E
variable [KF] [HandN 3]
section
variable {P : Program} {w : World} {K : PySem.W.Frag} [KonK K] {mg : Str → Option Value} {base : Heap}
theorem S_lkids : FnScope ["procedure"] ["procedure"] (sc 76) := ⟨rfl, rfl, rfl, by decide +kernel, rfl, by decide +kernel, by decide +kernel⟩
theorem ok_lkids {f : Addr} {fd : FuncData} (F : Fun K "_law_kids" "_law_kids" (top 76) f fd) : FnG P w K mg base 1 f fd ["procedure"] sp_parts := by
  refine ok_D (m := 0) F S_lkids rfl rfl fun cdv A outer s H E ds hr hl hp => ?_
  obtain ⟨d, t, rfl, ht⟩ := hp
  have fin : ∀ r, (∃ es, r = D.tup es ∧ TrL es t.kids) → ∀ d' t', [d] = [d'] → Tr d' t' → ∃ es, r = D.tup es ∧ TrL es t'.kids := fun r h d' t' e h' => by
    cases e
    rw [h'.uniq ht]
    exact h
  obtain ⟨is, e0, e1⟩ := ht.word
  refine jss_cons (js_if (jt_cmp (j_ixO (j_var 0 rfl rfl (j_int ⟨is, _, _, e0, rfl, e1, j_str ⟨_, .eqS _ _, fun e => ?_, fun e => jss_nil ?_⟩⟩)))))
  · have e := of_decide_eq_true e
    cases ht with
    | again h => exact jss_one (js_ret (j_tup (j_cons (j_ixT (j_var 0 rfl rfl (j_int ⟨_, _, _, rfl, rfl, rfl, j_nil ⟨Nat.le_of_ble_eq_true rfl, fin _ ⟨_, rfl, .cons h .nil⟩⟩⟩))))))
    | deed _ => exact absurd (show ("do" : Str) = "again" from e) (by decide +kernel)
    | skip => exact absurd (show ("skip" : Str) = "again" from e) (by decide +kernel)
    | kon _ => exact absurd (show ("skip" : Str) = "again" from e) (by decide +kernel)
    | @node w _ _ _ _ => exact absurd e w.ne.2.2
  · have e := of_decide_eq_false e
    refine jss_one (js_ret (j_if (jt_inD (j_ixO (j_var 0 rfl rfl (j_int ⟨is, _, _, e0, rfl, e1, ?_⟩))))))
    refine j_tup ?_
    refine j_con ?_
    refine j_str ?_
    refine j_con ?_
    refine j_str ?_
    refine j_con ?_
    refine j_str ?_
    refine j_nil ⟨Nat.le_of_ble_eq_true rfl, _, rfl, rfl, rfl, fun e2 => ?_, fun e2 => ?_⟩
    · have e2 : decide (t.word ∈ (["row", "pick", "sides"] : List Str)) = true := by rw [← inD_strs]; exact e2
      cases ht with
      | @node w es ts l _ => exact j_ixT (j_var 0 rfl rfl (j_int ⟨_, _, _, rfl, rfl, rfl, fin _ ⟨_, rfl, l⟩⟩))
      | deed _ => exact absurd (show decide (("do" : Str) ∈ (["row", "pick", "sides"] : List Str)) = true from e2) (by decide +kernel)
      | skip => exact absurd (show decide (("skip" : Str) ∈ (["row", "pick", "sides"] : List Str)) = true from e2) (by decide +kernel)
      | kon _ => exact absurd (show decide (("skip" : Str) ∈ (["row", "pick", "sides"] : List Str)) = true from e2) (by decide +kernel)
      | again _ => exact absurd rfl e
    · have e2 : decide (t.word ∈ (["row", "pick", "sides"] : List Str)) = false := by rw [← inD_strs]; exact e2
      refine j_tup (j_nil ⟨Nat.le_of_ble_eq_true rfl, fin _ ⟨_, rfl, ?_⟩⟩)
      cases ht with
      | @node w es ts l _ => rw [show decide (Tree.word (.node w ts) ∈ (["row", "pick", "sides"] : List Str)) = true from w.mem] at e2; cases e2
      | deed _ => exact .nil
      | skip => exact .nil
      | kon _ => exact .nil
      | again _ => exact absurd rfl e
/-! _law_made -/
abbrev sp_made : Sp := spD 2 (fun ds => ∃ (es : List D) (ts : List Tree), TrL es ts ∧ es.length ≤ 1000 ∧ ((ds = [.str "again", .lst es] ∧ ts.length = 1) ∨ ∃ v : Wd, ds = [.str v.s, .lst es] ∧ 2 ≤ ts.length))
  fun ds r => (∀ (es : List D) (t : Tree), ds = [.str "again", .lst es] → TrL es [t] → Tr r (.again t)) ∧ ∀ (v : Wd) (es : List D) (ts : List Tree), ds = [.str v.s, .lst es] → TrL es ts → 2 ≤ ts.length → Tr r (.node v ts)
theorem S_made : FnScope ["word", "parts"] ["word", "parts"] (sc 77) := ⟨rfl, rfl, rfl, by decide +kernel, rfl, by decide +kernel, by decide +kernel⟩
theorem ok_made {f : Addr} {fd : FuncData} (F : Fun K "_law_made" "_law_made" (top 77) f fd) (T : Blt mg) : FnG P w K mg base 1 f fd ["word", "parts"] sp_made := by
  refine ok_D (m := 0) F S_made rfl rfl fun cdv A outer s H E ds hr hl hp => ?_
  obtain ⟨es, ts, htl, hk, ⟨rfl, h1⟩ | ⟨v, rfl, h2⟩⟩ := hp
  · obtain ⟨t, rfl⟩ := List.length_eq_one_iff.mp h1
    cases htl with
    | cons ht hn =>
      cases hn
      refine jss_one (js_ret (j_if (jt_cmp (j_var 0 rfl rfl (j_str ⟨_, .eqS _ _, fun _ => ?_, fun e => absurd rfl (of_decide_eq_false e)⟩)))))
      refine j_tup (j_cons (j_var 0 rfl rfl (j_cons (j_ixL (j_var 1 rfl rfl (j_int ⟨_, _, _, rfl, rfl, rfl, j_nil ⟨Nat.le_of_ble_eq_true rfl, fun es' t' e h' => ?_, fun v es' ts' e _ _ => ?_⟩⟩))))))
      · injection e with _ e
        injection e with e _
        injection e with e
        subst e
        cases h' with
        | cons h' _ => exact .again (by rw [h'.uniq ht]; exact ht)
      · injection e with e _
        injection e with e
        exact absurd e.symm v.ne.2.2
  · refine jss_one (js_ret (j_if (jt_cmp (j_var 0 rfl rfl (j_str ⟨_, .eqS _ _, fun e => absurd (of_decide_eq_true e) v.ne.2.2, fun _ => ?_⟩)))))
    refine j_tup (j_cons (j_var 0 rfl rfl (j_cons (j_tupleL T.tup (j_var 1 rfl rfl ⟨_, rfl, j_nil ⟨Nat.le_of_ble_eq_true rfl, fun es' t' e h' => ?_, fun v' es' ts' e h' h2' => ?_⟩⟩)))))
    · injection e with e _
      injection e with e
      exact absurd e v.ne.2.2
    · injection e with e1 e
      injection e with e _
      injection e with e
      injection e1 with e1
      subst e
      rw [← Wd.inj e1]
      exact .node h' h2'
/-! _law_paths -/
theorem toI_inv (p : List Nat) : (p.map fun i : Nat => (i : Int)).map Int.toNat = p := by
  rw [List.map_map]
  conv => rhs; rw [← List.map_id p]
  exact List.map_congr_left fun i _ => rfl
theorem perm_paths {l : List (List Int)} {ps : List (List Nat)} (h : l.Perm (ps.map fun p => p.map fun i : Nat => (i : Int))) : ∃ qs : List (List Nat), l = qs.map (fun p => p.map fun i : Nat => (i : Int)) ∧ qs.Perm ps := by
  refine ⟨l.map fun q => q.map Int.toNat, ?_, ?_⟩
  · rw [List.map_map]
    conv => lhs; rw [← List.map_id l]
    refine List.map_congr_left fun q hq => ?_
    obtain ⟨p, _, rfl⟩ := List.mem_map.mp (h.mem_iff.mp hq)
    show _ = ((p.map fun i : Nat => (i : Int)).map Int.toNat).map fun i : Nat => (i : Int)
    rw [toI_inv]
    rfl
  · have h2 := h.map fun q => q.map Int.toNat
    rw [List.map_map] at h2
    have e : ps.map ((fun q => q.map Int.toNat) ∘ fun p => p.map fun i : Nat => (i : Int)) = ps := by
      conv => rhs; rw [← List.map_id ps]
      exact List.map_congr_left fun p _ => toI_inv p
    rw [e] at h2
    exact h2
abbrev sp_lpaths (n : Nat) : Sp := spD 1 (fun ds => ∃ d t, ds = [d] ∧ Tr d t ∧ t.depth ≤ n ∧ t.depth ≤ 1000 ∧ (pathsT t).length ≤ 1000) fun ds r => ∀ d t, ds = [d] → Tr d t → ∃ ps : List (List Nat), r = .lst (ps.map pathD) ∧ ps.Perm (pathsT t)
abbrev N_lpaths : List Str := ["procedure", "found", "at", "part", "path"]
theorem S_lpaths : FnScope N_lpaths ["procedure"] (sc 78) := ⟨rfl, rfl, rfl, by decide +kernel, rfl, by decide +kernel, by decide +kernel⟩
theorem ok_lpaths1 {f : Addr} {fd : FuncData} (F : Fun K "_law_paths" "_law_paths" (top 78) f fd) (T : Blt mg) (cp : Cl P w K mg base 1 "_law_kids" sp_parts) (n : Nat) (c : n = 0 ∨ ∃ n', n = n' + 1 ∧ Cl P w K mg base (n' + 2) "_law_paths" (sp_lpaths n')) : FnG P w K mg base (n + 2) f fd ["procedure"] (sp_lpaths n) := by
  refine ok_D (m := 4) F S_lpaths rfl rfl fun cdv A outer s H E ds hr hl hp => ?_
  obtain ⟨d, t, rfl, ht, hdp, hdk, hlen⟩ := hp
  have fin : ∀ r, (∃ ps : List (List Nat), r = D.lst (ps.map pathD) ∧ ps.Perm (pathsT t)) → ∀ d' t', [d] = [d'] → Tr d' t' → ∃ ps : List (List Nat), r = .lst (ps.map pathD) ∧ ps.Perm (pathsT t') := fun r h d' t' e h' => by
    cases e
    rw [h'.uniq ht]
    exact h
  rw [pathsT_kids, List.length_cons] at hlen
  have hux : (cx P w K mg base N_lpaths "_law_paths" (top 78) f cdv A outer s H E).A.units + 64 < cLine := hu_of hr
  have happ : ∀ (k : Nat) (a b : List Tree), pathsFrom k (a ++ b) = pathsFrom k a ++ pathsFrom (k + a.length) b := fun k a b => by
    induction a generalizing k with
    | nil => rw [pathsFrom]; rfl
    | cons u a ih => rw [List.cons_append, pathsFrom, pathsFrom, ih, List.append_assoc, List.length_cons, show k + 1 + a.length = k + (a.length + 1) by omega]
  have hpre : ∀ i, (pathsFrom 0 (t.kids.take i)).length ≤ (pathsFrom 0 t.kids).length := fun i => by
    have h := happ 0 (t.kids.take i) (t.kids.drop i)
    rw [List.take_append_drop] at h
    rw [h, List.length_append]; omega
  refine jss_cons (js_setL 1 S_lpaths.nd rfl (jl_lst (j_cons (j_tup (j_nil ⟨Nat.zero_le _, j_nil ⟨Nat.le_of_ble_eq_true rfl, ?_⟩⟩)))))
  refine jss_cons (js_for PassesOwn.never rfl (ji_enumT T.enum (j_call cp hr (by omega) (j_cons (j_var 0 rfl rfl (j_nil ⟨rfl, ⟨d, t, rfl, ht⟩, fun r hd => ?_⟩))))))
  obtain ⟨es, rfl, hes⟩ := hd d t rfl ht
  have hel := hes.len
  refine ⟨es, rfl, ?_⟩
  refine ⟨fun i sl ms => ∃ t2 t3 ps, sl = [.d d, .m 0, t2, t3, .u] ∧ ms = [.l (([] :: ps).map pathD)] ∧ ps.Perm (pathsFrom 0 (t.kids.take i)), ⟨.u, .u, [], rfl, rfl, by rw [List.take_zero, pathsFrom]⟩, ?_, ?_⟩
  · rintro i x sl1 ms1 hx ⟨t2, t3, ps, rfl, rfl, hps⟩
    obtain ⟨y, hy, rfl⟩ := enumD_get hx
    obtain ⟨u, hu, hyu⟩ := hes.getD i hy
    have hud := kid_depth (List.mem_of_getElem? hu)
    obtain ⟨n', rfl, cs⟩ := c.resolve_left (by omega)
    have hsp := pathsFrom_split t.kids 0 i hu
    have hli := hpre (i + 1)
    rw [hsp, List.length_append, List.length_map] at hli
    have hpl := hps.length_eq
    refine ⟨_, _, jg_tup rfl (jgs_cons (jg_name 2 S_lpaths.nd rfl) (jgs_cons (jg_name 3 S_lpaths.nd rfl) jgs_nil)), ?_⟩
    refine jss_one (js_extend 1 rfl rfl rfl (El.er' (jl_lcF [("path", 4)] rfl S_lpaths.nd (blkOk_by (N := N_lpaths) (sc := sc 78) (by decide +kernel)) (own1 rfl) (ji_lst (j_call cs hr (by omega) (j_cons (j_var 3 rfl rfl (j_nil ⟨rfl, ⟨y, u, rfl, hyu, by omega, by omega, by omega⟩, fun r hd => ?_⟩))))))))
    obtain ⟨qs, rfl, hqs⟩ := hd y u rfl hyu
    have hql := hqs.length_eq
    refine ⟨_, rfl, by rw [List.length_map]; omega, fun _ => true, fun z => .tup (D.int (i : Nat) :: (match z with | .tup l => l | _ => [])), fun z acc hz => ?_, ?_⟩
    · obtain ⟨p, hp, rfl⟩ := List.mem_map.mp hz
      have hpl := path_len (hqs.mem_iff.mp hp)
      refine ⟨[4], _, fun s H C cl fp => jg_name 4 S_lpaths.nd rfl, fun _ h => h, fun s H C cl fp => jts_nil ⟨rfl, fun _ s H C cl fp => ?_⟩⟩
      refine j_cat (j_tup (j_cons (j_var 2 rfl rfl (j_nil ⟨Nat.le_of_ble_eq_true rfl, j_var 4 rfl rfl ⟨_, _, rfl, rfl, ?_, rfl⟩⟩))))
      rw [List.length_map]
      show 1 + p.length ≤ 100000
      omega
    · rw [filter_all, List.map_map]
      refine ⟨_, rfl, ?_, _, _, ps ++ qs.map ((0 + i) :: ·), rfl, ?_, ?_⟩
      · rw [List.length_map, List.length_map, List.length_cons]; omega
      · show [Ob.l (([] :: ps).map pathD ++ qs.map _)] = [Ob.l (([] :: (ps ++ qs.map ((0 + i) :: ·))).map pathD)]
        rw [List.map_cons, List.map_cons, List.map_append, List.map_map, List.cons_append, Nat.zero_add]
        rfl
      · rw [hsp]
        exact hps.append (hqs.map _)
  · rintro sl1 ms1 ⟨t2, t3, ps, rfl, rfl, hps⟩
    rw [enumFrom_len, hel, List.take_length] at hps
    refine jss_one (js_ret (j_sortedTM 1 (ls := ([] :: ps).map fun p => p.map fun i : Nat => (i : Int)) hux rfl rfl (k := 0) ?_ T.sorted (.inr ⟨_, rfl⟩) fun l' h1 h2 => fin _ ?_))
    · rw [List.map_map]
      show some _ = some _
      congr 2
      exact List.map_congr_left fun p _ => pathD_ints p
    · obtain ⟨qs, rfl, hqs⟩ := perm_paths h1
      refine ⟨qs, ?_, ?_⟩
      · rw [List.map_map]
        congr 1
        exact List.map_congr_left fun p _ => (pathD_ints p).symm
      · rw [pathsT_kids]
        exact hqs.trans (hps.cons [])
theorem ok_lpaths {f : Addr} {fd : FuncData} (F : Df K mg "_law_paths" (top 78) ["procedure"] f fd) (T : Blt mg) (cp : Cl P w K mg base 1 "_law_kids" sp_parts) : ∀ n : Nat, FnG P w K mg base (n + 2) f fd ["procedure"] (sp_lpaths n)
  | 0 => ok_lpaths1 F.fn T cp 0 (.inl rfl)
  | n + 1 => ok_lpaths1 F.fn T cp (n + 1) (.inr ⟨n, rfl, F.cl (ok_lpaths F T cp n)⟩)
/-! _law_at -/
abbrev sp_lat : Sp := spD 2 (fun ds => ∃ d t p u, ds = [d, pathD p] ∧ Tr d t ∧ atT t p = some u) fun ds r => ∀ d t p u, ds = [d, pathD p] → Tr d t → atT t p = some u → Tr r u
abbrev N_lat : List Str := ["procedure", "path", "at"]
theorem S_lat : FnScope N_lat ["procedure", "path"] (sc 79) := ⟨rfl, rfl, rfl, by decide +kernel, rfl, by decide +kernel, by decide +kernel⟩
theorem ok_lat {f : Addr} {fd : FuncData} (F : Fun K "_law_at" "_law_at" (top 79) f fd) (cp : Cl P w K mg base 1 "_law_kids" sp_parts) : FnG P w K mg base 2 f fd ["procedure", "path"] sp_lat := by
  refine ok_D (m := 1) F S_lat rfl rfl fun cdv A outer s H E ds hr hl hp => ?_
  obtain ⟨d, t, p, u, rfl, ht, hu⟩ := hp
  have fin : ∀ r, Tr r u → ∀ d' t' p' u', [d, pathD p] = [d', pathD p'] → Tr d' t' → atT t' p' = some u' → Tr r u' := fun r h d' t' p' u' e h' hu' => by
    injection e with e1 e
    injection e with e2 _
    subst e1
    rw [h'.uniq ht, ← path_inj e2, hu] at hu'
    cases hu'
    exact h
  refine jss_cons (js_for PassesOwn.never rfl (ji_tup (j_var 1 rfl rfl ⟨p.map natD, rfl, ?_⟩)))
  refine ⟨fun i sl ms => ∃ e v t2, sl = [.d e, .d (pathD p), t2] ∧ ms = [] ∧ Tr e v ∧ atT v (p.drop i) = some u, ⟨d, t, .u, rfl, rfl, ht, hu⟩, ?_, ?_⟩
  · rintro i x sl1 ms1 hx ⟨e, v, t2, rfl, rfl, hv, hat⟩
    rw [List.getElem?_map] at hx
    cases hpi : p[i]? with
    | none => rw [hpi] at hx; cases hx
    | some z =>
      rw [hpi] at hx
      obtain rfl : natD z = x := Option.some.inj hx
      have hpl := (List.getElem?_eq_some_iff.mp hpi).1
      have hdr : p.drop i = z :: p.drop (i + 1) := by
        rw [List.drop_eq_getElem_cons hpl]
        congr 1
        rw [List.getElem?_eq_getElem hpl] at hpi
        exact Option.some.inj hpi
      rw [hdr, atT] at hat
      cases hk : v.kids[z]? with
      | none => rw [hk] at hat; cases hat
      | some v2 =>
        rw [hk] at hat
        refine ⟨_, _, jg_name 2 S_lat.nd rfl, ?_⟩
        refine jss_one (js_set 0 S_lat.nd rfl (j_ixT (j_call cp hr (by decide) (j_cons (j_var 0 rfl rfl (j_nil ⟨rfl, ⟨e, v, rfl, hv⟩, fun r hd => ?_⟩))))))
        obtain ⟨es, rfl, hes⟩ := hd e v rfl hv
        obtain ⟨y, hy, hyv⟩ := hes.get z hk
        exact j_var 2 rfl rfl ⟨es, _, y, rfl, rfl, atI_nat hy, y, v2, _, rfl, rfl, hyv, hat⟩
  · rintro sl1 ms1 ⟨e, v, t2, rfl, rfl, hv, hat⟩
    rw [List.length_map, List.drop_length, atT] at hat
    cases hat
    exact jss_one (js_ret (j_var 0 rfl rfl (fin _ hv)))
/-! _law_with -/
abbrev sp_with (n : Nat) : Sp := spD 3 (fun ds => ∃ d t p e u, ds = [d, pathD p, e] ∧ Tr d t ∧ Tr e u ∧ p.length ≤ n ∧ (atT t p).isSome ∧ p.length ≤ 1000 ∧ Wide t) fun ds r => ∀ d t p e u, ds = [d, pathD p, e] → Tr d t → Tr e u → Tr r (putT t p u)
abbrev N_with : List Str := ["procedure", "path", "part", "kids"]
theorem S_with : FnScope N_with ["procedure", "path", "part"] (sc 80) := ⟨rfl, rfl, rfl, by decide +kernel, rfl, by decide +kernel, by decide +kernel⟩
theorem set_is {α : Type} {l : List α} {i : Nat} (h : i < l.length) (x : α) : l.set i x = l.take i ++ [x] ++ l.drop (i + 1) := by
  rw [List.set_eq_take_append_cons_drop, if_pos h, List.append_assoc]
  rfl
theorem TrL.set {es : List D} {ts : List Tree} {x : D} {v : Tree} (h : TrL es ts) (i : Nat) (hx : Tr x v) (hi : i < es.length) : TrL (es.set i x) (ts.take i ++ [v] ++ ts.drop (i + 1)) := by
  rw [set_is hi]
  exact ((h.take i).app (.cons hx .nil)).app (h.drop (i + 1))
theorem ok_with1 {f : Addr} {fd : FuncData} (F : Fun K "_law_with" "_law_with" (top 80) f fd) (T : Blt mg) (cp : Cl P w K mg base 1 "_law_kids" sp_parts) (cm : Cl P w K mg base 1 "_law_made" sp_made) (n : Nat) (c : n = 0 ∨ ∃ n', n = n' + 1 ∧ Cl P w K mg base (n' + 2) "_law_with" (sp_with n')) : FnG P w K mg base (n + 2) f fd ["procedure", "path", "part"] (sp_with n) := by
  refine ok_D (m := 1) F S_with rfl rfl fun cdv A outer s H E ds hr hl hp => ?_
  obtain ⟨d, t, p, e, u, rfl, ht, hu, hpn, hat, hpk, htk⟩ := hp
  have fin : ∀ r, Tr r (putT t p u) → ∀ d' t' p' e' u', [d, pathD p, e] = [d', pathD p', e'] → Tr d' t' → Tr e' u' → Tr r (putT t' p' u') := fun r h d' t' p' e' u' q h' hu' => by
    injection q with q1 q
    injection q with q2 q
    injection q with q3 _
    subst q1 q3
    rw [← path_inj q2, h'.uniq ht, hu'.uniq hu]
    exact h
  refine SrB.start (sb_cons (js_if (jt_cmp (j_lenT T.len (j_var 1 rfl rfl ⟨_, rfl, j_int ⟨_, .eq _ _, fun e1 => ?_, fun e1 => jss_nil ?_⟩⟩)))))
  · have e1 := of_decide_eq_true e1
    rw [List.length_map] at e1
    obtain rfl : p = [] := List.eq_nil_of_length_eq_zero (by omega)
    exact jss_one (js_ret (j_var 2 rfl rfl (fin _ hu)))
  have e1 := of_decide_eq_false e1
  rw [List.length_map] at e1
  obtain ⟨i, p, rfl⟩ : ∃ i q, p = i :: q := by
    cases p with
    | nil => exact absurd rfl e1
    | cons i q => exact ⟨i, q, rfl⟩
  rw [atT] at hat
  obtain ⟨v, hv⟩ : ∃ v, t.kids[i]? = some v := by
    cases h : t.kids[i]? with
    | none => rw [h] at hat; cases hat
    | some v => exact ⟨v, rfl⟩
  rw [hv] at hat
  have hit := (List.getElem?_eq_some_iff.mp hv).1
  rw [List.length_cons] at hpn hpk
  obtain ⟨n', rfl, cs⟩ := c.resolve_left (by omega)
  refine sb_cons (js_setL 3 S_with.nd rfl (jl_list T.list (j_call cp hr (by omega) (j_cons (j_var 0 rfl rfl (j_nil ⟨rfl, ⟨d, t, rfl, ht⟩, fun r hd => ?_⟩))))))
  obtain ⟨es, rfl, hes⟩ := hd d t rfl ht
  have hel := hes.len
  refine ⟨es, .inl rfl, ?_⟩
  obtain ⟨x, hx, hxv⟩ := hes.get i hv
  refine sb_cons (js_setM 3 (k := 0) rfl rfl (j_call cs hr (by omega) (j_cons (j_ixM 3 (k := 0) (ds := es) rfl rfl rfl (j_ixT (j_var 1 rfl rfl (j_int ⟨_, _, .int (i : Nat), rfl, rfl, atI_0, _, x, rfl, atI_nat hx, ?_⟩)))))))
  refine j_cons (j_slT (j_var 1 rfl rfl (jo_s (j_int ⟨_, rfl, jo_n ⟨_, rfl, ?_⟩⟩))))
  rw [cut_1]
  show Ea _ _ _ fun ds => _
  refine j_cons (j_var 2 rfl rfl (j_nil ⟨rfl, ⟨x, v, p, e, u, rfl, hxv, hu, by omega, hat, by omega, htk.kid hv⟩, fun r hd => ?_⟩))
  have hr' := hd x v p e u rfl hxv hu
  refine j_ixT (j_var 1 rfl rfl (j_int ⟨_, _, .int (i : Nat), rfl, rfl, atI_0, es, _, i, rfl, rfl, ixN_nat (by omega), ?_⟩))
  show SrB _ [.l (es.set i r)] _ _
  refine SrB.freeze 3 rfl (fun j k hj => ?_) ?_
  · match j, hj with
    | 3, _ => rfl
  have hset := hes.set i hr' (by omega)
  have hput : putT t (i :: p) u = t.withKids (t.kids.take i ++ [putT v p u] ++ t.kids.drop (i + 1)) := by rw [putT, hv]
  obtain ⟨is, e0, e2⟩ := ht.word
  have hkl : t.kids.length ≤ 1000 := htk [] _ rfl
  refine SrB.thaw (jss_one (js_ret (j_call cm hr (by omega) (j_cons (j_ixO (j_var 0 rfl rfl (j_int ⟨is, _, _, e0, rfl, e2, j_cons (j_var 3 rfl rfl (j_nil ⟨rfl, ⟨_, _, hset, by rw [List.length_set]; omega, ?_⟩, fun r hd => fin _ ?_⟩))⟩)))))))
  · cases ht with
    | again h =>
      have hit : i < 1 := hit
      obtain rfl : i = 0 := by omega
      exact .inl ⟨rfl, rfl⟩
    | deed _ => cases hv
    | skip => cases hv
    | kon _ => cases hv
    | @node w es' ts l h2 =>
      have hit : i < ts.length := hit
      exact .inr ⟨w, rfl, by rw [List.length_append, List.length_append, List.length_take, List.length_drop]; show 2 ≤ min i ts.length + 1 + (ts.length - (i + 1)); omega⟩
  · rw [hput]
    cases ht with
    | again h =>
      have hit : i < 1 := hit
      obtain rfl : i = 0 := by omega
      exact hd.1 _ _ rfl hset
    | deed _ => cases hv
    | skip => cases hv
    | kon _ => cases hv
    | @node w es' ts l h2 =>
      have hit : i < ts.length := hit
      exact hd.2 _ _ _ rfl hset (by rw [List.length_append, List.length_append, List.length_take, List.length_drop]; show 2 ≤ min i ts.length + 1 + (ts.length - (i + 1)); omega)
theorem ok_with {f : Addr} {fd : FuncData} (F : Df K mg "_law_with" (top 80) ["procedure", "path", "part"] f fd) (T : Blt mg) (cp : Cl P w K mg base 1 "_law_kids" sp_parts) (cm : Cl P w K mg base 1 "_law_made" sp_made) : ∀ n : Nat, FnG P w K mg base (n + 2) f fd ["procedure", "path", "part"] (sp_with n)
  | 0 => ok_with1 F.fn T cp cm 0 (.inl rfl)
  | n + 1 => ok_with1 F.fn T cp cm (n + 1) (.inr ⟨n, rfl, F.cl (ok_with F T cp cm n)⟩)
end
end A
set_option Elab.async false
set_option linter.all false
set_option maxRecDepth 100000
/-! sum(lists, []): lists joined. -/
namespace E
open PySem PySem.Spec PyProof.Rows L2
variable [KF]
def accL (con : Nat → List Value) : Nat → List Value
  | 0 => []
  | i + 1 => accL con i ++ con i
theorem accL_len (con : Nat → List Value) {i n : Nat} (h : i ≤ n) : (accL con i).length ≤ (accL con n).length := by
  induction n with
  | zero => have : i = 0 := by omega
            subst this; exact Nat.le_refl _
  | succ n ih =>
    by_cases e : i = n + 1
    · subst e; exact Nat.le_refl _
    · have := ih (by omega)
      show _ ≤ (accL con n ++ con n).length
      rw [List.length_append]; omega
section
variable {prog : Program} {w : World} {A : Around} {R : Result → Shared → Prop} {I : Addr} {fp wr : List Addr} {n : Nat} {P : Nat → Value → Prop} {St : Nat → Heap → Prop}
theorem codeAny_sum_lists (W : Walks prog w A.in1 I fp wr n P St) (ad : Nat → Addr) (con : Nat → List Value) (hval : ∀ i v, P i v → v = .ref (ad i)) (hB : Heap) (T0 S : Addr) (hSf : S ∉ fp) (hS0 : hB.objs.size ≤ S)
    (hcon : ∀ i, i < n → ad i ∉ wr ∧ ∃ m, IsL hB (ad i) (con i).toArray m) (hsz : (accL con n).length ≤ sizeLine) (hwr : ∀ b ∈ wr, hB.objs.size ≤ b) (hwS : ∀ b ∈ wr, b < S) :
    ∀ (k i : Nat) (s : Shared) (T : Addr) (c mT : Nat), n - i = k → i ≤ n → St i s.heap → s.heap.get? S = some { cls := .type "list", dict := none, data := .seq #[.ref T] c, slots := #[] } → IsL s.heap T (accL con i).toArray mT → T ≠ S → T ∉ wr → hB.objs.size ≤ s.heap.objs.size → S < s.heap.objs.size →
    ((i = 0 ∧ T = T0) ∨ (0 < i ∧ hB.objs.size ≤ T)) → (∀ b o, b ∉ wr → b ≠ S → hB.get? b = some o → s.heap.get? b = some o) →
    (∀ h' tk T' m', (∀ b o, b ∉ wr → b ≠ S → hB.get? b = some o → h'.get? b = some o) → IsL h' T' (accL con n).toArray m' → ((n = 0 ∧ T' = T0) ∨ (0 < n ∧ hB.objs.size ≤ T')) → R (.ok (.ret (.ref T'))) { s with heap := h', toks := tk }) →
    codeAny (model prog w) A (.builtin "sum.loop" ⟨[.ref I, .ref S, rawInt 2, rawInt 0], []⟩) R s := by
  have hSw : S ∉ wr := fun h => hSf (W.sub _ h)
  intro k
  induction k with
  | zero =>
    intro i s T c mT hk hi hst hS hT hTS hTw hz hSz hor hkeep hR
    have hin : i = n := by omega
    subst hin
    refine codeAny_builtin F.entry_sum_loop ?_
    rw [Around.under_plainId F.plain_sum_loop _]
    show wpAny _ A.in1 (seqItems? (.ref S) >>= _) _ _ s
    refine wpAny_bind (wpAny_seqItems hS rfl ?_)
    show wpAny _ A.in1 (tryCatch (pyNext (.ref I)) _ >>= _) _ _ s
    refine wpAny_bind (wpAny_tryCatch (W.done s _ _ hst fun h' tk hk' => ?_))
    exact wpAny_pure (hR h' tk T mT (fun b o hbw hbS e => hk' b o hbw (hkeep b o hbw hbS e)) (hk' T _ hTw hT) hor)
  | succ k ih =>
    intro i s T c mT hk hi hst hS hT hTS hTw hz hSz hor hkeep hR
    have hlt : i < n := by omega
    refine codeAny_builtin F.entry_sum_loop ?_
    rw [Around.under_plainId F.plain_sum_loop _]
    show wpAny _ A.in1 (seqItems? (.ref S) >>= _) _ _ s
    refine wpAny_bind (wpAny_seqItems hS rfl ?_)
    show wpAny _ A.in1 (tryCatch (pyNext (.ref I)) _ >>= _) _ _ s
    refine wpAny_bind (wpAny_tryCatch (W.item i s _ _ hlt hst fun v h' tk hP hst' hk' => ?_))
    obtain rfl := hval i v hP
    obtain ⟨haw, m, hc⟩ := hcon i hlt
    have hS' := hk' S _ hSw hS
    have hT' : IsL h' T (accL con i).toArray mT := hk' T _ hTw hT
    have haS : ad i ≠ S := fun z => by
      have h3 : hB.objs.size > ad i := Heap.lt_size hc
      rw [z] at h3
      omega
    have hc' : IsL h' (ad i) (con i).toArray m := hk' _ _ haw (hkeep _ _ haw haS hc)
    have hsz' := accL_len con (i := i + 1) (n := n) (by omega)
    have hsz1 : (accL con i).length + (con i).length ≤ sizeLine := by
      have : (accL con (i + 1)).length = (accL con i).length + (con i).length := by show (accL con i ++ con i).length = _; rw [List.length_append]
      omega
    show wpAny _ A.in1 ((holding [Value.ref (ad i)] (binaryOp .Add (.ref T) (.ref (ad i)))).attempt >>= _) _ _ _
    refine wpAny_bind (wpAny_attempt (wpAny_holding (PySem.P.add_list hT' hc' ?_ (by rw [List.size_toArray, List.size_toArray]; exact hsz1))))
    have hSlt : h'.objs.size > S := Heap.lt_size hS'
    have hne : h'.objs.size ≠ S := Nat.ne_of_gt hSlt
    have hSp := Heap.get?_push_of_some { cls := .type "list", data := .seq ((accL con i).toArray ++ (con i).toArray) } hS'
    show wpAny _ A.in1 (updateSeq S (fun _ => #[.ref h'.objs.size]) >>= _) _ _ _
    refine wpAny_bind ?_
    refine wpAny_updateSeq hSp rfl ?_
    have hS2 := Heap.get?_update_self (Obj.mapSeq fun _ => #[Value.ref h'.objs.size]) hSp rfl
    refine wpAny_bind (wpAny_letGo ?_)
    refine wpAny_bind ?_
    have hother : ∀ b o, b ≠ S → h'.get? b = some o → (((h'.push { cls := .type "list", data := .seq ((accL con i).toArray ++ (con i).toArray) }).update S (Obj.mapSeq fun _ => #[Value.ref h'.objs.size])).update S (Obj.mapSeq fun _ => #[Value.ref h'.objs.size])).get? b = some o := fun b o hb e =>
      (Heap.get?_update_other _ _ (Ne.symm hb)).trans ((Heap.get?_update_other _ _ (Ne.symm hb)).trans (Heap.get?_push_of_some _ e))
    have hBz : hB.objs.size ≤ h'.objs.size := by omega
    refine wpAny_updateSeq hS2 rfl (wpAny_pure ⟨plainId_quiet F.plain_sum_loop _, ih (i + 1) _ h'.objs.size _ 0 (by omega) hlt (W.frame _ _ _ hst' fun b hb o e => hother b o (fun h : b = S => hSf (by rw [← h]; exact hb)) e) (Heap.get?_update_self _ hS2 rfl) ?_ hne (fun h => Nat.lt_irrefl _ (Nat.lt_trans (hwS _ h) hSlt)) ?_ ?_ (.inr ⟨Nat.succ_pos _, hBz⟩)
      (fun b o hbw hbS e => hother b o hbS (hk' b o hbw (hkeep b o hbw hbS e))) fun h'' tk'' T'' m'' hk'' hT'' hor'' => hR h'' tk'' T'' m'' hk'' hT'' hor''⟩)
    · have : (accL con (i + 1)).toArray = (accL con i).toArray ++ (con i).toArray := by show (accL con i ++ con i).toArray = _; simp
      rw [this]
      exact (Heap.get?_update_other _ _ (Ne.symm hne)).trans ((Heap.get?_update_other _ _ (Ne.symm hne)).trans (Heap.get?_push_size _ rfl))
    · have h2 : hB.objs.size ≤ (((h'.push { cls := .type "list", data := .seq ((accL con i).toArray ++ (con i).toArray) }).update S (Obj.mapSeq fun _ => #[Value.ref h'.objs.size])).update S (Obj.mapSeq fun _ => #[Value.ref h'.objs.size])).objs.size := by
        rw [Heap.size_update, Heap.size_update, Heap.size_push]
        exact Nat.le_succ_of_le hBz
      exact h2
    · have h2 := Heap.lt_size (Heap.get?_update_self (Obj.mapSeq fun _ => #[Value.ref h'.objs.size]) hS2 rfl)
      exact h2
end
theorem sum_args2 (a b : Value) : argsOk "sum" ⟨[a, b], []⟩ := by unfold argsOk; kernel_rfl
theorem sub_ls : isSubtype (.type "list") (.type "str") = pure false := by rw [isSubtype_type]; kernel_rfl
theorem sub_lb : isSubtype (.type "list") (.type "bytes") = pure false := by rw [isSubtype_type]; kernel_rfl
theorem sub_lba : isSubtype (.type "list") (.type "bytearray") = pure false := by rw [isSubtype_type]; kernel_rfl
section
variable {prog : Program} {w : World} {A : Around} {E : Value → Shared → Prop} {s : Shared}
theorem call_sum_lists {l T0 : Addr} {its : List Value} {m0 : Nat} {Q : Value → Shared → Prop} (hh : A.handled = none) (hl : s.heap.IsList l its.toArray) (ad : Nat → Addr) (con : Nat → List Value) (hits : ∀ (i : Nat) (v : Value), its[i]? = some v → v = .ref (ad i))
    (hcon : ∀ i, i < its.length → ∃ m, IsL s.heap (ad i) (con i).toArray m) (hT0 : IsL s.heap T0 #[] m0) (hsz : (accL con its.length).length ≤ sizeLine)
    (h : ∀ h' tk T' m', (∀ b o, s.heap.get? b = some o → h'.get? b = some o) → IsL h' T' (accL con its.length).toArray m' → ((its.length = 0 ∧ T' = T0) ∨ (0 < its.length ∧ s.heap.objs.size ≤ T')) → Q (.ref T') { s with heap := h', toks := tk }) :
    wpAny (model prog w) A (call (.builtin "sum") [.ref l, .ref T0]) Q E s := by
  refine call_function_tree F.kind_sum F.plain_sum F.entry_sum (sum_args2 _ _) ?_
  unfold Builtin.«sum»
  simp only [List.length_cons, List.length_nil]
  rw [if_neg (by decide)]
  refine wpAny_bind (wpAny_of_eq (show Builtin.Builtins.bindParams "sum" ["start"] 0 { pos := [Value.ref T0] } = pure [some (Value.ref T0)] from rfl) ?_)
  have hlt : l < s.heap.objs.size := by obtain ⟨_, e, _⟩ := hl; exact Heap.lt_size e
  refine wpAny_bind (wpAny_pyIter_list hl ?_)
  have hT1 := Heap.get?_push_of_some { cls := .type "list_iterator", data := .fields #[.ref l, .int 0 0] } hT0
  refine wpAny_bind (wpAny_pure ?_)
  simp only [List.forIn_cons, List.forIn_nil]
  refine wpAny_bind (wpAny_bind (wpAny_bind (wpAny_isInstance (T := "list") (b := false) ⟨_, hT1, rfl⟩ sub_ls ?_)))
  simp only [Bool.false_eq_true, if_false]
  refine wpAny_pure (wpAny_bind (wpAny_bind (wpAny_isInstance (T := "list") (b := false) ⟨_, hT1, rfl⟩ sub_lb ?_)))
  simp only [Bool.false_eq_true, if_false]
  refine wpAny_pure (wpAny_bind (wpAny_bind (wpAny_isInstance (T := "list") (b := false) ⟨_, hT1, rfl⟩ sub_lba ?_)))
  simp only [Bool.false_eq_true, if_false]
  refine wpAny_pure (wpAny_pure ?_)
  refine wpAny_bind (wpAny_newObj_type ?_)
  have hne : l ≠ s.heap.objs.size := Nat.ne_of_lt hlt
  have hz1 : (s.heap.push { cls := .type "list_iterator", data := .fields #[.ref l, .int 0 0] }).objs.size = s.heap.objs.size + 1 := Heap.size_push _ _
  have hTl : s.heap.objs.size > T0 := Heap.lt_size hT0
  have hk2 : ∀ b o, s.heap.get? b = some o → ((s.heap.push { cls := .type "list_iterator", data := .fields #[.ref l, .int 0 0] }).push { cls := .type "list", data := .seq #[.ref T0] }).get? b = some o := fun b o e => Heap.get?_push_of_some _ (Heap.get?_push_of_some _ e)
  refine wpAny_pure ⟨plainId_quiet F.plain_sum_loop _, codeAny_sum_lists (Walks.list (A := A.in1) hh _ l hne its.toArray) ad con (fun i v hv => hits i v (by simpa using hv)) s.heap T0 (s.heap.push { cls := .type "list_iterator", data := .fields #[.ref l, .int 0 0] }).objs.size (fun hm => ?_) (by rw [hz1]; exact Nat.le_succ _)
    (fun i hi => ⟨fun hm => ?_, hcon i (by simpa using hi)⟩) (by rw [List.size_toArray]; exact hsz) (fun b hb => ?_) (fun b hb => ?_) its.toArray.size 0 _ T0 0 m0 (by omega) (Nat.zero_le _) ⟨?_, ?_⟩ (Heap.get?_push_size _ rfl) (hk2 _ _ hT0) (fun z => ?_) (fun hm => ?_) ?_ ?_ (.inl ⟨rfl, rfl⟩) (fun b o _ _ e => hk2 b o e) fun h' tk T' m' hk hT' hor => ?_⟩
  · rcases List.mem_cons.mp hm with e | hm
    · have e : (s.heap.push { cls := .type "list_iterator", data := .fields #[.ref l, .int 0 0] }).objs.size = s.heap.objs.size := e
      omega
    · have e : (s.heap.push { cls := .type "list_iterator", data := .fields #[.ref l, .int 0 0] }).objs.size = l := by simpa using hm
      rw [hz1] at e
      exact absurd e (Nat.ne_of_gt (Nat.lt_succ_of_lt hlt))
  · obtain ⟨m, hm2⟩ := hcon i (by simpa using hi)
    have h3 : s.heap.objs.size > ad i := Heap.lt_size hm2
    have e : ad i = s.heap.objs.size := by simpa using hm
    rw [e] at h3
    exact absurd h3 (Nat.lt_irrefl _)
  · have e : b = s.heap.objs.size := by simpa using hb
    rw [e]; exact Nat.le_refl _
  · have e : b = s.heap.objs.size := by simpa using hb
    rw [e, hz1]; exact Nat.lt_succ_self _
  · exact ⟨_, Heap.get?_push_of_some _ (Heap.get?_push_size _ rfl), rfl, rfl⟩
  · exact (hl.push _).push _
  · rw [z, hz1] at hTl
    exact absurd hTl (Nat.not_lt_of_le (Nat.le_succ _))
  · have e : T0 = s.heap.objs.size := by simpa using hm
    rw [e] at hTl
    exact absurd hTl (Nat.lt_irrefl _)
  · show s.heap.objs.size ≤ ((s.heap.push { cls := .type "list_iterator", data := .fields #[.ref l, .int 0 0] }).push _).objs.size
    rw [Heap.size_push, hz1]
    exact Nat.le_succ_of_le (Nat.le_succ _)
  · show (s.heap.push { cls := .type "list_iterator", data := .fields #[.ref l, .int 0 0] }).objs.size < ((s.heap.push { cls := .type "list_iterator", data := .fields #[.ref l, .int 0 0] }).push _).objs.size
    rw [Heap.size_push (s.heap.push _)]
    exact Nat.lt_succ_self _
  · rw [List.size_toArray] at hT' hor
    refine h h' tk T' m' (fun b o e => hk b o (fun hb => ?_) (fun hb => ?_) e) hT' hor
    · have e2 : b = s.heap.objs.size := by simpa using hb
      have h3 : s.heap.objs.size > b := Heap.lt_size e
      rw [e2] at h3
      exact absurd h3 (Nat.lt_irrefl _)
    · have h3 : s.heap.objs.size > b := Heap.lt_size e
      rw [hb, hz1] at h3
      exact absurd h3 (Nat.not_lt_of_le (Nat.le_succ _))
end
/-! ### the rule -/
def rSumL : List V → Hp → VK → Prop := fun vs H Q => ∃ (F : Hp) (v w : V) (ls : List (List D)), vs = [v, w] ∧ Ex F H ∧ Dn F v (.lst (ls.map D.lst)) ∧ Dn F w (.lst []) ∧ ls.flatten.length ≤ 100000 ∧ ∀ u F' H', Ext none F H F' H' → Dn F' u (.lst ls.flatten) → Q u H'
section
variable {X : Cx} {sl : List Sl} {ms : List Ob} {a b : Expr} {p pos : Pos} {R : D → Prop}
theorem cr_sumL (hc : X.calm = true) : CallR X (.builtin "sum") rSumL := by
  intro pins s σ H vs us Q I r h
  obtain ⟨F, v, w, ls, rfl, ef, hv, hw, hlen, q⟩ := h
  obtain ⟨a, xs, rfl, ha, hx⟩ : ∃ a xs, v = .ref a ∧ F a = some (.lst xs) ∧ DnL F xs (ls.map D.lst) := by cases hv with | lst h1 h2 => exact ⟨_, _, rfl, h1, h2⟩
  obtain ⟨t0, ys0, rfl, ht0, hy0⟩ : ∃ a xs, w = .ref a ∧ F a = some (.lst xs) ∧ DnL F xs [] := by cases hw with | lst h1 h2 => exact ⟨_, _, rfl, h1, h2⟩
  cases hy0
  cases r with
  | cons r1 r2 =>
  cases r2 with
  | cons r2 r3 =>
  cases r3
  cases r1
  cases r2
  obtain ⟨z, its, n, rv, hl, e⟩ := I.lstM (ef _ _ ha)
  obtain ⟨z0, its0, n0, rv0, hl0, e0⟩ := I.lstM (ef _ _ ht0)
  cases rv0
  have hll : its.length = ls.length := by rw [← rv.length, hx.len, List.length_map]
  have ex : ∀ i, ∃ q : Addr × List Value × List V, i < its.length → its[i]? = some (.ref q.1) ∧ (∃ m, IsL s.heap q.1 q.2.1.toArray m) ∧ Vals q.2.2 q.2.1 ∧ ∃ ds, ls[i]? = some ds ∧ DnL F q.2.2 ds := fun i => by
    by_cases hi : i < its.length
    · have hi' : i < ls.length := by omega
      obtain ⟨x, hx1, hx2⟩ := hx.get i (d := D.lst ls[i]) (by rw [List.getElem?_map, List.getElem?_eq_getElem hi']; rfl)
      obtain ⟨bq, ysq, rfl, hb, hyb⟩ : ∃ a xs, x = .ref a ∧ F a = some (.lst xs) ∧ DnL F xs ls[i] := by cases hx2 with | lst h1 h2 => exact ⟨_, _, rfl, h1, h2⟩
      obtain ⟨u, hu, ru⟩ := rv.get hx1
      cases ru
      obtain ⟨zb, itb, nb, rvb, hlb, eb⟩ := I.lstM (ef _ _ hb)
      exact ⟨(bq, itb, ysq), fun _ => ⟨hu, ⟨_, eb⟩, rvb, _, List.getElem?_eq_getElem hi', hyb⟩⟩
    · exact ⟨(0, [], []), fun h => absurd h hi⟩
  let ch := fun i => Classical.choose (ex i)
  have hch : ∀ i, i < its.length → its[i]? = some (.ref (ch i).1) ∧ (∃ m, IsL s.heap (ch i).1 (ch i).2.1.toArray m) ∧ Vals (ch i).2.2 (ch i).2.1 ∧ ∃ ds, ls[i]? = some ds ∧ DnL F (ch i).2.2 ds := fun i => Classical.choose_spec (ex i)
  have acc : ∀ i, i ≤ its.length → ∃ zs, Vals zs (accL (fun i => (ch i).2.1) i) ∧ DnL F zs (ls.take i).flatten := by
    intro i
    induction i with
    | zero => intro _; exact ⟨[], .nil, .nil⟩
    | succ i ih =>
      intro hi
      obtain ⟨zs, h1, h2⟩ := ih (by omega)
      obtain ⟨_, _, h3, ds, h4, h5⟩ := hch i (by omega)
      refine ⟨zs ++ (ch i).2.2, h1.append h3, ?_⟩
      rw [List.take_add_one, h4, List.flatten_append]
      show DnL F _ (_ ++ [ds].flatten)
      rw [show [ds].flatten = ds by simp]
      exact h2.app h5
  obtain ⟨zs, hz1, hz2⟩ := acc its.length (Nat.le_refl _)
  rw [hll, List.take_length] at hz2
  have hzl : zs.length ≤ sizeLine := by rw [hz2.len]; exact Nat.le_trans hlen (by decide)
  refine call_sum_lists (I.ok.hd hc) ⟨_, e, rfl, _, rfl⟩ (fun i => (ch i).1) (fun i => (ch i).2.1) (fun i v hv => ?_) (fun i hi => (hch i hi).2.1) e0 (by rw [← hz1.length]; exact hzl) fun h' tk T' m' hk hT' hor => ?_
  · have := (hch i (List.getElem?_eq_some_iff.mp hv).1).1
    rw [hv] at this
    exact Option.some.inj this
  · rcases hor with ⟨h0, rfl⟩ | ⟨h0, hle⟩
    · have hls : ls = [] := List.eq_nil_of_length_eq_zero (by omega)
      subst hls
      exact ⟨.ref T', H, I.kept hk, rfl, q _ F H (Ext.refl ef) (.lst ht0 .nil)⟩
    · have hT : H T' = none := I.hok.fresh hle
      exact ⟨.ref T', upd H T' (.lst zs), I.laid (t' := tk) hk hle ⟨hzl, _, m', hz1, hT'⟩, rfl, q _ (upd F T' (.lst zs)) _ (Ext.new ef hT) (.lst upd_same (hz2.mono (Ex.new (ef.none hT))))⟩
/-- sum(lists, []) -/
theorem j_sumL (hc : X.calm = true) (hm : X.mg "sum" = none) (h : Er sl ms (wE X a) fun x => Er sl ms (wE X b) fun y => ∃ ls : List (List D), x = .lst (ls.map D.lst) ∧ y = .lst [] ∧ ls.flatten.length ≤ 100000 ∧ R (.lst ls.flatten)) (hg : Gl X "sum" := by rfl)
    (he : starEach [a, b] X.env = (false, eval a X.env) :: starEach [b] X.env := by rfl) (he2 : starEach [b] X.env = (false, eval b X.env) :: starEach [] X.env := by rfl) (hpl : (backTo pos (starEach [b] X.env)).any (·.1) = false := by rfl) :
    Er sl ms (wE X (.Call (.Name "sum" p) [a, b] [] pos)) R := Er.of (pe_callB (cr_sumL hc) hg hm (by decide +kernel) (pa_cons pe_w (pa_cons pe_w pa_nil he2) he) (he := he) (hpl := hpl)) fun ho F0 H0 F ps ex σ H at0 Q q =>
  h ho F0 H0 F ps ex σ H at0 _ fun v d F1 H1 h1 a1 => h1 ho F0 H0 F1 ps _ σ H1 a1 _ fun w d2 F2 H2 ⟨ls, e1, e2, hl, k⟩ a2 => by
    subst e1 e2
    exact ⟨F2, v, w, ls, rfl, a2.fh, a2.pop.top, a2.top, hl, fun u F' H' x hu => q u _ F' H' k ((a2.pop.pop.step0 x).push hu)⟩
end
/-! ### x not in a list of tuples of whole numbers -/
def rNotInL : L2.R2 := fun x y H Q => ∃ (F : Hp) (l : List Int) (ls : List (List Int)), Ex F H ∧ Dn F x (tupN l) ∧ Dn F y (.lst (ls.map tupN)) ∧ Q (.bl (!decide (l ∈ ls))) H
theorem op_notInL {X : Cx} [KonK X.K] (hu : X.A.units + 64 < cLine) : OpR X (compareOp .NotIn) rNotInL := by
  intro pins s σ H x y v u Q I rx ry h
  obtain ⟨F, l, ls, ef, hd, he, q⟩ := h
  obtain ⟨bs, r2⟩ := he.reads I ef ry
  obtain ⟨as, r1⟩ := hd.reads I ef rx
  rw [toP] at r2
  refine SeqAt.notIn_list_reads r2 r1 (lay_tups ls).1 (by rw [toP, PyData.canLay0]; exact (lay_ints l).1) (by have := (lay_tups ls).2; omega) ⟨.bl _, H, I, rfl, ?_⟩
  rw [any_tups]
  exact q
theorem jt_notInL {X : Cx} [KonK X.K] {sl : List Sl} {ms : List Ob} {B : Bool → Prop} {a b : Expr} {pos : Pos} (hu : X.A.units + 64 < cLine) (h : Er sl ms (wE X a) fun x => Er sl ms (wE X b) fun y => ∃ (l : List Int) (ls : List (List Int)), x = tupN l ∧ y = .lst (ls.map tupN) ∧ B (!decide (l ∈ ls))) (hm : behindInMarks .NotIn b = false := by first | exact nobehind _ (by decide) (by decide) | rfl) :
    Et sl ms (wT X (.Compare a [.NotIn] [b] pos)) B :=
  Et.of (pt_cmpR (op_notInL hu) pe_w pe_w hm) (et_test (er_op' (h.mono fun x h => h.mono fun y ⟨l, ls, e1, e2, k⟩ => fun F H v w eh hv hw Q q => by
    subst e1 e2
    exact ⟨F, l, ls, eh, hv, hw, q _ _ F H ⟨_, rfl, k⟩ (Ext.refl eh) (.bl _)⟩)))
end E
set_option Elab.async false
set_option linter.all false
set_option maxRecDepth 100000
set_option pp.maxSteps 300
/-! The law's own names, depth; what is small. -/
namespace A
open PySem PySem.Spec PyProof.Rows L2 E
variable [KF] [HandN 3]
mutual
/-- how many deeds -/
def ddT : Tree → Nat
  | .deed _ => 1
  | .skip => 0
  | .again t => ddT t
  | .node _ ts => ddTs ts
def ddTs : List Tree → Nat
  | [] => 0
  | t :: ts => ddT t + ddTs ts
end
mutual
/-- no part too wide -/
def wideT : Tree → Bool
  | .deed _ => true
  | .skip => true
  | .again t => wideT t
  | .node _ ts => decide (ts.length ≤ 6) && wideTs ts
def wideTs : List Tree → Bool
  | [] => true
  | t :: ts => wideT t && wideTs ts
end
theorem dd_kids {t : Tree} (h : t.word ≠ "do") : ddT t = ddTs t.kids := by
  cases t with
  | deed n => exact absurd rfl h
  | skip => rw [ddT]; rfl
  | again t => rw [ddT]; show _ = ddTs [t]; rw [ddTs, ddTs, Nat.add_zero]
  | node w ts => rw [ddT]; rfl
theorem ddTs_app : ∀ a b : List Tree, ddTs (a ++ b) = ddTs a + ddTs b
  | [], b => by rw [ddTs, List.nil_append, Nat.zero_add]
  | t :: a, b => by rw [List.cons_append, ddTs, ddTs, ddTs_app a b]; omega
mutual
theorem dd_cnt : ∀ t : Tree, ddT t ≤ cntT t
  | .deed _ => by rw [ddT, cntT]; omega
  | .skip => by rw [ddT, cntT]; omega
  | .again t => by have := dd_cnt t; rw [ddT, cntT]; omega
  | .node w ts => by have := dd_cnts ts; rw [ddT, cntT]; omega
theorem dd_cnts : ∀ ts : List Tree, ddTs ts ≤ cntTs ts
  | [] => by rw [ddTs, cntTs]; omega
  | t :: ts => by have := dd_cnt t; have := dd_cnts ts; rw [ddTs, cntTs]; omega
end
mutual
theorem depth_cnt : ∀ t : Tree, t.depth ≤ cntT t
  | .deed _ => by rw [Tree.depth, cntT]; omega
  | .skip => by rw [Tree.depth, cntT]; omega
  | .again t => by have := depth_cnt t; rw [Tree.depth, cntT]; omega
  | .node w ts => by have := depth_cnts ts; rw [Tree.depth, cntT]; omega
theorem depth_cnts : ∀ ts : List Tree, depths ts ≤ cntTs ts
  | [] => by rw [depths, cntTs]; omega
  | t :: ts => by have := depth_cnt t; have := depth_cnts ts; rw [depths, cntTs]; omega
end
theorem depth_kids (t : Tree) : t.depth = depths t.kids + 1 := by
  cases t with
  | deed n => rw [Tree.depth]; rfl
  | skip => rw [Tree.depth]; rfl
  | again t => rw [Tree.depth]; show _ = depths [t] + 1; rw [depths, depths]; omega
  | node w ts => rw [Tree.depth]; rfl
theorem depths_le : ∀ {ts : List Tree} {k : Nat}, depths ts ≤ k ↔ ∀ t ∈ ts, t.depth ≤ k
  | [], k => by rw [depths]; exact ⟨fun _ t h => (by cases h), fun _ => Nat.zero_le _⟩
  | t :: ts, k => by
    have ih := depths_le (ts := ts) (k := k)
    rw [depths]
    constructor
    · intro h u hu
      rcases List.mem_cons.mp hu with rfl | hu
      · omega
      · exact ih.mp (by omega) u hu
    · intro h
      have h1 := h t List.mem_cons_self
      have h2 := ih.mpr fun u hu => h u (List.mem_cons_of_mem _ hu)
      omega
theorem size_is : ∀ (k : Nat) (t : Tree), sizeT k t = if t.depth ≤ k ∧ wideT t = true then some (ddT t) else none := by
  intro k
  induction k with
  | zero =>
    intro t
    have : ¬ t.depth ≤ 0 := by have := depth_kids t; omega
    rw [if_neg fun h => this h.1]
    cases t <;> rw [sizeT]
  | succ k ih =>
    intro t
    cases t with
    | deed n => rw [sizeT, Tree.depth, wideT, ddT, if_pos ⟨by omega, rfl⟩]
    | skip => rw [sizeT, Tree.depth, wideT, ddT, if_pos ⟨by omega, rfl⟩]
    | again t =>
      rw [sizeT, ih, Tree.depth, wideT, ddT]
      by_cases h : t.depth ≤ k ∧ wideT t = true
      · rw [if_pos h, if_pos ⟨by omega, h.2⟩]
      · rw [if_neg h, if_neg fun z => h ⟨by omega, z.2⟩]
    | node w ts =>
      have key : ∀ ts : List Tree, sizeTs k ts = if depths ts ≤ k ∧ wideTs ts = true then some (ddTs ts) else none := by
        intro ts
        induction ts with
        | nil => rw [sizeTs, depths, wideTs, ddTs, if_pos ⟨by omega, rfl⟩]
        | cons t ts ih2 =>
          rw [sizeTs, ih, ih2, depths, wideTs, ddTs]
          by_cases h1 : t.depth ≤ k ∧ wideT t = true
          · rw [if_pos h1]
            by_cases h2 : depths ts ≤ k ∧ wideTs ts = true
            · rw [if_pos h2, if_pos ⟨by omega, by rw [h1.2, h2.2]; rfl⟩]
            · rw [if_neg h2, if_neg fun z => h2 ⟨by omega, by have := z.2; rw [Bool.and_eq_true] at this; exact this.2⟩]
          · rw [if_neg h1, if_neg (show ¬ (max t.depth (depths ts) ≤ k ∧ (wideT t && wideTs ts) = true) from fun z => h1 ⟨by omega, by have := z.2; rw [Bool.and_eq_true] at this; exact this.1⟩)]
      rw [sizeT, key, Tree.depth, wideT, ddT]
      by_cases h6 : ts.length ≤ 6
      · rw [if_pos h6, decide_eq_true h6, Bool.true_and]
        by_cases h : depths ts ≤ k ∧ wideTs ts = true
        · rw [if_pos h, if_pos ⟨by omega, h.2⟩]
        · rw [if_neg h, if_neg fun z => h ⟨by omega, z.2⟩]
      · rw [if_neg h6, decide_eq_false h6, Bool.false_and, if_neg fun z => Bool.false_ne_true z.2]
theorem proc_is (t : Tree) : isProc t = (decide (t.depth ≤ 8) && decide (ddT t ≤ 12) && wideT t) := by
  unfold isProc
  rw [size_is]
  by_cases h : t.depth ≤ 8 ∧ wideT t = true
  · rw [if_pos h, decide_eq_true h.1, h.2, Bool.true_and, Bool.and_true]
  · rw [if_neg h]
    by_cases h1 : t.depth ≤ 8
    · have : wideT t = false := by
        cases hw : wideT t with
        | false => rfl
        | true => exact absurd ⟨h1, hw⟩ h
      rw [this, Bool.and_false]
    · rw [decide_eq_false h1, Bool.false_and, Bool.false_and]
theorem mem_from : ∀ {ts : List Tree} {k : Nat} {p : List Nat}, p ∈ pathsFrom k ts ↔ ∃ i u q, ts[i]? = some u ∧ p = (k + i) :: q ∧ q ∈ pathsT u
  | [], k, p => by
    rw [pathsFrom]
    exact ⟨fun h => (by cases h), fun ⟨i, u, q, h, _⟩ => (by cases h)⟩
  | t :: ts, k, p => by
    have ih := mem_from (ts := ts) (k := k + 1) (p := p)
    rw [pathsFrom, List.mem_append, List.mem_map, ih]
    constructor
    · rintro (⟨q, hq, rfl⟩ | ⟨i, u, q, h1, h2, h3⟩)
      · exact ⟨0, t, q, rfl, rfl, hq⟩
      · exact ⟨i + 1, u, q, h1, by rw [h2, show k + 1 + i = k + (i + 1) by omega], h3⟩
    · rintro ⟨i, u, q, h1, h2, h3⟩
      cases i with
      | zero => cases h1; exact .inl ⟨q, h3, h2.symm⟩
      | succ i => exact .inr ⟨i, u, q, h1, by rw [h2, show k + 1 + i = k + (i + 1) by omega], h3⟩
theorem wideTs_iff : ∀ {ts : List Tree}, wideTs ts = true ↔ ∀ t ∈ ts, wideT t = true
  | [] => by rw [wideTs]; exact ⟨fun _ t h => (by cases h), fun _ => rfl⟩
  | t :: ts => by
    have ih := wideTs_iff (ts := ts)
    rw [wideTs, Bool.and_eq_true, ih]
    exact ⟨fun h u hu => (List.mem_cons.mp hu).elim (fun e => by rw [e]; exact h.1) (h.2 u), fun h => ⟨h t List.mem_cons_self, fun u hu => h u (List.mem_cons_of_mem _ hu)⟩⟩
theorem wide_kids (t : Tree) : wideT t = (decide (t.kids.length ≤ 6) && wideTs t.kids) := by
  cases t with
  | deed n => rw [wideT]; rfl
  | skip => rw [wideT]; rfl
  | again t => rw [wideT]; show _ = (_ && wideTs [t]); rw [wideTs, wideTs, Bool.and_true]; rfl
  | node w ts => rw [wideT]; rfl
theorem wide_iff : ∀ (n : Nat) {t : Tree}, t.depth ≤ n → (wideT t = true ↔ ∀ p ∈ pathsT t, ∀ u, atT t p = some u → u.kids.length ≤ 6) := by
  intro n
  induction n with
  | zero => intro t h; have := depth_kids t; omega
  | succ n ih =>
    intro t h
    rw [wide_kids, Bool.and_eq_true, decide_eq_true_iff, wideTs_iff, pathsT_kids]
    have hd := depth_kids t
    constructor
    · rintro ⟨h1, h2⟩ p hp u hu
      rcases List.mem_cons.mp hp with rfl | hp
      · rw [atT] at hu; cases hu; exact h1
      · obtain ⟨i, v, q, e1, e2, e3⟩ := mem_from.mp hp
        rw [Nat.zero_add] at e2
        subst e2
        rw [atT, e1] at hu
        have hv := List.mem_of_getElem? e1
        have hvd := kid_depth hv
        exact (ih (by omega)).mp (h2 v hv) q e3 u hu
    · intro h2
      refine ⟨h2 [] List.mem_cons_self t (by rw [atT]), fun v hv => ?_⟩
      obtain ⟨i, hi⟩ := List.getElem?_of_mem hv
      have hvd := kid_depth hv
      refine (ih (by omega)).mpr fun q hq u hu => h2 (i :: q) (List.mem_cons_of_mem _ (mem_from.mpr ⟨i, v, q, hi, by rw [Nat.zero_add], hq⟩)) u (by rw [atT, hi]; exact hu)
section
variable {P : Program} {w : World} {K : PySem.W.Frag} [KonK K] {mg : Str → Option Value} {base : Heap}
abbrev sp_names (n : Nat) : Sp := spD 1 (fun ds => ∃ d t, ds = [d] ∧ Tr d t ∧ t.depth ≤ n ∧ cntT t ≤ 1000) fun ds r => ∀ d t, ds = [d] → Tr d t → ∃ l : List D, r = .lst l ∧ l.length = ddT t
abbrev N_names : List Str := ["procedure", "part"]
theorem S_names : FnScope N_names ["procedure"] (sc 81) := ⟨rfl, rfl, rfl, by decide +kernel, rfl, by decide +kernel, by decide +kernel⟩
theorem flat_lens : ∀ {ls : List (List D)} {ts : List Tree}, ls.map List.length = ts.map ddT → ls.flatten.length = ddTs ts
  | [], [], _ => by rw [ddTs]; rfl
  | [], _ :: _, h => by cases h
  | _ :: _, [], h => by cases h
  | l :: ls, t :: ts, h => by
    injection h with h1 h2
    rw [List.flatten_cons, List.length_append, ddTs, flat_lens h2, h1]
theorem ok_names1 {f : Addr} {fd : FuncData} (F : Fun K "_law_names" "_law_names" (top 81) f fd) (T : Blt mg) (cp : Cl P w K mg base 1 "_law_kids" sp_parts) (n : Nat) (c : n = 0 ∨ ∃ n', n = n' + 1 ∧ Cl P w K mg base (n' + 2) "_law_names" (sp_names n')) : FnG P w K mg base (n + 2) f fd ["procedure"] (sp_names n) := by
  refine ok_D (m := 1) F S_names rfl rfl fun cdv A outer s H E ds hr hl hp => ?_
  obtain ⟨d, t, rfl, ht, hdp, hct⟩ := hp
  have fin : ∀ r, (∃ l : List D, r = D.lst l ∧ l.length = ddT t) → ∀ d' t', [d] = [d'] → Tr d' t' → ∃ l : List D, r = .lst l ∧ l.length = ddT t' := fun r h d' t' e h' => by
    cases e
    rw [h'.uniq ht]
    exact h
  obtain ⟨is, e0, e1⟩ := ht.word
  refine jss_cons (js_if (jt_cmp (j_ixO (j_var 0 rfl rfl (j_int ⟨is, _, _, e0, rfl, e1, j_str ⟨_, .eqS _ _, fun e => ?_, fun e => jss_nil ?_⟩⟩)))))
  · have e := of_decide_eq_true e
    cases ht with
    | deed _ => exact jss_one (js_ret (j_lst (j_cons (j_ixT (j_var 0 rfl rfl (j_int ⟨_, _, _, rfl, rfl, rfl, j_nil ⟨Nat.le_of_ble_eq_true rfl, fin _ ⟨_, rfl, by rw [ddT]; rfl⟩⟩⟩))))))
    | skip => exact absurd (show ("skip" : Str) = "do" from e) (by decide +kernel)
    | kon _ => exact absurd (show ("skip" : Str) = "do" from e) (by decide +kernel)
    | again _ => exact absurd (show ("again" : Str) = "do" from e) (by decide +kernel)
    | @node w _ _ _ _ => exact absurd e w.ne.1
  have e := of_decide_eq_false e
  obtain ⟨n', rfl, cs⟩ := c.resolve_left (by have := depth_kids t; omega)
  refine jss_one (js_ret (j_sumL rfl T.sum (El.er' (jl_lc [("part", 1)] rfl S_names.nd (blkOk_by (N := N_names) (sc := sc 81) (by decide +kernel)) (own1 rfl) (ji_tup (j_call cp hr (by omega) (j_cons (j_var 0 rfl rfl (j_nil ⟨rfl, ⟨d, t, rfl, ht⟩, fun r hd => ?_⟩)))))))))
  obtain ⟨es, rfl, hes⟩ := hd d t rfl ht
  have hel := hes.len
  have hkl : t.kids.length ≤ cntT t := by have := cntTs_len t.kids; have := cnt_kids t; omega
  refine ⟨es, rfl, by omega, fun i acc => ∃ ls : List (List D), acc = ls.map D.lst ∧ ls.map List.length = (t.kids.take i).map ddT, ⟨[], rfl, rfl⟩, fun i x acc hx hacc => ?_, fun acc hacc => ?_⟩
  · obtain ⟨ls, rfl, hls⟩ := hacc
    obtain ⟨u, hu, hxu⟩ := hes.getD i hx
    have hud := kid_depth (List.mem_of_getElem? hu)
    have huc : cntT u ≤ cntT t := by
      have e := congrArg cntTs (split_at hu)
      rw [cntTs_app, cntTs_app, cntTs, cntTs] at e
      have := cnt_kids t
      omega
    refine ⟨[1], _, fun s H C cl fp => jg_name 1 S_names.nd rfl, fun _ h => h, fun s H C cl fp => jts_nil ⟨fun _ s H C cl fp => ?_, fun z => (by cases z)⟩⟩
    refine j_call cs hr (by omega) (j_cons (j_var 1 rfl rfl (j_nil ⟨rfl, ⟨x, u, rfl, hxu, by omega, by omega⟩, fun r hd => ?_⟩)))
    obtain ⟨l, rfl, hll⟩ := hd x u rfl hxu
    refine ⟨ls ++ [l], by rw [List.map_append]; rfl, ?_⟩
    rw [List.map_append, List.take_add_one, hu, List.map_append, hls]
    show _ ++ [l.length] = _ ++ [ddT u]
    rw [hll]
  · obtain ⟨ls, rfl, hls⟩ := hacc
    rw [hel, List.take_length] at hls
    have hfl := flat_lens hls
    have hdc := dd_cnts t.kids
    have hck := cnt_kids t
    refine j_lst (j_nil ⟨Nat.zero_le _, ls, rfl, rfl, by omega, fin _ ⟨_, rfl, ?_⟩⟩)
    rw [hfl, dd_kids e]
theorem ok_names {f : Addr} {fd : FuncData} (F : Df K mg "_law_names" (top 81) ["procedure"] f fd) (T : Blt mg) (cp : Cl P w K mg base 1 "_law_kids" sp_parts) : ∀ n : Nat, FnG P w K mg base (n + 2) f fd ["procedure"] (sp_names n)
  | 0 => ok_names1 F.fn T cp 0 (.inl rfl)
  | n + 1 => ok_names1 F.fn T cp (n + 1) (.inr ⟨n, rfl, F.cl (ok_names F T cp n)⟩)
/-! _law_deep -/
abbrev sp_ldeep (n : Nat) : Sp := spD 1 (fun ds => ∃ d t, ds = [d] ∧ Tr d t ∧ t.depth ≤ n ∧ cntT t ≤ 1000) fun ds r => ∀ d t, ds = [d] → Tr d t → r = natD t.depth
theorem S_ldeep : FnScope N_names ["procedure"] (sc 82) := ⟨rfl, rfl, rfl, by decide +kernel, rfl, by decide +kernel, by decide +kernel⟩
theorem depths_max : ∀ (ts : List Tree) (k : Int), k ∈ (0 :: ts.map fun t => ((t.depth : Nat) : Int)) → (∀ y ∈ (0 :: ts.map fun t => ((t.depth : Nat) : Int)), y ≤ k) → k = ((depths ts : Nat) : Int) := by
  intro ts k hk hm
  have h1 : ((depths ts : Nat) : Int) ≤ k := by
    have h0 := hm 0 List.mem_cons_self
    have : depths ts ≤ k.toNat := depths_le.mpr fun t ht => by
      have := hm _ (List.mem_cons_of_mem _ (List.mem_map.mpr ⟨t, ht, rfl⟩))
      omega
    omega
  have h2 : k ≤ ((depths ts : Nat) : Int) := by
    rcases List.mem_cons.mp hk with rfl | hk
    · omega
    · obtain ⟨t, ht, rfl⟩ := List.mem_map.mp hk
      have := depths_mem ht
      omega
  omega
theorem ok_ldeep1 {f : Addr} {fd : FuncData} (F : Fun K "_law_deep" "_law_deep" (top 82) f fd) (T : Blt mg) (cp : Cl P w K mg base 1 "_law_kids" sp_parts) (n : Nat) (c : n = 0 ∨ ∃ n', n = n' + 1 ∧ Cl P w K mg base (n' + 2) "_law_deep" (sp_ldeep n')) : FnG P w K mg base (n + 2) f fd ["procedure"] (sp_ldeep n) := by
  refine ok_D (m := 1) F S_ldeep rfl rfl fun cdv A outer s H E ds hr hl hp => ?_
  obtain ⟨d, t, rfl, ht, hdp, hct⟩ := hp
  have fin : ∀ r, r = natD t.depth → ∀ d' t', [d] = [d'] → Tr d' t' → r = natD t'.depth := fun r h d' t' e h' => by
    cases e
    rw [h'.uniq ht]
    exact h
  obtain ⟨n', rfl, cs⟩ := c.resolve_left (by have := depth_kids t; omega)
  refine jss_one (js_ret (j_add (j_int (j_max rfl T.max (j_catL (j_lst (j_cons (j_int (j_nil ⟨Nat.le_of_ble_eq_true rfl, El.er' (jl_lc [("part", 1)] rfl S_ldeep.nd (blkOk_by (N := N_names) (sc := sc 82) (by decide +kernel)) (own1 rfl) (ji_tup (j_call cp hr (by omega) (j_cons (j_var 0 rfl rfl (j_nil ⟨rfl, ⟨d, t, rfl, ht⟩, fun r hd => ?_⟩))))))⟩)))))))))
  obtain ⟨es, rfl, hes⟩ := hd d t rfl ht
  have hel := hes.len
  have hkl : t.kids.length ≤ cntT t := by have := cntTs_len t.kids; have := cnt_kids t; omega
  refine ⟨es, rfl, by omega, fun i acc => acc = (t.kids.take i).map fun t => natD t.depth, rfl, fun i x acc hx hacc => ?_, fun acc hacc => ?_⟩
  · obtain ⟨u, hu, hxu⟩ := hes.getD i hx
    have hud := kid_depth (List.mem_of_getElem? hu)
    have huc : cntT u ≤ cntT t := by
      have e := congrArg cntTs (split_at hu)
      rw [cntTs_app, cntTs_app, cntTs, cntTs] at e
      have := cnt_kids t
      omega
    refine ⟨[1], _, fun s H C cl fp => jg_name 1 S_ldeep.nd rfl, fun _ h => h, fun s H C cl fp => jts_nil ⟨fun _ s H C cl fp => ?_, fun z => (by cases z)⟩⟩
    refine j_call cs hr (by omega) (j_cons (j_var 1 rfl rfl (j_nil ⟨rfl, ⟨x, u, rfl, hxu, by omega, by omega⟩, fun r hd => ?_⟩)))
    obtain rfl := hd x u rfl hxu
    rw [hacc, List.take_add_one, hu, List.map_append]
    rfl
  · rw [hel, List.take_length] at hacc
    subst hacc
    refine ⟨_, _, rfl, rfl, ?_, 0 :: t.kids.map (fun t => ((t.depth : Nat) : Int)), _, ?_, Nat.succ_pos _, depths_max t.kids, _, _, rfl, rfl, fin _ ?_⟩
    · rw [List.length_map]; show 1 + _ ≤ _; omega
    · rw [List.map_cons, List.map_map]; rfl
    · rw [depth_kids t]
      show D.int _ = D.int _
      congr 1
      omega
theorem ok_ldeep {f : Addr} {fd : FuncData} (F : Df K mg "_law_deep" (top 82) ["procedure"] f fd) (T : Blt mg) (cp : Cl P w K mg base 1 "_law_kids" sp_parts) : ∀ n : Nat, FnG P w K mg base (n + 2) f fd ["procedure"] (sp_ldeep n)
  | 0 => ok_ldeep1 F.fn T cp 0 (.inl rfl)
  | n + 1 => ok_ldeep1 F.fn T cp (n + 1) (.inr ⟨n, rfl, F.cl (ok_ldeep F T cp n)⟩)
/-! _law_is_small -/
abbrev sp_small : Sp := spD 1 (fun ds => ∃ d t, ds = [d] ∧ Tr d t ∧ cntT t ≤ 30) fun ds r => ∀ d t, ds = [d] → Tr d t → r = .bl (isProc t)
abbrev N_small : List Str := ["procedure", "wide", "path", "kids"]
theorem S_small : FnScope N_small ["procedure"] (sc 83) := ⟨rfl, rfl, rfl, by decide +kernel, rfl, by decide +kernel, by decide +kernel⟩
theorem ok_small {f : Addr} {fd : FuncData} (F : Fun K "_law_is_small" "_law_is_small" (top 83) f fd) (T : Blt mg) (ck : Cl P w K mg base 1 "_law_kids" sp_parts) (cd : Cl P w K mg base 32 "_law_deep" (sp_ldeep 30)) (cn : Cl P w K mg base 32 "_law_names" (sp_names 30)) (cp : Cl P w K mg base 32 "_law_paths" (sp_lpaths 30)) (ca : Cl P w K mg base 2 "_law_at" sp_lat) :
    FnG P w K mg base 33 f fd ["procedure"] sp_small := by
  refine ok_D (m := 3) F S_small rfl rfl fun cdv A outer s H E ds hr hl hp => ?_
  obtain ⟨d, t, rfl, ht, hct⟩ := hp
  have hdc := depth_cnt t
  have fin : ∀ r, r = D.bl (isProc t) → ∀ d' t', [d] = [d'] → Tr d' t' → r = .bl (isProc t') := fun r h d' t' e h' => by
    cases e
    rw [h'.uniq ht]
    exact h
  refine jss_cons (js_if (jt_w (jw_or (jt_cmp (j_call cd hr (by decide) (j_cons (j_var 0 rfl rfl (j_nil ⟨rfl, ⟨d, t, rfl, ht, by omega, by omega⟩, fun r hd => ?_⟩))))))))
  obtain rfl := hd d t rfl ht
  refine j_int ⟨_, .gt _ _, fun e => ?_, fun e => ⟨fun _ => jss_one (js_ret (j_bl (fin _ ?_))), fun z => (by cases z)⟩⟩
  rotate_left
  · have e := of_decide_eq_true e
    rw [proc_is, decide_eq_false (show ¬ t.depth ≤ 8 by omega), Bool.false_and, Bool.false_and]
  have e := of_decide_eq_false e
  have h8 : t.depth ≤ 8 := by omega
  refine jw_or1 (jt_cmp (j_len T.len (j_call cn hr (by decide) (j_cons (j_var 0 rfl rfl (j_nil ⟨rfl, ⟨d, t, rfl, ht, by omega, by omega⟩, fun r hd => ?_⟩))))))
  obtain ⟨l, rfl, hll⟩ := hd d t rfl ht
  refine ⟨_, .inr ⟨l, rfl, rfl⟩, j_int ⟨_, .gt _ _, fun e => jss_one (js_ret (j_bl (fin _ ?_))), fun e => jss_nil ?_⟩⟩
  · have e := of_decide_eq_true e
    rw [proc_is, decide_eq_false (show ¬ ddT t ≤ 12 by omega), Bool.and_false, Bool.false_and]
  have e := of_decide_eq_false e
  have h12 : ddT t ≤ 12 := by omega
  refine jss_cons (js_lc 1 [("path", 2)] rfl S_small.nd rfl (blkOk_by (N := N_small) (sc := sc 83) (by decide +kernel)) (own1 rfl) (ji_lst (j_call cp hr (by decide) (j_cons (j_var 0 rfl rfl (j_nil ⟨rfl, ⟨d, t, rfl, ht, by omega, by omega, by rw [cnt_paths]; omega⟩, fun r hd => ?_⟩))))))
  obtain ⟨ps, rfl, hps⟩ := hd d t rfl ht
  have hpl := hps.length_eq
  rw [cnt_paths] at hpl
  refine ⟨_, rfl, by rw [List.length_map]; omega, fun i acc => ∃ ls : List (List D), acc = ls.map D.tup ∧ ls.map List.length = (ps.take i).map fun p => ((atT t p).getD .skip).kids.length, ⟨[], rfl, rfl⟩, fun i x acc hx hacc => ?_, fun acc hacc => ?_⟩
  · obtain ⟨ls, rfl, hls⟩ := hacc
    rw [List.getElem?_map] at hx
    cases hpi : ps[i]? with
    | none => rw [hpi] at hx; cases hx
    | some p =>
      rw [hpi] at hx
      obtain rfl : pathD p = x := Option.some.inj hx
      obtain ⟨u, hu⟩ := paths_at (hps.mem_iff.mp (List.mem_of_getElem? hpi))
      refine ⟨[2], _, fun s H C cl fp => jg_name 2 S_small.nd rfl, fun _ h => h, fun s H C cl fp => jts_nil ⟨fun _ s H C cl fp => ?_, fun z => (by cases z)⟩⟩
      refine j_call ck hr (by decide) (j_cons (j_call ca hr (by decide) (j_cons (j_var 0 rfl rfl (j_cons (j_var 2 rfl rfl (j_nil ⟨rfl, ⟨d, t, p, u, rfl, ht, hu⟩, fun r hd => ?_⟩)))))))
      have hru := hd d t p u rfl ht hu
      refine j_nil ⟨rfl, ⟨r, u, rfl, hru⟩, fun r2 hd2 => ?_⟩
      obtain ⟨es, rfl, hes⟩ := hd2 r u rfl hru
      refine ⟨ls ++ [es], by rw [List.map_append]; rfl, ?_⟩
      rw [List.map_append, List.take_add_one, hpi, List.map_append, hls]
      show _ ++ [es.length] = _ ++ [((atT t p).getD .skip).kids.length]
      rw [hu, hes.len]
      rfl
  · obtain ⟨ls, rfl, hls⟩ := hacc
    rw [List.length_map, List.take_length] at hls
    have hlsl : ls.length = ps.length := by have := congrArg List.length hls; rwa [List.length_map, List.length_map] at this
    refine jss_one (js_ret (j_all rfl T.all (El.er' (jl_lcF [("kids", 3)] rfl S_small.nd (blkOk_by (N := N_small) (sc := sc 83) (by decide +kernel)) (own1 rfl) (ji_lst (j_var 1 rfl rfl ⟨_, rfl, ?_⟩))))))
    refine ⟨by rw [List.length_map]; omega, fun _ => true, fun z => .bl (match z with | .tup l => decide (l.length < 7) | _ => false), fun z acc hz => ?_, ?_⟩
    · obtain ⟨l, hl, rfl⟩ := List.mem_map.mp hz
      refine ⟨[3], _, fun s H C cl fp => jg_name 3 S_small.nd rfl, fun _ h => h, fun s H C cl fp => jts_nil ⟨rfl, fun _ s H C cl fp => ?_⟩⟩
      refine j_cmp (j_lenT T.len (j_var 3 rfl rfl ⟨l, rfl, j_int ⟨_, .lt _ _, ?_⟩⟩))
      show D.bl _ = D.bl _
      congr 1
      exact decide_eq_decide.mpr (by omega)
    · rw [filter_all, List.map_map]
      refine ⟨(ls.map List.length).map fun n => decide (n < 7), by rw [List.map_map, List.map_map]; rfl, fin _ ?_⟩
      rw [proc_is, decide_eq_true h8, decide_eq_true h12, Bool.true_and, Bool.true_and, hls]
      congr 1
      have hw := wide_iff t.depth (t := t) (Nat.le_refl _)
      rw [Bool.eq_iff_iff, hw, List.all_eq_true]
      constructor
      · intro h p hp u hu
        have hm : decide (((atT t p).getD .skip).kids.length < 7) ∈ (ps.map fun p => ((atT t p).getD .skip).kids.length).map fun n => decide (n < 7) := by
          rw [List.map_map]
          exact List.mem_map.mpr ⟨p, hps.mem_iff.mpr hp, rfl⟩
        have := h _ hm
        have this : decide (((atT t p).getD .skip).kids.length < 7) = true := this
        rw [hu] at this
        have := of_decide_eq_true this
        have : u.kids.length < 7 := this
        omega
      · intro h b hb
        rw [List.map_map] at hb
        obtain ⟨p, hp, rfl⟩ := List.mem_map.mp hb
        have hp := hps.mem_iff.mp hp
        obtain ⟨u, hu⟩ := paths_at hp
        have := h p hp u hu
        show decide (((atT t p).getD .skip).kids.length < 7) = true
        rw [hu]
        exact decide_eq_true (show u.kids.length < 7 by omega)
end
end A
set_option Elab.async false
set_option linter.all false
set_option maxRecDepth 100000
set_option pp.maxSteps 300
/-! The law's own changes. The walk of _law_here is printed by gen_here.py. -/
namespace A
open PySem PySem.Spec PyProof.Rows L2 E
variable [KF] [HandN 3]
section
variable {P : Program} {w : World} {K : PySem.W.Frag} [KonK K] {mg : Str → Option Value} {base : Heap}
abbrev sp_lleft : Sp := spD 2 (fun ds => ∃ (d : D) (v : Wd) (ts : List Tree) (k : Nat), ds = [d, natD k] ∧ Tr d (.node v ts) ∧ k < ts.length ∧ ts.length ≤ 1000) fun ds r => ∀ (d : D) (v : Wd) (ts : List Tree) (k : Nat) (ws : List Str), ds = [d, natD k] → Tr d (.node v ts) → v.s ∈ ws → OptTr r (leftT ws (.node v ts) k)
theorem S_lleft : FnScope ["here", "index", "kids"] ["here", "index"] (sc 86) := ⟨rfl, rfl, rfl, by decide +kernel, rfl, by decide +kernel, by decide +kernel⟩
theorem ok_lleft {f : Addr} {fd : FuncData} (F : Fun K "_law_left_out" "_law_left_out" (top 86) f fd) (T : Blt mg) : FnG P w K mg base 1 f fd ["here", "index"] sp_lleft := by
  refine ok_D (m := 1) F S_lleft rfl rfl fun cdv A outer s H E ds hr hl hp => ?_
  obtain ⟨d, v, ts, k, rfl, ht, hlt, hk⟩ := hp
  have fin : ∀ r, (∀ ws, v.s ∈ ws → OptTr r (leftT ws (.node v ts) k)) → ∀ (d' : D) (v' : Wd) (ts' : List Tree) (k' : Nat) (ws : List Str), [d, natD k] = [d', natD k'] → Tr d' (.node v' ts') → v'.s ∈ ws → OptTr r (leftT ws (.node v' ts') k') := fun r h d' v' ts' k' ws e h' hw => by
    injection e with e1 e
    injection e with e2 _
    injection e2 with e2
    subst e1
    have := h'.uniq ht
    injection this with u1 u2
    subst u1 u2
    rw [← Int.ofNat.inj e2]
    exact h ws hw
  obtain ⟨es, rfl, l, h2⟩ := ht.node_is
  have hel := l.len
  refine jss_cons (js_set 2 S_lleft.nd rfl (j_cat (j_slT (j_ixT (j_var 0 rfl rfl (j_int ⟨_, _, _, rfl, rfl, rfl, jo_n (jo_s (j_var 1 rfl rfl ⟨_, rfl, es, rfl, ?_⟩))⟩))))))
  rw [cut_to]
  refine j_slT (j_ixT (j_var 0 rfl rfl (j_int ⟨_, _, _, rfl, rfl, rfl, jo_s (j_add (j_var 1 rfl rfl (j_int ⟨_, _, rfl, rfl, _, rfl, jo_n ⟨es, rfl, _, _, rfl, rfl, ?_, ?_⟩⟩)))⟩)))
  · rw [show ((k : Nat) : Int) + 1 = ((k + 1 : Nat) : Int) from rfl, cut_from, List.length_take, List.length_drop]; omega
  rw [show ((k : Nat) : Int) + 1 = ((k + 1 : Nat) : Int) from rfl, cut_from]
  have her : TrL (es.take k ++ es.drop (k + 1)) (ts.eraseIdx k) := by
    rw [List.eraseIdx_eq_take_drop_succ]
    exact (l.take k).app (l.drop (k + 1))
  have hl1 := her.len
  have hl2 : (ts.eraseIdx k).length = ts.length - 1 := List.length_eraseIdx_of_lt hlt
  have hlt' : ∀ ws, v.s ∈ ws → leftT ws (.node v ts) k = (match ts.eraseIdx k with | [u] => some u | r => some (.node v r)) := fun ws hw => by
    rw [leftT, if_pos ⟨hw, hlt⟩]
    try rfl
  refine jss_one (js_ret (j_if (jt_cmp (j_lenT T.len (j_var 2 rfl rfl ⟨_, rfl, j_int ⟨_, .gt _ _, fun e2 => ?_, fun e2 => ?_⟩⟩)))))
  · have e2 := of_decide_eq_true e2
    refine j_tup (j_cons (j_ixT (j_var 0 rfl rfl (j_int ⟨_, _, _, rfl, rfl, rfl, j_cons (j_var 2 rfl rfl (j_nil ⟨Nat.le_of_ble_eq_true rfl, fin _ fun ws hw => ?_⟩))⟩))))
    rw [hlt' ws hw]
    have h3 : 2 ≤ (ts.eraseIdx k).length := by omega
    generalize ts.eraseIdx k = r at her h3
    match r, h3, her with
    | a :: b :: r, _, her => exact .node her (by simp)
  · have e2 := of_decide_eq_false e2
    obtain ⟨u, hu⟩ : ∃ u, ts.eraseIdx k = [u] := List.length_eq_one_iff.mp (by omega)
    rw [hu] at her hlt'
    generalize es.take k ++ es.drop (k + 1) = r at her
    cases her with
    | cons h1 h2 =>
      cases h2
      exact j_ixT (j_var 2 rfl rfl (j_int ⟨_, _, _, rfl, rfl, rfl, fin _ fun ws hw => by rw [hlt' ws hw]; exact h1⟩))
abbrev N_here : List Str := ["here", "change", "word", "elder", "newer", "at", "kids", "is_let"]
theorem S_here : FnScope N_here ["here", "change"] (sc 87) := ⟨rfl, rfl, rfl, by decide +kernel, rfl, by decide +kernel, by decide +kernel⟩
set_option maxHeartbeats 4000000 in
theorem ok_here {f : Addr} {fd : FuncData} (F : Fun K "_law_here" "_law_here" (top 87) f fd) (T : Blt mg) (cl : Cl P w K mg base 1 "_law_left_out" sp_lleft) : FnG P w K mg base 2 f fd ["here", "change"] sp_loc := by
  refine ok_D (m := 6) F S_here rfl rfl fun cdv A outer s H E ds hr hl hp => ?_
  obtain ⟨d, t, c, rfl, ht, hk⟩ := hp
  have fin : ∀ r, OptTr r (locT t c) → ∀ (d' : D) (t' : Tree) (c' : Chg), [d, chD c] = [d', chD c'] → Tr d' t' → OptTr r (locT t' c') := fun r h d' t' c' q h' => by
    injection q with q2 q
    injection q with q3 _
    subst q2
    rw [h'.uniq ht, ← chD_inj q3]
    exact h
  obtain ⟨is, e0, e1⟩ := ht.word
  cases c with
  | pl v q =>
    cases v with
    | free =>
      refine jss_cons (js_set 2 S_here.nd rfl (j_ixT (j_var 1 rfl rfl (j_int ⟨_, _, _, rfl, rfl, rfl, ?_⟩))))
      refine jss_cons (js_if (jt_cmp (j_var 2 rfl rfl (j_str ⟨_, .eqS _ _, fun e => absurd e (by decide +kernel), fun _ => jss_nil ?_⟩))))
      refine jss_cons (js_if (jt_cmp (j_var 2 rfl rfl (j_str ⟨_, .eqS _ _, fun e => absurd e (by decide +kernel), fun _ => jss_nil ?_⟩))))
      refine jss_cons (js_if (jt_cmp (j_var 2 rfl rfl (j_str ⟨_, .eqS _ _, fun _ => ?_, fun e => absurd e (by decide +kernel)⟩))))
      refine jss_one (js_ret (j_tup ?_))
      refine j_con ?_
      refine j_str ?_
      refine j_con ?_
      refine j_tup ?_
      refine j_con ?_
      refine j_var 0 rfl rfl ?_
      refine j_con ?_
      refine j_tup ?_
      refine j_con ?_
      refine j_str ?_
      refine j_nil ⟨Nat.le_of_ble_eq_true rfl, j_nil ⟨Nat.le_of_ble_eq_true rfl, j_nil ⟨Nat.le_of_ble_eq_true rfl, fin _ ?_⟩⟩⟩
      exact Tr.node (w := .pick) (.cons ht (.cons .skip .nil)) (by simp)
    | once =>
      refine jss_cons (js_set 2 S_here.nd rfl (j_ixT (j_var 1 rfl rfl (j_int ⟨_, _, _, rfl, rfl, rfl, ?_⟩))))
      refine jss_cons (js_if (jt_cmp (j_var 2 rfl rfl (j_str ⟨_, .eqS _ _, fun e => absurd e (by decide +kernel), fun _ => jss_nil ?_⟩))))
      refine jss_cons (js_if (jt_cmp (j_var 2 rfl rfl (j_str ⟨_, .eqS _ _, fun e => absurd e (by decide +kernel), fun _ => jss_nil ?_⟩))))
      refine jss_cons (js_if (jt_cmp (j_var 2 rfl rfl (j_str ⟨_, .eqS _ _, fun e => absurd e (by decide +kernel), fun _ => jss_nil ?_⟩))))
      refine jss_cons (js_if (jt_cmp (j_var 2 rfl rfl (j_str ⟨_, .eqS _ _, fun e => absurd e (by decide +kernel), fun _ => jss_nil ?_⟩))))
      refine jss_cons (js_if (jt_inD (j_var 2 rfl rfl ?_)))
      refine j_tup ?_
      refine j_con ?_
      refine j_str ?_
      refine j_con ?_
      refine j_str ?_
      refine j_nil ⟨Nat.le_of_ble_eq_true rfl, _, rfl, rfl, rfl, fun e => absurd e (by decide +kernel), fun _ => jss_nil ?_⟩
      refine jss_cons (js_if (jt_cmp (j_var 2 rfl rfl (j_str ⟨_, .eqS _ _, fun _ => ?_, fun e => absurd e (by decide +kernel)⟩))))
      refine jss_one (js_ret (j_if (jt_cmp (j_ixO (j_var 0 rfl rfl (j_int ⟨is, _, _, e0, rfl, e1, j_str ⟨_, .eqS _ _, fun e2 => ?_, fun e2 => j_non (fin _ ?_)⟩⟩))))))
      · have e2 := of_decide_eq_true e2
        cases ht with
        | again h => exact j_ixT (j_var 0 rfl rfl (j_int ⟨_, _, _, rfl, rfl, rfl, fin _ h⟩))
        | deed _ => exact absurd (show ("do" : Str) = "again" from e2) (by decide +kernel)
        | skip => exact absurd (show ("skip" : Str) = "again" from e2) (by decide +kernel)
        | kon _ => exact absurd (show ("skip" : Str) = "again" from e2) (by decide +kernel)
        | @node w _ _ _ _ => exact absurd e2 w.ne.2.2
      · have e2 := of_decide_eq_false e2
        cases t with
        | again u => exact absurd rfl e2
        | _ => exact OptTr.none
    | order =>
      refine jss_cons (js_set 2 S_here.nd rfl (j_ixT (j_var 1 rfl rfl (j_int ⟨_, _, _, rfl, rfl, rfl, ?_⟩))))
      refine jss_cons (js_if (jt_cmp (j_var 2 rfl rfl (j_str ⟨_, .eqS _ _, fun e => absurd e (by decide +kernel), fun _ => jss_nil ?_⟩))))
      refine jss_cons (js_if (jt_cmp (j_var 2 rfl rfl (j_str ⟨_, .eqS _ _, fun e => absurd e (by decide +kernel), fun _ => jss_nil ?_⟩))))
      refine jss_cons (js_if (jt_cmp (j_var 2 rfl rfl (j_str ⟨_, .eqS _ _, fun e => absurd e (by decide +kernel), fun _ => jss_nil ?_⟩))))
      refine jss_cons (js_if (jt_cmp (j_var 2 rfl rfl (j_str ⟨_, .eqS _ _, fun e => absurd e (by decide +kernel), fun _ => jss_nil ?_⟩))))
      refine jss_cons (js_if (jt_inD (j_var 2 rfl rfl ?_)))
      refine j_tup ?_
      refine j_con ?_
      refine j_str ?_
      refine j_con ?_
      refine j_str ?_
      refine j_nil ⟨Nat.le_of_ble_eq_true rfl, _, rfl, rfl, rfl, fun _ => ?_, fun e => absurd e (by decide +kernel)⟩
      refine jss_cons (js_tg (j_if (jt_cmp (j_var 2 rfl rfl (j_str ⟨_, .eqS _ _, fun e => absurd e (by decide +kernel), fun _ => j_tup ?_⟩)))))
      refine j_con ?_
      refine j_str ?_
      refine j_con ?_
      refine j_str ?_
      refine j_nil ⟨Nat.le_of_ble_eq_true rfl, _, _, jg_tup rfl (jgs_cons (jg_name 3 S_here.nd rfl) (jgs_cons (jg_name 4 S_here.nd rfl) jgs_nil)), ?_⟩
      refine jss_one (js_ret (j_if (jt_cmp (j_ixO (j_var 0 rfl rfl (j_int ⟨is, _, _, e0, rfl, e1, j_var 3 rfl rfl ⟨_, .eqS _ _, fun e2 => ?_, fun e2 => j_non (fin _ ?_)⟩⟩))))))
      · obtain ⟨es, ts, rfl, rfl, l, h2⟩ := ht.side (of_decide_eq_true e2)
        exact j_tup (j_cons (j_var 4 rfl rfl (j_cons (j_ixT (j_var 0 rfl rfl (j_int ⟨_, _, _, rfl, rfl, rfl, j_nil ⟨Nat.le_of_ble_eq_true rfl, fin _ (Tr.node (w := .row) l h2)⟩⟩))))))
      · have e2 := of_decide_eq_false e2
        cases t with
        | node w ts =>
          cases w with
          | sides => exact absurd rfl e2
          | _ => exact OptTr.none
        | _ => exact OptTr.none
    | round =>
      refine jss_cons (js_set 2 S_here.nd rfl (j_ixT (j_var 1 rfl rfl (j_int ⟨_, _, _, rfl, rfl, rfl, ?_⟩))))
      refine jss_cons (js_if (jt_cmp (j_var 2 rfl rfl (j_str ⟨_, .eqS _ _, fun e => absurd e (by decide +kernel), fun _ => jss_nil ?_⟩))))
      refine jss_cons (js_if (jt_cmp (j_var 2 rfl rfl (j_str ⟨_, .eqS _ _, fun e => absurd e (by decide +kernel), fun _ => jss_nil ?_⟩))))
      refine jss_cons (js_if (jt_cmp (j_var 2 rfl rfl (j_str ⟨_, .eqS _ _, fun e => absurd e (by decide +kernel), fun _ => jss_nil ?_⟩))))
      refine jss_cons (js_if (jt_cmp (j_var 2 rfl rfl (j_str ⟨_, .eqS _ _, fun _ => ?_, fun e => absurd e (by decide +kernel)⟩))))
      exact jss_one (js_ret (j_tup (j_cons (j_str (j_cons (j_var 0 rfl rfl (j_nil ⟨Nat.le_of_ble_eq_true rfl, fin _ (Tr.again ht)⟩)))))))
    | sides =>
      refine jss_cons (js_set 2 S_here.nd rfl (j_ixT (j_var 1 rfl rfl (j_int ⟨_, _, _, rfl, rfl, rfl, ?_⟩))))
      refine jss_cons (js_if (jt_cmp (j_var 2 rfl rfl (j_str ⟨_, .eqS _ _, fun e => absurd e (by decide +kernel), fun _ => jss_nil ?_⟩))))
      refine jss_cons (js_if (jt_cmp (j_var 2 rfl rfl (j_str ⟨_, .eqS _ _, fun e => absurd e (by decide +kernel), fun _ => jss_nil ?_⟩))))
      refine jss_cons (js_if (jt_cmp (j_var 2 rfl rfl (j_str ⟨_, .eqS _ _, fun e => absurd e (by decide +kernel), fun _ => jss_nil ?_⟩))))
      refine jss_cons (js_if (jt_cmp (j_var 2 rfl rfl (j_str ⟨_, .eqS _ _, fun e => absurd e (by decide +kernel), fun _ => jss_nil ?_⟩))))
      refine jss_cons (js_if (jt_inD (j_var 2 rfl rfl ?_)))
      refine j_tup ?_
      refine j_con ?_
      refine j_str ?_
      refine j_con ?_
      refine j_str ?_
      refine j_nil ⟨Nat.le_of_ble_eq_true rfl, _, rfl, rfl, rfl, fun _ => ?_, fun e => absurd e (by decide +kernel)⟩
      refine jss_cons (js_tg (j_if (jt_cmp (j_var 2 rfl rfl (j_str ⟨_, .eqS _ _, fun _ => j_tup ?_, fun e => absurd e (by decide +kernel)⟩)))))
      refine j_con ?_
      refine j_str ?_
      refine j_con ?_
      refine j_str ?_
      refine j_nil ⟨Nat.le_of_ble_eq_true rfl, _, _, jg_tup rfl (jgs_cons (jg_name 3 S_here.nd rfl) (jgs_cons (jg_name 4 S_here.nd rfl) jgs_nil)), ?_⟩
      refine jss_one (js_ret (j_if (jt_cmp (j_ixO (j_var 0 rfl rfl (j_int ⟨is, _, _, e0, rfl, e1, j_var 3 rfl rfl ⟨_, .eqS _ _, fun e2 => ?_, fun e2 => j_non (fin _ ?_)⟩⟩))))))
      · obtain ⟨es, ts, rfl, rfl, l, h2⟩ := ht.row (of_decide_eq_true e2)
        exact j_tup (j_cons (j_var 4 rfl rfl (j_cons (j_ixT (j_var 0 rfl rfl (j_int ⟨_, _, _, rfl, rfl, rfl, j_nil ⟨Nat.le_of_ble_eq_true rfl, fin _ (Tr.node (w := .sides) l h2)⟩⟩))))))
      · have e2 := of_decide_eq_false e2
        cases t with
        | node w ts =>
          cases w with
          | row => exact absurd rfl e2
          | _ => exact OptTr.none
        | _ => exact OptTr.none
  | ix v q k =>
    cases v with
    | lose =>
      refine jss_cons (js_set 2 S_here.nd rfl (j_ixT (j_var 1 rfl rfl (j_int ⟨_, _, _, rfl, rfl, rfl, ?_⟩))))
      refine jss_cons (js_if (jt_cmp (j_var 2 rfl rfl (j_str ⟨_, .eqS _ _, fun e => absurd e (by decide +kernel), fun _ => jss_nil ?_⟩))))
      refine jss_cons (js_if (jt_cmp (j_var 2 rfl rfl (j_str ⟨_, .eqS _ _, fun e => absurd e (by decide +kernel), fun _ => jss_nil ?_⟩))))
      refine jss_cons (js_if (jt_cmp (j_var 2 rfl rfl (j_str ⟨_, .eqS _ _, fun e => absurd e (by decide +kernel), fun _ => jss_nil ?_⟩))))
      refine jss_cons (js_if (jt_cmp (j_var 2 rfl rfl (j_str ⟨_, .eqS _ _, fun e => absurd e (by decide +kernel), fun _ => jss_nil ?_⟩))))
      refine jss_cons (js_if (jt_inD (j_var 2 rfl rfl ?_)))
      refine j_tup ?_
      refine j_con ?_
      refine j_str ?_
      refine j_con ?_
      refine j_str ?_
      refine j_nil ⟨Nat.le_of_ble_eq_true rfl, _, rfl, rfl, rfl, fun e => absurd e (by decide +kernel), fun _ => jss_nil ?_⟩
      refine jss_cons (js_if (jt_cmp (j_var 2 rfl rfl (j_str ⟨_, .eqS _ _, fun e => absurd e (by decide +kernel), fun _ => jss_nil ?_⟩))))
      refine jss_cons (js_if (jt_cmp (j_var 2 rfl rfl (j_str ⟨_, .eqS _ _, fun e => absurd e (by decide +kernel), fun _ => jss_nil ?_⟩))))
      have tl : ∀ (b : Bool) {O : Out}, O.rt = (fun r => ∀ (d' : D) (t' : Tree) (c' : Chg), [d, chD (.ix .lose q k)] = [d', chD c'] → Tr d' t' → OptTr r (locT t' c')) → b = decide (t.word ∈ (["row", "sides"] : List Str)) → Sr [.d d, .d (chD (.ix .lose q k)), .d (.str "lose"), .u, .u, .u, .u, .d (.bl b)] [] (wSs (cx P w K mg base N_here "_law_here" (top 87) f cdv A outer s H E) ((defBody (top 87)).drop 9)) O := fun b {O} hO hb => by
        subst hb
        refine jss_one (js_ret (j_if (jt_w (jw_and (jt_val (j_var 7 rfl rfl ⟨_, rfl, fun e => ?_, fun e => ⟨fun z => (by cases z), fun _ => j_non ?_⟩⟩))))))
        · obtain ⟨w0, es, ts, rfl, rfl, l, h2⟩ := ht.two (of_decide_eq_true e) (by decide +kernel) (by decide +kernel) (by decide +kernel)
          have hel := l.len
          have hk : ts.length ≤ 1000 := hk
          refine jw_and1 (jt_cmp (j_ixT (j_var 1 rfl rfl (j_int ⟨_, _, _, rfl, rfl, rfl, j_lenT T.len (j_ixT (j_var 0 rfl rfl (j_int ⟨_, _, _, rfl, rfl, rfl, es, rfl, _, .lt _ _, fun e3 => ?_, fun e3 => j_non ?_⟩)))⟩))))
          · have e3 := of_decide_eq_true e3
            refine j_call cl hr (by decide) (j_cons (j_var 0 rfl rfl (j_cons (j_ixT (j_var 1 rfl rfl (j_int ⟨_, _, _, rfl, rfl, rfl, j_nil ⟨rfl, ⟨_, w0, ts, k, rfl, .node l h2, by omega, hk⟩, fun r hd => ?_⟩⟩))))))
            rw [hO]
            refine fin _ ?_
            have h := hd _ w0 ts k ["row", "sides"] rfl (.node l h2) (of_decide_eq_true e)
            exact h
          · have e3 := of_decide_eq_false e3
            rw [hO]
            refine fin _ ?_
            rw [show locT (.node w0 ts) (.ix .lose q k) = leftT ["row", "sides"] (.node w0 ts) k from rfl, leftT, if_neg fun z => e3 (by have := z.2; omega)]
            exact OptTr.none
        · have e := of_decide_eq_false e
          rw [hO]
          refine fin _ ?_
          show OptTr _ (leftT ["row", "sides"] _ _)
          cases t with
          | node w0 ts => rw [leftT, if_neg fun z => e z.1]; exact OptTr.none
          | _ => exact OptTr.none
      refine jss_cons (js_set 7 S_here.nd rfl (j_if (jt_cmp (j_var 2 rfl rfl (j_str ⟨_, .eqS _ _, fun e => absurd e (by decide +kernel), fun _ => j_inD (j_ixO (j_var 0 rfl rfl (j_int ⟨is, _, _, e0, rfl, e1, ?_⟩)))⟩)))))
      refine j_tup ?_
      refine j_con ?_
      refine j_str ?_
      refine j_con ?_
      refine j_str ?_
      refine j_nil ⟨Nat.le_of_ble_eq_true rfl, _, rfl, rfl, rfl, tl _ rfl ?_⟩
      exact inD_strs ["row", "sides"]
    | shut =>
      refine jss_cons (js_set 2 S_here.nd rfl (j_ixT (j_var 1 rfl rfl (j_int ⟨_, _, _, rfl, rfl, rfl, ?_⟩))))
      refine jss_cons (js_if (jt_cmp (j_var 2 rfl rfl (j_str ⟨_, .eqS _ _, fun e => absurd e (by decide +kernel), fun _ => jss_nil ?_⟩))))
      refine jss_cons (js_if (jt_cmp (j_var 2 rfl rfl (j_str ⟨_, .eqS _ _, fun e => absurd e (by decide +kernel), fun _ => jss_nil ?_⟩))))
      refine jss_cons (js_if (jt_cmp (j_var 2 rfl rfl (j_str ⟨_, .eqS _ _, fun e => absurd e (by decide +kernel), fun _ => jss_nil ?_⟩))))
      refine jss_cons (js_if (jt_cmp (j_var 2 rfl rfl (j_str ⟨_, .eqS _ _, fun e => absurd e (by decide +kernel), fun _ => jss_nil ?_⟩))))
      refine jss_cons (js_if (jt_inD (j_var 2 rfl rfl ?_)))
      refine j_tup ?_
      refine j_con ?_
      refine j_str ?_
      refine j_con ?_
      refine j_str ?_
      refine j_nil ⟨Nat.le_of_ble_eq_true rfl, _, rfl, rfl, rfl, fun e => absurd e (by decide +kernel), fun _ => jss_nil ?_⟩
      refine jss_cons (js_if (jt_cmp (j_var 2 rfl rfl (j_str ⟨_, .eqS _ _, fun e => absurd e (by decide +kernel), fun _ => jss_nil ?_⟩))))
      refine jss_cons (js_if (jt_cmp (j_var 2 rfl rfl (j_str ⟨_, .eqS _ _, fun e => absurd e (by decide +kernel), fun _ => jss_nil ?_⟩))))
      have tl : ∀ (b : Bool) {O : Out}, O.rt = (fun r => ∀ (d' : D) (t' : Tree) (c' : Chg), [d, chD (.ix .shut q k)] = [d', chD c'] → Tr d' t' → OptTr r (locT t' c')) → b = decide (t.word ∈ (["pick"] : List Str)) → Sr [.d d, .d (chD (.ix .shut q k)), .d (.str "shut"), .u, .u, .u, .u, .d (.bl b)] [] (wSs (cx P w K mg base N_here "_law_here" (top 87) f cdv A outer s H E) ((defBody (top 87)).drop 9)) O := fun b {O} hO hb => by
        subst hb
        refine jss_one (js_ret (j_if (jt_w (jw_and (jt_val (j_var 7 rfl rfl ⟨_, rfl, fun e => ?_, fun e => ⟨fun z => (by cases z), fun _ => j_non ?_⟩⟩))))))
        · obtain ⟨w0, es, ts, rfl, rfl, l, h2⟩ := ht.two (of_decide_eq_true e) (by decide +kernel) (by decide +kernel) (by decide +kernel)
          have hel := l.len
          have hk : ts.length ≤ 1000 := hk
          refine jw_and1 (jt_cmp (j_ixT (j_var 1 rfl rfl (j_int ⟨_, _, _, rfl, rfl, rfl, j_lenT T.len (j_ixT (j_var 0 rfl rfl (j_int ⟨_, _, _, rfl, rfl, rfl, es, rfl, _, .lt _ _, fun e3 => ?_, fun e3 => j_non ?_⟩)))⟩))))
          · have e3 := of_decide_eq_true e3
            refine j_call cl hr (by decide) (j_cons (j_var 0 rfl rfl (j_cons (j_ixT (j_var 1 rfl rfl (j_int ⟨_, _, _, rfl, rfl, rfl, j_nil ⟨rfl, ⟨_, w0, ts, k, rfl, .node l h2, by omega, hk⟩, fun r hd => ?_⟩⟩))))))
            rw [hO]
            refine fin _ ?_
            have h := hd _ w0 ts k ["pick"] rfl (.node l h2) (of_decide_eq_true e)
            exact h
          · have e3 := of_decide_eq_false e3
            rw [hO]
            refine fin _ ?_
            rw [show locT (.node w0 ts) (.ix .shut q k) = leftT ["pick"] (.node w0 ts) k from rfl, leftT, if_neg fun z => e3 (by have := z.2; omega)]
            exact OptTr.none
        · have e := of_decide_eq_false e
          rw [hO]
          refine fin _ ?_
          show OptTr _ (leftT ["pick"] _ _)
          cases t with
          | node w0 ts => rw [leftT, if_neg fun z => e z.1]; exact OptTr.none
          | _ => exact OptTr.none
      refine jss_cons (js_set 7 S_here.nd rfl (j_if (jt_cmp (j_var 2 rfl rfl (j_str ⟨_, .eqS _ _, fun _ => j_cmp (j_ixO (j_var 0 rfl rfl (j_int ⟨is, _, _, e0, rfl, e1, j_str ⟨_, .eqS _ _, tl _ rfl ?_⟩⟩))), fun e => absurd e (by decide +kernel)⟩)))))
      exact decide_eq_decide.mpr (by simp)
    | turn =>
      refine jss_cons (js_set 2 S_here.nd rfl (j_ixT (j_var 1 rfl rfl (j_int ⟨_, _, _, rfl, rfl, rfl, ?_⟩))))
      refine jss_cons (js_if (jt_cmp (j_var 2 rfl rfl (j_str ⟨_, .eqS _ _, fun e => absurd e (by decide +kernel), fun _ => jss_nil ?_⟩))))
      refine jss_cons (js_if (jt_cmp (j_var 2 rfl rfl (j_str ⟨_, .eqS _ _, fun e => absurd e (by decide +kernel), fun _ => jss_nil ?_⟩))))
      refine jss_cons (js_if (jt_cmp (j_var 2 rfl rfl (j_str ⟨_, .eqS _ _, fun e => absurd e (by decide +kernel), fun _ => jss_nil ?_⟩))))
      refine jss_cons (js_if (jt_cmp (j_var 2 rfl rfl (j_str ⟨_, .eqS _ _, fun e => absurd e (by decide +kernel), fun _ => jss_nil ?_⟩))))
      refine jss_cons (js_if (jt_inD (j_var 2 rfl rfl ?_)))
      refine j_tup ?_
      refine j_con ?_
      refine j_str ?_
      refine j_con ?_
      refine j_str ?_
      refine j_nil ⟨Nat.le_of_ble_eq_true rfl, _, rfl, rfl, rfl, fun e => absurd e (by decide +kernel), fun _ => jss_nil ?_⟩
      refine jss_cons (js_if (jt_cmp (j_var 2 rfl rfl (j_str ⟨_, .eqS _ _, fun e => absurd e (by decide +kernel), fun _ => jss_nil ?_⟩))))
      refine jss_cons (js_if (jt_cmp (j_var 2 rfl rfl (j_str ⟨_, .eqS _ _, fun _ => ?_, fun e => absurd e (by decide +kernel)⟩))))
      refine jss_cons (js_if (jt_w (jw_or (jt_cmp (j_ixO (j_var 0 rfl rfl (j_int ⟨is, _, _, e0, rfl, e1, j_str ⟨_, .neS _ _, fun e => ?_, fun e => ⟨fun _ => jss_one (js_ret (j_non (fin _ ?_))), fun z => (by cases z)⟩⟩⟩)))))))
      · have hw : t.word = "row" := by simpa using e
        obtain ⟨es, ts, rfl, rfl, l, h2⟩ := ht.row hw
        have hel := l.len
        have hk : ts.length ≤ 1000 := hk
        refine jw_or1 (jt_cmp (j_ixT (j_var 1 rfl rfl (j_int ⟨_, _, _, rfl, rfl, rfl, j_sub (j_lenT T.len (j_ixT (j_var 0 rfl rfl (j_int ⟨_, _, _, rfl, rfl, rfl, es, rfl, j_int ⟨_, _, rfl, rfl, _, .gt _ _, fun e => jss_one (js_ret (j_non (fin _ ?_))), fun e => jss_nil ?_⟩⟩))))⟩))))
        · have e := of_decide_eq_true e
          rw [show locT (.node .row ts) (.ix .turn q k) = turnT (.node .row ts) k from rfl]
          have he : turnT (.node .row ts) k = none := by
            rw [turnT, List.getElem?_eq_none (l := ts) (i := k + 1) (by omega)]
            cases ts[k]? <;> rfl
          rw [he]
          exact OptTr.none
        · have e := of_decide_eq_false e
          obtain ⟨a, ha⟩ : ∃ a, es[k]? = some a := ⟨_, List.getElem?_eq_getElem (by omega)⟩
          obtain ⟨b, hb⟩ : ∃ b, es[k + 1]? = some b := ⟨_, List.getElem?_eq_getElem (by omega)⟩
          obtain ⟨ta, hta, hta'⟩ := l.getD k ha
          obtain ⟨tb, htb, htb'⟩ := l.getD (k + 1) hb
          refine jss_cons (js_par 5 6 rfl S_here.nd rfl rfl (by decide) (j_ixT (j_var 1 rfl rfl (j_int ⟨_, _, _, rfl, rfl, rfl, j_ixT (j_var 0 rfl rfl (j_int ⟨_, _, _, rfl, rfl, rfl, ?_⟩))⟩))))
          refine jss_one (js_ret (j_tup (j_cons (j_str (j_cons (j_cat (j_cat (j_slT (j_var 6 rfl rfl (jo_n (jo_s (j_var 5 rfl rfl ⟨_, rfl, es, rfl, ?_⟩))))))))))))
          rw [cut_to]
          refine j_tup (j_cons (j_ixT (j_var 6 rfl rfl (j_add (j_var 5 rfl rfl (j_int ⟨_, _, rfl, rfl, es, _, b, rfl, rfl, ?_, ?_⟩))))))
          · exact atI_nat (n := k + 1) hb
          refine j_cons (j_ixT (j_var 6 rfl rfl (j_var 5 rfl rfl ⟨es, _, a, rfl, rfl, atI_nat ha, ?_⟩)))
          refine j_nil ⟨Nat.le_of_ble_eq_true rfl, _, _, rfl, rfl, ?_, ?_⟩
          · rw [List.length_take]; show min k es.length + 2 ≤ 100000; omega
          refine j_slT (j_var 6 rfl rfl (jo_s (j_add (j_var 5 rfl rfl (j_int ⟨_, _, rfl, rfl, _, rfl, jo_n ⟨es, rfl, _, _, rfl, rfl, ?_, ?_⟩⟩)))))
          · rw [show ((k : Nat) : Int) + 2 = ((k + 2 : Nat) : Int) from rfl, cut_from, List.length_append, List.length_take, List.length_drop]; show min k es.length + 2 + _ ≤ 100000; omega
          rw [show ((k : Nat) : Int) + 2 = ((k + 2 : Nat) : Int) from rfl, cut_from]
          refine j_nil ⟨Nat.le_of_ble_eq_true rfl, fin _ ?_⟩
          rw [show locT (.node .row ts) (.ix .turn q k) = turnT (.node .row ts) k from rfl]
          have he : turnT (.node .row ts) k = some (.node .row (ts.take k ++ [tb, ta] ++ ts.drop (k + 2))) := by rw [turnT, hta, htb]
          rw [he]
          exact Tr.node (w := .row) (((l.take k).app (.cons htb' (.cons hta' .nil))).app (l.drop (k + 2))) (by rw [List.length_append, List.length_append]; show 2 ≤ _ + 2 + _; omega)
      · show OptTr _ (turnT _ _)
        rw [turn_none (by simpa using e)]
        exact OptTr.none
end
end A
set_option Elab.async false
set_option linter.all false
set_option maxRecDepth 100000
set_option pp.maxSteps 300
/-! The law's own changed. -/
namespace A
open PySem PySem.Spec PyProof.Rows L2 E
variable [KF] [HandN 3]
section
variable {P : Program} {w : World} {K : PySem.W.Frag} [KonK K] {mg : Str → Option Value} {base : Heap}
abbrev sp_lch : Sp := spD 2 (fun ds => ∃ (d : D) (t : Tree) (c : Chg), ds = [d, chD c] ∧ Tr d t ∧ isProc t = true ∧ cntT t ≤ 25 ∧ c.path ∈ pathsT t) fun ds r => ∀ (d : D) (t : Tree) (c : Chg), ds = [d, chD c] → Tr d t → OptTr r (outT t c)
abbrev N_lch : List Str := ["procedure", "change", "is_let", "here", "found"]
theorem S_lch : FnScope N_lch ["procedure", "change"] (sc 88) := ⟨rfl, rfl, rfl, by decide +kernel, rfl, by decide +kernel, by decide +kernel⟩
theorem chD_notN (c : Chg) : E.isN (chD c) = false := by cases c <;> rfl
theorem path_mem {p : List Nat} {ps : List (List Nat)} (h : p ∈ ps) : decide ((p.map fun i : Nat => (i : Int)) ∈ ps.map fun p => p.map fun i : Nat => (i : Int)) = true := decide_eq_true (List.mem_map.mpr ⟨p, h, rfl⟩)
theorem ok_lch {f : Addr} {fd : FuncData} (F : Fun K "_law_changed" "_law_changed" (top 88) f fd) (T : Blt mg) (cp : Cl P w K mg base 32 "_law_paths" (sp_lpaths 30)) (ca : Cl P w K mg base 2 "_law_at" sp_lat) (ch : Cl P w K mg base 2 "_law_here" sp_loc) (cw : Cl P w K mg base 32 "_law_with" (sp_with 30)) (cs : Cl P w K mg base 33 "_law_is_small" sp_small) :
    FnG P w K mg base 34 f fd ["procedure", "change"] sp_lch := by
  refine ok_D (m := 3) F S_lch rfl rfl fun cdv A outer s H E ds hr hl hp => ?_
  obtain ⟨d, t, c, rfl, ht, hpr, hct, hcp⟩ := hp
  have fin : ∀ r, OptTr r (outT t c) → ∀ (d' : D) (t' : Tree) (c' : Chg), [d, chD c] = [d', chD c'] → Tr d' t' → OptTr r (outT t' c') := fun r h d' t' c' q h' => by
    injection q with q2 q
    injection q with q3 _
    subst q2
    rw [h'.uniq ht, ← chD_inj q3]
    exact h
  have hux : (cx P w K mg base N_lch "_law_changed" (top 88) f cdv A outer s H E).A.units + 64 < cLine := hu_of hr
  have hd8 := isProc_depth hpr
  obtain ⟨cs', x, ec, ex, xn⟩ := chD_word c
  obtain ⟨cs2, ec', ep⟩ := chD_path c
  obtain rfl : cs2 = cs' := by rw [ec] at ec'; injection ec' with e; exact e.symm
  obtain ⟨u, hu⟩ := paths_at hcp
  have hw := isProc_wide hpr
  have hq := isProc_path hpr hu
  refine jss_cons (js_if (jt_isN (j_var 1 rfl rfl ?_)))
  rw [chD_notN]
  refine ⟨fun z => (by cases z), fun _ => jss_nil ?_⟩
  refine jss_cons (js_if (jt_cmp (j_ixT (j_var 1 rfl rfl (j_int ⟨cs2, _, _, ec, rfl, ex, j_str ⟨_, .eqS _ _, fun e => ?_, fun e => jss_nil ?_⟩⟩)))))
  · exact absurd (of_decide_eq_true e) xn
  refine jss_cons (js_if (jt_notInL hux (j_ixT (j_var 1 rfl rfl (j_int ⟨cs2, _, _, ec, rfl, ep, j_call cp hr (by decide) (j_cons (j_var 0 rfl rfl (j_nil ⟨rfl, ⟨d, t, rfl, ht, by omega, by omega, by rw [cnt_paths]; omega⟩, fun r hd => ?_⟩)))⟩)))))
  obtain ⟨ps, rfl, hps⟩ := hd d t rfl ht
  refine ⟨_, ps.map (fun p => p.map fun i : Nat => (i : Int)), pathD_ints _, ?_, ?_⟩
  · rw [List.map_map]
    congr 1
    exact List.map_congr_left fun p _ => pathD_ints p
  rw [path_mem (hps.mem_iff.mpr hcp)]
  refine ⟨fun z => (by cases z), fun _ => jss_nil ?_⟩
  refine jss_cons (js_set 3 S_lch.nd rfl (j_call ch hr (by decide) (j_cons (j_call ca hr (by decide) (j_cons (j_var 0 rfl rfl (j_cons (j_ixT (j_var 1 rfl rfl (j_int ⟨cs2, _, _, ec, rfl, ep, j_nil ⟨rfl, ⟨d, t, c.path, u, rfl, ht, hu⟩, fun r hd => ?_⟩⟩))))))))))
  have hr1 := hd d t c.path u rfl ht hu
  refine j_cons (j_var 1 rfl rfl (j_nil ⟨rfl, ⟨r, u, c, rfl, hr1, hw _ _ hu⟩, fun r2 hd2 => ?_⟩))
  have hr2 := hd2 r u c rfl hr1
  have ho : outT t c = match locT u c with
    | none => none
    | some v => if isProc (putT t c.path v) = true then some (putT t c.path v) else none := by
    unfold outT
    rw [hu]
    try rfl
  refine jss_cons (js_if (jt_isN (j_var 3 rfl rfl ?_)))
  rw [hr2.isN]
  cases hloc : locT u c with
  | none =>
    refine ⟨fun _ => jss_one (js_ret (j_non (fin _ ?_))), fun z => (by cases z)⟩
    rw [ho, hloc]
    exact OptTr.none
  | some v =>
    rw [hloc] at hr2
    have hr2 : Tr r2 v := hr2
    refine ⟨fun z => (by cases z), fun _ => jss_nil ?_⟩
    refine jss_cons (js_set 4 S_lch.nd rfl (j_call cw hr (by decide) (j_cons (j_var 0 rfl rfl (j_cons (j_ixT (j_var 1 rfl rfl (j_int ⟨cs2, _, _, ec, rfl, ep, ?_⟩))))))))
    refine j_cons (j_var 3 rfl rfl (j_nil ⟨rfl, ⟨d, t, c.path, r2, v, rfl, ht, hr2, by omega, by rw [hu]; rfl, by omega, hw⟩, fun r3 hd3 => ?_⟩))
    have hr3 := hd3 d t c.path r2 v rfl ht hr2
    have hcn := put_cnt (x := v) hu
    have hln := loc_cnt hloc
    refine jss_one (js_ret (j_if (jt_val (j_call cs hr (by decide) (j_cons (j_var 4 rfl rfl (j_nil ⟨rfl, ⟨r3, _, rfl, hr3, by omega⟩, fun b hd4 => ?_⟩)))))))
    obtain rfl := hd4 r3 _ rfl hr3
    refine ⟨_, rfl, fun e => j_var 4 rfl rfl (fin _ ?_), fun e => j_non (fin _ ?_)⟩
    · rw [ho, hloc]
      show OptTr r3 (if _ then _ else _)
      rw [if_pos e]
      exact hr3
    · rw [ho, hloc]
      show OptTr .non (if _ then _ else _)
      rw [if_neg (by rw [e]; decide)]
      exact OptTr.none
end
/-! the law's row of changes, the program's row: the same, but for the order -/
def PW5L : List PW := [.free, .round, .sides, .once, .order]
def IW3L : List IW := [.shut, .lose, .turn]
def bareL (p : List Nat) : List Chg := PW5L.map fun v => .pl v p
def ixsL (p : List Nat) (k : Nat) : List Chg := IW3L.map fun v => .ix v p k
def someL (t : Tree) (p : List Nat) : List Chg := bareL p ++ (List.range ((atT t p).getD .skip).kids.length).flatMap (ixsL p)
theorem bare_perm (p : List Nat) : (bareL p).Perm (bareAt p) := by
  have : PW5L.Perm PW5 := by decide
  exact this.map _
open Classical in
theorem ixs_perm (p : List Nat) : ∀ n : Nat, ((List.range n).flatMap (ixsL p)).Perm (IW3.flatMap (ixsAt p n))
  | 0 => List.Perm.refl _
  | n + 1 => by
    have ih := ixs_perm p n
    rw [List.perm_iff_count] at ih ⊢
    intro x
    have h := ih x
    have e1 : (List.range (n + 1)).flatMap (ixsL p) = (List.range n).flatMap (ixsL p) ++ [.ix .shut p n, .ix .lose p n, .ix .turn p n] := by
      rw [List.range_succ, List.flatMap_append]
      rfl
    have e2 : ∀ m, IW3.flatMap (ixsAt p m) = ixsAt p m .lose ++ (ixsAt p m .shut ++ (ixsAt p m .turn ++ [])) := fun m => rfl
    have e3 : ∀ v, ixsAt p (n + 1) v = ixsAt p n v ++ [.ix v p n] := fun v => by
      unfold ixsAt
      rw [List.range_succ, List.map_append]
      rfl
    rw [e1, e2, e3, e3, e3]
    rw [e2] at h
    simp only [List.count_append, List.count_cons, List.count_nil] at h ⊢
    omega
theorem out_ix_none {t u : Tree} {p : List Nat} {v : IW} {k : Nat} (hu : atT t p = some u) (hn : ∀ w ts, u ≠ .node w ts) : outT t (.ix v p k) = none := by
  have hl : locT u (.ix v p k) = none := by
    cases u with
    | node w ts => exact absurd rfl (hn w ts)
    | _ => cases v <;> rfl
  unfold outT
  show (match atT t p with | none => none | some u => _) = none
  rw [hu]
  simp only [hl]
theorem good_perm {t : Tree} {p : List Nat} (hp : p ∈ pathsT t) : ((someL t p).filter fun c => (outT t c).isSome).Perm (goodAt t p) := by
  obtain ⟨u, hu⟩ := paths_at hp
  unfold goodAt
  by_cases h : ∃ w ts, u = .node w ts
  · obtain ⟨w, ts, rfl⟩ := h
    refine List.Perm.filter _ ?_
    rw [some_node hu]
    unfold someL
    rw [hu]
    exact (bare_perm p).append (ixs_perm p ts.length)
  · have hn : ∀ w ts, u ≠ .node w ts := fun w ts e => h ⟨w, ts, e⟩
    rw [some_bare hu hn]
    unfold someL
    rw [List.filter_append]
    have : ((List.range ((atT t p).getD .skip).kids.length).flatMap (ixsL p)).filter (fun c => (outT t c).isSome) = [] := by
      rw [List.filter_eq_nil_iff]
      intro c hc
      obtain ⟨k, _, hc⟩ := List.mem_flatMap.mp hc
      obtain ⟨v, _, rfl⟩ := List.mem_map.mp hc
      rw [out_ix_none hu hn]
      exact Bool.false_ne_true
    rw [this, List.append_nil]
    exact (bare_perm p).filter _
theorem filter_flat {α β : Type} (q : β → Bool) (f : α → List β) : ∀ l : List α, (l.flatMap f).filter q = l.flatMap fun a => (f a).filter q
  | [] => rfl
  | a :: l => by rw [List.flatMap_cons, List.flatMap_cons, List.filter_append, filter_flat q f l]
theorem flat_perm {α β : Type} {f g : α → List β} : ∀ {l : List α}, (∀ a ∈ l, (f a).Perm (g a)) → (l.flatMap f).Perm (l.flatMap g)
  | [], _ => List.Perm.refl _
  | a :: l, h => by
    rw [List.flatMap_cons, List.flatMap_cons]
    exact (h a List.mem_cons_self).append (flat_perm fun b hb => h b (List.mem_cons_of_mem _ hb))
theorem all_perm {t : Tree} {ps : List (List Nat)} (h : ps.Perm (pathsT t)) : ((ps.flatMap (someL t)).filter fun c => (outT t c).isSome).Perm (foundT t) := by
  rw [filter_flat]
  refine (flat_perm fun p hp => good_perm (h.mem_iff.mp hp)).trans ?_
  exact h.flatMap_right _
theorem someL_path {t : Tree} {p : List Nat} {c : Chg} (h : c ∈ someL t p) : c.path = p := by
  rcases List.mem_append.mp h with h | h
  · obtain ⟨v, _, rfl⟩ := List.mem_map.mp h
    rfl
  · obtain ⟨k, _, h⟩ := List.mem_flatMap.mp h
    obtain ⟨v, _, rfl⟩ := List.mem_map.mp h
    rfl
end A
set_option Elab.async false
set_option linter.all false
set_option maxRecDepth 100000
set_option pp.maxSteps 300
/-! The law's own row of changes. -/
namespace A
open PySem PySem.Spec PyProof.Rows L2 E
variable [KF] [HandN 3]
theorem good_mapD (t : Tree) : ∀ L : List Chg, (((L.map chD).filter fun z => goodP t (.d z)).map fun z => z) = (L.filter fun c => (outT t c).isSome).map chD
  | [] => rfl
  | c :: L => by
    rw [List.map_cons, List.filter_cons, List.filter_cons, goodP_is]
    split
    · rw [List.map_cons, List.map_cons, good_mapD t L]
    · exact good_mapD t L
theorem ixs_len (p : List Nat) : ∀ n : Nat, ((List.range n).flatMap (ixsL p)).length = 3 * n
  | 0 => rfl
  | n + 1 => by
    rw [List.range_succ, List.flatMap_append, List.length_append, ixs_len p n]
    show 3 * n + 3 = _
    omega
theorem someL_len {t : Tree} {p : List Nat} (h : isProc t = true) (hp : p ∈ pathsT t) : (someL t p).length ≤ 23 := by
  obtain ⟨u, hu⟩ := paths_at hp
  obtain ⟨n, hn⟩ := isProc_size h
  have h6 := (size_at hn hu).1
  unfold someL
  rw [List.length_append, ixs_len, hu]
  show 5 + 3 * u.kids.length ≤ 23
  omega
theorem flatL_len {t : Tree} (h : isProc t = true) : ∀ {ps : List (List Nat)}, (∀ p ∈ ps, p ∈ pathsT t) → (ps.flatMap (someL t)).length ≤ 23 * ps.length
  | [], _ => Nat.le_refl _
  | p :: ps, hp => by
    have := flatL_len h (ps := ps) fun q hq => hp q (List.mem_cons_of_mem _ hq)
    have := someL_len h (hp p List.mem_cons_self)
    rw [List.flatMap_cons, List.length_append, List.length_cons]
    omega
section
variable {P : Program} {w : World} {K : PySem.W.Frag} [KonK K] {mg : Str → Option Value} {base : Heap}
abbrev sp_lall : Sp := spD 1 (fun ds => ∃ (d : D) (t : Tree), ds = [d] ∧ Tr d t ∧ isProc t = true ∧ cntT t ≤ 25) fun ds r => ∀ (d : D) (t : Tree), ds = [d] → Tr d t → r = .lst ((plainC t).map chD)
abbrev N_lall : List Str := ["procedure", "found", "path", "word", "index", "change"]
theorem S_lall : FnScope N_lall ["procedure"] (sc 94) := ⟨rfl, rfl, rfl, by decide +kernel, rfl, by decide +kernel, by decide +kernel⟩
theorem ok_lall {f : Addr} {fd : FuncData} (F : Fun K "_law_all_changes" "_law_all_changes" (top 94) f fd) (T : Blt mg) (ck : Cl P w K mg base 1 "_law_kids" sp_parts) (cp : Cl P w K mg base 32 "_law_paths" (sp_lpaths 30)) (ca : Cl P w K mg base 2 "_law_at" sp_lat) (cc : Cl P w K mg base 34 "_law_changed" sp_lch) : FnG P w K mg base 35 f fd ["procedure"] sp_lall := by
  refine ok_D (m := 5) F S_lall rfl rfl fun cdv A outer s H E ds hr hl hp => ?_
  obtain ⟨d, t, rfl, ht, hpr, hct⟩ := hp
  have fin : ∀ r, r = D.lst ((plainC t).map chD) → ∀ (d' : D) (t' : Tree), [d] = [d'] → Tr d' t' → r = .lst ((plainC t').map chD) := fun r h d' t' e h' => by
    injection e with e1 _
    subst e1
    rw [h'.uniq ht]
    exact h
  have hd8 := isProc_depth hpr
  refine jss_cons (js_set 1 S_lall.nd rfl (j_lst (j_nil ⟨Nat.zero_le _, ?_⟩)))
  refine jss_cons (js_for PassesOwn.never rfl (ji_lst (j_call cp hr (by decide) (j_cons (j_var 0 rfl rfl (j_nil ⟨rfl, ⟨d, t, rfl, ht, by omega, by omega, by rw [cnt_paths]; omega⟩, fun r hd => ?_⟩))))))
  obtain ⟨ps, rfl, hps⟩ := hd d t rfl ht
  have hpl := hps.length_eq
  rw [cnt_paths] at hpl
  have hmem : ∀ p ∈ ps, p ∈ pathsT t := fun p hp => hps.mem_iff.mp hp
  have hmemt : ∀ i, ∀ p ∈ ps.take i, p ∈ pathsT t := fun i p hp => hmem p (List.mem_of_mem_take hp)
  refine ⟨_, rfl, ?_⟩
  refine ⟨fun i sl ms => ∃ t2 t4, sl = [.d d, .d (.lst (((ps.take i).flatMap (someL t)).map chD)), t2, .u, t4, .u] ∧ ms = [], ⟨.u, .u, rfl, rfl⟩, ?_, ?_⟩
  · rintro i x sl1 ms1 hx ⟨t2, t4, rfl, rfl⟩
    rw [List.getElem?_map] at hx
    cases hpi : ps[i]? with
    | none => rw [hpi] at hx; cases hx
    | some p =>
      rw [hpi] at hx
      obtain rfl : pathD p = x := Option.some.inj hx
      have hpm := hmem p (List.mem_of_getElem? hpi)
      obtain ⟨u, hu⟩ := paths_at hpm
      have h6 : u.kids.length ≤ 6 := by
        obtain ⟨n, hn⟩ := isProc_size hpr
        exact (size_at hn hu).1
      have hG := flatL_len hpr (hmemt i)
      have hGl : (ps.take i).length ≤ 25 := by rw [List.length_take]; omega
      have hft := flat_take (f := someL t) hpi
      generalize (ps.take i).flatMap (someL t) = G at hG hft
      have hso : someL t p = bareL p ++ (List.range u.kids.length).flatMap (ixsL p) := by
        unfold someL
        rw [hu]
        try rfl
      refine ⟨_, _, jg_name 2 S_lall.nd rfl, ?_⟩
      refine jss_cons (js_set 1 S_lall.nd rfl (j_catL (j_var 1 rfl rfl (El.er' (jl_lcF [("word", 3)] rfl S_lall.nd (blkOk_by (N := N_lall) (sc := sc 94) (by decide +kernel)) (own1 rfl) (ji_tup ?_))))))
      refine j_tup ?_
      refine j_con ?_
      refine j_str ?_
      refine j_con ?_
      refine j_str ?_
      refine j_con ?_
      refine j_str ?_
      refine j_con ?_
      refine j_str ?_
      refine j_con ?_
      refine j_str ?_
      refine j_nil ⟨Nat.le_of_ble_eq_true rfl, _, rfl, Nat.lt_of_lt_of_le (show 5 < 6 by decide) (by decide), fun _ => true, fun z => .tup [z, pathD p], fun z acc hz => ?_, ?_⟩
      · exact ⟨[3], _, fun s H C cl fp => jg_name 3 S_lall.nd rfl, fun _ h => h, fun s H C cl fp => jts_nil ⟨rfl, fun _ s H C cl fp => j_tup (j_cons (j_var 3 rfl rfl (j_cons (j_var 2 rfl rfl (j_nil ⟨Nat.le_of_ble_eq_true rfl, rfl⟩)))))⟩⟩
      rw [filter_all]
      refine ⟨_, (bareL p).map chD, rfl, rfl, ?_, ?_⟩
      · rw [List.length_map, List.length_map]
        show _ + 5 ≤ _
        omega
      rw [← List.map_append]
      refine jss_one (js_for PassesOwn.never rfl (ji_range T.range (j_lenT T.len (j_call ck hr (by decide) (j_cons (j_call ca hr (by decide) (j_cons (j_var 0 rfl rfl (j_cons (j_var 2 rfl rfl (j_nil ⟨rfl, ⟨d, t, p, u, rfl, ht, hu⟩, fun r hd => ?_⟩)))))))))))
      have hru := hd d t p u rfl ht hu
      refine j_nil ⟨rfl, ⟨r, u, rfl, hru⟩, fun r2 hd2 => ?_⟩
      obtain ⟨es, rfl, hes⟩ := hd2 r u rfl hru
      have hel := hes.len
      refine ⟨es, rfl, es.length, rfl, by omega, ?_⟩
      have hnl : (numbers es.length).length = es.length := by unfold numbers; simp
      refine ⟨fun n sl ms => ∃ t4, sl = [.d d, .d (.lst ((G ++ bareL p ++ (List.range n).flatMap (ixsL p)).map chD)), .d (pathD p), .u, t4, .u] ∧ ms = [], ⟨_, by rw [show (List.range 0).flatMap (ixsL p) = [] from rfl, List.append_nil]; rfl, rfl⟩, ?_, ?_⟩
      · rintro n y sl1 ms1 hy ⟨t4, rfl, rfl⟩
        have hn : n < es.length := by rw [← hnl]; exact (List.getElem?_eq_some_iff.mp hy).1
        obtain rfl : natD n = y := by
          unfold numbers at hy
          rw [List.getElem?_map, List.getElem?_range hn] at hy
          exact Option.some.inj hy
        refine ⟨_, _, jg_name 4 S_lall.nd rfl, ?_⟩
        refine jss_one (js_set 1 S_lall.nd rfl (j_catL (j_var 1 rfl rfl (El.er' (jl_lcF [("word", 3)] rfl S_lall.nd (blkOk_by (N := N_lall) (sc := sc 94) (by decide +kernel)) (own1 rfl) (ji_tup ?_))))))
        refine j_tup ?_
        refine j_con ?_
        refine j_str ?_
        refine j_con ?_
        refine j_str ?_
        refine j_con ?_
        refine j_str ?_
        refine j_nil ⟨Nat.le_of_ble_eq_true rfl, _, rfl, Nat.lt_of_lt_of_le (show 3 < 6 by decide) (by decide), fun _ => true, fun z => .tup [z, pathD p, natD n], fun z acc hz => ?_, ?_⟩
        · exact ⟨[3], _, fun s H C cl fp => jg_name 3 S_lall.nd rfl, fun _ h => h, fun s H C cl fp => jts_nil ⟨rfl, fun _ s H C cl fp => j_tup (j_cons (j_var 3 rfl rfl (j_cons (j_var 2 rfl rfl (j_cons (j_var 4 rfl rfl (j_nil ⟨Nat.le_of_ble_eq_true rfl, rfl⟩)))))))⟩⟩
        rw [filter_all]
        refine ⟨_, (ixsL p n).map chD, rfl, rfl, ?_, .d (natD n), ?_, rfl⟩
        · rw [List.length_map, List.length_map, List.length_append, List.length_append, ixs_len]
          show _ + 5 + _ + 3 ≤ _
          omega
        · rw [List.range_succ, List.flatMap_append, ← List.append_assoc, List.map_append (l₂ := [n].flatMap (ixsL p)), show [n].flatMap (ixsL p) = ixsL p n by simp]
          rfl
      · rintro sl1 ms1 ⟨t4, rfl, rfl⟩
        rw [hnl, hel]
        refine ⟨.d (pathD p), t4, ?_, rfl⟩
        rw [hft, hso, List.append_assoc]
  · rintro sl1 ms1 ⟨t2, t4, rfl, rfl⟩
    rw [List.length_map, List.take_length]
    have hG := flatL_len hpr hmem
    have hpm := all_perm hps
    refine jss_one (js_ret (j_sortD (hu100 hr) T.sorted (El.er' (jl_lcF [("change", 5)] rfl S_lall.nd (blkOk_by (N := N_lall) (sc := sc 94) (by decide +kernel)) (own1 rfl) (ji_lst (j_var 1 rfl rfl ⟨_, rfl, ?_⟩))))))
    refine ⟨by rw [List.length_map]; omega, fun z => goodP t (.d z), fun z => z, fun z acc hz => ?_, ?_⟩
    · obtain ⟨c, hc, rfl⟩ := List.mem_map.mp hz
      obtain ⟨p, hp, hc⟩ := List.mem_flatMap.mp hc
      have hcp := someL_path hc
      refine ⟨[5], _, fun s H C cl fp => jg_name 5 S_lall.nd rfl, fun _ h => h, fun s H C cl fp => jts_one (jt_notN (j_call cc hr (by decide) (j_cons (j_var 0 rfl rfl (j_cons (j_var 5 rfl rfl (j_nil ⟨rfl, ⟨d, t, c, rfl, ht, hpr, hct, by rw [hcp]; exact hmem p hp⟩, fun r hd => ?_⟩)))))))⟩
      have h := hd d t c rfl ht
      rw [h.isN, Bool.not_not]
      exact ⟨(goodP_is t c).symm, fun _ s H C cl fp => j_var 5 rfl rfl rfl⟩
    · rw [good_mapD]
      refine ⟨_, rfl, canSort _ ?_, fin _ ?_⟩
      · exact Nat.le_trans (List.length_filter_le _ _) (by omega)
      · rw [sortD_map, sortC_perm hpm]
        rfl
end
end A
set_option Elab.async false
set_option linter.all false
set_option maxRecDepth 100000
set_option pp.maxSteps 300
/-! The law's own told. -/
namespace A
open PySem PySem.Spec PyProof.Rows L2 E
variable [KF] [HandN 3]
theorem some_path {t : Tree} {p : List Nat} {c : Chg} (h : c ∈ someAt t p) : c.path = p := by
  have hb : ∀ {c}, c ∈ bareAt p → c.path = p := fun {c} h => by
    obtain ⟨v, _, rfl⟩ := List.mem_map.mp h
    rfl
  unfold someAt at h
  split at h
  · rcases List.mem_append.mp h with h | h
    · exact hb h
    · obtain ⟨v, _, h⟩ := List.mem_flatMap.mp h
      obtain ⟨k, _, rfl⟩ := List.mem_map.mp h
      rfl
  · exact hb h
theorem plain_path {t : Tree} {c : Chg} (h : c ∈ plainC t) : c.path ∈ pathsT t := by
  have h : c ∈ foundT t := sortC_mem.mp h
  obtain ⟨p, hp, h⟩ := List.mem_flatMap.mp h
  rw [some_path (List.mem_filter.mp h).1]
  exact hp
/-- the law's fronts as data -/
inductive FrL : List D → List (Tree × Row) → Prop
  | nil : FrL [] []
  | cons {d : D} {t : Tree} {r : Row} {ds : List D} {fr : List (Tree × Row)} : Tr d t → FrL ds fr → FrL (.tup [rowD r, d] :: ds) ((t, r) :: fr)
theorem FrL.len : ∀ {ds : List D} {fr : List (Tree × Row)}, FrL ds fr → ds.length = fr.length
  | _, _, .nil => rfl
  | _, _, .cons _ l => congrArg (· + 1) (FrL.len l)
theorem FrL.app : ∀ {ds es : List D} {fr gr : List (Tree × Row)}, FrL ds fr → FrL es gr → FrL (ds ++ es) (fr ++ gr)
  | _, _, _, _, .nil, s => s
  | _, _, _, _, .cons h l, s => .cons h (FrL.app l s)
theorem FrL.get : ∀ {ds : List D} {fr : List (Tree × Row)} (i : Nat) {x : D}, FrL ds fr → ds[i]? = some x → ∃ d t r, fr[i]? = some (t, r) ∧ x = .tup [rowD r, d] ∧ Tr d t
  | _, _, 0, _, .cons h _, e => by cases e; exact ⟨_, _, _, rfl, rfl, h⟩
  | _, _, i + 1, _, .cons _ l, e => FrL.get i l (by simpa using e)
def hitL (n : PyData) : D → Bool
  | .tup [_, d] => PyData.eqv (toP d) n
  | _ => false
def rowL : D → D
  | .tup [r, _] => r
  | _ => .non
theorem FrL.hits {n : Tree} : ∀ {ds : List D} {fr : List (Tree × Row)}, FrL ds fr → (ds.filter (hitL (treeP n))).map rowL = (hitsF n fr).map rowD
  | _, _, .nil => rfl
  | _, _, .cons (d := d) (t := t) (r := r) (ds := ds) (fr := fr) h l => by
    have ih := FrL.hits (n := n) l
    have e : hitL (treeP n) (.tup [rowD r, d]) = PyData.eqv (treeP t) (treeP n) := by show PyData.eqv (toP d) _ = _; rw [h.toP]
    unfold hitsF at ih ⊢
    rw [List.filter_cons, List.filter_cons, e]
    split
    · rw [List.map_cons, List.map_cons, List.map_cons, ih]; rfl
    · exact ih
section
variable {P : Program} {w : World} {K : PySem.W.Frag} [KonK K] {mg : Str → Option Value} {base : Heap}
abbrev sp_ltold : Sp := spD 3 (fun ds => ∃ (d d' : D) (t n : Tree) (m : Nat), ds = [d, d', natD m] ∧ Tr d t ∧ Tr d' n ∧ isProc t = true ∧ isProc n = true ∧ cntT t ≤ 6 ∧ m ≤ 2) fun ds r => ∀ (d d' : D) (t n : Tree) (m : Nat), ds = [d, d', natD m] → Tr d t → Tr d' n → OptR r (changesT t n m)
abbrev N_ltold : List Str := ["elder", "newer", "most", "layer", "many", "some", "row", "procedure", "longer", "change"]
theorem S_ltold : FnScope N_ltold ["elder", "newer", "most"] (sc 95) := ⟨rfl, rfl, rfl, by decide +kernel, rfl, by decide +kernel, by decide +kernel⟩
theorem ok_ltold {f : Addr} {fd : FuncData} (F : Fun K "_law_told" "_law_told" (top 95) f fd) (T : Blt mg) (cp : Cl P w K mg base 35 "_law_all_changes" sp_lall) (co : Cl P w K mg base 34 "_law_changed" sp_lch) : FnG P w K mg base 36 f fd ["elder", "newer", "most"] sp_ltold := by
  refine ok_D (m := 7) F S_ltold rfl rfl fun cdv A outer s H E ds hr hl hp => ?_
  obtain ⟨d, d', t, n, m, rfl, ht, hn, hpt, hpn, hct, hm⟩ := hp
  have fin : ∀ r, OptR r (changesT t n m) → ∀ (d1 d2 : D) (t' n' : Tree) (m' : Nat), [d, d', natD m] = [d1, d2, natD m'] → Tr d1 t' → Tr d2 n' → OptR r (changesT t' n' m') := fun r h d1 d2 t' n' m' e h1 h2 => by
    injection e with e1 e
    injection e with e2 e
    injection e with e3 _
    injection e3 with e3
    subst e1 e2
    rw [h1.uniq ht, h2.uniq hn, ← Int.ofNat.inj e3]
    exact h
  have hux : (cx P w K mg base N_ltold "_law_told" (top 95) f cdv A outer s H E).A.units + 64 < cLine := hu_of hr
  refine jss_cons (js_setL 3 S_ltold.nd rfl (jl_lst (j_cons (j_tup (j_cons (j_tup (j_nil ⟨Nat.zero_le _, j_cons (j_var 0 rfl rfl (j_nil ⟨Nat.le_of_ble_eq_true rfl, j_nil ⟨Nat.le_of_ble_eq_true rfl, ?_⟩⟩))⟩)))))))
  refine jss_cons (js_for PassesOwn.never rfl (ji_range T.range (j_add (j_var 2 rfl rfl (j_int ⟨_, _, rfl, rfl, m + 1, rfl, by omega, ?_⟩)))))
  refine ⟨fun i sl ms => ∃ t4 t5 t6 t7 t8 js ds, sl = [.d d, .d d', .d (natD m), .m js.length, t4, t5, t6, t7, t8, .u] ∧ ms = js ++ [.l ds] ∧
    ((i ≤ m ∧ ∃ fr, FrL ds fr ∧ (∀ x ∈ fr, FrOk t i x) ∧ fr.length ≤ frB i ∧ changesT t n m = toldT n (m - i) fr) ∨ (i = m + 1 ∧ changesT t n m = none)),
    ⟨.u, .u, .u, .u, .u, [], _, rfl, rfl, .inl ⟨Nat.zero_le _, [(t, [])], .cons (r := []) ht .nil, fun x hx => ?_, Nat.le_refl 1, rfl⟩⟩, ?_, ?_⟩
  · obtain rfl : x = (t, []) := by simpa using hx
    exact ⟨.nil, rfl, hpt, Nat.le_refl _⟩
  · rintro i x sl1 ms1 hx ⟨t4, t5, t6, t7, t8, js, ds, rfl, rfl, hst⟩
    have hnl : (numbers (m + 1)).length = m + 1 := by unfold numbers; simp
    have him : i < m + 1 := by rw [← hnl]; exact (List.getElem?_eq_some_iff.mp hx).1
    obtain rfl : natD i = x := by
      unfold numbers at hx
      rw [List.getElem?_map, List.getElem?_range him] at hx
      exact Option.some.inj hx
    obtain ⟨hi, fr, hfd, hok, hfl, hch⟩ := hst.resolve_right (fun z => by omega)
    have hdl := hfd.len
    have hfl2 : fr.length ≤ 30000 := Nat.le_trans hfl (by
      match i with
      | 0 => decide
      | 1 => decide
      | i + 2 => exact Nat.le_refl _)
    refine ⟨_, _, jg_name 4 S_ltold.nd rfl, ?_⟩
    refine Sr.less (sl' := [.d d, .d d', .d (natD m), .m js.length, .d (natD i), .u, .u, .u, .u, .u]) ?_ (Less.keep (Less.keep (Less.keep (Less.keep (Less.keep (Less.drop (Less.drop (Less.drop (Less.drop (Less.keep Less.nil))))))))))
    have hk : (js ++ [Ob.l ds])[js.length]? = some (.l ds) := by rw [List.getElem?_append_right (Nat.le_refl _)]; simp
    refine jss_cons (js_lcF 5 [("row", 6), ("procedure", 7)] rfl S_ltold.nd rfl (blkOk_by (N := N_ltold) (sc := sc 95) (by decide +kernel)) (own2 rfl rfl) (ji_ownD (k := js.length) (ds := ds) hk (jo_var 3 rfl rfl ⟨rfl, rfl⟩) ⟨by omega, hitL (treeP n), rowL, fun z acc hz => ?_, ?_⟩))
    · obtain ⟨a, ha⟩ := List.getElem?_of_mem hz
      obtain ⟨y, u, r, h1, rfl, h2⟩ := hfd.get a ha
      have hfo := hok _ (List.mem_of_getElem? h1)
      refine ⟨_, _, fun s H C cl fp => jg_tup rfl (jgs_cons (jg_name 6 S_ltold.nd rfl) (jgs_cons (jg_name 7 S_ltold.nd rfl) jgs_nil)), fun _ h => h, fun s H C cl fp => jts_one (jt_eqA hux (j_var 7 rfl rfl (j_var 1 rfl rfl ⟨h2.shaped hfo.pr, hn.shaped hpn, ?_⟩)))⟩
      refine ⟨?_, fun _ s H C cl fp => j_var 6 rfl rfl rfl⟩
      show _ = PyData.eqv (_root_.E.toP y) (treeP n)
      rw [hn.toP]
    rw [hfd.hits]
    cases hh : hitsF n fr with
    | cons r0 rs =>
      rw [told_hit hh] at hch
      refine jss_cons (js_if (jt_cmp (j_len T.len (j_var 5 rfl rfl ⟨_, .inr ⟨_, rfl, rfl⟩, j_int ⟨_, .gt _ _, fun _ => ?_, fun e => ?_⟩⟩))))
      · refine jss_one (js_ret (j_minD (hr.mono (Nat.zero_le _)) rfl T.min (j_var 5 rfl rfl ⟨rowD r0, rs.map rowD, rfl, rowsD_alike (r0 :: rs), Nat.le_trans (rowsD_depth (r0 :: rs)) (by decide), fun a z hz hd => fin _ ?_⟩)))
        have hm : z ∈ (r0 :: rs).map rowD := List.mem_of_getElem? hz
        obtain ⟨r1, h1, rfl⟩ := List.mem_map.mp hm
        have : r1 = minR r0 rs := rowP_inj (hd.trans (minR_is rs r0))
        rw [hch, this]
        exact OptR.some
      · exact absurd (of_decide_eq_false e) (by rw [List.length_map, List.length_cons]; omega)
    | nil =>
      refine jss_cons (js_if (jt_cmp (j_len T.len (j_var 5 rfl rfl ⟨_, .inr ⟨_, rfl, rfl⟩, j_int ⟨_, .gt _ _, fun e => ?_, fun _ => jss_nil ?_⟩⟩))))
      · exact absurd (of_decide_eq_true e) (by decide)
      refine jss_cons (js_setL 8 S_ltold.nd rfl (jl_lst (j_nil ⟨Nat.zero_le _, ?_⟩)))
      rw [List.length_append]
      show Sr [.d d, .d d', .d (natD m), .m js.length, .d (natD i), .d (.lst []), .u, .u, .m (js.length + 1), .u] _ _ _
      have hk2 : ∀ es : List D, (js ++ [Ob.l ds] ++ [Ob.l es])[js.length]? = some (.l ds) := fun es => by rw [List.append_assoc, List.getElem?_append_right (Nat.le_refl _)]; simp
      have hk3 : ∀ es : List D, (js ++ [Ob.l ds] ++ [Ob.l es])[js.length + 1]? = some (.l es) := fun es => by rw [List.getElem?_append_right (by simp)]; simp
      by_cases hlt : i < m
      · refine jss_cons (js_forD (k := js.length) (ob := .l ds) PassesOwn.never rfl (ji_ownD (hk2 []) (jo_if (jt_cmp (j_var 4 rfl rfl (j_var 2 rfl rfl ⟨_, .lt _ _, fun _ => jo_var 3 rfl rfl ⟨rfl, rfl⟩, fun e => absurd (of_decide_eq_false e) (by omega)⟩)))) ?_))
        refine ⟨fun a sl ms => ∃ t5 t6 t7 es, sl = [.d d, .d d', .d (natD m), .m js.length, .d (natD i), t5, t6, t7, .m (js.length + 1), .u] ∧ ms = js ++ [.l ds] ++ [.l es] ∧ FrL es (stepF (fr.take a)), ⟨.d (.lst []), .u, .u, [], rfl, rfl, .nil⟩, ?_, ?_, ?_⟩
        · rintro a sl1 ms1 ⟨t5, t6, t7, es, rfl, rfl, _⟩
          exact hk2 es
        · rintro a x sl1 ms1 hx ⟨t5, t6, t7, es, rfl, rfl, hes⟩
          obtain ⟨y, u, r, h1, rfl, h2⟩ := hfd.get a hx
          have hfo := hok _ (List.mem_of_getElem? h1)
          have hcu : cntT u ≤ cntT t + 2 * i := hfo.cnt
          have hpl : (plainC u).length ≤ 23 * cntT u := plainC_len hfo.pr
          refine ⟨_, _, jg_tup rfl (jgs_cons (jg_name 6 S_ltold.nd rfl) (jgs_cons (jg_name 7 S_ltold.nd rfl) jgs_nil)), ?_⟩
          refine jss_cons (js_set 5 S_ltold.nd rfl (j_call cp hr (by decide) (j_cons (j_var 7 rfl rfl (j_nil ⟨rfl, ⟨y, u, rfl, h2, hfo.pr, by omega⟩, fun r1 hd1 => ?_⟩)))))
          obtain rfl := hd1 y u rfl h2
          refine jss_one (js_extend 8 rfl rfl (hk3 es) (El.er' (jl_lc [("change", 9)] rfl S_ltold.nd (blkOk_by (N := N_ltold) (sc := sc 95) (by decide +kernel)) (own1 rfl) (ji_lst (j_var 5 rfl rfl ?_)))))
          refine ⟨_, rfl, by rw [List.length_map]; omega, fun b acc => FrL acc (((plainC u).take b).map fun c => ((outT u c).getD .skip, r ++ [c])), .nil, fun b z acc hz hacc => ?_, fun acc hacc => ?_⟩
          · rw [List.getElem?_map] at hz
            cases hc : (plainC u)[b]? with
            | none => rw [hc] at hz; cases hz
            | some c =>
              rw [hc] at hz
              obtain rfl : chD c = z := Option.some.inj hz
              obtain ⟨v, hv⟩ := plain_out (List.mem_of_getElem? hc)
              refine ⟨[9], _, fun s H C cl fp => jg_name 9 S_ltold.nd rfl, fun _ h => h, fun s H C cl fp => jts_nil ⟨fun _ s H C cl fp => ?_, fun z => (by cases z)⟩⟩
              refine j_tup (j_cons (j_cat (j_var 6 rfl rfl (j_tup (j_cons (j_var 9 rfl rfl (j_nil ⟨Nat.le_of_ble_eq_true rfl, _, _, rfl, rfl, ?_, ?_⟩)))))))
              · have := hfo.len
                rw [List.length_map]
                show r.length + 1 ≤ 100000
                have : r.length = i := this
                omega
              refine j_cons (j_call co hr (by decide) (j_cons (j_var 7 rfl rfl (j_cons (j_var 9 rfl rfl (j_nil ⟨rfl, ⟨y, u, c, rfl, h2, hfo.pr, by omega, plain_path (List.mem_of_getElem? hc)⟩, fun r2 hd2 => ?_⟩))))))
              have hr2 := hd2 y u c rfl h2
              rw [hv] at hr2
              have hr2 : Tr r2 v := hr2
              refine j_nil ⟨Nat.le_of_ble_eq_true rfl, ?_⟩
              show FrL (acc ++ [_]) (((plainC u).take (b + 1)).map _)
              rw [List.take_add_one, hc, List.map_append]
              refine FrL.app hacc ?_
              show FrL _ [((outT u c).getD .skip, r ++ [c])]
              rw [hv, show (r.map chD) ++ [chD c] = (r ++ [c]).map chD by rw [List.map_append]; rfl]
              exact .cons hr2 .nil
          · rw [List.length_map, List.take_length] at hacc
            have hal := hacc.len
            rw [List.length_map] at hal
            have hsl : (stepF (fr.take a)).length ≤ 30000 := by
              have h1 := stepF_B hct (by omega) (fun x hx => hok x (List.mem_of_mem_take hx)) (Nat.le_trans (by rw [List.length_take]; exact Nat.min_le_right _ _) hfl) (fr := fr.take a)
              exact Nat.le_trans h1 (by
                match i with
                | 0 => decide
                | i + 1 => exact Nat.le_refl _)
            have hel := hes.len
            have hcu' : cntT u ≤ 10 := by omega
            have hpl : (plainC u).length ≤ 23 * cntT u := hpl
            refine ⟨acc, rfl, by omega, _, _, _, es ++ acc, rfl, ?_, ?_⟩
            · rw [List.set_append_right _ _ (by simp)]
              simp
            · unfold stepF
              rw [flat_take h1]
              exact hes.app hacc
        · rintro sl1 ms1 ⟨t5, t6, t7, es, rfl, rfl, hes⟩
          rw [hdl, List.take_length] at hes
          refine jss_one (js_setO 3 S_ltold.nd rfl (jo_var 8 rfl rfl ⟨.d (natD i), t5, t6, t7, .m (js.length + 1), js ++ [.l ds], es, by rw [List.length_append]; rfl, rfl, .inl ⟨hlt, stepF fr, hes, stepF_ok hok, stepF_B hct (by omega) hok hfl, ?_⟩⟩))
          rw [hch, show m - i = (m - (i + 1)) + 1 by omega, told_on hh]
      · obtain rfl : i = m := by omega
        refine jss_cons (js_for PassesOwn.never rfl (ji_lst (j_if (jt_cmp (j_var 4 rfl rfl (j_var 2 rfl rfl ⟨_, .lt _ _, fun e => absurd (of_decide_eq_true e) (by omega), fun _ => j_lst (j_nil ⟨Nat.zero_le _, [], rfl, ?_⟩)⟩))))))
        refine ⟨fun _ sl ms => sl = [.d d, .d d', .d (natD i), .m js.length, .d (natD i), .d (.lst []), .u, .u, .m (js.length + 1), .u] ∧ ms = js ++ [.l ds] ++ [.l []], ⟨rfl, rfl⟩, fun a x sl1 ms1 hx _ => (by cases hx), ?_⟩
        rintro sl1 ms1 ⟨rfl, rfl⟩
        refine jss_one (js_setO 3 S_ltold.nd rfl (jo_var 8 rfl rfl ⟨.d (natD i), .d (.lst []), .u, .u, .m (js.length + 1), js ++ [.l ds], [], by rw [List.length_append]; rfl, rfl, .inr ⟨rfl, ?_⟩⟩))
        rw [hch, Nat.sub_self, told_end hh]
  · rintro sl1 ms1 ⟨t4, t5, t6, t7, t8, js, ds, rfl, rfl, hst⟩
    have hnl : (numbers (m + 1)).length = m + 1 := by unfold numbers; simp
    rw [hnl] at hst
    have hc := (hst.resolve_left fun z => by omega).2
    refine jss_one (js_ret (j_non (fin _ ?_)))
    rw [hc]
    exact OptR.none
end
end A
set_option Elab.async false
set_option linter.all false
set_option maxRecDepth 100000
set_option pp.maxSteps 300
/-! The law's put, small procedures, editions. -/
namespace A
open PySem PySem.Spec PyProof.Rows L2 E
variable [KF] [HandN 3]
section
variable {P : Program} {w : World} {K : PySem.W.Frag} [KonK K] {mg : Str → Option Value} {base : Heap}
theorem S_lput : FnScope N_put2 ["elder", "one", "other"] (sc 96) := ⟨rfl, rfl, rfl, by decide +kernel, rfl, by decide +kernel, by decide +kernel⟩
theorem ok_lput {f : Addr} {fd : FuncData} (F : Fun K "_law_put" "_law_put" (top 96) f fd) (T : Blt mg) (ct : Cl P w K mg base 36 "_law_told" sp_ltold) (cm : Cl P w K mg base 16 "merged" sp_merge) : FnG P w K mg base 37 f fd ["elder", "one", "other"] sp_put2 := by
  refine ok_D (m := 2) F S_lput rfl rfl fun cdv A outer s H E ds hr hl hp => ?_
  obtain ⟨d, d1, d2, t, a, b, rfl, ht, ha, hb, hpt, hpa, hpb, hct⟩ := hp
  have fin : ∀ r, _root_.E.toP r = putP t a b ∧ Shw r → ∀ (e0 e1 e2 : D) (t' a' b' : Tree), [d, d1, d2] = [e0, e1, e2] → Tr e0 t' → Tr e1 a' → Tr e2 b' → _root_.E.toP r = putP t' a' b' ∧ Shw r := fun r h e0 e1 e2 t' a' b' e h1 h2 h3 => by
    injection e with q1 e
    injection e with q2 e
    injection e with q3 _
    subst q1 q2 q3
    rw [h1.uniq ht, h2.uniq ha, h3.uniq hb]
    exact h
  refine jss_cons (js_par 3 4 rfl S_lput.nd rfl rfl (by decide) (j_call ct hr (by decide) (j_cons (j_var 0 rfl rfl (j_cons (j_var 1 rfl rfl (j_cons (j_int (j_nil ⟨rfl, ⟨d, d1, t, a, 1, rfl, ht, ha, hpt, hpa, hct, by decide⟩, fun r1 hd1 => ?_⟩)))))))))
  have h1 := hd1 d d1 t a 1 rfl ht ha
  refine j_call ct hr (by decide) (j_cons (j_var 0 rfl rfl (j_cons (j_var 2 rfl rfl (j_cons (j_int (j_nil ⟨rfl, ⟨d, d2, t, b, 1, rfl, ht, hb, hpt, hpb, hct, by decide⟩, fun r2 hd2 => ?_⟩)))))))
  have h2 := hd2 d d2 t b 1 rfl ht hb
  have none : (∀ c o, changesT t a 1 = some [c] → changesT t b 1 = some [o] → False) → ∀ {O : Out}, O.rt = (fun r => ∀ (e0 e1 e2 : D) (t' a' b' : Tree), [d, d1, d2] = [e0, e1, e2] → Tr e0 t' → Tr e1 a' → Tr e2 b' → _root_.E.toP r = putP t' a' b' ∧ Shw r) → O.rt .non := fun h O e => by
    rw [e]
    refine fin _ ⟨?_, non_shw⟩
    unfold putP
    split
    · rename_i c o q1 q2
      exact (h c o q1 q2).elim
    · rfl
  refine jss_cons (js_if (jt_w (jw_or (jt_isN (j_var 3 rfl rfl ?_)))))
  rw [h1.isN]
  cases q1 : changesT t a 1 with
  | none => exact ⟨fun z => (by cases z), fun _ => ⟨fun _ => jss_one (js_ret (j_non (none (fun c o z1 _ => by rw [q1] at z1; cases z1) rfl))), fun z => (by cases z)⟩⟩
  | some u1 =>
    rw [q1] at h1
    have h1 : r1 = rowD u1 := h1
    subst h1
    refine ⟨fun _ => ?_, fun z => (by cases z)⟩
    refine jw_or (jt_isN (j_var 4 rfl rfl ?_))
    rw [h2.isN]
    cases q2 : changesT t b 1 with
    | none => exact ⟨fun z => (by cases z), fun _ => ⟨fun _ => jss_one (js_ret (j_non (none (fun c o _ z2 => by rw [q2] at z2; cases z2) rfl))), fun z => (by cases z)⟩⟩
    | some u2 =>
      rw [q2] at h2
      have h2 : r2 = rowD u2 := h2
      subst h2
      refine ⟨fun _ => ?_, fun z => (by cases z)⟩
      refine jw_or (jt_cmp (j_lenT T.len (j_var 3 rfl rfl ⟨_, rfl, j_int ⟨_, .ne _ _, fun e => ?_, fun e => ⟨fun _ => jss_one (js_ret (j_non (none (fun c o z1 _ => ?_) rfl))), fun z => (by cases z)⟩⟩⟩)))
      rotate_left
      · rw [q1] at z1
        cases z1
        simp at e
      have e : u1.length = 1 := by
        rw [List.length_map] at e
        have e : ((u1.length : Nat) : Int) = 1 := by simpa using e
        omega
      refine jw_or1 (jt_cmp (j_lenT T.len (j_var 4 rfl rfl ⟨_, rfl, j_int ⟨_, .ne _ _, fun e2 => jss_one (js_ret (j_non (none (fun c o _ z2 => ?_) rfl))), fun e2 => jss_nil ?_⟩⟩)))
      · rw [q2] at z2
        cases z2
        simp at e2
      have e2 : u2.length = 1 := by
        rw [List.length_map] at e2
        have e2 : ((u2.length : Nat) : Int) = 1 := by simpa using e2
        omega
      obtain ⟨c, rfl⟩ := List.length_eq_one_iff.mp e
      obtain ⟨o, rfl⟩ := List.length_eq_one_iff.mp e2
      refine jss_one (js_ret (j_call cm hr (by decide) (j_cons (j_var 0 rfl rfl (j_cons (j_ixT (j_var 3 rfl rfl (j_int ⟨_, _, _, rfl, rfl, rfl, j_cons (j_ixT (j_var 4 rfl rfl (j_int ⟨_, _, _, rfl, rfl, rfl, j_nil ⟨rfl, ⟨d, t, c, o, rfl, ht, hpt, changes_can hpt q1, changes_can hpt q2, by omega⟩, fun r hd => fin _ ?_⟩⟩)))⟩))))))))
      have h := hd d t c o rfl ht
      unfold putP
      rw [q1, q2]
      exact h
/-! _law_small -/
def nB : Nat → Nat
  | 0 => 1
  | k + 1 => 3 * nB k + 1
theorem nB_pos : ∀ k, 1 ≤ nB k
  | 0 => Nat.le_refl _
  | k + 1 => by rw [nB]; omega
theorem drawn_cnt : ∀ (k : Nat) {t : Tree}, Drawn k t → cntT t ≤ nB k := by
  intro k
  induction k with
  | zero =>
    intro t h
    cases h with
    | deed => rw [cntT]; exact Nat.le_refl _
    | skip => rw [cntT]; exact Nat.le_refl _
  | succ k ih =>
    intro t h
    have hp := nB_pos k
    rw [nB]
    cases h with
    | deed => rw [cntT]; omega
    | skip => rw [cntT]; omega
    | again h =>
      have := ih h
      rw [cntT]; omega
    | @node _ w ts h3 h =>
      have key : ∀ ts : List Tree, (∀ t ∈ ts, Drawn k t) → cntTs ts ≤ ts.length * nB k := by
        intro ts
        induction ts with
        | nil => intro _; rw [cntTs]; exact Nat.zero_le _
        | cons t ts ih2 =>
          intro h
          have a1 := ih (h t List.mem_cons_self)
          have a2 := ih2 fun t ht => h t (List.mem_cons_of_mem _ ht)
          rw [cntTs, List.length_cons, Nat.succ_mul]; omega
      have h1 := key ts h
      have h2 : ts.length * nB k ≤ 3 * nB k := Nat.mul_le_mul_right _ h3
      rw [cntT]; omega
abbrev sp_lsm : Sp := spH 0 (fun ds => ds = []) fun _ r => ∃ t, Tr r t ∧ isProc t = true ∧ cntT t ≤ 5
abbrev N_lsm : List Str := ["hand", "procedure"]
theorem S_lsm : FnScope N_lsm ["hand"] (sc 97) := ⟨rfl, rfl, rfl, by decide +kernel, rfl, by decide +kernel, by decide +kernel⟩
theorem ok_lsm {f : Addr} {fd : FuncData} (F : Fun K "_law_small" "_law_small" (top 97) f fd) (T : Blt mg) (cp : Cl P w K mg base 6 "_law_procedure" (sp_proc 2)) (ch : Cl P w K mg base 32 "_law_paths" (sp_lpaths 30)) : FnG P w K mg base 33 f fd ["hand"] sp_lsm := by
  refine ok_H (m := 1) F S_lsm rfl rfl fun cdv A outer s H E ds hr hl hp => ?_
  subst hp
  refine jss_cons (js_set 1 S_lsm.nd rfl (j_callH 0 cp hr (by decide) rfl rfl (j_cons (j_int (j_nil ⟨rfl, ⟨2, rfl, Nat.le_refl _⟩, fun d hd => ?_⟩)))))
  obtain ⟨t, ht, hd2⟩ := hd 2 rfl
  have hc : cntT t ≤ 13 := drawn_cnt 2 hd2
  have hdc := depth_cnt t
  refine jss_one (js_ret (j_if (jt_cmp (j_len T.len (j_call ch hr (by decide) (j_cons (j_var 1 rfl rfl (j_nil ⟨rfl, ⟨d, t, rfl, ht, by omega, by omega, by rw [cnt_paths]; omega⟩, fun r hd => ?_⟩))))))))
  obtain ⟨ps, rfl, hps⟩ := hd d t rfl ht
  have hpl := hps.length_eq
  rw [cnt_paths] at hpl
  refine ⟨_, .inr ⟨_, rfl, rfl⟩, j_int ⟨_, .lt _ _, fun e => ?_, fun e => ?_⟩⟩
  · have e := of_decide_eq_true e
    rw [List.length_map] at e
    exact j_var 1 rfl rfl ⟨t, ht, drawn_proc hd2, by omega⟩
  · refine j_tup ?_
    refine j_con ?_
    refine j_str ?_
    refine j_con ?_
    refine j_tup ?_
    refine j_con ?_
    refine j_tup ?_
    refine j_con ?_
    refine j_str ?_
    refine j_con ?_
    refine j_str ?_
    refine j_nil ⟨Nat.le_of_ble_eq_true rfl, ?_⟩
    refine j_con ?_
    refine j_tup ?_
    refine j_con ?_
    refine j_str ?_
    refine j_con ?_
    refine j_tup ?_
    refine j_con ?_
    refine j_str ?_
    refine j_con ?_
    refine j_str ?_
    refine j_nil ⟨Nat.le_of_ble_eq_true rfl, j_nil ⟨Nat.le_of_ble_eq_true rfl, j_nil ⟨Nat.le_of_ble_eq_true rfl, j_nil ⟨Nat.le_of_ble_eq_true rfl, ?_⟩⟩⟩⟩
    refine ⟨.node .row [.deed "a", .again (.deed "b")], Tr.node (w := .row) (.cons (.deed (.inl rfl)) (.cons (.again (.deed (.inr (.inl rfl)))) .nil)) (by simp), rfl, by decide⟩
/-! _law_edition -/
theorem free_can {t : Tree} (hp : isProc t = true) (hc : cntT t ≤ 7) : Chg.pl .free [] ∈ plainC t := by
  have hd := depth_cnt t
  have h1 := hp
  rw [proc_is, Bool.and_eq_true, Bool.and_eq_true] at h1
  have h2 := of_decide_eq_true h1.1.2
  have hpr : isProc (.node .pick [t, .skip]) = true := by
    rw [proc_is, Tree.depth, depths, depths, depths, Tree.depth, ddT, ddTs, ddTs, ddTs, ddT, wideT, wideTs, wideTs, wideTs, wideT, h1.2, decide_eq_true (show max t.depth (max 1 0) + 1 ≤ 8 by omega), decide_eq_true (show ddT t + (0 + 0) ≤ 12 by omega)]
    rfl
  refine sortC_mem.mpr (List.mem_flatMap.mpr ⟨[], by rw [pathsT_kids]; exact List.mem_cons_self, List.mem_filter.mpr ⟨?_, ?_⟩⟩)
  · have hb : Chg.pl .free [] ∈ bareAt [] := List.mem_map.mpr ⟨.free, by decide, rfl⟩
    unfold someAt
    split
    · exact List.mem_append_left _ hb
    · exact hb
  · have : outT t (.pl .free []) = some (.node .pick [t, .skip]) := by
      unfold outT
      show (match atT t [] with | none => none | some u => _) = _
      rw [atT]
      show (if isProc (putT t [] (.node .pick [t, .skip])) = true then some (putT t [] (.node .pick [t, .skip])) else none) = _
      rw [putT, if_pos hpr]
    rw [this]
    rfl
abbrev sp_edit : Sp := spH 2 (fun ds => ∃ (d : D) (t : Tree) (m : Nat), ds = [d, natD m] ∧ Tr d t ∧ isProc t = true ∧ cntT t ≤ 5 ∧ m ≤ 2) fun _ r => ∃ u, Tr r u ∧ isProc u = true
abbrev N_edit : List Str := ["hand", "elder", "many", "turn"]
theorem S_edit : FnScope N_edit ["hand", "elder", "many"] (sc 98) := ⟨rfl, rfl, rfl, by decide +kernel, rfl, by decide +kernel, by decide +kernel⟩
theorem ok_edit {f : Addr} {fd : FuncData} (F : Fun K "_law_edition" "_law_edition" (top 98) f fd) (T : Blt mg) (d2 : Cl P w K mg base 3 "_law_any" sp_any) (ca : Cl P w K mg base 35 "_law_all_changes" sp_lall) (cc : Cl P w K mg base 34 "_law_changed" sp_lch) : FnG P w K mg base 36 f fd ["hand", "elder", "many"] sp_edit := by
  refine ok_H (m := 1) F S_edit rfl rfl fun cdv A outer s H E ds hr hl hp => ?_
  obtain ⟨d, t, m, rfl, ht, hpr, hct, hm⟩ := hp
  refine jss_cons (js_for PassesOwn.never rfl (ji_range T.range (j_var 2 rfl rfl ⟨m, rfl, by omega, ?_⟩)))
  have hnl : (numbers m).length = m := by unfold numbers; simp
  refine ⟨fun i sl ms => ∃ e u t3, sl = [.h, .d e, .d (natD m), t3] ∧ ms = [] ∧ Tr e u ∧ isProc u = true ∧ cntT u ≤ 5 + 2 * i, ⟨d, t, .u, rfl, rfl, ht, hpr, by omega⟩, ?_, ?_⟩
  · rintro i x sl1 ms1 hx ⟨e, u, t3, rfl, rfl, hu, hpu, hcu⟩
    have him : i < m := by rw [← hnl]; exact (List.getElem?_eq_some_iff.mp hx).1
    have hlen := plainC_len hpu
    refine ⟨_, _, jg_name 3 S_edit.nd rfl, ?_⟩
    refine jss_one (js_set 1 S_edit.nd rfl (j_call cc hr (by decide) (j_cons (j_var 1 rfl rfl (j_cons (j_callH 0 d2 hr (by decide) rfl rfl (j_cons (j_call ca hr (by decide) (j_cons (j_var 1 rfl rfl (j_nil ⟨rfl, ⟨e, u, rfl, hu, hpu, by omega⟩, fun r hd => ?_⟩)))))))))))
    obtain rfl := hd e u rfl hu
    have hne : 1 ≤ ((plainC u).map chD).length := by
      rw [List.length_map]
      exact List.length_pos_of_mem (free_can hpu (by omega))
    refine j_nil ⟨rfl, ⟨_, rfl, hne, by rw [List.length_map]; omega⟩, fun z hz => ?_⟩
    obtain ⟨c, hc, rfl⟩ := List.mem_map.mp (hz _ rfl)
    obtain ⟨v, hv⟩ := plain_out hc
    refine j_nil ⟨rfl, ⟨e, u, c, rfl, hu, hpu, by omega, plain_path hc⟩, fun r2 hd2 => ?_⟩
    have hr2 := hd2 e u c rfl hu
    rw [hv] at hr2
    have hr2 : Tr r2 v := hr2
    have hcv := out_cnt hv
    exact ⟨r2, v, _, rfl, rfl, hr2, (can_of hv).2, by omega⟩
  · rintro sl1 ms1 ⟨e, u, t3, rfl, rfl, hu, hpu, hcu⟩
    exact jss_one (js_ret (j_var 1 rfl rfl ⟨u, hu, hpu⟩))
end
end A
set_option Elab.async false
set_option linter.all false
set_option maxRecDepth 100000
/-! try .. except W as e: x = (by isinstance of e); the classes of errors. -/
namespace E
open PySem PySem.Spec PyProof.Rows L2
variable [KF]
section
variable {X : Cx} {σ : L2.St} {H : Hp} {Q : VK} {a b c e : Expr} {x n : Str} {pos p p1 p2 : Pos} {D : Ends}
theorem r_of {t : TE} (h : PE X e t) (q : t σ H Q) : wE X e σ H Q := fun pins s I => h.run pins s σ H Q I q
theorem r_ofT {t : TT} {Q : Bool → Hp → Prop} (h : PT X e t) (q : t σ H Q) : wT X e σ H Q := fun pins s I => h.run pins s σ H Q I q
theorem r_ofS {st : Stmt} {t : TS} (h : PS X st t) (q : t D σ H) : wS X st D σ H := fun pins s I => h.run pins s σ H D I q
theorem r_ofSs {st : List Stmt} {t : TS} (h : PSs X st t) (q : t D σ H) : wSs X st D σ H := fun pins s I => h.run pins s σ H D I q
theorem r_set (i : Nat) (hN : X.N.Nodup) (hi : X.N[i]? = some x) (h : wE X e σ H fun v H1 => D.nx (σ.set i (some v)) H1) (hx : Loc X.env.scope x := by first | exact Or.inl rfl | exact Or.inr rfl) (hs : swapsWith e (some (.Name x p)) pos.line X.env = pure false := by rfl)
    (hf : X.fn x = true ∨ X.env.scope.names.lookup x = some .local := by first | exact .inl rfl | exact .inr rfl) : wS X (.Assign [.Name x p] e pos) D σ H := r_ofS (ps_set hN hi hx pe_w hs hf) h
theorem r_cons {st : Stmt} {rest : List Stmt} (h : wS X st { D with nx := wSs X rest D } σ H) : wSs X (st :: rest) D σ H := r_ofSs (pss_cons ps_w pss_w) h
theorem r_nil (h : D.nx σ H) : wSs X [] D σ H := r_ofSs pss_nil h
theorem r_str {s : Str} {j} (q : Q (.str s) H) : wE X (.Constant (.str s) j pos) σ H Q := r_of pe_str q
theorem r_val {Q : Bool → Hp → Prop} (h : wE X e σ H fun v H' => ∃ k, v = .bl k ∧ Q k H') (he : ∀ whole, isTrue e X.env whole = (do let v ← whole; standAt e.pos; holding [v] (truthy v)) := by intro _; rfl) : wT X e σ H Q := r_ofT (pt_val pe_w he) h
theorem r_ifE (h : wT X c σ H fun t H1 => (t = true → wE X a σ H1 Q) ∧ (t = false → wE X b σ H1 Q)) : wE X (.IfExp c a b pos) σ H Q :=
  r_of (pe_ifExp pt_w pe_w pe_w) fun pins s I => thn (h pins s I) fun t s' ⟨H1, I1, k1, k2⟩ => ⟨H1, I1, by
    cases t with
    | true => rw [if_pos rfl]; exact k1 rfl
    | false => rw [if_neg Bool.false_ne_true]; exact k2 rfl⟩
/-- isinstance(e, G), e the error that the suite holds, G an own class -/
theorem r_isE {ad C G : Addr} {oe : Obj} {pn : List (Addr × Obj)} {k : Bool} {Q : VK} (i : Nat) (F : ExcC X.K C) (hz : Zc (.ref C) none oe) (hv : ∃ vs, oe.data = .fields vs) (hN : X.N[i]? = some n) (hs : σ[i]? = some (some (.ref ad))) (hG : X.mg x = some (.ref G)) (kit : PySem.W.kitOne X.K (.ref C) (.ref G) = some k)
    (hi : X.mg "isinstance" = none) (q : Q (.bl k) H) (hg : Gl X "isinstance" := by rfl) (hg2 : Gl X x := by rfl) (hvi : Vis X.env.scope n := by first | exact Or.inl rfl | exact Or.inr (Or.inl rfl) | exact Or.inr (Or.inr rfl)) (hd : (n == ("__debug__" : Str)) = false := by decide) (hcd : (n == ("__classdict__" : Str)) = false := by decide) (hd2 : (x == ("__debug__" : Str)) = false := by decide)
    (he : starEach [.Name n p1, .Name x p2] X.env = (false, eval (.Name n p1) X.env) :: starEach [.Name x p2] X.env := by rfl) (he2 : starEach [.Name x p2] X.env = (false, eval (.Name x p2) X.env) :: starEach [] X.env := by rfl) (hpl : (backTo pos (starEach [.Name x p2] X.env)).any (·.1) = false := by rfl) :
    wE (X.suite ad ((ad, oe) :: pn)) (.Call (.Name "isinstance" p) [.Name n p1, .Name x p2] [] pos) σ H Q :=
  r_of (pe_callB (X := X.suite ad ((ad, oe) :: pn)) (call_isE F hz hv) hg hi (by decide +kernel) (pa_cons (pv (X := X.suite ad ((ad, oe) :: pn)) i hN hvi hd hcd) (pa_cons (pe_glob (X := X.suite ad ((ad, oe) :: pn)) (v := .ref G) hg2 hG rfl hd2) pa_nil he2) he) (he := he) (hpl := hpl)) ⟨_, hs, .ref G, .ref G, k, rfl, fun u r => r, kit, q⟩
/-- .. G a built-in type -/
theorem r_isB {ad C : Addr} {oe : Obj} {pn : List (Addr × Obj)} {k : Bool} {Q : VK} {ty : String} (i : Nat) (F : ExcC X.K C) (hz : Zc (.ref C) none oe) (hv : ∃ vs, oe.data = .fields vs) (hN : X.N[i]? = some n) (hs : σ[i]? = some (some (.ref ad))) (hG : X.mg x = none) (hb : bootBuiltins x = some (.type ty)) (kit : PySem.W.kitOne X.K (.ref C) (.type ty) = some k)
    (hi : X.mg "isinstance" = none) (q : Q (.bl k) H) (hn : x ≠ "__name__" := by decide) (hg : Gl X "isinstance" := by rfl) (hg2 : Gl X x := by rfl) (hvi : Vis X.env.scope n := by first | exact Or.inl rfl | exact Or.inr (Or.inl rfl) | exact Or.inr (Or.inr rfl)) (hd : (n == ("__debug__" : Str)) = false := by decide) (hcd : (n == ("__classdict__" : Str)) = false := by decide) (hd2 : (x == ("__debug__" : Str)) = false := by decide)
    (he : starEach [.Name n p1, .Name x p2] X.env = (false, eval (.Name n p1) X.env) :: starEach [.Name x p2] X.env := by rfl) (he2 : starEach [.Name x p2] X.env = (false, eval (.Name x p2) X.env) :: starEach [] X.env := by rfl) (hpl : (backTo pos (starEach [.Name x p2] X.env)).any (·.1) = false := by rfl) :
    wE (X.suite ad ((ad, oe) :: pn)) (.Call (.Name "isinstance" p) [.Name n p1, .Name x p2] [] pos) σ H Q :=
  r_of (pe_callB (X := X.suite ad ((ad, oe) :: pn)) (call_isE F hz hv) hg hi (by decide +kernel) (pa_cons (pv (X := X.suite ad ((ad, oe) :: pn)) i hN hvi hd hcd) (pa_cons (pe_bltn (X := X.suite ad ((ad, oe) :: pn)) (v := .ty ty) hg2 hG hb rfl hn hd2) pa_nil he2) he) (he := he) (hpl := hpl)) ⟨_, hs, .ty ty, .type ty, k, rfl, fun u r => r, kit, q⟩
end
section
variable {X : Cx} {sl : List Sl} {ms : List Ob} {x n y : Str} {np yp ap pos pos' : Pos} {O : Out} {body : List Stmt} {c : Value} {e : Expr}
/-- the body raises C, the clause takes it and gives y a text -/
theorem js_tryV {C : Value} {word : Str} (i j : Nat) (hs : X.stack = X.env :: X.outer) (hf : X.env.frame = some X.env.locals) (hN : X.N.Nodup) (hi : X.N[i]? = some n) (hj : X.N[j]? = some y) (hln : X.env.kindOf n = some .local) (hc : Names X x c) (hm : PySem.W.exmOne X.K C c = some true) (hsl : sl[i]? = some .u) (hij : i ≠ j)
    (h : ∀ (W : WX) (pn : List (Addr × Obj)) (xe : Value → Shared → Prop), Takes (X.tr pn xe) W → SrZ (Zw W (fun s m => s = sl ∧ m = ms) C) sl ms (wSs (X.tr pn xe) body) { nx := fun _ _ => False, rt := fun _ => False })
    (he : ∀ (a : Addr) (oe : Obj) (pn : List (Addr × Obj)) (σ : L2.St) (H : Hp), Zc C none oe → (∃ vs, oe.data = .fields vs) → σ[i]? = some (some (.ref a)) → ∀ Q : VK, Q (.str word) H → wE (X.suite a ((a, oe) :: pn)) e σ H Q)
    (k : O.nx (sl.set j (.d (.str word))) ms)
    (hx : Loc X.env.scope y := by first | exact Or.inl rfl | exact Or.inr rfl) (hsw : swapsWith e (some (.Name y yp)) ap.line X.env = pure false := by rfl) (hfn : X.fn y = true ∨ X.env.scope.names.lookup y = some .local := by first | exact .inl rfl | exact .inr rfl) :
    Sr sl ms (wS X (.Try body [.ExceptHandler (some (.Name x np)) (some n) [.Assign [.Name y yp] e ap] pos'] [] [] pos)) O := by
  refine js_tryC (i := i) hs hf hN hi hln hc hm h ?_
  intro a oe pn ho F0 H0 F1 ps ex σ H1 hz hv at1 Z hZ
  have hil : i < σ.length := by rw [at1.sln]; exact (List.getElem?_eq_some_iff.mp hsl).1
  have h3 : (σ.set i (some (.ref a)))[i]? = some (some (.ref a)) := by rw [List.getElem?_set_self hil]
  have atE : At ho F0 H0 F1 ps sl ms ex (σ.set i (some (.ref a))) H1 := by
    refine At.other (vs := [i]) at1 (by simp) (fun q hq t ht => ?_) fun q hq => ?_
    · have : q = i := by simpa using hq
      subst this
      rw [hsl] at ht
      exact (Option.some.inj ht).symm
    · have h4 : q ≠ i := by simpa using hq
      rw [List.getElem?_set_ne (Ne.symm h4)]
  refine r_cons (r_set (X := X.suite a ((a, oe) :: pn)) j hN hj (he a oe pn _ H1 hz hv h3 _ ?_) hx hsw hfn)
  refine r_nil ?_
  have at3 := atE.store (v := .str word) (s := .d (.str word)) j ⟨_, rfl, .str _⟩
  refine hZ _ _ F1 ps _ H1 k (At.other (vs := [i]) at3 (by simp) (fun q hq t ht => ?_) fun q hq => ?_)
  · have : q = i := by simpa using hq
    subst this
    rw [List.getElem?_set_ne (Ne.symm hij), hsl] at ht
    exact (Option.some.inj ht).symm
  · have h4 : q ≠ i := by simpa using hq
    rw [List.getElem?_set_ne (Ne.symm h4)]
end
/-! classes of errors -/
theorem kit_same {K : PySem.W.Frag} {v : Value} : PySem.W.kitOne K v v = some true := if_pos (beq_self_eq_true v)
theorem kit_own {K : PySem.W.Frag} {C D : Addr} {b : Bool} (ne : C ≠ D) (hd : PySem.W.hasDictIn K D = true) (ht : PySem.W.typeIn K (.ref D) = some (.type "type")) (hs : PySem.W.subIn K (.ref C) (.ref D) = some b) : PySem.W.kitOne K (.ref C) (.ref D) = some b := by
  obtain ⟨cd, hc, _⟩ := PySem.W.any_some hd
  have e1 : ¬ (Value.ref C == Value.ref D) = true := fun q => ne (Value.ref.inj (beq_iff_eq.mp q))
  have e2 : ((PySem.W.clsIn K D).isSome && PySem.W.typeIn K (.ref D) == some (.type "type")) = true := by rw [hc, ht]; rfl
  show (if (Value.ref C == Value.ref D) = true then some true else PySem.W.kitCls K (.ref C) (.ref D)) = some b
  rw [if_neg e1]
  show (if ((PySem.W.clsIn K D).isSome && PySem.W.typeIn K (.ref D) == some (.type "type")) = true then PySem.W.subIn K (.ref C) (.ref D) else none) = some b
  rw [if_pos e2]
  exact hs
theorem kit_blt {K : PySem.W.Frag} {C : Addr} {b : Bool} {T : String} (hm : PySem.W.kitMeta T = true) (hs : PySem.W.subIn K (.ref C) (.type T) = some b) : PySem.W.kitOne K (.ref C) (.type T) = some b := by
  have e1 : ¬ (Value.ref C == Value.type T) = true := fun q => by cases (beq_iff_eq.mp q)
  show (if (Value.ref C == Value.type T) = true then some true else PySem.W.kitCls K (.ref C) (.type T)) = some b
  rw [if_neg e1]
  show (if PySem.W.kitMeta T = true then PySem.W.subIn K (.ref C) (.type T) else none) = some b
  rw [if_pos hm]
  exact hs
theorem ne_sub {K : PySem.W.Frag} {C D : Addr} (h : PySem.W.subIn K (.ref C) (.ref C) = some true) (h' : PySem.W.subIn K (.ref C) (.ref D) = some false) : C ≠ D := fun e => by
  subst e
  rw [h] at h'
  cases h'
/-- a class of errors, as it is laid -/
structure ClsE (K : PySem.W.Frag) (C CW : Addr) : Prop where
  q : PySem.W.excIn K C [.type "ValueError", .type "Exception", .type "BaseException", .type "object"] "ValueError.__new__" = true
  k : PySem.W.keepIn K (.ref C) = true
  b : PySem.W.subIn K (.ref C) (.type "BaseException") = some true
  t : PySem.W.typeIn K (.ref C) = some (.type "type")
  hg : PySem.W.findIn K (.ref C) "__getattribute__" = some (some (.builtin "BaseException.__getattribute__"))
  hk : PySem.W.findIn K (.ref C) "__getattr__" = some none
  hd : PySem.W.hasDictIn K C = true
  ha : PySem.W.findIn K (.ref C) "__class__" = some (some (.builtin "object.__class__"))
  hm : PySem.W.mroIn K C (.type "object") = some true
  v : PySem.W.subIn K (.ref C) (.type "ValueError") = some true
  w : PySem.W.subIn K (.ref C) (.ref CW) = some true
  s : PySem.W.subIn K (.ref C) (.ref C) = some true
/-- what is known of the classes' common base -/
structure BaseE (K : PySem.W.Frag) (CW : Addr) : Prop where
  hn : PySem.W.specialIn K (.builtin "object.__class__") "__get__" = some (some (.builtin "getset_descriptor.__get__"))
  ht : PySem.W.takesIn K (.builtin "object.__class__") = some true
  b : PySem.W.subIn K (.ref CW) (.type "BaseException") = some true
  d : PySem.W.hasDictIn K CW = true
  t : PySem.W.typeIn K (.ref CW) = some (.type "type")
theorem ClsE.excC {K : PySem.W.Frag} {C CW : Addr} (c : ClsE K C CW) (b : BaseE K CW) : ExcC K C := ⟨c.hg, c.hk, c.b, c.hd, c.ha, b.hn, b.ht, c.hm⟩
theorem ClsE.kit {K : PySem.W.Frag} {C D CW : Addr} (c : ClsE K C CW) (d : ClsE K D CW) (h : PySem.W.subIn K (.ref C) (.ref D) = some false) : PySem.W.kitOne K (.ref C) (.ref D) = some false := kit_own (ne_sub c.s h) d.hd d.t h
theorem ClsE.exm {K : PySem.W.Frag} {C CW : Addr} (c : ClsE K C CW) (b : BaseE K CW) : PySem.W.exmOne K (.ref C) (.ref CW) = some true := PySem.W.exm_ref b.b b.d b.t c.w
end E
set_option Elab.async false
set_option linter.all false
set_option maxRecDepth 100000
set_option pp.maxSteps 300
/-! The law's word. -/
namespace A
open PySem PySem.Spec PyProof.Rows L2 E
variable [KF] [HandN 3]
theorem ClsE.exs {K : PySem.W.Frag} {mg : Str → Option Value} {C CW : Addr} {x : Str} (c : ClsE K C CW) (g : mg x = some (.ref C)) : Exs K mg x C := ⟨g, c.q, c.k, c.b, c.t⟩
section
variable {P : Program} {w : World} {K : PySem.W.Frag} [KonK K] {mg : Str → Option Value} {base : Heap} {NN CW : Addr}
abbrev sp_word : Sp := spD 3 (fun ds => ∃ (d d' x : D) (t n : Tree), ds = [d, d', x] ∧ Tr d t ∧ Tr d' n ∧ isProc t = true ∧ isProc n = true ∧ cntT t ≤ 6 ∧ within x 0 2 = false) fun _ r => r = .str "number"
abbrev N_word : List Str := ["elder", "newer", "most", "found", "error"]
theorem S_word : FnScope N_word ["elder", "newer", "most"] (sc 99) := ⟨rfl, rfl, rfl, by decide +kernel, rfl, by decide +kernel, by decide +kernel⟩
theorem ok_word {f : Addr} {fd : FuncData} (F : Fun K "_law_word" "_law_word" (top 99) f fd) (T : Blt mg) (gW : mg "WayError" = some (.ref CW)) (gN : mg "NoNumber" = some (.ref NN)) (xc : ClsE K NN CW) (xb : BaseE K CW) (ct : ClX P w K mg base 15 "told_changes" (sp_told NN)) : FnG P w K mg base 16 f fd ["elder", "newer", "most"] sp_word := by
  refine ok_D (m := 2) F S_word rfl rfl fun cdv A outer s H E ds hr hl hp => ?_
  obtain ⟨d, d', x, t, n, rfl, ht, hn, hpt, hpn, hct, hx⟩ := hp
  refine jss_cons (js_set 3 S_word.nd rfl (j_str ?_))
  refine jss_cons (js_tryV (C := .ref NN) (word := "number") 4 3 rfl rfl S_word.nd rfl rfl rfl ⟨rfl, by decide, .inl gW⟩ (xc.exm xb) rfl (by decide) ?_ ?_ ?_)
  · intro W pn xe tk
    refine zss_one (j_raises ct hr (by decide) tk ⟨rfl, rfl⟩ (j_cons (j_var 0 rfl rfl (j_cons (j_var 1 rfl rfl (j_cons (j_var 2 rfl rfl (j_nil ⟨rfl, ⟨d, d', x, t, n, rfl, ht, hn, hpt, hpn, hct⟩, ⟨rfl, d, d', x, rfl, hx⟩, fun c h => h.1⟩))))))))
  · intro a oe pn σ H1 hz hv hσ Q q
    exact r_ifE (r_val (r_isE 4 (xc.excC xb) hz hv rfl hσ gN kit_same T.isi ⟨_, rfl, fun _ => r_str q, fun z => (by cases z)⟩))
  · exact jss_one (js_ret (j_var 3 rfl rfl rfl))
end
end A
set_option Elab.async false
set_option linter.all false
set_option maxRecDepth 100000
/-! The law's hand as it is made, and the law's own def. -/
namespace E
open PySem PySem.Spec PyProof.Rows L2
variable [KF]
theorem cut63 {ns : List Int} (h : ns.length ≤ 63) : cutV (ns.map V.int) none (some 63) = ns.map V.int := by
  unfold cutV
  rw [HT.sIx_none, show (some (63 : Int)) = some ((63 : Nat) : Int) from rfl, HT.sIx_nat, List.length_map, Nat.min_eq_right h]
  show List.take (ns.length - 0) (ns.map V.int) = _
  rw [Nat.sub_zero, List.take_of_length_le (by rw [List.length_map]; exact Nat.le_refl _)]
theorem upd_twice (H : Hp) (a : Addr) (x y : HO) : upd (upd H a x) a y = upd H a y := by
  funext b
  by_cases h : b = a
  · subst h; rw [upd_same, upd_same]
  · rw [upd_ne h, upd_ne h, upd_ne h]
/-- the script is told, a hand is given back -/
abbrev sp_hand (K : PySem.W.Frag) : Sp := fun vs H Q _ => ∃ (a : Addr) (ns : List Int), vs = [.ref a] ∧ SqL K H a (ns.map V.int) ∧ ns.length ≤ 63 ∧
  ∀ (H' : Hp) (h c : Addr) (cs is : List Int), h ≠ c → H' h = some (.lst (.ref c :: is.map V.int)) → H' c = some (.lst (cs.map V.int)) → KF.hand cs is → Q (.ref h) H'
abbrev sp_law (K : PySem.W.Frag) : Sp := fun vs H Q _ => ∃ (a : Addr) (ns : List Int), vs = [.ref a] ∧ SqL K H a (ns.map V.int) ∧ ns.length ≤ 63 ∧ ∀ H', Q (.bl true) H'
abbrev lawO : Out := { nx := fun _ _ => False, rt := fun d => d = .bl true }
section
variable {P : Program} {w : World} {K : PySem.W.Frag} {mg : Str → Option Value} {base : Heap}
/-- the law: hand = _law_hand(script), and then the rest -/
theorem law_H {st sth : Stmt} {f fh : Addr} {fd fdh : FuncData} {N : List Str} {k m : Nat} {rest : List Stmt} {hA hB hC hD hE : Pos}
    (F : Fun K "law" "law" st f fd) (S : FnScope N ["script"] (defScope st)) (hm : N.length = 2 + m) (h0 : N[0]? = some ("script" : Str)) (h1 : N[1]? = some ("hand" : Str))
    (dh : Df K mg "_law_hand" sth ["script"] fh fdh) (Fh : FnG P w K mg base 1 fh fdh ["script"] (sp_hand K)) (hk : 1 ≤ k)
    (hb : defBody st = .Assign [.Name "hand" hA] (.Call (.Name "_law_hand" hB) [.Name "script" hC] [] hD) hE :: rest)
    (hl : (defScope st).names.lookup ("hand" : Str) = some NameKind.local) (hls : (defScope st).names.lookup ("script" : Str) = some NameKind.local)
    (hg : ∀ cdv A outer s H E, Gl (cx P w K mg base N "law" st f cdv A outer s H E) "_law_hand")
    (main : ∀ (cdv : Value) (A : Around) (outer : List Env) (s : Shared) (H : Hp) (E : XK), RoomG k (A.deeper (envOfC "law" (defScope st) s.heap.objs.size f cdv)) →
      Sr (.u :: .h :: List.replicate m .u) [] (wSs (cx P w K mg base N "law" st f cdv A outer s H E) rest) lawO) :
    FnG P w K mg base (k + 1) f fd ["script"] (sp_law K) := by
  refine fun_G F S (fun vs H Q E h => ?_) fun cdv A outer s H vs Q E hr h => ?_
  · obtain ⟨a, ns, rfl, _⟩ := h
    rfl
  · obtain ⟨a, ns, rfl, hS, h63, q⟩ := h
    have mn := main cdv A outer s H E hr
    rw [hb]
    refine ⟨_, pss_cons (ps_set (i := 1) S.nd h1 (Or.inl hl) (pe_callG Fh (hr.mono hk) (hg cdv A outer s H E) dh.mgf dh.fn.kp dh.bd (pa_cons (pv 0 h0 (Or.inl hls)) pa_nil)) rfl (Or.inr hl)) pss_w, ?_⟩
    have hst : L2.start N [.ref a] = some (.ref a) :: none :: List.replicate m none := by
      unfold L2.start
      rw [List.length_singleton, hm, show 2 + m - 1 = m + 1 by omega]
      rfl
    rw [hst]
    refine ⟨.ref a, rfl, a, ns, rfl, hS, h63, fun H' h c cs is hhc hh hc hok => ?_⟩
    have hF : Ex (upd (fun _ => none) c (HO.lst (cs.map V.int))) H' := fun b o e => by
      by_cases hb : b = c
      · subst hb; rw [upd_same] at e; rw [hc]; exact e
      · rw [upd_ne hb] at e; cases e
    have at0 : At (some h) (upd (fun _ => none) c (HO.lst (cs.map V.int))) H' (upd (fun _ => none) c (HO.lst (cs.map V.int))) [] (.u :: .h :: List.replicate m .u) [] [] (some (.ref a) :: some (.ref h) :: List.replicate m none) H' := by
      refine ⟨Ext.refl hF, List.nodup_nil, rfl, fun k p ds hk => by simp at hk, by simp, fun i sx hs => ?_, fun x hx => by simp at hx, fun h' e => ?_⟩
      · match i, hs with
        | 0, hs => cases hs; exact ⟨_, rfl, trivial⟩
        | 1, hs => cases hs; exact ⟨_, rfl, h, rfl, rfl⟩
        | i + 2, hs =>
          have hs : (List.replicate m Sl.u)[i]? = some sx := hs
          rw [List.getElem?_replicate] at hs
          split at hs
          · rename_i him
            cases hs
            refine ⟨none, ?_, trivial⟩
            show (List.replicate m none)[i]? = some none
            rw [List.getElem?_replicate, if_pos him]
          · cases hs
      · cases e
        exact ⟨upd_ne hhc, c, cs, is, hh, upd_same, hok⟩
    refine mn _ _ _ _ _ _ _ _ at0 _ (fun _ _ _ _ _ _ z => z.elim) (fun v F' H'' k => ?_) (fun _ _ _ _ _ _ z => z.elim) (fun _ _ _ _ _ _ z => z.elim)
    obtain ⟨d, hd, _, _, dn⟩ := k.data
    subst hd
    cases dn
    exact q H''
end
end E
set_option Elab.async false
set_option linter.all false
set_option maxRecDepth 100000
set_option pp.maxSteps 300
/-! The law's hand. -/
namespace A
open PySem PySem.Spec PyProof.Rows L2 E
variable [KF] [hn : HandN 3]
section
variable {P : Program} {w : World} {K : PySem.W.Frag} [KonK K] {mg : Str → Option Value} {base : Heap}
abbrev N_hand : List Str := ["script", "cell"]
theorem S_hand : FnScope N_hand ["script"] (sc 71) := ⟨rfl, rfl, rfl, by decide +kernel, rfl, by decide +kernel, by decide +kernel⟩
theorem ok_hand {f : Addr} {fd : FuncData} (F : Fun K "_law_hand" "_law_hand" (top 71) f fd) (T : Blt mg) : FnG P w K mg base 1 f fd ["script"] (sp_hand K) := by
  refine fun_G F S_hand (fun vs H Q E h => ?_) fun cdv A outer s H vs Q E hr h => ?_
  · obtain ⟨a, ns, rfl, _⟩ := h
    rfl
  · obtain ⟨a, ns, rfl, hS, h63, q⟩ := h
    refine ⟨_, pss_one (ps_ret (pe_lst (pa_cons (pe_lc (own := [("cell", 1)]) rfl S_hand.nd (pi_list (pe_slice sl_list (pv 0) po_none (po_some pe_int))) (blkOk_by (N := N_hand) (sc := sc 71) (by decide +kernel))
      (fun s H C cl fp => pg_name (i := 1) S_hand.nd rfl (Or.inl rfl)) (fun s H C cl fp => pts_nil) (fun s2 H2 C cl fp => pe_callTy call_int1 (by rfl) T.int boot_intB (pa_cons (pv 1) pa_nil))) (pa_cons pe_int (pa_cons pe_int (pa_cons pe_int pa_nil)))))), ?_⟩
    refine ⟨.ref a, rfl, 63, rfl, a, _, rfl, hS, fun p hp => ⟨p, rfl, ⟨_, .inl (.inl upd_same)⟩, fun Dd hD => ?_⟩⟩
    rw [cut63 h63] at hD ⊢
    have hpD : Dd ≠ p := fun z => by subst z; rw [upd_same] at hD; cases hD
    refine ⟨fun i m H' => m = ns.length - i ∧ i ≤ ns.length ∧ H' = upd (upd H p (.lst (ns.map V.int))) Dd (.lst ((ns.take i).map V.int)), ⟨_, rfl, Nat.zero_le _, rfl⟩, ?_⟩
    rintro i m H' ⟨rfl, hi, rfl⟩
    have hsq : SqL K (upd (upd H p (.lst (ns.map V.int))) Dd (.lst ((ns.take i).map V.int))) p (ns.map V.int) := .inl (.inl (by rw [upd_ne (Ne.symm hpD)]; exact upd_same))
    by_cases hlt : i < ns.length
    · have hget : (ns.map V.int)[i]? = some (.int ns[i]) := by rw [List.getElem?_map, List.getElem?_eq_getElem hlt]; rfl
      refine .inr ⟨⟨_, _, hsq, hget⟩, _, fun H' z => ⟨ns.length - (i + 1), by omega, rfl, hlt, z⟩, fun x H'' y => ?_⟩
      obtain ⟨rfl, hy⟩ := y
      have hx := hy _ hsq
      rw [hget] at hx
      obtain rfl := Option.some.inj hx
      refine ⟨rfl, ?_⟩
      dsimp only [tYes]
      rw [if_pos (rfl : true = true)]
      refine ⟨.int ns[i], rfl, .inl ⟨ns[i], rfl, _, upd_same, ?_, ?_⟩⟩
      · rw [List.length_map, List.length_take]
        exact Nat.lt_of_le_of_lt (Nat.min_le_right _ _) (Nat.lt_of_le_of_lt h63 (by decide))
      · rw [upd_twice, List.take_add_one, List.getElem?_eq_getElem hlt, List.map_append]
        rfl
    · have e : i = ns.length := by omega
      subst e
      refine .inl ⟨⟨_, hsq, by rw [List.length_map]; exact Nat.le_refl _⟩, ?_⟩
      rw [List.take_length]
      refine ⟨by show 4 ≤ sizeLine; decide, fun h hh => ?_⟩
      have hne : h ≠ Dd := fun z => by subst z; rw [upd_same] at hh; cases hh
      refine q _ h Dd ns [0, 0, 0] hne upd_same ?_ ((hn.ok _ _).mpr ⟨rfl, by decide, h63, fun z => by cases z⟩)
      rw [upd_ne (Ne.symm hne), upd_same]
end
end A
set_option Elab.async false
set_option linter.all false
set_option maxRecDepth 100000
/-! a or b as a value, a none or a tuple. -/
namespace E
open PySem PySem.Spec PyProof.Rows L2
variable [KF]
section
variable {X : Cx} [KonK X.K] {sl : List Sl} {ms : List Ob} {R : D → Prop} {a b : Expr} {rest : List Expr} {pos : Pos}
theorem j_orT (h : Er sl ms (wE X a) fun x => (x = .non ∧ Er sl ms (wE X (.BoolOp .Or (b :: rest) pos)) R) ∨ ∃ ds, tupO x = some ds ∧ (ds = [] → Er sl ms (wE X (.BoolOp .Or (b :: rest) pos)) R) ∧ (ds ≠ [] → R x)) : Er sl ms (wE X (.BoolOp .Or (a :: b :: rest) pos)) R :=
  Er.of (pe_orT pe_w pe_w) fun ho F0 H0 F ps ex σ H at0 Q q => h ho F0 H0 F ps ex σ H at0 _ fun v d F1 H1 hd a1 => by
    rcases hd with ⟨rfl, he⟩ | ⟨ds, e, h1, h2⟩
    · have hv := a1.top
      cases hv
      exact ⟨false, rfl, he ho F0 H0 F1 ps ex σ H1 a1.pop Q q⟩
    · obtain ⟨p, xs, rfl, hs, hl⟩ := a1.top.seq (K := X.K) e
      have hlen := hl.len
      refine ⟨!xs.isEmpty, .inr (.inl ⟨xs, hs H1 a1.fh, rfl⟩), ?_⟩
      cases xs with
      | nil =>
        have : ds = [] := List.eq_nil_of_length_eq_zero hlen.symm
        exact h1 this ho F0 H0 F1 ps ex σ H1 a1.pop Q q
      | cons x xs =>
        exact q _ _ F1 H1 (h2 fun z => by rw [z] at hlen; cases hlen) a1
end
end E
set_option Elab.async false
set_option linter.all false
set_option maxRecDepth 100000
set_option pp.maxSteps 300
/-! Rows of changes are shown; what is known: plain. -/
namespace A
open PySem PySem.Spec PyProof.Rows L2 E
variable [KF]
theorem at_small : ∀ {q : List Nat} {k n : Nat} {t u : Tree}, sizeT k t = some n → atT t q = some u → ∀ i ∈ q, i ≤ 6
  | [], k, n, t, u, h, e => fun i hi => by cases hi
  | j :: q, k, n, t, u, h, e => by
    rw [atT] at e
    cases hv : t.kids[j]? with
    | none => rw [hv] at e; cases e
    | some v =>
      rw [hv] at e
      have h6 := size_kids h
      have hj := (List.getElem?_eq_some_iff.mp hv).1
      cases k with
      | zero => cases t <;> (rw [sizeT] at h; cases h)
      | succ k =>
        obtain ⟨m, hm⟩ := size_kid h (List.mem_of_getElem? hv)
        intro i hi
        rcases List.mem_cons.mp hi with rfl | hi
        · omega
        · exact at_small hm e i hi
theorem tl_nat {k : Nat} (h : k ≤ 6) : tl (.int ((k : Nat) : Int)) ≤ 3 ∧ (PyData.int ((k : Nat) : Int)).showable = true := by
  match k, h with
  | 0, _ | 1, _ | 2, _ | 3, _ | 4, _ | 5, _ | 6, _ => exact ⟨by decide +kernel, by decide +kernel⟩
  | k + 7, h => omega
theorem tls_path : ∀ {p : List Nat}, (∀ i ∈ p, i ≤ 6) → tls (toPs (p.map fun i : Nat => D.int (i : Int))) ≤ 3 * p.length ∧ PyData.showableAll (toPs (p.map fun i : Nat => D.int (i : Int))) = true
  | [], _ => ⟨Nat.le_refl _, rfl⟩
  | i :: p, h => by
    have ⟨h1, h2⟩ := tls_path (p := p) fun j hj => h j (List.mem_cons_of_mem _ hj)
    have ⟨h3, h4⟩ := tl_nat (h i List.mem_cons_self)
    rw [List.map_cons, toPs, tls, PyData.showableAll, h2, List.length_cons]
    exact ⟨by show tl (.int (i : Int)) + _ ≤ _; omega, by rw [Bool.and_true]; exact h4⟩
theorem PW.tl (v : PW) : tl (.str v.s) ≤ 9 := by cases v <;> decide +kernel
theorem IW.tl (v : IW) : tl (.str v.s) ≤ 9 := by cases v <;> decide +kernel
theorem left_idx {ws : List Str} {t u : Tree} {k : Nat} (h : leftT ws t k = some u) : k < t.kids.length := by
  cases t with
  | node w ts =>
    rw [leftT] at h
    split at h
    · rename_i hc
      exact hc.2
    · cases h
  | _ => cases h
theorem turn_idx {t u : Tree} {k : Nat} (h : turnT t k = some u) : k < t.kids.length := by
  cases t with
  | node w ts =>
    cases w with
    | row =>
      rw [turnT] at h
      split at h
      · rename_i e1 e2
        exact (List.getElem?_eq_some_iff.mp e1).1
      · cases h
    | _ => cases h
  | _ => cases h
theorem chg_tl {t u : Tree} {c : Chg} (hp : isProc t = true) (h : outT t c = some u) : tl (E.toP (chD c)) ≤ 60 ∧ (E.toP (chD c)).showable = true := by
  obtain ⟨n, hn⟩ := isProc_size hp
  obtain ⟨v, u', h1, h2, h3⟩ := (can_of h).1
  have h4 := at_small hn h2
  have h5 := (size_at hn h2).2
  have h6 := (size_at hn h2).1
  have ⟨a1, a2⟩ := tls_path h4
  cases c with
  | pl w p =>
    have b1 := tl_tup [.str w.s, .tuple (toPs (p.map fun i : Nat => D.int (i : Int)))]
    have b2 := tl_tup (toPs (p.map fun i : Nat => D.int (i : Int)))
    have b3 := w.tl
    have h5 : p.length < 8 := h5
    have a1 : tls (toPs (p.map fun i : Nat => D.int (i : Int))) ≤ 3 * p.length := a1
    rw [tls, tls, tls] at b1
    refine ⟨Nat.le_trans b1 (by omega), ?_⟩
    show (PyData.tuple [.str w.s, .tuple (toPs (p.map fun i : Nat => D.int (i : Int)))]).showable = true
    rw [PyData.showable, PyData.showableAll, PyData.showableAll, PyData.showableAll, PyData.showable, PyData.showable]
    rw [show PyData.showableAll (toPs (p.map fun i : Nat => D.int (i : Int))) = true from a2]
    rfl
  | ix w p k =>
    have hk : k ≤ 6 := by
      cases hl : locT u' (.ix w p k) with
      | none => rw [hl] at h3; cases h3
      | some x =>
        have : k < u'.kids.length := by
          cases w with
          | lose => exact left_idx hl
          | shut => exact left_idx hl
          | turn => exact turn_idx hl
        omega
    have b1 := tl_tup [.str w.s, .tuple (toPs (p.map fun i : Nat => D.int (i : Int))), .int (k : Nat)]
    have b2 := tl_tup (toPs (p.map fun i : Nat => D.int (i : Int)))
    have b3 := w.tl
    have ⟨b4, b5⟩ := tl_nat hk
    have h5 : p.length < 8 := h5
    have a1 : tls (toPs (p.map fun i : Nat => D.int (i : Int))) ≤ 3 * p.length := a1
    rw [tls, tls, tls, tls] at b1
    refine ⟨Nat.le_trans b1 (by omega), ?_⟩
    show (PyData.tuple [.str w.s, .tuple (toPs (p.map fun i : Nat => D.int (i : Int))), .int (k : Nat)]).showable = true
    have a2 : PyData.showableAll (toPs (p.map fun i : Nat => D.int (i : Int))) = true := a2
    rw [PyData.showable, PyData.showableAll, PyData.showableAll, PyData.showableAll, PyData.showableAll, b5, show (PyData.tuple (toPs (p.map fun i : Nat => D.int (i : Int)))).showable = true by rw [PyData.showable]; exact a2]
    rfl
theorem toPs_app : ∀ a b : List D, toPs (a ++ b) = toPs a ++ toPs b
  | [], b => rfl
  | x :: a, b => by rw [List.cons_append, toPs, toPs, toPs_app a b]; rfl
theorem tls_app : ∀ a b : List PyData, tls (a ++ b) = tls a + tls b
  | [], b => by rw [tls]; simp
  | x :: a, b => by rw [List.cons_append, tls, tls, tls_app a b]; omega
theorem showAll_app : ∀ a b : List PyData, PyData.showableAll (a ++ b) = (PyData.showableAll a && PyData.showableAll b)
  | [], b => by rw [PyData.showableAll]; rfl
  | x :: a, b => by rw [List.cons_append, PyData.showableAll, PyData.showableAll, showAll_app a b, Bool.and_assoc]
theorem led_tl {e u : Tree} {r : Row} (h : Led e u r) (hp : isProc e = true) : isProc u = true ∧ tls (toPs (r.map chD)) ≤ 60 * r.length ∧ PyData.showableAll (toPs (r.map chD)) = true := by
  induction h with
  | nil => exact ⟨hp, Nat.zero_le _, rfl⟩
  | step h ho ih =>
    obtain ⟨h1, h2, h3⟩ := ih
    have ⟨h4, h5⟩ := chg_tl h1 ho
    rw [List.map_append, toPs_app, tls_app, showAll_app, List.length_append, h3]
    refine ⟨(can_of ho).2, ?_, ?_⟩
    · simp only [List.map_cons, List.map_nil, toPs, tls, List.length_cons, List.length_nil]
      omega
    · simp only [List.map_cons, List.map_nil, toPs, PyData.showableAll, h5]
      rfl
theorem OptR.shw {r : D} {t n : Tree} {m : Nat} (h : OptR r (changesT t n m)) (hp : isProc t = true) (hm : m ≤ 2) : Shw r := by
  cases hc : changesT t n m with
  | none =>
    rw [hc] at h
    have h : r = .non := h
    rw [h]
    exact non_shw
  | some x =>
    rw [hc] at h
    have h : r = rowD x := h
    obtain ⟨u, h1, h2, _⟩ := changes_led hp hc
    obtain ⟨_, h3, h4⟩ := led_tl h1 hp
    rw [h]
    have h5 := tl_tup (toPs (x.map chD))
    have h6 := rows_depth x
    refine ⟨h4, ?_, ?_⟩
    · have : (E.toP (rowD x)).shown.length ≤ 125 := by
        show (PyData.tuple (toPs (x.map chD))).shown.length ≤ 125
        have : tl (PyData.tuple (toPs (x.map chD))) = (PyData.tuple (toPs (x.map chD))).shown.length + 2 := rfl
        omega
      exact Nat.le_trans this (by decide +kernel)
    · show (PyData.tuple (toPs (x.map chD))).depth ≤ 60
      rw [PyData.depth]
      omega
/-- gone through from the first change on -/
theorem led_take {e u : Tree} {r : Row} (h : Led e u r) : ∀ i, i ≤ r.length → ∃ v, Led e v (r.take i) ∧ (i = r.length → v = u) ∧ ∀ c, r[i]? = some c → ∃ v', outT v c = some v' ∧ Led e v' (r.take (i + 1)) := by
  induction h with
  | nil =>
    intro i hi
    obtain rfl : i = 0 := Nat.le_zero.mp hi
    exact ⟨_, .nil, fun _ => rfl, fun c hc => by cases hc⟩
  | @step t u r c h ho ih =>
    intro i hi
    rw [List.length_append] at hi
    have hi : i ≤ r.length + 1 := hi
    by_cases h1 : i < r.length
    · obtain ⟨v, a1, a2, a3⟩ := ih i (by omega)
      refine ⟨v, by rw [List.take_append_of_le_length (by omega)]; exact a1, fun z => by rw [List.length_append] at z; have : i = r.length + 1 := z; omega, fun c' hc' => ?_⟩
      rw [List.getElem?_append_left h1] at hc'
      obtain ⟨v', b1, b2⟩ := a3 c' hc'
      exact ⟨v', b1, by rw [List.take_append_of_le_length (by omega)]; exact b2⟩
    · by_cases h2 : i = r.length
      · subst h2
        obtain ⟨v, a1, a2, _⟩ := ih r.length (Nat.le_refl _)
        obtain rfl := a2 rfl
        refine ⟨v, by rw [List.take_append_of_le_length (Nat.le_refl _)]; exact a1, fun z => by rw [List.length_append] at z; have : r.length = r.length + 1 := z; omega, fun c' hc' => ?_⟩
        rw [List.getElem?_append_right (Nat.le_refl _)] at hc'
        obtain rfl : c = c' := by simpa using hc'
        refine ⟨u, ho, ?_⟩
        rw [List.take_of_length_le (by rw [List.length_append]; exact Nat.le_refl _)]
        exact .step h ho
      · obtain rfl : i = r.length + 1 := by omega
        refine ⟨u, ?_, fun _ => rfl, fun c' hc' => ?_⟩
        · rw [List.take_of_length_le (by rw [List.length_append]; exact Nat.le_refl _)]
          exact .step h ho
        · rw [List.getElem?_eq_none (by rw [List.length_append]; exact Nat.le_refl _)] at hc'
          cases hc'
theorem path_lay (p : List Nat) : PyData.canLayAll0 (toPs (p.map fun i : Nat => D.int (i : Int))) = true := by
  have h := (lay_ints (p.map fun i : Nat => (i : Int))).1
  rw [List.map_map] at h
  exact h
theorem PW.lay (v : PW) : PyData.canLay0 (.str v.s) = true := by cases v <;> decide +kernel
theorem IW.lay (v : IW) : PyData.canLay0 (.str v.s) = true := by cases v <;> decide +kernel
theorem chg_lay (c : Chg) : (E.toP (chD c)).canLay0 = true := by
  cases c with
  | pl w p =>
    show (PyData.tuple [.str w.s, .tuple (toPs (p.map fun i : Nat => D.int (i : Int)))]).canLay0 = true
    rw [PyData.canLay0, PyData.canLayAll0, PyData.canLayAll0, PyData.canLayAll0, w.lay, PyData.canLay0, path_lay]
    rfl
  | ix w p k =>
    show (PyData.tuple [.str w.s, .tuple (toPs (p.map fun i : Nat => D.int (i : Int))), .int (k : Nat)]).canLay0 = true
    rw [PyData.canLay0, PyData.canLayAll0, PyData.canLayAll0, PyData.canLayAll0, PyData.canLayAll0, w.lay, show (PyData.tuple (toPs (p.map fun i : Nat => D.int (i : Int)))).canLay0 = true by rw [PyData.canLay0]; exact path_lay p]
    rfl
theorem row_shaped (r : Row) : SeqAt.shaped (E.toP (rowD r)) = true := by
  have h : ∀ r : Row, PyData.canLayAll0 (toPs (r.map chD)) = true := by
    intro r
    induction r with
    | nil => rfl
    | cons c r ih => rw [List.map_cons, toPs, PyData.canLayAll0, chg_lay, ih]; rfl
  have hd := rows_depth r
  show SeqAt.shaped (.tuple (toPs (r.map chD))) = true
  unfold SeqAt.shaped
  rw [PyData.canLay0, h r, Bool.true_and, decide_eq_true_iff, PyData.depth]
  omega
theorem led_uniq {e u v : Tree} {r : Row} (h : Led e u r) (h' : Led e v r) : u = v := by
  induction h generalizing v with
  | nil => exact (led_nil h' rfl).symm
  | @step t u r c h ho ih =>
    generalize hs : r ++ [c] = s at h'
    cases h' with
    | nil => simp at hs
    | @step t' u' r' c' h2 ho2 =>
      have e1 := List.append_inj' hs rfl
      have e2 : c = c' := by simpa using e1.2
      have e3 := e1.1
      subst e3 e2
      obtain rfl := ih h2
      rw [ho] at ho2
      exact Option.some.inj ho2
/-! what is known -/
abbrev knE : Tree := .deed "a"
abbrev knN : Tree := .node .pick [.deed "a", .skip]
theorem kn_found : foundT knE = [.pl .free [], .pl .round []] := by
  have hp : pathsT knE = [[]] := by rw [pathsT_kids]; rfl
  unfold foundT
  rw [hp]
  show goodAt knE [] ++ [] = _
  rw [List.append_nil]
  unfold goodAt someAt
  show ([Chg.pl .free [], .pl .once [], .pl .order [], .pl .round [], .pl .sides []].filter fun c => (outT knE c).isSome) = _
  have h1 : (outT knE (.pl .free [])).isSome = true := by decide +kernel
  have h2 : (outT knE (.pl .once [])).isSome = false := by decide +kernel
  have h3 : (outT knE (.pl .order [])).isSome = false := by decide +kernel
  have h4 : (outT knE (.pl .round [])).isSome = true := by decide +kernel
  have h5 : (outT knE (.pl .sides [])).isSome = false := by decide +kernel
  simp only [List.filter_cons, h1, h2, h3, h4, h5, List.filter_nil]
  rfl
theorem kn_plain : plainC knE = [.pl .free [], .pl .round []] ∨ plainC knE = [.pl .round [], .pl .free []] := by
  have h : (plainC knE).Perm [.pl .free [], .pl .round []] := by
    unfold plainC sortC
    rw [kn_found]
    exact List.mergeSort_perm _ _
  have hl := h.length_eq
  match hq : plainC knE, hl with
  | [a, b], _ =>
    rw [hq] at h
    have ha := h.mem_iff (a := a)
    have hb := h.mem_iff (a := b)
    simp only [List.mem_cons, List.not_mem_nil, or_false, true_or, or_true, true_iff] at ha hb
    have hn : a ≠ b := by
      intro e
      subst e
      have := (h.nodup_iff).mpr (by simp)
      simp at this
    rcases ha with rfl | rfl <;> rcases hb with rfl | rfl
    · exact absurd rfl hn
    · exact .inl rfl
    · exact .inr rfl
    · exact absurd rfl hn
theorem kn_told : changesT knE knN 1 = some [.pl .free []] := by
  unfold changesT
  have h0 : hitsF knN [(knE, [])] = [] := by
    unfold hitsF
    have : PyData.eqv (treeP knE) (treeP knN) = false := by decide +kernel
    simp [this]
  rw [told_on h0]
  have o1 : ∀ (v : PW) (u : Tree), bareT v knE = some u → isProc u = true → outT knE (.pl v []) = some u := fun v u hb hp => by
    unfold outT
    show (match atT knE [] with | none => none | some u => _) = _
    rw [atT]
    show (match bareT v knE with | none => none | some v => if isProc (putT knE [] v) = true then some (putT knE [] v) else none) = _
    rw [hb]
    show (if isProc (putT knE [] u) = true then some (putT knE [] u) else none) = _
    rw [putT, if_pos hp]
  have h1 : outT knE (.pl .free []) = some knN := o1 .free _ rfl (by decide +kernel)
  have h2 : outT knE (.pl .round []) = some (.again knE) := o1 .round _ rfl (by decide +kernel)
  have e1 : PyData.eqv (treeP knN) (treeP knN) = true := by decide +kernel
  have e2 : PyData.eqv (treeP (.again knE)) (treeP knN) = false := by decide +kernel
  have key : hitsF knN (stepF [(knE, [])]) = [[.pl .free []]] := by
    have hs : stepF [(knE, [])] = (plainC knE).map fun c => ((outT knE c).getD .skip, [c]) := by
      unfold stepF
      show stepA (knE, []) ++ [] = _
      rw [List.append_nil]
      rfl
    rw [hs]
    unfold hitsF
    rcases kn_plain with h | h <;> rw [h] <;> simp [h1, h2, e1, e2]
  rw [told_hit key]
  rfl
end A
set_option Elab.async false
set_option linter.all false
set_option maxRecDepth 100000
set_option pp.maxSteps 300
/-! The law. -/
namespace A
open PySem PySem.Spec PyProof.Rows L2 E
variable [KF] [hn : HandN 3]
section
variable {P : Program} {w : World} {K : PySem.W.Frag} [KonK K] {mg : Str → Option Value} {base : Heap} {NN CW : Addr}
abbrev N_law : List Str := ["script", "hand", "turn", "elder", "one", "other", "newer", "most", "told", "here", "change", "pair"]
theorem S_law : FnScope N_law ["script"] (sc 100) := ⟨rfl, rfl, rfl, by decide +kernel, rfl, by decide +kernel, by decide +kernel⟩
abbrev lawX (P : Program) (w : World) (K : PySem.W.Frag) (mg : Str → Option Value) (base : Heap) (f : Addr) (cdv : Value) (A : Around) (outer : List Env) (s : Shared) (H : Hp) (E : XK) : Cx := cx P w K mg base N_law "law" (top 100) f cdv A outer s H E
/-- the inner loops' bodies -/
abbrev lap1 : List Stmt := match (defBody (top 100)).drop 1 with | .For _ _ b _ _ :: _ => b | _ => []
abbrev lapA : List Stmt := match lap1.drop 2 with | .For _ _ b _ _ :: _ => b | _ => []
abbrev lapB : List Stmt := match lap1.drop 3 with | .For _ _ b _ _ :: _ => b | _ => []
structure Cs (P : Program) (w : World) (K : PySem.W.Frag) (mg : Str → Option Value) (base : Heap) (NN : Addr) : Prop where
  draw : Cl P w K mg base 2 "_law_draw" sp_draw
  any : Cl P w K mg base 3 "_law_any" sp_any
  small : Cl P w K mg base 33 "_law_small" sp_lsm
  edit : Cl P w K mg base 36 "_law_edition" sp_edit
  toldX : ClX P w K mg base 15 "told_changes" (sp_told NN)
  ltold : Cl P w K mg base 36 "_law_told" sp_ltold
  chd : Cl P w K mg base 14 "changed" sp_by
  put : Cl P w K mg base 16 "put_together" sp_put2
  lput : Cl P w K mg base 37 "_law_put" sp_put2
  word : Cl P w K mg base 16 "_law_word" sp_word
theorem within_nat {m : Nat} (h : m < 3) : within (natD m) 0 2 = true := by
  show (decide ((0 : Int) ≤ (m : Nat)) && decide (((m : Nat) : Int) ≤ 2)) = true
  rw [decide_eq_true (by omega), decide_eq_true (by omega)]
  rfl
theorem law_A {f : Addr} {cdv : Value} {A : Around} {outer : List Env} {s : Shared} {H : Hp} {E : XK} (hr : RoomG 38 (A.deeper (envOfC "law" (defScope (top 100)) s.heap.objs.size f cdv))) (T : Blt mg) (C : Cs P w K mg base NN)
    {d d1 d2 x : D} {t n : Tree} {t2 t7 t8 t9 t10 t11 : Sl} {O : Out} (ht : Tr d t) (hn : Tr x n) (hpt : isProc t = true) (hpn : isProc n = true) (hct : cntT t ≤ 5)
    (k : ∀ t7 t8 t9 t10, O.nx [.u, .h, t2, .d d, .d d1, .d d2, .d x, t7, t8, t9, t10, t11] []) :
    Sr [.u, .h, t2, .d d, .d d1, .d d2, .d x, t7, t8, t9, t10, t11] [] (wSs (lawX P w K mg base f cdv A outer s H E) lapA) O := by
  have hr0 := hr.mono (Nat.zero_le _)
  have hu : (lawX P w K mg base f cdv A outer s H E).A.units + 64 < cLine := hu_of hr
  refine jss_cons (js_set 7 S_law.nd rfl (j_callH 1 C.draw hr (by decide) rfl rfl (j_cons (j_int (j_nil ⟨rfl, ⟨3, rfl, by decide, by decide⟩, fun z hz => ?_⟩)))))
  obtain ⟨m, rfl, hm⟩ := hz 3 rfl
  refine jss_cons (js_set 8 S_law.nd rfl (j_callX C.toldX hr (by decide) (j_cons (j_var 3 rfl rfl (j_cons (j_var 6 rfl rfl (j_cons (j_var 7 rfl rfl (j_nil ⟨rfl, ⟨d, x, _, t, n, rfl, ht, hn, hpt, hpn, by omega⟩, fun c hb => ?_, fun r hd => ?_⟩)))))))))
  · obtain ⟨_, a1, a2, a3, e, hb⟩ := hb
    injection e with e1 e
    injection e with e2 e
    injection e with e3 _
    subst e3
    rw [show within (.int ((m : Nat) : Int)) 0 2 = true from within_nat hm] at hb
    cases hb
  have h1 := hd d x t n m rfl ht hn
  have hs := h1.shw hpt (by omega)
  refine jss_cons (js_if (jt_cmp (j_repr hr0 T.repr (j_var 8 rfl rfl ⟨hs, j_repr hr0 T.repr (j_call C.ltold hr (by decide) (j_cons (j_var 3 rfl rfl (j_cons (j_var 6 rfl rfl (j_cons (j_var 7 rfl rfl (j_nil ⟨rfl, ⟨d, x, t, n, m, rfl, ht, hn, hpt, hpn, by omega, by omega⟩, fun r2 hd2 => ?_⟩))))))))⟩))))
  have h2 := hd2 d x t n m rfl ht hn
  have e2 : r2 = r := by
    cases hc : changesT t n m with
    | none => rw [hc] at h1 h2; exact (show r2 = .non from h2).trans (show r = .non from h1).symm
    | some q => rw [hc] at h1 h2; exact (show r2 = rowD q from h2).trans (show r = rowD q from h1).symm
  subst e2
  refine ⟨hs, _, .neS _ _, fun e => absurd e (by rw [decide_eq_true rfl]; exact Bool.false_ne_true), fun _ => jss_nil ?_⟩
  refine jss_cons (js_set 9 S_law.nd rfl (j_var 3 rfl rfl ?_))
  -- the changes are gone through
  have fin : ∀ (e : D) (u : Tree) (t10 : Sl), Tr e u → isProc u = true → (_root_.E.isN r2 = false → PyData.eqv (treeP u) (treeP n) = true) → Sr [.u, .h, t2, .d d, .d d1, .d d2, .d x, .d (.int ((m : Nat) : Int)), .d r2, .d e, t10, t11] [] (wSs (lawX P w K mg base f cdv A outer s H E) (lapA.drop 5)) O := fun e u t10 hu' hpu he => by
    refine jss_one (js_if (jt_w (jw_and (jt_notN (j_var 8 rfl rfl ⟨fun q => ?_, fun _ => ⟨fun z => (by cases z), fun _ => jss_nil (k _ _ _ _)⟩⟩)))))
    have hq : _root_.E.isN r2 = false := by simpa using q
    refine jw_and1 (jt_neA hr0 (j_var 9 rfl rfl (j_var 6 rfl rfl ⟨hu'.shaped hpu, hn.shaped hpn, fun q2 => ?_, fun _ => jss_nil (k _ _ _ _)⟩)))
    rw [hu'.toP, hn.toP, he hq] at q2
    cases q2
  cases hc : changesT t n m with
  | none =>
    rw [hc] at h1
    obtain rfl : r2 = .non := h1
    refine jss_cons (js_for PassesOwn.never rfl (ji_tup (j_orT (j_var 8 rfl rfl (.inl ⟨rfl, j_one (j_tup (j_nil ⟨Nat.zero_le _, [], rfl, ?_⟩))⟩)))))
    refine ⟨fun _ sl ms => sl = [.u, .h, t2, .d d, .d d1, .d d2, .d x, .d (.int ((m : Nat) : Int)), .d .non, .d d, t10, t11] ∧ ms = [], ⟨rfl, rfl⟩, fun i z sl1 ms1 hz _ => (by cases hz), ?_⟩
    rintro sl1 ms1 ⟨rfl, rfl⟩
    exact fin d t t10 ht hpt fun z => by cases z
  | some q =>
    rw [hc] at h1
    obtain rfl : r2 = rowD q := h1
    obtain ⟨u, hl, hlen, he⟩ := changes_led hpt hc
    have loop : ∀ ds, ds = q.map chD → ∃ Pv : Nat → List Sl → List Ob → Prop, Pv 0 [.u, .h, t2, .d d, .d d1, .d d2, .d x, .d (.int ((m : Nat) : Int)), .d (rowD q), .d d, t10, t11] [] ∧
        (∀ i d' sl1 ms1, ds[i]? = some d' → Pv i sl1 ms1 → ∃ tv sl2, Eg sl1 (wG (lawX P w K mg base f cdv A outer s H E) (match lapA.drop 4 with | .For t _ _ _ _ :: _ => t | _ => .Name "" ⟨0, 0, 0, 0⟩)) d' tv sl2 ∧ Sr sl2 ms1 (wSs (lawX P w K mg base f cdv A outer s H E) (match lapA.drop 4 with | .For _ _ b _ _ :: _ => b | _ => [])) { nx := Pv (i + 1), rt := O.rt, ro := O.ro, bk := fun s0 m0 => Sr s0 m0 (wSs (lawX P w K mg base f cdv A outer s H E) (lapA.drop 5)) O, ct := Pv (i + 1) }) ∧
        ∀ sl1 ms1, Pv ds.length sl1 ms1 → Sr sl1 ms1 (wSs (lawX P w K mg base f cdv A outer s H E) (lapA.drop 5)) O := fun ds hds => by
      subst hds
      refine ⟨fun i sl ms => ∃ e v t10, sl = [.u, .h, t2, .d d, .d d1, .d d2, .d x, .d (.int ((m : Nat) : Int)), .d (rowD q), .d e, t10, t11] ∧ ms = [] ∧ Tr e v ∧ isProc v = true ∧ Led t v (q.take i), ⟨d, t, t10, rfl, rfl, ht, hpt, .nil⟩, ?_, ?_⟩
      · rintro i y sl1 ms1 hy ⟨e, v, t10, rfl, rfl, hv, hpv, hlv⟩
        rw [List.getElem?_map] at hy
        cases hci : q[i]? with
        | none => rw [hci] at hy; cases hy
        | some c =>
          rw [hci] at hy
          obtain rfl : chD c = y := Option.some.inj hy
          have hi := (List.getElem?_eq_some_iff.mp hci).1
          obtain ⟨v1, b1, _, b3⟩ := led_take hl i (by omega)
          obtain ⟨v', b4, b5⟩ := b3 c hci
          obtain rfl := led_uniq hlv b1
          refine ⟨_, _, jg_name 10 S_law.nd rfl, ?_⟩
          refine jss_one (js_set 9 S_law.nd rfl (j_call C.chd hr (by decide) (j_cons (j_var 9 rfl rfl (j_cons (j_var 10 rfl rfl (j_nil ⟨rfl, ⟨e, v, v', c, rfl, hv, hpv, b4⟩, fun r hd => ?_⟩)))))))
          exact ⟨r, v', _, rfl, rfl, hd e v v' c rfl hv b4, (can_of b4).2, b5⟩
      · rintro sl1 ms1 ⟨e, v, t10, rfl, rfl, hv, hpv, hlv⟩
        rw [List.length_map, List.take_length] at hlv
        obtain rfl := led_uniq hlv hl
        exact fin e v t10 hv hpv fun _ => he
    refine jss_cons (js_for PassesOwn.never rfl (ji_tup (j_orT (j_var 8 rfl rfl (.inr ⟨q.map chD, rfl, fun hq => ?_, fun hq => ⟨_, rfl, loop _ rfl⟩⟩)))))
    exact j_one (j_tup (j_nil ⟨Nat.zero_le _, [], rfl, loop _ hq.symm⟩))
end
end A
set_option Elab.async false
set_option linter.all false
set_option maxRecDepth 100000
set_option pp.maxSteps 300
/-! The law, joined. -/
namespace A
open PySem PySem.Spec PyProof.Rows L2 E
variable [KF] [hn : HandN 3]
theorem OptR.shaped {r : D} {t n : Tree} {m : Nat} (h : OptR r (changesT t n m)) : SeqAt.shaped (E.toP r) = true := by
  cases hc : changesT t n m with
  | none =>
    rw [hc] at h
    have h : r = .non := h
    rw [h]; exact shaped_non
  | some x =>
    rw [hc] at h
    have h : r = rowD x := h
    rw [h]
    exact row_shaped x
section
variable {P : Program} {w : World} {K : PySem.W.Frag} [KonK K] {mg : Str → Option Value} {base : Heap} {NN CW : Addr}
theorem law_B {f : Addr} {cdv : Value} {A : Around} {outer : List Env} {s : Shared} {H : Hp} {E : XK} (hr : RoomG 38 (A.deeper (envOfC "law" (defScope (top 100)) s.heap.objs.size f cdv))) (T : Blt mg) (C : Cs P w K mg base NN)
    {d d1 d2 x y : D} {t n1 n2 : Tree} {t2 t6 t7 t8 t9 t10 : Sl} {O : Out} (ht : Tr d t) (h1 : Tr x n1) (h2 : Tr y n2) (hpt : isProc t = true) (hp1 : isProc n1 = true) (hp2 : isProc n2 = true) (hct : cntT t ≤ 5)
    (k : O.nx [.u, .h, t2, .d d, .d d1, .d d2, t6, t7, t8, t9, t10, .d (.tup [x, y])] []) :
    Sr [.u, .h, t2, .d d, .d d1, .d d2, t6, t7, t8, t9, t10, .d (.tup [x, y])] [] (wSs (lawX P w K mg base f cdv A outer s H E) lapB) O := by
  have hr0 := hr.mono (Nat.zero_le _)
  have sh0 : SeqAt.shaped (_root_.E.toP (.tup [])) = true := by decide +kernel
  refine jss_one (js_if (jt_w (jw_and (jt_neA hr0 (j_call C.ltold hr (by decide) (j_cons (j_var 3 rfl rfl (j_cons (j_ixT (j_var 11 rfl rfl (j_int ⟨_, _, _, rfl, rfl, rfl, j_cons (j_int (j_nil ⟨rfl, ⟨d, x, t, n1, 1, rfl, ht, h1, hpt, hp1, by omega, by decide⟩, fun r1 hd1 => ?_⟩))⟩)))))))))))
  have q1 := hd1 d x t n1 1 rfl ht h1
  refine j_tup (j_nil ⟨Nat.zero_le _, q1.shaped, sh0, fun _ => ?_, fun _ => ⟨fun z => (by cases z), fun _ => jss_nil k⟩⟩)
  refine jw_and1 (jt_neA hr0 (j_call C.ltold hr (by decide) (j_cons (j_var 3 rfl rfl (j_cons (j_ixT (j_var 11 rfl rfl (j_int ⟨_, _, _, rfl, rfl, rfl, j_cons (j_int (j_nil ⟨rfl, ⟨d, y, t, n2, 1, rfl, ht, h2, hpt, hp2, by omega, by decide⟩, fun r2 hd2 => ?_⟩))⟩))))))))
  have q2 := hd2 d y t n2 1 rfl ht h2
  refine j_tup (j_nil ⟨Nat.zero_le _, q2.shaped, sh0, fun _ => ?_, fun _ => jss_nil k⟩)
  refine jss_one (js_if (jt_cmp (j_repr hr0 T.repr (j_call C.put hr (by decide) (j_cons (j_var 3 rfl rfl (j_cons (j_ixT (j_var 11 rfl rfl (j_int ⟨_, _, _, rfl, rfl, rfl, j_cons (j_ixT (j_var 11 rfl rfl (j_int ⟨_, _, _, rfl, rfl, rfl, j_nil ⟨rfl, ⟨d, x, y, t, n1, n2, rfl, ht, h1, h2, hpt, hp1, hp2, by omega⟩, fun r3 hd3 => ?_⟩⟩)))⟩))))))))))
  have q3 := hd3 d x y t n1 n2 rfl ht h1 h2
  refine ⟨q3.2, j_repr hr0 T.repr (j_call C.lput hr (by decide) (j_cons (j_var 3 rfl rfl (j_cons (j_ixT (j_var 11 rfl rfl (j_int ⟨_, _, _, rfl, rfl, rfl, j_cons (j_ixT (j_var 11 rfl rfl (j_int ⟨_, _, _, rfl, rfl, rfl, j_nil ⟨rfl, ⟨d, x, y, t, n1, n2, rfl, ht, h1, h2, hpt, hp1, hp2, by omega⟩, fun r4 hd4 => ?_⟩⟩)))⟩)))))))⟩
  have q4 := hd4 d x y t n1 n2 rfl ht h1 h2
  refine ⟨q4.2, _, .neS _ _, fun e => ?_, fun _ => jss_nil k⟩
  rw [q3.1, q4.1, decide_eq_true rfl] at e
  cases e
theorem law_lap {f : Addr} {cdv : Value} {A : Around} {outer : List Env} {s : Shared} {H : Hp} {E : XK} (hr : RoomG 38 (A.deeper (envOfC "law" (defScope (top 100)) s.heap.objs.size f cdv))) (T : Blt mg) (C : Cs P w K mg base NN)
    {t2 t3 t4 t5 t6 t7 t8 t9 t10 t11 : Sl} {O : Out} (k : ∀ t3 t4 t5 t6 t7 t8 t9 t10 t11, O.nx [.u, .h, t2, t3, t4, t5, t6, t7, t8, t9, t10, t11] []) :
    Sr [.u, .h, t2, t3, t4, t5, t6, t7, t8, t9, t10, t11] [] (wSs (lawX P w K mg base f cdv A outer s H E) lap1) O := by
  refine jss_cons (js_set 3 S_law.nd rfl (j_callH 1 C.small hr (by decide) rfl rfl (j_nil ⟨rfl, rfl, fun d hd => ?_⟩)))
  obtain ⟨t, ht, hpt, hct⟩ := hd
  refine jss_cons (js_par 4 5 rfl S_law.nd rfl rfl (by decide) (j_callH 1 C.edit hr (by decide) rfl rfl (j_cons (j_var 3 rfl rfl (j_cons (j_int (j_nil ⟨rfl, ⟨d, t, 1, rfl, ht, hpt, hct, by decide⟩, fun d1 hd1 => ?_⟩)))))))
  obtain ⟨n1, h1, hp1⟩ := hd1
  refine j_callH 1 C.edit hr (by decide) rfl rfl (j_cons (j_var 3 rfl rfl (j_cons (j_int (j_nil ⟨rfl, ⟨d, t, 1, rfl, ht, hpt, hct, by decide⟩, fun d2 hd2 => ?_⟩)))))
  obtain ⟨n2, h2, hp2⟩ := hd2
  refine jss_cons (js_for PassesOwn.never rfl (ji_tup (j_tup ?_)))
  refine j_con ?_
  refine j_var 4 rfl rfl ?_
  refine j_con ?_
  refine j_callH 1 C.edit hr (by decide) rfl rfl (j_cons (j_var 3 rfl rfl (j_cons (j_int (j_nil ⟨rfl, ⟨d, t, 2, rfl, ht, hpt, hct, by decide⟩, fun d3 hd3 => ?_⟩)))))
  obtain ⟨n3, h3, hp3⟩ := hd3
  refine j_con ?_
  refine j_callH 1 C.small hr (by decide) rfl rfl (j_nil ⟨rfl, rfl, fun d4 hd4 => ?_⟩)
  obtain ⟨n4, h4, hp4, _⟩ := hd4
  refine j_con ?_
  refine j_var 3 rfl rfl ?_
  refine j_nil ⟨Nat.le_of_ble_eq_true rfl, _, rfl, ?_⟩
  have all : ∀ x ∈ [d1, d3, d4, d], ∃ n, Tr x n ∧ isProc n = true := fun x hx => by
    simp only [List.mem_cons, List.not_mem_nil, or_false] at hx
    rcases hx with rfl | rfl | rfl | rfl
    · exact ⟨n1, h1, hp1⟩
    · exact ⟨n3, h3, hp3⟩
    · exact ⟨n4, h4, hp4⟩
    · exact ⟨t, ht, hpt⟩
  refine ⟨fun _ sl ms => ∃ t6 t7 t8 t9 t10 t11, sl = [.u, .h, t2, .d d, .d d1, .d d2, t6, t7, t8, t9, t10, t11] ∧ ms = [], ⟨_, _, _, _, _, _, rfl, rfl⟩, ?_, ?_⟩
  · rintro i x sl1 ms1 hx ⟨t6, t7, t8, t9, t10, t11, rfl, rfl⟩
    obtain ⟨n, hn, hpn⟩ := all x (List.mem_of_getElem? hx)
    refine ⟨_, _, jg_name 6 S_law.nd rfl, ?_⟩
    exact law_A hr T C ht hn hpt hpn hct fun t7 t8 t9 t10 => ⟨_, _, _, _, _, _, rfl, rfl⟩
  rintro sl1 ms1 ⟨t6, t7, t8, t9, t10, t11, rfl, rfl⟩
  refine jss_cons (js_for PassesOwn.never rfl (ji_tup (j_tup ?_)))
  refine j_con ?_
  refine j_tup (j_cons (j_var 4 rfl rfl (j_cons (j_var 5 rfl rfl (j_nil ⟨Nat.le_of_ble_eq_true rfl, ?_⟩)))))
  refine j_con ?_
  refine j_tup (j_cons (j_var 5 rfl rfl (j_cons (j_var 4 rfl rfl (j_nil ⟨Nat.le_of_ble_eq_true rfl, ?_⟩)))))
  refine j_con ?_
  refine j_tup (j_cons (j_var 4 rfl rfl (j_cons (j_callH 1 C.small hr (by decide) rfl rfl (j_nil ⟨rfl, rfl, fun d5 hd5 => ?_⟩)))))
  obtain ⟨n5, h5, hp5, _⟩ := hd5
  refine j_nil ⟨Nat.le_of_ble_eq_true rfl, ?_⟩
  refine j_nil ⟨Nat.le_of_ble_eq_true rfl, _, rfl, ?_⟩
  have all2 : ∀ z ∈ [D.tup [d1, d2], D.tup [d2, d1], D.tup [d1, d5]], ∃ x y n m, z = .tup [x, y] ∧ Tr x n ∧ Tr y m ∧ isProc n = true ∧ isProc m = true := fun z hz => by
    simp only [List.mem_cons, List.not_mem_nil, or_false] at hz
    rcases hz with rfl | rfl | rfl
    · exact ⟨_, _, n1, n2, rfl, h1, h2, hp1, hp2⟩
    · exact ⟨_, _, n2, n1, rfl, h2, h1, hp2, hp1⟩
    · exact ⟨_, _, n1, n5, rfl, h1, h5, hp1, hp5⟩
  refine ⟨fun _ sl ms => ∃ t6 t7 t8 t9 t10 t11, sl = [.u, .h, t2, .d d, .d d1, .d d2, t6, t7, t8, t9, t10, t11] ∧ ms = [], ⟨_, _, _, _, _, _, rfl, rfl⟩, ?_, ?_⟩
  · rintro i z sl1 ms1 hz ⟨t6, t7, t8, t9, t10, t11, rfl, rfl⟩
    obtain ⟨x, y, n, m, rfl, hx, hy, hpx, hpy⟩ := all2 z (List.mem_of_getElem? hz)
    refine ⟨_, _, jg_name 11 S_law.nd rfl, ?_⟩
    exact law_B hr T C ht hx hy hpt hpx hpy hct ⟨_, _, _, _, _, _, rfl, rfl⟩
  rintro sl1 ms1 ⟨t6, t7, t8, t9, t10, t11, rfl, rfl⟩
  refine jss_one (js_if (jt_cmp (j_call C.word hr (by decide) ?_)))
  refine j_cons (j_var 3 rfl rfl (j_cons (j_var 4 rfl rfl ?_)))
  refine j_cons (j_callH 1 C.any hr (by decide) rfl rfl ?_)
  refine j_con ?_
  refine j_lst ?_
  refine j_con ?_
  refine j_neg (j_int ⟨_, rfl, ?_⟩)
  refine j_con ?_
  refine j_int ?_
  refine j_con ?_
  refine j_non ?_
  refine j_con ?_
  refine j_bl ?_
  refine j_con ?_
  refine j_str ?_
  refine j_nil ⟨Nat.le_of_ble_eq_true rfl, ?_⟩
  refine j_nil ⟨rfl, ⟨_, rfl, Nat.le_of_ble_eq_true rfl, Nat.lt_of_lt_of_le (show 5 < 6 by decide) (by decide)⟩, fun v hv => ?_⟩
  have hv := hv _ rfl
  have hw : within v 0 2 = false := by
    simp only [List.mem_cons, List.not_mem_nil, or_false] at hv
    rcases hv with rfl | rfl | rfl | rfl | rfl
    · decide
    · decide
    · rfl
    · rfl
    · rfl
  refine j_nil ⟨rfl, ⟨d, d1, v, t, n1, rfl, ht, h1, hpt, hp1, by omega, hw⟩, fun r hd => ?_⟩
  subst hd
  refine j_str ⟨_, .neS _ _, fun e => absurd e (by rw [decide_eq_true rfl]; exact Bool.false_ne_true), fun _ => jss_nil (k _ _ _ _ _ _ _ _ _)⟩
theorem law_main {f : Addr} {cdv : Value} {A : Around} {outer : List Env} {s : Shared} {H : Hp} {E : XK} (hr : RoomG 38 (A.deeper (envOfC "law" (defScope (top 100)) s.heap.objs.size f cdv))) (T : Blt mg) (C : Cs P w K mg base NN) :
    Sr [.u, .h, .u, .u, .u, .u, .u, .u, .u, .u, .u, .u] [] (wSs (lawX P w K mg base f cdv A outer s H E) ((defBody (top 100)).drop 1)) lawO := by
  have hu : (lawX P w K mg base f cdv A outer s H E).A.units + 64 < cLine := hu_of hr
  refine jss_cons (js_for PassesOwn.never rfl (ji_range T.range (j_int ⟨2, rfl, by decide, ?_⟩)))
  refine ⟨fun _ sl ms => ∃ t2 t3 t4 t5 t6 t7 t8 t9 t10 t11, sl = [.u, .h, t2, t3, t4, t5, t6, t7, t8, t9, t10, t11] ∧ ms = [], ⟨_, _, _, _, _, _, _, _, _, _, rfl, rfl⟩, ?_, ?_⟩
  · rintro i x sl1 ms1 hx ⟨t2, t3, t4, t5, t6, t7, t8, t9, t10, t11, rfl, rfl⟩
    refine ⟨_, _, jg_name 2 S_law.nd rfl, ?_⟩
    exact law_lap hr T C fun t3 t4 t5 t6 t7 t8 t9 t10 t11 => ⟨_, _, _, _, _, _, _, _, _, _, rfl, rfl⟩
  rintro sl1 ms1 ⟨t2, t3, t4, t5, t6, t7, t8, t9, t10, t11, rfl, rfl⟩
  refine jss_one (js_ret (j_eqA hu (j_callX C.toldX hr (by decide) ?_)))
  refine j_con ?_
  refine j_tup ?_
  refine j_con ?_
  refine j_str ?_
  refine j_con ?_
  refine j_str ?_
  refine j_nil ⟨Nat.le_of_ble_eq_true rfl, ?_⟩
  refine j_con ?_
  refine j_tup ?_
  refine j_con ?_
  refine j_str ?_
  refine j_con ?_
  refine j_tup ?_
  refine j_con ?_
  refine j_tup ?_
  refine j_con ?_
  refine j_str ?_
  refine j_con ?_
  refine j_str ?_
  refine j_nil ⟨Nat.le_of_ble_eq_true rfl, ?_⟩
  refine j_con ?_
  refine j_tup ?_
  refine j_con ?_
  refine j_str ?_
  refine j_nil ⟨Nat.le_of_ble_eq_true rfl, ?_⟩
  refine j_nil ⟨Nat.le_of_ble_eq_true rfl, ?_⟩
  refine j_nil ⟨Nat.le_of_ble_eq_true rfl, ?_⟩
  refine j_con ?_
  refine j_int ?_
  have he : Tr (.tup [.str "do", .str "a"]) knE := .deed (.inl rfl)
  have hn : Tr (.tup [.str "pick", .tup [.tup [.str "do", .str "a"], .tup [.str "skip"]]]) knN := Tr.node (w := .pick) (.cons he (.cons .skip .nil)) (by decide)
  refine j_nil ⟨rfl, ⟨_, _, _, knE, knN, rfl, he, hn, by decide +kernel, by decide +kernel, by decide⟩, fun c hb => ?_, fun r hd => ?_⟩
  · obtain ⟨_, a1, a2, a3, e, hb⟩ := hb
    injection e with e1 e
    injection e with e2 e
    injection e with e3 _
    subst e3
    rw [show within (.int 1) 0 2 = true by decide] at hb
    cases hb
  have h := hd _ _ knE knN 1 rfl he hn
  rw [kn_told] at h
  obtain rfl : r = rowD [.pl .free []] := h
  refine j_tup ?_
  refine j_con ?_
  refine j_tup ?_
  refine j_con ?_
  refine j_str ?_
  refine j_con ?_
  refine j_tup (j_nil ⟨Nat.zero_le _, ?_⟩)
  refine j_nil ⟨Nat.le_of_ble_eq_true rfl, ?_⟩
  refine j_nil ⟨Nat.le_of_ble_eq_true rfl, row_shaped _, row_shaped [.pl .free []], ?_⟩
  show D.bl _ = D.bl true
  congr 1
theorem ok_law {f fh : Addr} {fd fdh : FuncData} (F : Fun K "law" "law" (top 100) f fd) (T : Blt mg) (dh : Df K mg "_law_hand" (top 71) ["script"] fh fdh) (C : Cs P w K mg base NN) : FnG P w K mg base 39 f fd ["script"] (sp_law K) :=
  law_H (m := 10) (rest := (defBody (top 100)).drop 1) F S_law rfl rfl rfl dh (ok_hand dh.fn T) (by decide) rfl rfl rfl (fun _ _ _ _ _ _ => rfl) fun cdv A outer s H E hr => law_main hr T C
end
end A
set_option Elab.async false
set_option linter.all false
set_option maxRecDepth 100000
set_option maxHeartbeats 4000000
namespace A
open PySem PySem.Spec PyProof.Rows L2 E
theorem all_mk {l : PySem.W.OpenLaw} {w : World} {K : PySem.W.Frag} {h : Heap} {mg : Str → Option Value} {fa f1 f2 f3 f4 f5 f6 f7 f8 f9 f10 f11 f12 f13 f14 f15 f16 f17 f18 f19 f20 f21 f22 f23 f24 f25 f26 f27 f28 f29 f30 f31 f32 f33 f34 f35 f36 f37 f38 f39 f40 f41 f42 f43 f44 f45 f46 f47 f48 f49 f50 f51 f52 f53 f54 f55 f56 f57 CW NN c_plain c_indexed c_listsM c_listsE c_skipE : Addr} (X : K.In h) (G : h.Ns mainGlobals mg) (hfa : mg "law" = some (.ref fa))
    {od1 an1 od2 an2 od3 an3 od4 an4 od5 an5 od6 an6 od7 an7 od8 an8 od9 an9 od10 an10 od11 an11 od12 an12 od13 an13 od14 an14 od15 an15 od16 an16 od17 an17 od18 an18 od19 an19 od20 an20 od21 an21 od22 an22 od23 an23 od24 an24 od25 an25 od26 an26 od27 an27 od28 an28 od29 an29 od30 an30 od31 an31 od32 an32 od33 an33 od34 an34 od35 an35 od36 an36 od37 an37 od38 an38 od39 an39 od40 an40 od41 an41 od42 an42 od43 an43 od44 an44 od45 an45 od46 an46 od47 an47 od48 an48 od49 an49 od50 an50 od51 an51 od52 an52 od53 an53 od54 an54 od55 an55 od56 an56 od57 an57 : Option Addr} {sl1 sl2 sl3 sl4 sl5 sl6 sl7 sl8 sl9 sl10 sl11 sl12 sl13 sl14 sl15 sl16 sl17 sl18 sl19 sl20 sl21 sl22 sl23 sl24 sl25 sl26 sl27 sl28 sl29 sl30 sl31 sl32 sl33 sl34 sl35 sl36 sl37 sl38 sl39 sl40 sl41 sl42 sl43 sl44 sl45 sl46 sl47 sl48 sl49 sl50 sl51 sl52 sl53 sl54 sl55 sl56 sl57 : Array (Option Value)} {oc1 kV1 dc1 pm1 cd1 ct1 oc2 kV2 dc2 pm2 cd2 ct2 oc3 kV3 dc3 pm3 cd3 ct3 oc4 kV4 dc4 pm4 cd4 ct4 oc5 kV5 dc5 pm5 cd5 ct5 oc6 kV6 dc6 pm6 cd6 ct6 oc7 kV7 dc7 pm7 cd7 ct7 oc8 kV8 dc8 pm8 cd8 ct8 oc9 kV9 dc9 pm9 cd9 ct9 oc10 kV10 dc10 pm10 cd10 ct10 oc11 kV11 dc11 pm11 cd11 ct11 oc12 kV12 dc12 pm12 cd12 ct12 oc13 kV13 dc13 pm13 cd13 ct13 oc14 kV14 dc14 pm14 cd14 ct14 oc15 kV15 dc15 pm15 cd15 ct15 oc16 kV16 dc16 pm16 cd16 ct16 oc17 kV17 dc17 pm17 cd17 ct17 oc18 kV18 dc18 pm18 cd18 ct18 oc19 kV19 dc19 pm19 cd19 ct19 oc20 kV20 dc20 pm20 cd20 ct20 oc21 kV21 dc21 pm21 cd21 ct21 oc22 kV22 dc22 pm22 cd22 ct22 oc23 kV23 dc23 pm23 cd23 ct23 oc24 kV24 dc24 pm24 cd24 ct24 oc25 kV25 dc25 pm25 cd25 ct25 oc26 kV26 dc26 pm26 cd26 ct26 oc27 kV27 dc27 pm27 cd27 ct27 oc28 kV28 dc28 pm28 cd28 ct28 oc29 kV29 dc29 pm29 cd29 ct29 oc30 kV30 dc30 pm30 cd30 ct30 oc31 kV31 dc31 pm31 cd31 ct31 oc32 kV32 dc32 pm32 cd32 ct32 oc33 kV33 dc33 pm33 cd33 ct33 oc34 kV34 dc34 pm34 cd34 ct34 oc35 kV35 dc35 pm35 cd35 ct35 oc36 kV36 dc36 pm36 cd36 ct36 oc37 kV37 dc37 pm37 cd37 ct37 oc38 kV38 dc38 pm38 cd38 ct38 oc39 kV39 dc39 pm39 cd39 ct39 oc40 kV40 dc40 pm40 cd40 ct40 oc41 kV41 dc41 pm41 cd41 ct41 oc42 kV42 dc42 pm42 cd42 ct42 oc43 kV43 dc43 pm43 cd43 ct43 oc44 kV44 dc44 pm44 cd44 ct44 oc45 kV45 dc45 pm45 cd45 ct45 oc46 kV46 dc46 pm46 cd46 ct46 oc47 kV47 dc47 pm47 cd47 ct47 oc48 kV48 dc48 pm48 cd48 ct48 oc49 kV49 dc49 pm49 cd49 ct49 oc50 kV50 dc50 pm50 cd50 ct50 oc51 kV51 dc51 pm51 cd51 ct51 oc52 kV52 dc52 pm52 cd52 ct52 oc53 kV53 dc53 pm53 cd53 ct53 oc54 kV54 dc54 pm54 cd54 ct54 oc55 kV55 dc55 pm55 cd55 ct55 oc56 kV56 dc56 pm56 cd56 ct56 oc57 kV57 dc57 pm57 cd57 ct57 : Value} {tk_deep tk_most tk_parts : Tok} {tk_told : Tok} {tk_letters tk_DO tk_SKIPt tk_AGAIN tk_ROW tk_PICK tk_SIDES tk_merged tk_clash tk_plain0 tk_plain1 tk_plain2 tk_plain3 tk_plain4 tk_indexed0 tk_indexed1 tk_indexed2 tk_listsM0 tk_listsM1 tk_listsM2 tk_listsE0 tk_listsE1 tk_listsE2 tk_skipE0 : Tok} {od_plain od_indexed od_listsM od_listsE od_skipE : Option Addr} {n_plain n_indexed n_listsM n_listsE n_skipE : Nat} {sl_plain sl_indexed sl_listsM sl_listsE sl_skipE : Array (Option Value)}
    (a1 : PySem.W.nsIn K mainGlobals "is_integer" = some (some (.ref f1))) (l1 : K.lookup f1 = some ⟨oc1, od1, .func (PySem.W.fnOf "is_integer" "is_integer" (defArgs (top 2)) (defBody (top 2)) (defScope (top 2)) .none kV1 dc1 pm1 an1 cd1 ct1), sl1⟩) (c1 : PySem.W.codeIn K cd1 "is_integer" = true) (k1 : PySem.W.keepIn K (.ref f1) = true)
    (a2 : PySem.W.nsIn K mainGlobals "is_within" = some (some (.ref f2))) (l2 : K.lookup f2 = some ⟨oc2, od2, .func (PySem.W.fnOf "is_within" "is_within" (defArgs (top 3)) (defBody (top 3)) (defScope (top 3)) .none kV2 dc2 pm2 an2 cd2 ct2), sl2⟩) (c2 : PySem.W.codeIn K cd2 "is_within" = true) (k2 : PySem.W.keepIn K (.ref f2) = true)
    (a3 : PySem.W.nsIn K mainGlobals "is_sized" = some (some (.ref f3))) (l3 : K.lookup f3 = some ⟨oc3, od3, .func (PySem.W.fnOf "is_sized" "is_sized" (defArgs (top 4)) (defBody (top 4)) (defScope (top 4)) .none kV3 dc3 pm3 an3 cd3 ct3), sl3⟩) (c3 : PySem.W.codeIn K cd3 "is_sized" = true) (k3 : PySem.W.keepIn K (.ref f3) = true)
    (a4 : PySem.W.nsIn K mainGlobals "is_name" = some (some (.ref f4))) (l4 : K.lookup f4 = some ⟨oc4, od4, .func (PySem.W.fnOf "is_name" "is_name" (defArgs (top 5)) (defBody (top 5)) (defScope (top 5)) .none kV4 dc4 pm4 an4 cd4 ct4), sl4⟩) (c4 : PySem.W.codeIn K cd4 "is_name" = true) (k4 : PySem.W.keepIn K (.ref f4) = true)
    (a5 : PySem.W.nsIn K mainGlobals "parts_of_trees" = some (some (.ref f5))) (l5 : K.lookup f5 = some ⟨oc5, od5, .func (PySem.W.fnOf "parts_of" "parts_of" (defArgs (top 21)) (defBody (top 21)) (defScope (top 21)) .none kV5 dc5 pm5 an5 cd5 ct5), sl5⟩) (c5 : PySem.W.codeIn K cd5 "parts_of" = true) (k5 : PySem.W.keepIn K (.ref f5) = true)
    (a6 : PySem.W.nsIn K mainGlobals "size_of" = some (some (.ref f6))) (l6 : K.lookup f6 = some ⟨oc6, od6, .func (PySem.W.fnOf "size_of" "size_of" (defArgs (top 23)) (defBody (top 23)) (defScope (top 23)) .none kV6 dc6 pm6 an6 cd6 ct6), sl6⟩) (c6 : PySem.W.codeIn K cd6 "size_of" = true) (k6 : PySem.W.keepIn K (.ref f6) = true)
    (a7 : PySem.W.nsIn K mainGlobals "is_procedure" = some (some (.ref f7))) (l7 : K.lookup f7 = some ⟨oc7, od7, .func (PySem.W.fnOf "is_procedure" "is_procedure" (defArgs (top 24)) (defBody (top 24)) (defScope (top 24)) .none kV7 dc7 pm7 an7 cd7 ct7), sl7⟩) (c7 : PySem.W.codeIn K cd7 "is_procedure" = true) (k7 : PySem.W.keepIn K (.ref f7) = true)
    (a8 : PySem.W.nsIn K mainGlobals "check_procedure" = some (some (.ref f8))) (l8 : K.lookup f8 = some ⟨oc8, od8, .func (PySem.W.fnOf "check_procedure" "check_procedure" (defArgs (top 25)) (defBody (top 25)) (defScope (top 25)) .none kV8 dc8 pm8 an8 cd8 ct8), sl8⟩) (c8 : PySem.W.codeIn K cd8 "check_procedure" = true) (k8 : PySem.W.keepIn K (.ref f8) = true)
    (a9 : PySem.W.nsIn K mainGlobals "parts_of_edits" = some (some (.ref f9))) (l9 : K.lookup f9 = some ⟨oc9, od9, .func (PySem.W.fnOf "parts_of" "parts_of" (defArgs (top 31)) (defBody (top 31)) (defScope (top 31)) .none kV9 dc9 pm9 an9 cd9 ct9), sl9⟩) (c9 : PySem.W.codeIn K cd9 "parts_of" = true) (k9 : PySem.W.keepIn K (.ref f9) = true)
    (a10 : PySem.W.nsIn K mainGlobals "all_paths" = some (some (.ref f10))) (l10 : K.lookup f10 = some ⟨oc10, od10, .func (PySem.W.fnOf "all_paths" "all_paths" (defArgs (top 33)) (defBody (top 33)) (defScope (top 33)) .none kV10 dc10 pm10 an10 cd10 ct10), sl10⟩) (c10 : PySem.W.codeIn K cd10 "all_paths" = true) (k10 : PySem.W.keepIn K (.ref f10) = true)
    (a11 : PySem.W.nsIn K mainGlobals "part_on" = some (some (.ref f11))) (l11 : K.lookup f11 = some ⟨oc11, od11, .func (PySem.W.fnOf "part_on" "part_on" (defArgs (top 34)) (defBody (top 34)) (defScope (top 34)) .none kV11 dc11 pm11 an11 cd11 ct11), sl11⟩) (c11 : PySem.W.codeIn K cd11 "part_on" = true) (k11 : PySem.W.keepIn K (.ref f11) = true)
    (a12 : PySem.W.nsIn K mainGlobals "is_path" = some (some (.ref f12))) (l12 : K.lookup f12 = some ⟨oc12, od12, .func (PySem.W.fnOf "is_path" "is_path" (defArgs (top 35)) (defBody (top 35)) (defScope (top 35)) .none kV12 dc12 pm12 an12 cd12 ct12), sl12⟩) (c12 : PySem.W.codeIn K cd12 "is_path" = true) (k12 : PySem.W.keepIn K (.ref f12) = true)
    (a13 : PySem.W.nsIn K mainGlobals "put_at" = some (some (.ref f13))) (l13 : K.lookup f13 = some ⟨oc13, od13, .func (PySem.W.fnOf "put_at" "put_at" (defArgs (top 36)) (defBody (top 36)) (defScope (top 36)) .none kV13 dc13 pm13 an13 cd13 ct13), sl13⟩) (c13 : PySem.W.codeIn K cd13 "put_at" = true) (k13 : PySem.W.keepIn K (.ref f13) = true)
    (a14 : PySem.W.nsIn K mainGlobals "left_out" = some (some (.ref f14))) (l14 : K.lookup f14 = some ⟨oc14, od14, .func (PySem.W.fnOf "left_out" "left_out" (defArgs (top 39)) (defBody (top 39)) (defScope (top 39)) .none kV14 dc14 pm14 an14 cd14 ct14), sl14⟩) (c14 : PySem.W.codeIn K cd14 "left_out" = true) (k14 : PySem.W.keepIn K (.ref f14) = true)
    (a15 : PySem.W.nsIn K mainGlobals "turned_round" = some (some (.ref f15))) (l15 : K.lookup f15 = some ⟨oc15, od15, .func (PySem.W.fnOf "turned_round" "turned_round" (defArgs (top 40)) (defBody (top 40)) (defScope (top 40)) .none kV15 dc15 pm15 an15 cd15 ct15), sl15⟩) (c15 : PySem.W.codeIn K cd15 "turned_round" = true) (k15 : PySem.W.keepIn K (.ref f15) = true)
    (a16 : PySem.W.nsIn K mainGlobals "bare_change" = some (some (.ref f16))) (l16 : K.lookup f16 = some ⟨oc16, od16, .func (PySem.W.fnOf "bare_change" "bare_change" (defArgs (top 41)) (defBody (top 41)) (defScope (top 41)) .none kV16 dc16 pm16 an16 cd16 ct16), sl16⟩) (c16 : PySem.W.codeIn K cd16 "bare_change" = true) (k16 : PySem.W.keepIn K (.ref f16) = true)
    (a17 : PySem.W.nsIn K mainGlobals "indexed_change" = some (some (.ref f17))) (l17 : K.lookup f17 = some ⟨oc17, od17, .func (PySem.W.fnOf "indexed_change" "indexed_change" (defArgs (top 42)) (defBody (top 42)) (defScope (top 42)) .none kV17 dc17 pm17 an17 cd17 ct17), sl17⟩) (c17 : PySem.W.codeIn K cd17 "indexed_change" = true) (k17 : PySem.W.keepIn K (.ref f17) = true)
    (a18 : PySem.W.nsIn K mainGlobals "local_change" = some (some (.ref f18))) (l18 : K.lookup f18 = some ⟨oc18, od18, .func (PySem.W.fnOf "local_change" "local_change" (defArgs (top 44)) (defBody (top 44)) (defScope (top 44)) .none kV18 dc18 pm18 an18 cd18 ct18), sl18⟩) (c18 : PySem.W.codeIn K cd18 "local_change" = true) (k18 : PySem.W.keepIn K (.ref f18) = true)
    (a19 : PySem.W.nsIn K mainGlobals "outcome" = some (some (.ref f19))) (l19 : K.lookup f19 = some ⟨oc19, od19, .func (PySem.W.fnOf "outcome" "outcome" (defArgs (top 45)) (defBody (top 45)) (defScope (top 45)) .none kV19 dc19 pm19 an19 cd19 ct19), sl19⟩) (c19 : PySem.W.codeIn K cd19 "outcome" = true) (k19 : PySem.W.keepIn K (.ref f19) = true)
    (a20 : PySem.W.nsIn K mainGlobals "changed_by" = some (some (.ref f20))) (l20 : K.lookup f20 = some ⟨oc20, od20, .func (PySem.W.fnOf "changed_by" "changed_by" (defArgs (top 46)) (defBody (top 46)) (defScope (top 46)) .none kV20 dc20 pm20 an20 cd20 ct20), sl20⟩) (c20 : PySem.W.codeIn K cd20 "changed_by" = true) (k20 : PySem.W.keepIn K (.ref f20) = true)
    (a21 : PySem.W.nsIn K mainGlobals "changed" = some (some (.ref f21))) (l21 : K.lookup f21 = some ⟨oc21, od21, .func (PySem.W.fnOf "changed" "changed" (defArgs (top 47)) (defBody (top 47)) (defScope (top 47)) .none kV21 dc21 pm21 an21 cd21 ct21), sl21⟩) (c21 : PySem.W.codeIn K cd21 "changed" = true) (k21 : PySem.W.keepIn K (.ref f21) = true)
    (a22 : PySem.W.nsIn K mainGlobals "path_in_list" = some (some (.ref f22))) (l22 : K.lookup f22 = some ⟨oc22, od22, .func (PySem.W.fnOf "path_in_list" "path_in_list" (defArgs (top 56)) (defBody (top 56)) (defScope (top 56)) .none kV22 dc22 pm22 an22 cd22 ct22), sl22⟩) (c22 : PySem.W.codeIn K cd22 "path_in_list" = true) (k22 : PySem.W.keepIn K (.ref f22) = true)
    (a23 : PySem.W.nsIn K mainGlobals "path_below" = some (some (.ref f23))) (l23 : K.lookup f23 = some ⟨oc23, od23, .func (PySem.W.fnOf "path_below" "path_below" (defArgs (top 57)) (defBody (top 57)) (defScope (top 57)) .none kV23 dc23 pm23 an23 cd23 ct23), sl23⟩) (c23 : PySem.W.codeIn K cd23 "path_below" = true) (k23 : PySem.W.keepIn K (.ref f23) = true)
    (a24 : PySem.W.nsIn K mainGlobals "moved_path" = some (some (.ref f24))) (l24 : K.lookup f24 = some ⟨oc24, od24, .func (PySem.W.fnOf "moved_path" "moved_path" (defArgs (top 58)) (defBody (top 58)) (defScope (top 58)) .none kV24 dc24 pm24 an24 cd24 ct24), sl24⟩) (c24 : PySem.W.codeIn K cd24 "moved_path" = true) (k24 : PySem.W.keepIn K (.ref f24) = true)
    (a25 : PySem.W.nsIn K mainGlobals "index_now" = some (some (.ref f25))) (l25 : K.lookup f25 = some ⟨oc25, od25, .func (PySem.W.fnOf "index_now" "index_now" (defArgs (top 59)) (defBody (top 59)) (defScope (top 59)) .none kV25 dc25 pm25 an25 cd25 ct25), sl25⟩) (c25 : PySem.W.codeIn K cd25 "index_now" = true) (k25 : PySem.W.keepIn K (.ref f25) = true)
    (a26 : PySem.W.nsIn K mainGlobals "shift" = some (some (.ref f26))) (l26 : K.lookup f26 = some ⟨oc26, od26, .func (PySem.W.fnOf "shift" "shift" (defArgs (top 61)) (defBody (top 61)) (defScope (top 61)) .none kV26 dc26 pm26 an26 cd26 ct26), sl26⟩) (c26 : PySem.W.codeIn K cd26 "shift" = true) (k26 : PySem.W.keepIn K (.ref f26) = true)
    (a27 : PySem.W.nsIn K mainGlobals "check_change" = some (some (.ref f27))) (l27 : K.lookup f27 = some ⟨oc27, od27, .func (PySem.W.fnOf "check_change" "check_change" (defArgs (top 62)) (defBody (top 62)) (defScope (top 62)) .none kV27 dc27 pm27 an27 cd27 ct27), sl27⟩) (c27 : PySem.W.codeIn K cd27 "check_change" = true) (k27 : PySem.W.keepIn K (.ref f27) = true)
    (a28 : PySem.W.nsIn K mainGlobals "done_after" = some (some (.ref f28))) (l28 : K.lookup f28 = some ⟨oc28, od28, .func (PySem.W.fnOf "done_after" "done_after" (defArgs (top 63)) (defBody (top 63)) (defScope (top 63)) .none kV28 dc28 pm28 an28 cd28 ct28), sl28⟩) (c28 : PySem.W.codeIn K cd28 "done_after" = true) (k28 : PySem.W.keepIn K (.ref f28) = true)
    (a29 : PySem.W.nsIn K mainGlobals "merge_of" = some (some (.ref f29))) (l29 : K.lookup f29 = some ⟨oc29, od29, .func (PySem.W.fnOf "merge_of" "merge_of" (defArgs (top 64)) (defBody (top 64)) (defScope (top 64)) .none kV29 dc29 pm29 an29 cd29 ct29), sl29⟩) (c29 : PySem.W.codeIn K cd29 "merge_of" = true) (k29 : PySem.W.keepIn K (.ref f29) = true)
    (a30 : PySem.W.nsIn K mainGlobals "merged" = some (some (.ref f30))) (l30 : K.lookup f30 = some ⟨oc30, od30, .func (PySem.W.fnOf "merged" "merged" (defArgs (top 65)) (defBody (top 65)) (defScope (top 65)) .none kV30 dc30 pm30 an30 cd30 ct30), sl30⟩) (c30 : PySem.W.codeIn K cd30 "merged" = true) (k30 : PySem.W.keepIn K (.ref f30) = true)
    (a31 : PySem.W.nsIn K mainGlobals "plain_changes" = some (some (.ref f31))) (l31 : K.lookup f31 = some ⟨oc31, od31, .func (PySem.W.fnOf "plain_changes" "plain_changes" (defArgs (top 66)) (defBody (top 66)) (defScope (top 66)) .none kV31 dc31 pm31 an31 cd31 ct31), sl31⟩) (c31 : PySem.W.codeIn K cd31 "plain_changes" = true) (k31 : PySem.W.keepIn K (.ref f31) = true)
    (a32 : PySem.W.nsIn K mainGlobals "changes_to" = some (some (.ref f32))) (l32 : K.lookup f32 = some ⟨oc32, od32, .func (PySem.W.fnOf "changes_to" "changes_to" (defArgs (top 67)) (defBody (top 67)) (defScope (top 67)) .none kV32 dc32 pm32 an32 cd32 ct32), sl32⟩) (c32 : PySem.W.codeIn K cd32 "changes_to" = true) (k32 : PySem.W.keepIn K (.ref f32) = true)
    (a33 : PySem.W.nsIn K mainGlobals "told_changes" = some (some (.ref f33))) (l33 : K.lookup f33 = some ⟨oc33, od33, .func (PySem.W.fnOf "told_changes" "told_changes" (defArgs (top 68)) (defBody (top 68)) (defScope (top 68)) .none kV33 dc33 pm33 an33 cd33 ct33), sl33⟩) (c33 : PySem.W.codeIn K cd33 "told_changes" = true) (k33 : PySem.W.keepIn K (.ref f33) = true)
    (a34 : PySem.W.nsIn K mainGlobals "put_together" = some (some (.ref f34))) (l34 : K.lookup f34 = some ⟨oc34, od34, .func (PySem.W.fnOf "put_together" "put_together" (defArgs (top 69)) (defBody (top 69)) (defScope (top 69)) .none kV34 dc34 pm34 an34 cd34 ct34), sl34⟩) (c34 : PySem.W.codeIn K cd34 "put_together" = true) (k34 : PySem.W.keepIn K (.ref f34) = true)
    (a35 : PySem.W.nsIn K mainGlobals "_law_mixed" = some (some (.ref f35))) (l35 : K.lookup f35 = some ⟨oc35, od35, .func (PySem.W.fnOf "_law_mixed" "_law_mixed" (defArgs (top 72)) (defBody (top 72)) (defScope (top 72)) .none kV35 dc35 pm35 an35 cd35 ct35), sl35⟩) (c35 : PySem.W.codeIn K cd35 "_law_mixed" = true) (k35 : PySem.W.keepIn K (.ref f35) = true)
    (a36 : PySem.W.nsIn K mainGlobals "_law_draw" = some (some (.ref f36))) (l36 : K.lookup f36 = some ⟨oc36, od36, .func (PySem.W.fnOf "_law_draw" "_law_draw" (defArgs (top 73)) (defBody (top 73)) (defScope (top 73)) .none kV36 dc36 pm36 an36 cd36 ct36), sl36⟩) (c36 : PySem.W.codeIn K cd36 "_law_draw" = true) (k36 : PySem.W.keepIn K (.ref f36) = true)
    (a37 : PySem.W.nsIn K mainGlobals "_law_any" = some (some (.ref f37))) (l37 : K.lookup f37 = some ⟨oc37, od37, .func (PySem.W.fnOf "_law_any" "_law_any" (defArgs (top 74)) (defBody (top 74)) (defScope (top 74)) .none kV37 dc37 pm37 an37 cd37 ct37), sl37⟩) (c37 : PySem.W.codeIn K cd37 "_law_any" = true) (k37 : PySem.W.keepIn K (.ref f37) = true)
    (a38 : PySem.W.nsIn K mainGlobals "_law_procedure" = some (some (.ref f38))) (l38 : K.lookup f38 = some ⟨oc38, od38, .func (PySem.W.fnOf "_law_procedure" "_law_procedure" (defArgs (top 75)) (defBody (top 75)) (defScope (top 75)) .none kV38 dc38 pm38 an38 cd38 ct38), sl38⟩) (c38 : PySem.W.codeIn K cd38 "_law_procedure" = true) (k38 : PySem.W.keepIn K (.ref f38) = true)
    (a39 : PySem.W.nsIn K mainGlobals "_law_kids" = some (some (.ref f39))) (l39 : K.lookup f39 = some ⟨oc39, od39, .func (PySem.W.fnOf "_law_kids" "_law_kids" (defArgs (top 76)) (defBody (top 76)) (defScope (top 76)) .none kV39 dc39 pm39 an39 cd39 ct39), sl39⟩) (c39 : PySem.W.codeIn K cd39 "_law_kids" = true) (k39 : PySem.W.keepIn K (.ref f39) = true)
    (a40 : PySem.W.nsIn K mainGlobals "_law_made" = some (some (.ref f40))) (l40 : K.lookup f40 = some ⟨oc40, od40, .func (PySem.W.fnOf "_law_made" "_law_made" (defArgs (top 77)) (defBody (top 77)) (defScope (top 77)) .none kV40 dc40 pm40 an40 cd40 ct40), sl40⟩) (c40 : PySem.W.codeIn K cd40 "_law_made" = true) (k40 : PySem.W.keepIn K (.ref f40) = true)
    (a41 : PySem.W.nsIn K mainGlobals "_law_paths" = some (some (.ref f41))) (l41 : K.lookup f41 = some ⟨oc41, od41, .func (PySem.W.fnOf "_law_paths" "_law_paths" (defArgs (top 78)) (defBody (top 78)) (defScope (top 78)) .none kV41 dc41 pm41 an41 cd41 ct41), sl41⟩) (c41 : PySem.W.codeIn K cd41 "_law_paths" = true) (k41 : PySem.W.keepIn K (.ref f41) = true)
    (a42 : PySem.W.nsIn K mainGlobals "_law_at" = some (some (.ref f42))) (l42 : K.lookup f42 = some ⟨oc42, od42, .func (PySem.W.fnOf "_law_at" "_law_at" (defArgs (top 79)) (defBody (top 79)) (defScope (top 79)) .none kV42 dc42 pm42 an42 cd42 ct42), sl42⟩) (c42 : PySem.W.codeIn K cd42 "_law_at" = true) (k42 : PySem.W.keepIn K (.ref f42) = true)
    (a43 : PySem.W.nsIn K mainGlobals "_law_with" = some (some (.ref f43))) (l43 : K.lookup f43 = some ⟨oc43, od43, .func (PySem.W.fnOf "_law_with" "_law_with" (defArgs (top 80)) (defBody (top 80)) (defScope (top 80)) .none kV43 dc43 pm43 an43 cd43 ct43), sl43⟩) (c43 : PySem.W.codeIn K cd43 "_law_with" = true) (k43 : PySem.W.keepIn K (.ref f43) = true)
    (a44 : PySem.W.nsIn K mainGlobals "_law_names" = some (some (.ref f44))) (l44 : K.lookup f44 = some ⟨oc44, od44, .func (PySem.W.fnOf "_law_names" "_law_names" (defArgs (top 81)) (defBody (top 81)) (defScope (top 81)) .none kV44 dc44 pm44 an44 cd44 ct44), sl44⟩) (c44 : PySem.W.codeIn K cd44 "_law_names" = true) (k44 : PySem.W.keepIn K (.ref f44) = true)
    (a45 : PySem.W.nsIn K mainGlobals "_law_deep" = some (some (.ref f45))) (l45 : K.lookup f45 = some ⟨oc45, od45, .func (PySem.W.fnOf "_law_deep" "_law_deep" (defArgs (top 82)) (defBody (top 82)) (defScope (top 82)) .none kV45 dc45 pm45 an45 cd45 ct45), sl45⟩) (c45 : PySem.W.codeIn K cd45 "_law_deep" = true) (k45 : PySem.W.keepIn K (.ref f45) = true)
    (a46 : PySem.W.nsIn K mainGlobals "_law_is_small" = some (some (.ref f46))) (l46 : K.lookup f46 = some ⟨oc46, od46, .func (PySem.W.fnOf "_law_is_small" "_law_is_small" (defArgs (top 83)) (defBody (top 83)) (defScope (top 83)) .none kV46 dc46 pm46 an46 cd46 ct46), sl46⟩) (c46 : PySem.W.codeIn K cd46 "_law_is_small" = true) (k46 : PySem.W.keepIn K (.ref f46) = true)
    (a47 : PySem.W.nsIn K mainGlobals "_law_left_out" = some (some (.ref f47))) (l47 : K.lookup f47 = some ⟨oc47, od47, .func (PySem.W.fnOf "_law_left_out" "_law_left_out" (defArgs (top 86)) (defBody (top 86)) (defScope (top 86)) .none kV47 dc47 pm47 an47 cd47 ct47), sl47⟩) (c47 : PySem.W.codeIn K cd47 "_law_left_out" = true) (k47 : PySem.W.keepIn K (.ref f47) = true)
    (a48 : PySem.W.nsIn K mainGlobals "_law_here" = some (some (.ref f48))) (l48 : K.lookup f48 = some ⟨oc48, od48, .func (PySem.W.fnOf "_law_here" "_law_here" (defArgs (top 87)) (defBody (top 87)) (defScope (top 87)) .none kV48 dc48 pm48 an48 cd48 ct48), sl48⟩) (c48 : PySem.W.codeIn K cd48 "_law_here" = true) (k48 : PySem.W.keepIn K (.ref f48) = true)
    (a49 : PySem.W.nsIn K mainGlobals "_law_changed" = some (some (.ref f49))) (l49 : K.lookup f49 = some ⟨oc49, od49, .func (PySem.W.fnOf "_law_changed" "_law_changed" (defArgs (top 88)) (defBody (top 88)) (defScope (top 88)) .none kV49 dc49 pm49 an49 cd49 ct49), sl49⟩) (c49 : PySem.W.codeIn K cd49 "_law_changed" = true) (k49 : PySem.W.keepIn K (.ref f49) = true)
    (a50 : PySem.W.nsIn K mainGlobals "_law_all_changes" = some (some (.ref f50))) (l50 : K.lookup f50 = some ⟨oc50, od50, .func (PySem.W.fnOf "_law_all_changes" "_law_all_changes" (defArgs (top 94)) (defBody (top 94)) (defScope (top 94)) .none kV50 dc50 pm50 an50 cd50 ct50), sl50⟩) (c50 : PySem.W.codeIn K cd50 "_law_all_changes" = true) (k50 : PySem.W.keepIn K (.ref f50) = true)
    (a51 : PySem.W.nsIn K mainGlobals "_law_told" = some (some (.ref f51))) (l51 : K.lookup f51 = some ⟨oc51, od51, .func (PySem.W.fnOf "_law_told" "_law_told" (defArgs (top 95)) (defBody (top 95)) (defScope (top 95)) .none kV51 dc51 pm51 an51 cd51 ct51), sl51⟩) (c51 : PySem.W.codeIn K cd51 "_law_told" = true) (k51 : PySem.W.keepIn K (.ref f51) = true)
    (a52 : PySem.W.nsIn K mainGlobals "_law_put" = some (some (.ref f52))) (l52 : K.lookup f52 = some ⟨oc52, od52, .func (PySem.W.fnOf "_law_put" "_law_put" (defArgs (top 96)) (defBody (top 96)) (defScope (top 96)) .none kV52 dc52 pm52 an52 cd52 ct52), sl52⟩) (c52 : PySem.W.codeIn K cd52 "_law_put" = true) (k52 : PySem.W.keepIn K (.ref f52) = true)
    (a53 : PySem.W.nsIn K mainGlobals "_law_small" = some (some (.ref f53))) (l53 : K.lookup f53 = some ⟨oc53, od53, .func (PySem.W.fnOf "_law_small" "_law_small" (defArgs (top 97)) (defBody (top 97)) (defScope (top 97)) .none kV53 dc53 pm53 an53 cd53 ct53), sl53⟩) (c53 : PySem.W.codeIn K cd53 "_law_small" = true) (k53 : PySem.W.keepIn K (.ref f53) = true)
    (a54 : PySem.W.nsIn K mainGlobals "_law_edition" = some (some (.ref f54))) (l54 : K.lookup f54 = some ⟨oc54, od54, .func (PySem.W.fnOf "_law_edition" "_law_edition" (defArgs (top 98)) (defBody (top 98)) (defScope (top 98)) .none kV54 dc54 pm54 an54 cd54 ct54), sl54⟩) (c54 : PySem.W.codeIn K cd54 "_law_edition" = true) (k54 : PySem.W.keepIn K (.ref f54) = true)
    (a55 : PySem.W.nsIn K mainGlobals "_law_word" = some (some (.ref f55))) (l55 : K.lookup f55 = some ⟨oc55, od55, .func (PySem.W.fnOf "_law_word" "_law_word" (defArgs (top 99)) (defBody (top 99)) (defScope (top 99)) .none kV55 dc55 pm55 an55 cd55 ct55), sl55⟩) (c55 : PySem.W.codeIn K cd55 "_law_word" = true) (k55 : PySem.W.keepIn K (.ref f55) = true)
    (a56 : PySem.W.nsIn K mainGlobals "law" = some (some (.ref f56))) (l56 : K.lookup f56 = some ⟨oc56, od56, .func (PySem.W.fnOf "law" "law" (defArgs (top 100)) (defBody (top 100)) (defScope (top 100)) .none kV56 dc56 pm56 an56 cd56 ct56), sl56⟩) (c56 : PySem.W.codeIn K cd56 "law" = true) (k56 : PySem.W.keepIn K (.ref f56) = true)
    (a57 : PySem.W.nsIn K mainGlobals "_law_hand" = some (some (.ref f57))) (l57 : K.lookup f57 = some ⟨oc57, od57, .func (PySem.W.fnOf "_law_hand" "_law_hand" (defArgs (top 71)) (defBody (top 71)) (defScope (top 71)) .none kV57 dc57 pm57 an57 cd57 ct57), sl57⟩) (c57 : PySem.W.codeIn K cd57 "_law_hand" = true) (k57 : PySem.W.keepIn K (.ref f57) = true)
    (z_isi : PySem.W.nsIn K mainGlobals "isinstance" = some none)
    (z_int : PySem.W.nsIn K mainGlobals "int" = some none)
    (z_bool : PySem.W.nsIn K mainGlobals "bool" = some none)
    (z_str : PySem.W.nsIn K mainGlobals "str" = some none)
    (z_tup : PySem.W.nsIn K mainGlobals "tuple" = some none)
    (z_len : PySem.W.nsIn K mainGlobals "len" = some none)
    (z_all : PySem.W.nsIn K mainGlobals "all" = some none)
    (z_any : PySem.W.nsIn K mainGlobals "any" = some none)
    (z_enum : PySem.W.nsIn K mainGlobals "enumerate" = some none)
    (z_max : PySem.W.nsIn K mainGlobals "max" = some none)
    (z_min : PySem.W.nsIn K mainGlobals "min" = some none)
    (z_sum : PySem.W.nsIn K mainGlobals "sum" = some none)
    (z_list : PySem.W.nsIn K mainGlobals "list" = some none)
    (z_sorted : PySem.W.nsIn K mainGlobals "sorted" = some none)
    (z_repr : PySem.W.nsIn K mainGlobals "repr" = some none)
    (z_range : PySem.W.nsIn K mainGlobals "range" = some none)
    (z_abs : PySem.W.nsIn K mainGlobals "abs" = some none)
    (n_deep : PySem.W.nsIn K mainGlobals "MOST_DEEP" = some (some (.int 8 tk_deep)))
    (n_most : PySem.W.nsIn K mainGlobals "MOST_DO" = some (some (.int 12 tk_most)))
    (n_parts : PySem.W.nsIn K mainGlobals "MOST_PARTS" = some (some (.int 6 tk_parts)))
    (n_told : PySem.W.nsIn K mainGlobals "MOST_TOLD" = some (some (.int 2 tk_told)))
    (s_letters : PySem.W.nsIn K mainGlobals "LETTERS" = some (some (.str "abcdefghijklmnopqrstuvwxyz" tk_letters)))
    (s_DO : PySem.W.nsIn K mainGlobals "DO" = some (some (.str "do" tk_DO)))
    (s_SKIPt : PySem.W.nsIn K mainGlobals "SKIP_trees" = some (some (.str "skip" tk_SKIPt)))
    (s_AGAIN : PySem.W.nsIn K mainGlobals "AGAIN" = some (some (.str "again" tk_AGAIN)))
    (s_ROW : PySem.W.nsIn K mainGlobals "ROW" = some (some (.str "row" tk_ROW)))
    (s_PICK : PySem.W.nsIn K mainGlobals "PICK" = some (some (.str "pick" tk_PICK)))
    (s_SIDES : PySem.W.nsIn K mainGlobals "SIDES" = some (some (.str "sides" tk_SIDES)))
    (s_merged : PySem.W.nsIn K mainGlobals "MERGED" = some (some (.str "merged" tk_merged)))
    (s_clash : PySem.W.nsIn K mainGlobals "CLASH" = some (some (.str "clash" tk_clash)))
    (q_plain : PySem.W.nsIn K mainGlobals "PLAIN" = some (some (.ref c_plain)))
    (y_plain : K.lookup c_plain = some ⟨.type "tuple", od_plain, .seq #[.str "free" tk_plain0, .str "once" tk_plain1, .str "order" tk_plain2, .str "round" tk_plain3, .str "sides" tk_plain4] n_plain, sl_plain⟩)
    (q_indexed : PySem.W.nsIn K mainGlobals "INDEXED" = some (some (.ref c_indexed)))
    (y_indexed : K.lookup c_indexed = some ⟨.type "tuple", od_indexed, .seq #[.str "lose" tk_indexed0, .str "shut" tk_indexed1, .str "turn" tk_indexed2] n_indexed, sl_indexed⟩)
    (q_listsM : PySem.W.nsIn K mainGlobals "LISTS_mergers" = some (some (.ref c_listsM)))
    (y_listsM : K.lookup c_listsM = some ⟨.type "tuple", od_listsM, .seq #[.str "row" tk_listsM0, .str "pick" tk_listsM1, .str "sides" tk_listsM2] n_listsM, sl_listsM⟩)
    (q_listsE : PySem.W.nsIn K mainGlobals "LISTS_edits" = some (some (.ref c_listsE)))
    (y_listsE : K.lookup c_listsE = some ⟨.type "tuple", od_listsE, .seq #[.str "row" tk_listsE0, .str "pick" tk_listsE1, .str "sides" tk_listsE2] n_listsE, sl_listsE⟩)
    (q_skipE : PySem.W.nsIn K mainGlobals "SKIP_edits" = some (some (.ref c_skipE)))
    (y_skipE : K.lookup c_skipE = some ⟨.type "tuple", od_skipE, .seq #[.str "skip" tk_skipE0] n_skipE, sl_skipE⟩)
    (e_W : PySem.W.nsIn K mainGlobals "WayError" = some (some (.ref CW)))
    (e_NN : PySem.W.nsIn K mainGlobals "NoNumber" = some (some (.ref NN)))
    (NN_q : PySem.W.excIn K NN [.type "ValueError", .type "Exception", .type "BaseException", .type "object"] "ValueError.__new__" = true)
    (NN_k : PySem.W.keepIn K (.ref NN) = true)
    (NN_b : PySem.W.subIn K (.ref NN) (.type "BaseException") = some true)
    (NN_t : PySem.W.typeIn K (.ref NN) = some (.type "type"))
    (NN_g : PySem.W.findIn K (.ref NN) "__getattribute__" = some (some (.builtin "BaseException.__getattribute__")))
    (NN_h : PySem.W.findIn K (.ref NN) "__getattr__" = some none)
    (NN_d : PySem.W.hasDictIn K NN = true)
    (NN_a : PySem.W.findIn K (.ref NN) "__class__" = some (some (.builtin "object.__class__")))
    (NN_m : PySem.W.mroIn K NN (.type "object") = some true)
    (NN_v : PySem.W.subIn K (.ref NN) (.type "ValueError") = some true)
    (NN_w : PySem.W.subIn K (.ref NN) (.ref CW) = some true)
    (NN_s : PySem.W.subIn K (.ref NN) (.ref NN) = some true)
    (o_n : PySem.W.specialIn K (.builtin "object.__class__") "__get__" = some (some (.builtin "getset_descriptor.__get__")))
    (o_t : PySem.W.takesIn K (.builtin "object.__class__") = some true)
    (w_b : PySem.W.subIn K (.ref CW) (.type "BaseException") = some true)
    (w_d : PySem.W.hasDictIn K CW = true)
    (w_t : PySem.W.typeIn K (.ref CW) = some (.type "type"))
    : ∃ fd : FuncData, (∀ (s : Shared) (v : Value), BindsTo s fd ⟨[v], []⟩ [("script", v)]) ∧ ∀ base : Heap, K.In base → base.Ns mainGlobals mg → FnG l.prog w K mg base 39 fa fd ["script"] (sp_law K) := by
  have e := hfa.symm.trans (PySem.W.mg_of X G a56)
  cases e
  letI : KF := ⟨fun a l => KonAt K a l, fun cs is => is.length = 3 ∧ (∀ i ∈ is, (0 : Int) ≤ i) ∧ cs.length ≤ 63 ∧ (3 = 4 → ∀ c ∈ cs, (0 : Int) ≤ c)⟩
  haveI : KonK K := ⟨fun _ _ h => h⟩
  haveI : HandN 3 := ⟨fun _ _ => Iff.rfl⟩
  have T : Blt mg := { isi := PySem.W.mg_none_of X G z_isi, int := PySem.W.mg_none_of X G z_int, bool := PySem.W.mg_none_of X G z_bool, str := PySem.W.mg_none_of X G z_str, tup := PySem.W.mg_none_of X G z_tup, len := PySem.W.mg_none_of X G z_len, all := PySem.W.mg_none_of X G z_all, any := PySem.W.mg_none_of X G z_any, enum := PySem.W.mg_none_of X G z_enum, max := PySem.W.mg_none_of X G z_max, min := PySem.W.mg_none_of X G z_min, sum := PySem.W.mg_none_of X G z_sum, list := PySem.W.mg_none_of X G z_list, sorted := PySem.W.mg_none_of X G z_sorted, repr := PySem.W.mg_none_of X G z_repr, range := PySem.W.mg_none_of X G z_range, abs := PySem.W.mg_none_of X G z_abs, deep := ⟨_, PySem.W.mg_of X G n_deep, _, rfl⟩, most := ⟨_, PySem.W.mg_of X G n_most, _, rfl⟩, parts := ⟨_, PySem.W.mg_of X G n_parts, _, rfl⟩, letters := ⟨_, PySem.W.mg_of X G s_letters, _, rfl⟩, DO := ⟨_, PySem.W.mg_of X G s_DO, _, rfl⟩, SKIPt := ⟨_, PySem.W.mg_of X G s_SKIPt, _, rfl⟩, AGAIN := ⟨_, PySem.W.mg_of X G s_AGAIN, _, rfl⟩, ROW := ⟨_, PySem.W.mg_of X G s_ROW, _, rfl⟩, PICK := ⟨_, PySem.W.mg_of X G s_PICK, _, rfl⟩, SIDES := ⟨_, PySem.W.mg_of X G s_SIDES, _, rfl⟩ }
  have TM : BltM mg := ⟨⟨_, PySem.W.mg_of X G q_plain, ⟨_, _, _, y_plain, rfl, rfl, Nat.le_of_ble_eq_true rfl, (.cons ⟨_, rfl⟩ (.cons ⟨_, rfl⟩ (.cons ⟨_, rfl⟩ (.cons ⟨_, rfl⟩ (.cons ⟨_, rfl⟩ (.nil))))))⟩⟩, ⟨_, PySem.W.mg_of X G q_indexed, ⟨_, _, _, y_indexed, rfl, rfl, Nat.le_of_ble_eq_true rfl, (.cons ⟨_, rfl⟩ (.cons ⟨_, rfl⟩ (.cons ⟨_, rfl⟩ (.nil))))⟩⟩, ⟨_, PySem.W.mg_of X G q_listsM, ⟨_, _, _, y_listsM, rfl, rfl, Nat.le_of_ble_eq_true rfl, (.cons ⟨_, rfl⟩ (.cons ⟨_, rfl⟩ (.cons ⟨_, rfl⟩ (.nil))))⟩⟩, ⟨_, PySem.W.mg_of X G s_merged, _, rfl⟩, ⟨_, PySem.W.mg_of X G s_clash, _, rfl⟩, ⟨_, PySem.W.mg_of X G n_told, _, rfl⟩⟩
  have TE : BltE mg := ⟨⟨_, PySem.W.mg_of X G q_listsE, ⟨_, _, _, y_listsE, rfl, rfl, Nat.le_of_ble_eq_true rfl, (.cons ⟨_, rfl⟩ (.cons ⟨_, rfl⟩ (.cons ⟨_, rfl⟩ (.nil))))⟩⟩, ⟨_, PySem.W.mg_of X G q_skipE, ⟨_, _, _, y_skipE, rfl, rfl, Nat.le_of_ble_eq_true rfl, (.cons ⟨_, rfl⟩ (.nil))⟩⟩⟩
  have kNN : ClsE K NN CW := ⟨NN_q, NN_k, NN_b, NN_t, NN_g, NN_h, NN_d, NN_a, NN_m, NN_v, NN_w, NN_s⟩
  have gW := PySem.W.mg_of X G e_W
  have gNN := PySem.W.mg_of X G e_NN
  have xb : BaseE K CW := ⟨o_n, o_t, w_b, w_d, w_t⟩
  have F1 := fun_mk (st := top 2) l1 c1 k1
  have D1 : Df K mg "is_integer" (top 2) ["thing"] f1 _ := ⟨F1, PySem.W.mg_of X G a1, F1.binds (ps := ["thing"]) fun _ _ _ _ _ _ us hl => match us, hl with | [_], _ => rfl⟩
  have F2 := fun_mk (st := top 3) l2 c2 k2
  have D2 : Df K mg "is_within" (top 3) ["thing", "low", "high"] f2 _ := ⟨F2, PySem.W.mg_of X G a2, F2.binds (ps := ["thing", "low", "high"]) fun _ _ _ _ _ _ us hl => match us, hl with | [_, _, _], _ => rfl⟩
  have F3 := fun_mk (st := top 4) l3 c3 k3
  have D3 : Df K mg "is_sized" (top 4) ["thing", "low", "high"] f3 _ := ⟨F3, PySem.W.mg_of X G a3, F3.binds (ps := ["thing", "low", "high"]) fun _ _ _ _ _ _ us hl => match us, hl with | [_, _, _], _ => rfl⟩
  have F4 := fun_mk (st := top 5) l4 c4 k4
  have D4 : Df K mg "is_name" (top 5) ["thing"] f4 _ := ⟨F4, PySem.W.mg_of X G a4, F4.binds (ps := ["thing"]) fun _ _ _ _ _ _ us hl => match us, hl with | [_], _ => rfl⟩
  have F5 := fun_mk (st := top 21) l5 c5 k5
  have F6 := fun_mk (st := top 23) l6 c6 k6
  have D6 : Df K mg "size_of" (top 23) ["thing", "deep"] f6 _ := ⟨F6, PySem.W.mg_of X G a6, F6.binds (ps := ["thing", "deep"]) fun _ _ _ _ _ _ us hl => match us, hl with | [_, _], _ => rfl⟩
  have F7 := fun_mk (st := top 24) l7 c7 k7
  have D7 : Df K mg "is_procedure" (top 24) ["thing"] f7 _ := ⟨F7, PySem.W.mg_of X G a7, F7.binds (ps := ["thing"]) fun _ _ _ _ _ _ us hl => match us, hl with | [_], _ => rfl⟩
  have F8 := fun_mk (st := top 25) l8 c8 k8
  have D8 : Df K mg "check_procedure" (top 25) ["thing"] f8 _ := ⟨F8, PySem.W.mg_of X G a8, F8.binds (ps := ["thing"]) fun _ _ _ _ _ _ us hl => match us, hl with | [_], _ => rfl⟩
  have F9 := fun_mk (st := top 31) l9 c9 k9
  have F10 := fun_mk (st := top 33) l10 c10 k10
  have D10 : Df K mg "all_paths" (top 33) ["procedure"] f10 _ := ⟨F10, PySem.W.mg_of X G a10, F10.binds (ps := ["procedure"]) fun _ _ _ _ _ _ us hl => match us, hl with | [_], _ => rfl⟩
  have F11 := fun_mk (st := top 34) l11 c11 k11
  have D11 : Df K mg "part_on" (top 34) ["procedure", "path"] f11 _ := ⟨F11, PySem.W.mg_of X G a11, F11.binds (ps := ["procedure", "path"]) fun _ _ _ _ _ _ us hl => match us, hl with | [_, _], _ => rfl⟩
  have F12 := fun_mk (st := top 35) l12 c12 k12
  have D12 : Df K mg "is_path" (top 35) ["procedure", "thing"] f12 _ := ⟨F12, PySem.W.mg_of X G a12, F12.binds (ps := ["procedure", "thing"]) fun _ _ _ _ _ _ us hl => match us, hl with | [_, _], _ => rfl⟩
  have F13 := fun_mk (st := top 36) l13 c13 k13
  have D13 : Df K mg "put_at" (top 36) ["procedure", "path", "part"] f13 _ := ⟨F13, PySem.W.mg_of X G a13, F13.binds (ps := ["procedure", "path", "part"]) fun _ _ _ _ _ _ us hl => match us, hl with | [_, _, _], _ => rfl⟩
  have F14 := fun_mk (st := top 39) l14 c14 k14
  have D14 : Df K mg "left_out" (top 39) ["told", "here", "index"] f14 _ := ⟨F14, PySem.W.mg_of X G a14, F14.binds (ps := ["told", "here", "index"]) fun _ _ _ _ _ _ us hl => match us, hl with | [_, _, _], _ => rfl⟩
  have F15 := fun_mk (st := top 40) l15 c15 k15
  have D15 : Df K mg "turned_round" (top 40) ["here", "index"] f15 _ := ⟨F15, PySem.W.mg_of X G a15, F15.binds (ps := ["here", "index"]) fun _ _ _ _ _ _ us hl => match us, hl with | [_, _], _ => rfl⟩
  have F16 := fun_mk (st := top 41) l16 c16 k16
  have D16 : Df K mg "bare_change" (top 41) ["here", "word"] f16 _ := ⟨F16, PySem.W.mg_of X G a16, F16.binds (ps := ["here", "word"]) fun _ _ _ _ _ _ us hl => match us, hl with | [_, _], _ => rfl⟩
  have F17 := fun_mk (st := top 42) l17 c17 k17
  have D17 : Df K mg "indexed_change" (top 42) ["here", "word", "index"] f17 _ := ⟨F17, PySem.W.mg_of X G a17, F17.binds (ps := ["here", "word", "index"]) fun _ _ _ _ _ _ us hl => match us, hl with | [_, _, _], _ => rfl⟩
  have F18 := fun_mk (st := top 44) l18 c18 k18
  have D18 : Df K mg "local_change" (top 44) ["here", "change"] f18 _ := ⟨F18, PySem.W.mg_of X G a18, F18.binds (ps := ["here", "change"]) fun _ _ _ _ _ _ us hl => match us, hl with | [_, _], _ => rfl⟩
  have F19 := fun_mk (st := top 45) l19 c19 k19
  have D19 : Df K mg "outcome" (top 45) ["procedure", "change"] f19 _ := ⟨F19, PySem.W.mg_of X G a19, F19.binds (ps := ["procedure", "change"]) fun _ _ _ _ _ _ us hl => match us, hl with | [_, _], _ => rfl⟩
  have F20 := fun_mk (st := top 46) l20 c20 k20
  have D20 : Df K mg "changed_by" (top 46) ["procedure", "change"] f20 _ := ⟨F20, PySem.W.mg_of X G a20, F20.binds (ps := ["procedure", "change"]) fun _ _ _ _ _ _ us hl => match us, hl with | [_, _], _ => rfl⟩
  have F21 := fun_mk (st := top 47) l21 c21 k21
  have D21 : Df K mg "changed" (top 47) ["procedure", "change"] f21 _ := ⟨F21, PySem.W.mg_of X G a21, F21.binds (ps := ["procedure", "change"]) fun _ _ _ _ _ _ us hl => match us, hl with | [_, _], _ => rfl⟩
  have F22 := fun_mk (st := top 56) l22 c22 k22
  have D22 : Df K mg "path_in_list" (top 56) ["here", "change", "rest"] f22 _ := ⟨F22, PySem.W.mg_of X G a22, F22.binds (ps := ["here", "change", "rest"]) fun _ _ _ _ _ _ us hl => match us, hl with | [_, _, _], _ => rfl⟩
  have F23 := fun_mk (st := top 57) l23 c23 k23
  have D23 : Df K mg "path_below" (top 57) ["here", "change", "rest"] f23 _ := ⟨F23, PySem.W.mg_of X G a23, F23.binds (ps := ["here", "change", "rest"]) fun _ _ _ _ _ _ us hl => match us, hl with | [_, _, _], _ => rfl⟩
  have F24 := fun_mk (st := top 58) l24 c24 k24
  have D24 : Df K mg "moved_path" (top 58) ["procedure", "change", "path"] f24 _ := ⟨F24, PySem.W.mg_of X G a24, F24.binds (ps := ["procedure", "change", "path"]) fun _ _ _ _ _ _ us hl => match us, hl with | [_, _, _], _ => rfl⟩
  have F25 := fun_mk (st := top 59) l25 c25 k25
  have D25 : Df K mg "index_now" (top 59) ["procedure", "change", "path", "now", "index"] f25 _ := ⟨F25, PySem.W.mg_of X G a25, F25.binds (ps := ["procedure", "change", "path", "now", "index"]) fun _ _ _ _ _ _ us hl => match us, hl with | [_, _, _, _, _], _ => rfl⟩
  have F26 := fun_mk (st := top 61) l26 c26 k26
  have D26 : Df K mg "shift" (top 61) ["procedure", "change", "other"] f26 _ := ⟨F26, PySem.W.mg_of X G a26, F26.binds (ps := ["procedure", "change", "other"]) fun _ _ _ _ _ _ us hl => match us, hl with | [_, _, _], _ => rfl⟩
  have F27 := fun_mk (st := top 62) l27 c27 k27
  have D27 : Df K mg "check_change" (top 62) ["procedure", "change"] f27 _ := ⟨F27, PySem.W.mg_of X G a27, F27.binds (ps := ["procedure", "change"]) fun _ _ _ _ _ _ us hl => match us, hl with | [_, _], _ => rfl⟩
  have F28 := fun_mk (st := top 63) l28 c28 k28
  have D28 : Df K mg "done_after" (top 63) ["procedure", "change", "other"] f28 _ := ⟨F28, PySem.W.mg_of X G a28, F28.binds (ps := ["procedure", "change", "other"]) fun _ _ _ _ _ _ us hl => match us, hl with | [_, _, _], _ => rfl⟩
  have F29 := fun_mk (st := top 64) l29 c29 k29
  have D29 : Df K mg "merge_of" (top 64) ["procedure", "one", "other"] f29 _ := ⟨F29, PySem.W.mg_of X G a29, F29.binds (ps := ["procedure", "one", "other"]) fun _ _ _ _ _ _ us hl => match us, hl with | [_, _, _], _ => rfl⟩
  have F30 := fun_mk (st := top 65) l30 c30 k30
  have D30 : Df K mg "merged" (top 65) ["procedure", "one", "other"] f30 _ := ⟨F30, PySem.W.mg_of X G a30, F30.binds (ps := ["procedure", "one", "other"]) fun _ _ _ _ _ _ us hl => match us, hl with | [_, _, _], _ => rfl⟩
  have F31 := fun_mk (st := top 66) l31 c31 k31
  have D31 : Df K mg "plain_changes" (top 66) ["procedure"] f31 _ := ⟨F31, PySem.W.mg_of X G a31, F31.binds (ps := ["procedure"]) fun _ _ _ _ _ _ us hl => match us, hl with | [_], _ => rfl⟩
  have F32 := fun_mk (st := top 67) l32 c32 k32
  have D32 : Df K mg "changes_to" (top 67) ["elder", "newer", "most"] f32 _ := ⟨F32, PySem.W.mg_of X G a32, F32.binds (ps := ["elder", "newer", "most"]) fun _ _ _ _ _ _ us hl => match us, hl with | [_, _, _], _ => rfl⟩
  have F33 := fun_mk (st := top 68) l33 c33 k33
  have D33 : Df K mg "told_changes" (top 68) ["elder", "newer", "most"] f33 _ := ⟨F33, PySem.W.mg_of X G a33, F33.binds (ps := ["elder", "newer", "most"]) fun _ _ _ _ _ _ us hl => match us, hl with | [_, _, _], _ => rfl⟩
  have F34 := fun_mk (st := top 69) l34 c34 k34
  have D34 : Df K mg "put_together" (top 69) ["elder", "one", "other"] f34 _ := ⟨F34, PySem.W.mg_of X G a34, F34.binds (ps := ["elder", "one", "other"]) fun _ _ _ _ _ _ us hl => match us, hl with | [_, _, _], _ => rfl⟩
  have F35 := fun_mk (st := top 72) l35 c35 k35
  have D35 : Df K mg "_law_mixed" (top 72) ["cell", "turn"] f35 _ := ⟨F35, PySem.W.mg_of X G a35, F35.binds (ps := ["cell", "turn"]) fun _ _ _ _ _ _ us hl => match us, hl with | [_, _], _ => rfl⟩
  have F36 := fun_mk (st := top 73) l36 c36 k36
  have D36 : Df K mg "_law_draw" (top 73) ["hand", "many"] f36 _ := ⟨F36, PySem.W.mg_of X G a36, F36.binds (ps := ["hand", "many"]) fun _ _ _ _ _ _ us hl => match us, hl with | [_, _], _ => rfl⟩
  have F37 := fun_mk (st := top 74) l37 c37 k37
  have D37 : Df K mg "_law_any" (top 74) ["hand", "some"] f37 _ := ⟨F37, PySem.W.mg_of X G a37, F37.binds (ps := ["hand", "some"]) fun _ _ _ _ _ _ us hl => match us, hl with | [_, _], _ => rfl⟩
  have F38 := fun_mk (st := top 75) l38 c38 k38
  have D38 : Df K mg "_law_procedure" (top 75) ["hand", "deep"] f38 _ := ⟨F38, PySem.W.mg_of X G a38, F38.binds (ps := ["hand", "deep"]) fun _ _ _ _ _ _ us hl => match us, hl with | [_, _], _ => rfl⟩
  have F39 := fun_mk (st := top 76) l39 c39 k39
  have D39 : Df K mg "_law_kids" (top 76) ["procedure"] f39 _ := ⟨F39, PySem.W.mg_of X G a39, F39.binds (ps := ["procedure"]) fun _ _ _ _ _ _ us hl => match us, hl with | [_], _ => rfl⟩
  have F40 := fun_mk (st := top 77) l40 c40 k40
  have D40 : Df K mg "_law_made" (top 77) ["word", "parts"] f40 _ := ⟨F40, PySem.W.mg_of X G a40, F40.binds (ps := ["word", "parts"]) fun _ _ _ _ _ _ us hl => match us, hl with | [_, _], _ => rfl⟩
  have F41 := fun_mk (st := top 78) l41 c41 k41
  have D41 : Df K mg "_law_paths" (top 78) ["procedure"] f41 _ := ⟨F41, PySem.W.mg_of X G a41, F41.binds (ps := ["procedure"]) fun _ _ _ _ _ _ us hl => match us, hl with | [_], _ => rfl⟩
  have F42 := fun_mk (st := top 79) l42 c42 k42
  have D42 : Df K mg "_law_at" (top 79) ["procedure", "path"] f42 _ := ⟨F42, PySem.W.mg_of X G a42, F42.binds (ps := ["procedure", "path"]) fun _ _ _ _ _ _ us hl => match us, hl with | [_, _], _ => rfl⟩
  have F43 := fun_mk (st := top 80) l43 c43 k43
  have D43 : Df K mg "_law_with" (top 80) ["procedure", "path", "part"] f43 _ := ⟨F43, PySem.W.mg_of X G a43, F43.binds (ps := ["procedure", "path", "part"]) fun _ _ _ _ _ _ us hl => match us, hl with | [_, _, _], _ => rfl⟩
  have F44 := fun_mk (st := top 81) l44 c44 k44
  have D44 : Df K mg "_law_names" (top 81) ["procedure"] f44 _ := ⟨F44, PySem.W.mg_of X G a44, F44.binds (ps := ["procedure"]) fun _ _ _ _ _ _ us hl => match us, hl with | [_], _ => rfl⟩
  have F45 := fun_mk (st := top 82) l45 c45 k45
  have D45 : Df K mg "_law_deep" (top 82) ["procedure"] f45 _ := ⟨F45, PySem.W.mg_of X G a45, F45.binds (ps := ["procedure"]) fun _ _ _ _ _ _ us hl => match us, hl with | [_], _ => rfl⟩
  have F46 := fun_mk (st := top 83) l46 c46 k46
  have D46 : Df K mg "_law_is_small" (top 83) ["procedure"] f46 _ := ⟨F46, PySem.W.mg_of X G a46, F46.binds (ps := ["procedure"]) fun _ _ _ _ _ _ us hl => match us, hl with | [_], _ => rfl⟩
  have F47 := fun_mk (st := top 86) l47 c47 k47
  have D47 : Df K mg "_law_left_out" (top 86) ["here", "index"] f47 _ := ⟨F47, PySem.W.mg_of X G a47, F47.binds (ps := ["here", "index"]) fun _ _ _ _ _ _ us hl => match us, hl with | [_, _], _ => rfl⟩
  have F48 := fun_mk (st := top 87) l48 c48 k48
  have D48 : Df K mg "_law_here" (top 87) ["here", "change"] f48 _ := ⟨F48, PySem.W.mg_of X G a48, F48.binds (ps := ["here", "change"]) fun _ _ _ _ _ _ us hl => match us, hl with | [_, _], _ => rfl⟩
  have F49 := fun_mk (st := top 88) l49 c49 k49
  have D49 : Df K mg "_law_changed" (top 88) ["procedure", "change"] f49 _ := ⟨F49, PySem.W.mg_of X G a49, F49.binds (ps := ["procedure", "change"]) fun _ _ _ _ _ _ us hl => match us, hl with | [_, _], _ => rfl⟩
  have F50 := fun_mk (st := top 94) l50 c50 k50
  have D50 : Df K mg "_law_all_changes" (top 94) ["procedure"] f50 _ := ⟨F50, PySem.W.mg_of X G a50, F50.binds (ps := ["procedure"]) fun _ _ _ _ _ _ us hl => match us, hl with | [_], _ => rfl⟩
  have F51 := fun_mk (st := top 95) l51 c51 k51
  have D51 : Df K mg "_law_told" (top 95) ["elder", "newer", "most"] f51 _ := ⟨F51, PySem.W.mg_of X G a51, F51.binds (ps := ["elder", "newer", "most"]) fun _ _ _ _ _ _ us hl => match us, hl with | [_, _, _], _ => rfl⟩
  have F52 := fun_mk (st := top 96) l52 c52 k52
  have D52 : Df K mg "_law_put" (top 96) ["elder", "one", "other"] f52 _ := ⟨F52, PySem.W.mg_of X G a52, F52.binds (ps := ["elder", "one", "other"]) fun _ _ _ _ _ _ us hl => match us, hl with | [_, _, _], _ => rfl⟩
  have F53 := fun_mk (st := top 97) l53 c53 k53
  have D53 : Df K mg "_law_small" (top 97) ["hand"] f53 _ := ⟨F53, PySem.W.mg_of X G a53, F53.binds (ps := ["hand"]) fun _ _ _ _ _ _ us hl => match us, hl with | [_], _ => rfl⟩
  have F54 := fun_mk (st := top 98) l54 c54 k54
  have D54 : Df K mg "_law_edition" (top 98) ["hand", "elder", "many"] f54 _ := ⟨F54, PySem.W.mg_of X G a54, F54.binds (ps := ["hand", "elder", "many"]) fun _ _ _ _ _ _ us hl => match us, hl with | [_, _, _], _ => rfl⟩
  have F55 := fun_mk (st := top 99) l55 c55 k55
  have D55 : Df K mg "_law_word" (top 99) ["elder", "newer", "most"] f55 _ := ⟨F55, PySem.W.mg_of X G a55, F55.binds (ps := ["elder", "newer", "most"]) fun _ _ _ _ _ _ us hl => match us, hl with | [_, _, _], _ => rfl⟩
  have F56 := fun_mk (st := top 100) l56 c56 k56
  have F57 := fun_mk (st := top 71) l57 c57 k57
  have D57 : Df K mg "_law_hand" (top 71) ["script"] f57 _ := ⟨F57, PySem.W.mg_of X G a57, F57.binds (ps := ["script"]) fun _ _ _ _ _ _ us hl => match us, hl with | [_], _ => rfl⟩
  refine ⟨PySem.W.fnOf "law" "law" (defArgs (top 100)) (defBody (top 100)) (defScope (top 100)) .none kV56 dc56 pm56 an56 cd56 ct56, fun s v => .of_eq rfl, fun base _ _ => ?_⟩
  have E1 := ok_is_integer (P := l.prog) (w := w) (mg := mg) (base := base) F1 T
  have C1 := D1.cl E1
  have E2 := ok_is_within (P := l.prog) (w := w) (mg := mg) (base := base) F2 T C1
  have C2 := D2.cl E2
  have E3 := ok_is_sized (P := l.prog) (w := w) (mg := mg) (base := base) F3 T
  have C3 := D3.cl E3
  have E4 := ok_is_name (P := l.prog) (w := w) (mg := mg) (base := base) F4 T
  have C4 := D4.cl E4
  have E5 := ok_parts (P := l.prog) (w := w) (mg := mg) (base := base) F5 T
  have C5 : Cl l.prog w K mg base _ "parts_of_trees" _ := ⟨⟨_, _, _, E5, PySem.W.mg_of X G a5, F5.kp, F5.binds (ps := ["procedure"]) fun _ _ _ _ _ _ us hl => match us, hl with | [_], _ => rfl⟩⟩
  have E6 := ok_size (P := l.prog) (w := w) (mg := mg) (base := base) D6 T C3 C4 C5 8
  have C6 := D6.cl E6
  have E7 := ok_isproc (P := l.prog) (w := w) (mg := mg) (base := base) F7 T C6
  have C7 := D7.cl E7
  have E8 := ok_check (P := l.prog) (w := w) (mg := mg) (base := base) F8 T C7
  have C8 := D8.cl E8
  have E9 := ok_partsE (P := l.prog) (w := w) (mg := mg) (base := base) F9 T TE
  have C9 : Cl l.prog w K mg base _ "parts_of_edits" _ := ⟨⟨_, _, _, E9, PySem.W.mg_of X G a9, F9.kp, F9.binds (ps := ["procedure"]) fun _ _ _ _ _ _ us hl => match us, hl with | [_], _ => rfl⟩⟩
  have E10 := ok_paths (P := l.prog) (w := w) (mg := mg) (base := base) D10 T C9 8
  have C10 := D10.cl E10
  have E11 := ok_on (P := l.prog) (w := w) (mg := mg) (base := base) F11 T C9 C2
  have C11 := D11.cl E11
  have E12 := ok_isp (P := l.prog) (w := w) (mg := mg) (base := base) F12 T C11
  have C12 := D12.cl E12
  have E13 := ok_put (P := l.prog) (w := w) (mg := mg) (base := base) D13 T C9 8
  have C13 := D13.cl E13
  have E14 := ok_left (P := l.prog) (w := w) (mg := mg) (base := base) F14 T C2
  have C14 := D14.cl E14
  have E15 := ok_turn (P := l.prog) (w := w) (mg := mg) (base := base) F15 T C2
  have C15 := D15.cl E15
  have E16 := ok_bare (P := l.prog) (w := w) (mg := mg) (base := base) F16 T TE
  have C16 := D16.cl E16
  have E17 := ok_idx (P := l.prog) (w := w) (mg := mg) (base := base) F17 T C14 C15
  have C17 := D17.cl E17
  have E18 := ok_loc (P := l.prog) (w := w) (mg := mg) (base := base) F18 T C16 C17
  have C18 := D18.cl E18
  have E19 := ok_outc (P := l.prog) (w := w) (mg := mg) (base := base) F19 T C3 C12 C11 C18 C13 C7
  have C19 := D19.cl E19
  have E20 := ok_by (P := l.prog) (w := w) (mg := mg) (base := base) F20 T C8 C19
  have C20 := D20.cl E20
  have E21 := ok_changed (P := l.prog) (w := w) (mg := mg) (base := base) F21 T C20
  have C21 := D21.cl E21
  have E22 := ok_inl (P := l.prog) (w := w) (mg := mg) (base := base) F22 T
  have C22 := D22.cl E22
  have E23 := ok_below (P := l.prog) (w := w) (mg := mg) (base := base) F23 T C22
  have C23 := D23.cl E23
  have E24 := ok_moved (P := l.prog) (w := w) (mg := mg) (base := base) F24 T C23 C11
  have C24 := D24.cl E24
  have E25 := ok_inow (P := l.prog) (w := w) (mg := mg) (base := base) F25 T C24
  have C25 := D25.cl E25
  have E26 := ok_shift (P := l.prog) (w := w) (mg := mg) (base := base) F26 T TM C19 C24 C25
  have C26 := D26.cl E26
  have E27 := ok_cch (P := l.prog) (w := w) (mg := mg) (base := base) F27 T C19
  have C27 := D27.cl E27
  have E28 := ok_done (P := l.prog) (w := w) (mg := mg) (base := base) F28 T C26 C19
  have C28 := D28.cl E28
  have E29 := ok_merge (P := l.prog) (w := w) (mg := mg) (base := base) F29 T TM C28
  have C29 := D29.cl E29
  have E30 := ok_merged (P := l.prog) (w := w) (mg := mg) (base := base) F30 T C8 C27 C29
  have C30 := D30.cl E30
  have E31 := ok_pc (P := l.prog) (w := w) (mg := mg) (base := base) F31 T TM C10 C11 C19
  have C31 := D31.cl E31
  have E32 := ok_to (P := l.prog) (w := w) (mg := mg) (base := base) F32 T C31 C19
  have C32 := D32.cl E32
  have XC33 := D33.clX (ok_told (P := l.prog) (w := w) (mg := mg) (base := base) F33 TM (ClsE.exs kNN gNN) C8 C2 C32)
  have E34 := ok_put2 (P := l.prog) (w := w) (mg := mg) (base := base) F34 T C8 C32 C29
  have C34 := D34.cl E34
  have E35 := ok_mixed (P := l.prog) (w := w) (mg := mg) (base := base) F35 T
  have C35 := D35.cl E35
  have E36 := ok_draw (P := l.prog) (w := w) (mg := mg) (base := base) F36 T C35
  have C36 := D36.cl E36
  have E37 := ok_any (P := l.prog) (w := w) (mg := mg) (base := base) F37 T C36
  have C37 := D37.cl E37
  have E38 := ok_proc (P := l.prog) (w := w) (mg := mg) (base := base) D38 T C36 C37 2
  have C38 := D38.cl E38
  have E39 := ok_lkids (P := l.prog) (w := w) (mg := mg) (base := base) F39
  have C39 := D39.cl E39
  have E40 := ok_made (P := l.prog) (w := w) (mg := mg) (base := base) F40 T
  have C40 := D40.cl E40
  have E41 := ok_lpaths (P := l.prog) (w := w) (mg := mg) (base := base) D41 T C39 30
  have C41 := D41.cl E41
  have E42 := ok_lat (P := l.prog) (w := w) (mg := mg) (base := base) F42 C39
  have C42 := D42.cl E42
  have E43 := ok_with (P := l.prog) (w := w) (mg := mg) (base := base) D43 T C39 C40 30
  have C43 := D43.cl E43
  have E44 := ok_names (P := l.prog) (w := w) (mg := mg) (base := base) D44 T C39 30
  have C44 := D44.cl E44
  have E45 := ok_ldeep (P := l.prog) (w := w) (mg := mg) (base := base) D45 T C39 30
  have C45 := D45.cl E45
  have E46 := ok_small (P := l.prog) (w := w) (mg := mg) (base := base) F46 T C39 C45 C44 C41 C42
  have C46 := D46.cl E46
  have E47 := ok_lleft (P := l.prog) (w := w) (mg := mg) (base := base) F47 T
  have C47 := D47.cl E47
  have E48 := ok_here (P := l.prog) (w := w) (mg := mg) (base := base) F48 T C47
  have C48 := D48.cl E48
  have E49 := ok_lch (P := l.prog) (w := w) (mg := mg) (base := base) F49 T C41 C42 C48 C43 C46
  have C49 := D49.cl E49
  have E50 := ok_lall (P := l.prog) (w := w) (mg := mg) (base := base) F50 T C39 C41 C42 C49
  have C50 := D50.cl E50
  have E51 := ok_ltold (P := l.prog) (w := w) (mg := mg) (base := base) F51 T C50 C49
  have C51 := D51.cl E51
  have E52 := ok_lput (P := l.prog) (w := w) (mg := mg) (base := base) F52 T C51 C30
  have C52 := D52.cl E52
  have E53 := ok_lsm (P := l.prog) (w := w) (mg := mg) (base := base) F53 T C38 C41
  have C53 := D53.cl E53
  have E54 := ok_edit (P := l.prog) (w := w) (mg := mg) (base := base) F54 T C37 C50 C49
  have C54 := D54.cl E54
  have E55 := ok_word (P := l.prog) (w := w) (mg := mg) (base := base) F55 T gW gNN kNN xb XC33
  have C55 := D55.cl E55
  have cs : Cs l.prog w K mg base NN := ⟨C36, C37, C53, C54, XC33, C51, C21, C34, C52, C55⟩
  exact ok_law (P := l.prog) (w := w) (mg := mg) (base := base) F56 T D57 cs
end A
open PySem PySem.W PyProof.Rows
set_option maxRecDepth 100000 in
set_option maxHeartbeats 0 in
theorem PySem.Challenge.cw_everyedition_k80_whole_three_editions_holds : PySem.Challenge.rw_everyedition_k80_whole_three_editions.Holds := by
  w_on; o_law; k_head; (case hw => w_witness2)
  k_fill
  haveI : _root_.E.KF := ⟨fun _ _ => False, fun _ _ => False⟩
  refine _root_.E.walk_G (l := PySem.Challenge.rw_everyedition_k80_whole_three_editions) (n := 63) (k := 39) (x := "script") (sp := _root_.E.sp_law) rfl (by decide) rfl ⟨⟨rfl, by decide, by decide⟩, rfl⟩ (fun w h Y => PySem.W.kIn_of Y) ?F (fun K H a ns hl _ hS => ⟨a, ns, rfl, hS, hl, fun _ => rfl⟩)
  case F =>
    intro w mg fa h KX G hmg
    refine' A.all_mk KX G hmg ?a1 ?l1 ?c1 ?k1 ?a2 ?l2 ?c2 ?k2 ?a3 ?l3 ?c3 ?k3 ?a4 ?l4 ?c4 ?k4 ?a5 ?l5 ?c5 ?k5 ?a6 ?l6 ?c6 ?k6 ?a7 ?l7 ?c7 ?k7 ?a8 ?l8 ?c8 ?k8 ?a9 ?l9 ?c9 ?k9 ?a10 ?l10 ?c10 ?k10 ?a11 ?l11 ?c11 ?k11 ?a12 ?l12 ?c12 ?k12 ?a13 ?l13 ?c13 ?k13 ?a14 ?l14 ?c14 ?k14 ?a15 ?l15 ?c15 ?k15 ?a16 ?l16 ?c16 ?k16 ?a17 ?l17 ?c17 ?k17 ?a18 ?l18 ?c18 ?k18 ?a19 ?l19 ?c19 ?k19 ?a20 ?l20 ?c20 ?k20 ?a21 ?l21 ?c21 ?k21 ?a22 ?l22 ?c22 ?k22 ?a23 ?l23 ?c23 ?k23 ?a24 ?l24 ?c24 ?k24 ?a25 ?l25 ?c25 ?k25 ?a26 ?l26 ?c26 ?k26 ?a27 ?l27 ?c27 ?k27 ?a28 ?l28 ?c28 ?k28 ?a29 ?l29 ?c29 ?k29 ?a30 ?l30 ?c30 ?k30 ?a31 ?l31 ?c31 ?k31 ?a32 ?l32 ?c32 ?k32 ?a33 ?l33 ?c33 ?k33 ?a34 ?l34 ?c34 ?k34 ?a35 ?l35 ?c35 ?k35 ?a36 ?l36 ?c36 ?k36 ?a37 ?l37 ?c37 ?k37 ?a38 ?l38 ?c38 ?k38 ?a39 ?l39 ?c39 ?k39 ?a40 ?l40 ?c40 ?k40 ?a41 ?l41 ?c41 ?k41 ?a42 ?l42 ?c42 ?k42 ?a43 ?l43 ?c43 ?k43 ?a44 ?l44 ?c44 ?k44 ?a45 ?l45 ?c45 ?k45 ?a46 ?l46 ?c46 ?k46 ?a47 ?l47 ?c47 ?k47 ?a48 ?l48 ?c48 ?k48 ?a49 ?l49 ?c49 ?k49 ?a50 ?l50 ?c50 ?k50 ?a51 ?l51 ?c51 ?k51 ?a52 ?l52 ?c52 ?k52 ?a53 ?l53 ?c53 ?k53 ?a54 ?l54 ?c54 ?k54 ?a55 ?l55 ?c55 ?k55 ?a56 ?l56 ?c56 ?k56 ?a57 ?l57 ?c57 ?k57 ?z_isi ?z_int ?z_bool ?z_str ?z_tup ?z_len ?z_all ?z_any ?z_enum ?z_max ?z_min ?z_sum ?z_list ?z_sorted ?z_repr ?z_range ?z_abs ?n_deep ?n_most ?n_parts ?n_told ?s_letters ?s_DO ?s_SKIPt ?s_AGAIN ?s_ROW ?s_PICK ?s_SIDES ?s_merged ?s_clash ?q_plain ?y_plain ?q_indexed ?y_indexed ?q_listsM ?y_listsM ?q_listsE ?y_listsE ?q_skipE ?y_skipE ?e_W ?e_NN ?NN_q ?NN_k ?NN_b ?NN_t ?NN_g ?NN_h ?NN_d ?NN_a ?NN_m ?NN_v ?NN_w ?NN_s ?o_n ?o_t ?w_b ?w_d ?w_t
    (case a1 => k_is)
    (case l1 => k_is)
    (case c1 => k_is)
    (case k1 => k_is)
    (case a2 => k_is)
    (case l2 => k_is)
    (case c2 => k_is)
    (case k2 => k_is)
    (case a3 => k_is)
    (case l3 => k_is)
    (case c3 => k_is)
    (case k3 => k_is)
    (case a4 => k_is)
    (case l4 => k_is)
    (case c4 => k_is)
    (case k4 => k_is)
    (case a5 => k_is)
    (case l5 => k_is)
    (case c5 => k_is)
    (case k5 => k_is)
    (case a6 => k_is)
    (case l6 => k_is)
    (case c6 => k_is)
    (case k6 => k_is)
    (case a7 => k_is)
    (case l7 => k_is)
    (case c7 => k_is)
    (case k7 => k_is)
    (case a8 => k_is)
    (case l8 => k_is)
    (case c8 => k_is)
    (case k8 => k_is)
    (case a9 => k_is)
    (case l9 => k_is)
    (case c9 => k_is)
    (case k9 => k_is)
    (case a10 => k_is)
    (case l10 => k_is)
    (case c10 => k_is)
    (case k10 => k_is)
    (case a11 => k_is)
    (case l11 => k_is)
    (case c11 => k_is)
    (case k11 => k_is)
    (case a12 => k_is)
    (case l12 => k_is)
    (case c12 => k_is)
    (case k12 => k_is)
    (case a13 => k_is)
    (case l13 => k_is)
    (case c13 => k_is)
    (case k13 => k_is)
    (case a14 => k_is)
    (case l14 => k_is)
    (case c14 => k_is)
    (case k14 => k_is)
    (case a15 => k_is)
    (case l15 => k_is)
    (case c15 => k_is)
    (case k15 => k_is)
    (case a16 => k_is)
    (case l16 => k_is)
    (case c16 => k_is)
    (case k16 => k_is)
    (case a17 => k_is)
    (case l17 => k_is)
    (case c17 => k_is)
    (case k17 => k_is)
    (case a18 => k_is)
    (case l18 => k_is)
    (case c18 => k_is)
    (case k18 => k_is)
    (case a19 => k_is)
    (case l19 => k_is)
    (case c19 => k_is)
    (case k19 => k_is)
    (case a20 => k_is)
    (case l20 => k_is)
    (case c20 => k_is)
    (case k20 => k_is)
    (case a21 => k_is)
    (case l21 => k_is)
    (case c21 => k_is)
    (case k21 => k_is)
    (case a22 => k_is)
    (case l22 => k_is)
    (case c22 => k_is)
    (case k22 => k_is)
    (case a23 => k_is)
    (case l23 => k_is)
    (case c23 => k_is)
    (case k23 => k_is)
    (case a24 => k_is)
    (case l24 => k_is)
    (case c24 => k_is)
    (case k24 => k_is)
    (case a25 => k_is)
    (case l25 => k_is)
    (case c25 => k_is)
    (case k25 => k_is)
    (case a26 => k_is)
    (case l26 => k_is)
    (case c26 => k_is)
    (case k26 => k_is)
    (case a27 => k_is)
    (case l27 => k_is)
    (case c27 => k_is)
    (case k27 => k_is)
    (case a28 => k_is)
    (case l28 => k_is)
    (case c28 => k_is)
    (case k28 => k_is)
    (case a29 => k_is)
    (case l29 => k_is)
    (case c29 => k_is)
    (case k29 => k_is)
    (case a30 => k_is)
    (case l30 => k_is)
    (case c30 => k_is)
    (case k30 => k_is)
    (case a31 => k_is)
    (case l31 => k_is)
    (case c31 => k_is)
    (case k31 => k_is)
    (case a32 => k_is)
    (case l32 => k_is)
    (case c32 => k_is)
    (case k32 => k_is)
    (case a33 => k_is)
    (case l33 => k_is)
    (case c33 => k_is)
    (case k33 => k_is)
    (case a34 => k_is)
    (case l34 => k_is)
    (case c34 => k_is)
    (case k34 => k_is)
    (case a35 => k_is)
    (case l35 => k_is)
    (case c35 => k_is)
    (case k35 => k_is)
    (case a36 => k_is)
    (case l36 => k_is)
    (case c36 => k_is)
    (case k36 => k_is)
    (case a37 => k_is)
    (case l37 => k_is)
    (case c37 => k_is)
    (case k37 => k_is)
    (case a38 => k_is)
    (case l38 => k_is)
    (case c38 => k_is)
    (case k38 => k_is)
    (case a39 => k_is)
    (case l39 => k_is)
    (case c39 => k_is)
    (case k39 => k_is)
    (case a40 => k_is)
    (case l40 => k_is)
    (case c40 => k_is)
    (case k40 => k_is)
    (case a41 => k_is)
    (case l41 => k_is)
    (case c41 => k_is)
    (case k41 => k_is)
    (case a42 => k_is)
    (case l42 => k_is)
    (case c42 => k_is)
    (case k42 => k_is)
    (case a43 => k_is)
    (case l43 => k_is)
    (case c43 => k_is)
    (case k43 => k_is)
    (case a44 => k_is)
    (case l44 => k_is)
    (case c44 => k_is)
    (case k44 => k_is)
    (case a45 => k_is)
    (case l45 => k_is)
    (case c45 => k_is)
    (case k45 => k_is)
    (case a46 => k_is)
    (case l46 => k_is)
    (case c46 => k_is)
    (case k46 => k_is)
    (case a47 => k_is)
    (case l47 => k_is)
    (case c47 => k_is)
    (case k47 => k_is)
    (case a48 => k_is)
    (case l48 => k_is)
    (case c48 => k_is)
    (case k48 => k_is)
    (case a49 => k_is)
    (case l49 => k_is)
    (case c49 => k_is)
    (case k49 => k_is)
    (case a50 => k_is)
    (case l50 => k_is)
    (case c50 => k_is)
    (case k50 => k_is)
    (case a51 => k_is)
    (case l51 => k_is)
    (case c51 => k_is)
    (case k51 => k_is)
    (case a52 => k_is)
    (case l52 => k_is)
    (case c52 => k_is)
    (case k52 => k_is)
    (case a53 => k_is)
    (case l53 => k_is)
    (case c53 => k_is)
    (case k53 => k_is)
    (case a54 => k_is)
    (case l54 => k_is)
    (case c54 => k_is)
    (case k54 => k_is)
    (case a55 => k_is)
    (case l55 => k_is)
    (case c55 => k_is)
    (case k55 => k_is)
    (case a56 => k_is)
    (case l56 => k_is)
    (case c56 => k_is)
    (case k56 => k_is)
    (case a57 => k_is)
    (case l57 => k_is)
    (case c57 => k_is)
    (case k57 => k_is)
    (case z_isi => k_is)
    (case z_int => k_is)
    (case z_bool => k_is)
    (case z_str => k_is)
    (case z_tup => k_is)
    (case z_len => k_is)
    (case z_all => k_is)
    (case z_any => k_is)
    (case z_enum => k_is)
    (case z_max => k_is)
    (case z_min => k_is)
    (case z_sum => k_is)
    (case z_list => k_is)
    (case z_sorted => k_is)
    (case z_repr => k_is)
    (case z_range => k_is)
    (case z_abs => k_is)
    (case n_deep => k_is)
    (case n_most => k_is)
    (case n_parts => k_is)
    (case n_told => k_is)
    (case s_letters => k_is)
    (case s_DO => k_is)
    (case s_SKIPt => k_is)
    (case s_AGAIN => k_is)
    (case s_ROW => k_is)
    (case s_PICK => k_is)
    (case s_SIDES => k_is)
    (case s_merged => k_is)
    (case s_clash => k_is)
    (case q_plain => k_is)
    (case y_plain => k_is)
    (case q_indexed => k_is)
    (case y_indexed => k_is)
    (case q_listsM => k_is)
    (case y_listsM => k_is)
    (case q_listsE => k_is)
    (case y_listsE => k_is)
    (case q_skipE => k_is)
    (case y_skipE => k_is)
    (case e_W => k_is)
    (case e_NN => k_is)
    (case NN_q => k_exc)
    (case NN_k => k_is)
    (case NN_b => k_is)
    (case NN_t => k_is)
    (case NN_g => k_is)
    (case NN_h => k_is)
    (case NN_d => k_is)
    (case NN_a => k_is)
    (case NN_m => k_is)
    (case NN_v => k_is)
    (case NN_w => k_is)
    (case NN_s => first | rfl | k_is)
    (case o_n => k_is)
    (case o_t => k_is)
    (case w_b => k_is)
    (case w_d => k_is)
    (case w_t => k_is)
#print axioms PySem.Challenge.cw_everyedition_k80_whole_three_editions_holds
